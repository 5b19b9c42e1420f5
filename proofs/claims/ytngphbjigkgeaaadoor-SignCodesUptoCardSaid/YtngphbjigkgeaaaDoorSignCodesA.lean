/- What the functions come to that the statement's law runs, and the statement itself. Parts: Tab, CtG, RwD, SpA, CtD, EqD, CoG. -/
import Derived.Test.YtngphbjigkgeaaaDoorProg
import Derived.KernelRfl
import Derived.Test.YtngphbjigkgeaaaDoorRows
import Derived.Test.YtngphbjigkgeaaaDoorCards
import Derived.Test.YtngphbjigkgeaaaDoorTie
import Derived.WalkKit
import Derived.ProofKit
import Derived.OpenShut
import Derived.Deep.DeepHandedRow
import Derived.Lib.LaidTab
import Derived.Test.YtngphbjigkgeaaaDoorLbF
set_option linter.unusedVariables false
set_option linter.unusedSimpArgs false
set_option linter.unusedSectionVars false
section
namespace Go.Dv.Tryd
open Go.Proofs
def killL : List (Nat × Nat × List Nat) := [
 (3, 0, [0, 2, 3, 4, 9, 10, 11, 12, 13, 14, 15, 16, 17, 18, 19, 20, 21, 22, 23, 24, 25, 26, 27, 28, 29, 30, 31, 32, 33, 34, 35, 36, 37, 38, 39, 40, 41, 42, 43, 44, 45, 46, 47, 48, 49, 50, 51, 52, 53, 54, 55, 56, 57, 58, 59, 60, 61, 62, 63, 64, 65, 66, 67, 68, 69, 70, 71, 72, 73, 74, 75, 76, 77, 78, 79, 80, 81, 82, 83, 84, 85, 86, 87, 88, 89, 90, 91, 92, 93, 94, 95]),
 (5, 0, [0, 4, 5, 6, 9, 10, 11, 13, 14, 15, 16, 17, 18, 19, 20, 21, 22, 23, 24, 25, 26, 27, 28, 29, 30, 31, 32, 33, 34, 35, 36, 37, 38, 39, 40, 41, 42, 43, 44, 45, 46, 47, 48, 49, 50, 51, 52, 53, 54, 55, 56, 57, 58, 59, 60, 61, 62, 63, 64, 65, 66, 67, 68, 69, 70, 71, 72, 73, 74, 75, 76, 77, 78, 79, 80, 81]),
 (6, 0, [0, 1, 3, 4, 6, 7, 8, 9, 10, 11, 13, 14, 15, 17, 18, 19, 20, 21, 22, 23, 24, 25, 26, 27, 28, 29, 30, 31, 32, 33, 34, 35, 36, 37, 38, 39, 40, 41, 42, 43, 44, 45, 46, 47, 48, 49, 50, 51, 52, 53, 54, 55, 56, 57, 58, 59, 60, 61, 62, 63, 64, 65, 66, 67, 68, 69, 70, 71, 72, 73, 74, 75, 76, 77, 78, 79, 80, 81, 82, 83, 84, 85, 86, 87, 88, 89, 90, 91, 92, 93, 94, 95, 96, 97, 98, 99, 100, 101, 102, 103, 104, 105, 106, 107, 108, 109, 110]),
 (7, 0, [1, 2, 5, 7, 9, 11, 12, 13, 14, 15, 16, 17, 18, 19, 20, 21, 22, 23, 24, 25, 26, 27, 28, 29, 30, 31, 32, 33, 34, 35, 36, 37, 38, 39, 40, 41, 42, 43, 44, 45, 46, 47, 48, 49, 50, 51, 52, 53, 54, 55, 56, 57, 58, 59, 60, 61, 62, 63, 64, 65, 66, 67, 68, 69, 70, 71, 72, 73, 74, 75, 76, 77, 78, 79, 80]),
 (7, 2, [1, 2, 5, 7, 9, 12, 13, 14, 15, 16, 17, 18, 19, 20, 21, 22, 23, 24, 25, 26, 27, 28, 29, 30, 31, 32, 33, 34, 35, 36, 37, 38, 39, 40, 41, 42, 43, 44, 45, 46, 47, 48, 49, 50, 51, 52, 53, 54, 55, 56, 57, 58, 59, 60, 61, 62, 63, 64, 65, 66, 67, 68, 69, 70, 71, 72, 73, 74, 75, 76, 77, 78, 79, 80]),
 (8, 0, [1, 2, 8, 9, 10, 11, 12, 13, 14, 15, 16, 17, 18, 19, 20, 21, 22, 23, 24, 25, 26, 27, 28, 29, 30, 31, 32, 33, 34, 35, 36, 37, 38, 39, 40, 41, 42, 43, 44, 45, 46, 47, 48, 49, 50, 51, 52, 53, 54, 55, 56, 57, 58, 59, 60, 61, 62, 63]),
 (8, 2, [1, 2, 9, 10, 11, 12, 13, 14, 15, 16, 17, 18, 19, 20, 21, 22, 23, 24, 25, 26, 27, 28, 29, 30, 31, 32, 33, 34, 35, 36, 37, 38, 39, 40, 41, 42, 43, 44, 45, 46, 47, 48, 49, 50, 51, 52, 53, 54, 55, 56, 57, 58, 59, 60, 61, 62, 63]),
 (9, 0, [1, 2, 3, 4, 5, 6, 7, 8, 9, 10, 14, 15, 16, 17, 18, 19, 20, 21, 22, 23, 24, 25, 26, 27, 28, 29, 30, 31, 32, 33, 34, 35, 36, 37, 38, 39, 40, 41, 42, 43, 44, 45, 46, 47, 48, 49, 50, 51, 52, 53, 54, 55, 56, 57, 58, 59, 60, 61, 62, 63, 64, 65, 66, 67, 68, 69, 70, 71, 72, 73, 74, 75, 76, 77, 78, 79, 80, 81, 82, 83, 84, 85, 86, 87, 88, 89, 90, 91, 92, 93, 94, 95, 96, 97, 98, 99, 100, 101, 102, 103, 104, 105, 106, 107, 108, 109, 110, 111, 112, 113, 114, 115, 116, 117, 118, 119, 120, 121, 122, 123, 124, 125, 126, 127, 128, 129, 130, 131, 132, 133, 134, 135, 136, 137, 138, 139, 140, 141, 142, 143, 144, 145, 146]),
 (9, 2, [1, 2, 3, 4, 5, 6, 7, 8, 9, 10, 12, 13, 15, 16, 17, 18, 19, 20, 21, 22, 23, 24, 25, 26, 27, 28, 29, 30, 31, 32, 33, 34, 35, 36, 37, 38, 39, 40, 41, 42, 43, 44, 45, 46, 47, 48, 49, 50, 51, 52, 53, 54, 55, 56, 57, 58, 59, 60, 61, 62, 63, 64, 65, 66, 67, 68, 69, 70, 71, 72, 73, 74, 75, 76, 77, 78, 79, 80, 81, 82, 83, 84, 85, 86, 87, 88, 89, 90, 91, 92, 93, 94, 95, 96, 97, 98, 99, 100, 101, 102, 103, 104, 105, 106, 107, 108, 109, 110, 111, 112, 113, 114, 115, 116, 117, 118, 119, 120, 121, 122, 123, 124, 125, 126, 127, 128, 129, 130, 131, 132, 133, 134, 135, 136, 137, 138, 139, 140, 141, 142, 143, 144, 145, 146]),
 (13, 0, [0, 1, 3, 4, 5, 7, 10, 11, 12, 13, 14, 15, 16, 17, 18, 19, 20, 21, 22, 23, 24, 25, 26, 27, 28, 29, 30, 31, 32, 33, 34, 35, 36, 37, 38, 39, 40, 41, 42, 43, 44, 45, 46, 47, 48, 49, 50, 51, 52, 53, 54, 55, 56, 57, 58, 59, 60, 61, 62, 63, 64, 65, 66, 67, 68, 69, 70, 71, 72, 73, 74, 75, 76, 77, 78, 79, 80, 81, 82, 83, 84, 85, 86, 87, 88, 89, 90, 91, 92, 93, 94, 95, 96, 97, 98]),
 (13, 2, [0, 1, 3, 4, 5, 7, 11, 13, 14, 15, 16, 17, 18, 19, 20, 21, 22, 23, 24, 25, 26, 27, 28, 29, 30, 31, 32, 33, 34, 35, 36, 37, 38, 39, 40, 41, 42, 43, 44, 45, 46, 47, 48, 49, 50, 51, 52, 53, 54, 55, 56, 57, 58, 59, 60, 61, 62, 63, 64, 65, 66, 67, 68, 69, 70, 71, 72, 73, 74, 75, 76, 77, 78, 79, 80, 81, 82, 83, 84, 85, 86, 87, 88, 89, 90, 91, 92, 93, 94, 95, 96, 97, 98]),
 (17, 0, [0, 2, 3, 5, 6, 7, 8, 12, 13, 14, 15, 16, 17, 18, 19, 20, 21, 22]),
 (18, 0, [2, 3, 5, 7, 8, 9, 10, 11, 12, 13, 14, 15, 16, 17, 18, 19, 20, 21, 22, 23, 24, 25, 26]),
 (19, 0, [2, 3, 4, 6, 7, 8, 9, 10, 11, 12, 13, 14, 15, 16, 17, 18, 19, 20, 21, 22, 23, 24, 25, 26, 27, 28, 29, 30, 31, 32, 33, 34, 35, 36, 37, 38, 39, 40, 41, 42, 43, 44, 45, 46, 47, 48, 49, 50, 51, 52, 53, 54, 55]),
 (22, 0, [2, 3, 4, 6, 7, 8, 9, 10, 11, 12, 13, 14, 15, 16, 17, 18, 19, 20, 21, 22, 23, 24, 25, 26, 27, 28, 29, 30, 31, 32, 33, 34, 35, 36, 37, 38, 39]),
 (24, 0, [0, 5, 6, 7, 8, 9, 10, 11, 12, 13, 14, 15, 16, 17, 18, 19, 20, 21, 22, 23, 24, 25, 26, 27, 28, 29, 30, 31]),
 (25, 0, [0, 2, 3, 5, 6, 7, 8, 9, 10, 11, 12, 13, 14, 15, 16, 17, 18, 19, 20, 21, 22, 23, 24, 25, 26, 27, 28, 29, 30, 34, 35, 36, 37, 38, 39, 40, 41, 42, 43, 44, 45, 46, 47, 48, 49, 50, 51, 52, 53, 54, 55, 56]),
 (26, 0, [0, 2, 3, 6, 7, 8, 9, 10, 11, 12, 13, 14, 15, 16, 17, 18, 19, 20, 21, 22, 23, 24, 25, 26, 27, 28, 29, 30, 31, 32, 33, 34, 35, 36, 37, 38, 39, 40, 41, 42, 43, 44, 45, 46, 47, 48, 49, 50, 51, 52, 53, 54, 55, 56, 57, 58, 59, 60, 61, 62, 63, 64, 65, 66, 67, 68, 69, 70, 71, 72, 73, 74, 75, 76, 77, 78, 79, 80, 81, 82, 83, 84, 85, 86, 87, 88, 89, 90, 91, 92, 93, 94, 95, 96, 97, 98, 99, 100, 101, 102, 103, 104, 105, 106]),
 (27, 0, [2, 4, 5, 6, 7, 8, 9, 10, 12, 13, 14, 15, 16, 17, 18, 19, 20, 21, 22, 23, 24, 25, 26, 27, 28, 29, 30, 31, 32, 33, 34, 35, 36, 37, 38, 39, 40]),
 (28, 0, [0, 1, 2, 5, 6, 7, 8, 12, 13, 14, 15, 16, 17, 18, 19, 20, 21, 22, 23, 24, 25, 26, 27, 28, 29, 30, 31, 32, 33, 34, 35, 36, 37, 38, 39, 40, 41, 42, 43, 44, 45]),
 (29, 0, [0, 1, 5, 7, 8, 9, 10, 11, 12, 13, 14, 15, 16, 17, 18, 19, 20, 21, 22, 23, 24, 25, 26, 27]),
 (31, 0, [0, 1, 4, 6, 7, 8, 9, 10, 11, 12, 13, 14, 15, 16, 17, 18, 19, 20, 21, 22, 23, 24, 25, 26, 27, 28, 29, 30, 31, 32, 33, 34, 35, 36, 37, 38, 39, 40, 41, 42, 43, 44, 45, 46, 47, 48, 49, 50, 51, 52, 53, 54, 55, 56, 57, 58, 59, 60, 61, 62, 63, 64, 65, 66, 67, 68, 69, 70, 71, 72, 73, 74, 75, 76, 77, 78, 79]),
 (35, 0, [1, 2, 3, 7, 8, 9, 10, 11, 12, 13, 14, 15, 16, 17, 18, 19, 20, 21, 22, 23, 24, 25, 26, 27, 28, 29, 30, 31, 32, 33, 34, 35, 36, 37, 38, 39, 40, 41, 42, 43, 44, 45, 46, 47, 48, 49, 50]),
 (36, 0, [2, 3, 4, 6, 7, 8, 9, 10, 11, 12, 13, 14, 15, 16, 17, 18, 19, 20, 21, 22, 23, 24, 25, 26]),
 (38, 0, [1, 2, 5, 6, 7, 8, 9, 10, 11, 12, 13, 14, 15, 16, 17, 18, 19, 20, 21, 22, 23, 24, 25, 26, 27, 28, 29, 30, 31, 32]),
 (39, 0, [0, 1, 2, 4, 5, 6, 7, 8, 9, 10, 14, 15, 16, 17, 18, 19, 20, 21, 22, 23, 24, 25, 26, 27, 28, 29, 30, 31, 32, 33, 34, 35, 36, 37, 38, 39, 40, 41, 42, 43, 44, 45, 46, 47, 48, 49, 50, 51, 52, 53, 54, 55, 56, 57, 58]),
 (39, 2, [0, 1, 2, 4, 5, 7, 8, 9, 10, 11, 12, 13, 14, 15, 16, 17, 18, 19, 20, 21, 22, 23, 24, 25, 26, 27, 28, 29, 30, 31, 32, 33, 34, 35, 36, 37, 38, 39, 40, 41, 42, 43, 44, 45, 46, 47, 48, 49, 50, 51, 52, 53, 54, 55, 56, 57, 58]),
 (40, 0, [1, 2, 5, 6, 7, 8, 9, 10, 11, 12, 13, 14, 15, 16, 17, 18, 19, 20, 21, 22, 23, 24, 25, 26, 27, 28, 29, 30, 31, 32, 33, 34, 35, 36, 37, 38, 39, 40, 41, 42, 43, 44, 45, 46, 47, 48, 49, 50, 51, 52, 53, 54, 55, 56, 57, 58, 59, 60, 61, 62]),
 (40, 2, [1, 2, 5, 6, 8, 9, 10, 11, 12, 13, 14, 15, 16, 17, 18, 19, 20, 21, 22, 23, 24, 25, 26, 27, 28, 29, 30, 31, 32, 33, 34, 35, 36, 37, 38, 39, 40, 41, 42, 43, 44, 45, 46, 47, 48, 49, 50, 51, 52, 53, 54, 55, 56, 57, 58, 59, 60, 61, 62]),
 (43, 0, [3, 4, 5, 6, 7, 9, 10, 11, 12, 13, 14, 18, 19, 20, 21, 22, 23, 24, 25, 26, 27, 28, 29, 30, 31, 32, 33, 34, 35, 36, 37, 38, 39, 40, 41, 42, 43]),
 (58, 0, [2, 3, 4, 6, 7, 8, 9, 10, 11, 12, 13, 14, 15, 16, 17, 18, 19, 20, 21, 22, 23, 24, 25, 26, 27, 28, 29, 30, 31, 32, 33, 34, 35, 36, 37, 38, 39, 40]),
 (60, 0, [0, 2, 3, 4, 5, 6, 7, 8, 9, 10, 11, 12, 13, 14, 15, 16, 17, 18, 19, 20, 21, 22, 23, 24, 25, 26, 27, 28, 29, 30, 31, 32, 33, 34, 35, 36, 37, 38, 39, 43, 44, 45, 46, 47, 48, 49, 50, 51, 52, 53, 54, 55, 56, 57, 58, 59, 60, 61, 62, 63, 64, 65, 66, 67]),
 (73, 0, [1, 2, 5, 6, 7, 8, 9, 10, 11, 12, 13, 14, 15, 16, 17]),
 (75, 0, [2, 3, 4, 5, 6, 7, 8, 9, 10, 11, 14, 15, 16, 17, 18, 19, 20, 21, 22, 23, 24, 25]),
 (81, 0, [0, 2, 3, 4, 6, 7, 11, 12, 13, 14, 15, 16, 17, 18, 19, 20, 21]),
 (84, 0, [0, 1, 2, 3, 5, 6, 7, 8, 9, 13, 14, 15, 16, 17, 18, 19, 20, 21, 22, 23, 24, 25, 26, 27, 28, 29]),
 (89, 0, [1, 2, 3, 6, 7, 8, 9, 10, 11, 12, 13, 14, 15, 16, 17, 18, 19, 20, 21, 22, 23, 24, 25, 26, 27, 28, 29, 30, 31, 32, 33, 34, 35, 36, 37, 38]),
 (94, 0, [1, 2, 4, 5, 6, 7, 8, 12, 13, 14, 15, 16, 17, 18, 19, 20, 21, 22, 23, 24, 25, 26, 27, 28, 29, 30, 31, 32, 33, 34, 35]),
 (94, 2, [0, 1, 2, 3, 4, 5, 7, 8, 9, 10, 11, 12, 13, 14, 15, 16, 17, 18, 19, 20, 21, 22, 23, 24, 28, 29, 30, 31, 32, 33, 34, 35]),
 (97, 0, [1, 2, 4, 5, 6, 7, 8, 9, 10, 11, 12, 13, 14, 15, 16, 17, 18, 19, 20, 21, 22, 23, 24, 25]),
 (98, 0, [1, 2, 4, 5, 6, 7, 8, 9, 10, 11, 12, 13, 14, 15, 16, 17, 18, 19, 20, 21]),
 (103, 0, [1, 3, 4, 6, 9, 10, 11, 12, 13, 14, 15, 16, 17, 18, 19, 20, 21, 22, 23, 24, 25, 26, 27, 28, 29, 30, 31, 32, 33, 34, 35, 36, 37, 38, 39, 40, 41, 42, 43, 44, 45, 46, 47, 48, 49, 50, 51, 52, 53, 54, 55, 56, 57, 58, 59, 60, 61, 62, 63, 64, 65, 66, 67, 68, 69, 70, 71, 72, 73, 74, 75, 76, 77, 78, 79, 80, 81, 82, 83, 84, 85, 86, 87, 88, 89, 90, 91, 92, 93, 94, 95, 96]),
 (104, 0, [1, 2, 3, 4, 5, 9, 10, 11, 12, 13, 14, 15, 16, 17, 18, 19, 20, 21, 22, 23, 24, 25, 26, 27, 28, 29, 30, 31, 32, 33, 34, 35, 36, 37, 38, 39, 40, 41, 42, 43]),
 (107, 0, [0, 1, 2, 3, 4, 5, 6, 7, 11, 12, 13, 14, 15, 16, 17]),
 (116, 0, [2, 3, 4, 7, 8, 9, 10, 11, 12, 13, 14, 15, 16, 17, 18, 19, 20, 21, 22, 23, 24, 25, 26, 27, 28, 29, 30, 31, 32, 33, 34, 35, 36, 37, 38, 39, 40, 41]),
 (120, 0, [0, 1, 3, 5, 7, 8, 9, 10, 11, 12, 13, 14, 15, 16, 17, 18, 19, 20, 21, 22, 23, 24, 25, 26, 27, 28, 29, 30, 31, 32, 33, 34, 35, 36, 37, 38, 39, 40, 41, 42, 43, 44, 45, 46, 47, 48, 49, 50, 51, 52, 53, 54, 55, 56, 57, 58, 59, 60]),
 (120, 2, [0, 1, 3, 5, 7, 8, 9, 10, 11, 12, 13, 14, 15, 16, 17, 18, 19, 20, 21, 22, 23, 24, 25, 26, 27, 28, 29, 30, 31, 32, 33, 34, 35, 36, 37, 38, 39, 40, 41, 42, 43, 44, 45, 46, 47, 48, 49, 50, 51, 52, 53, 54, 55, 56, 57, 58, 59, 60]),
 (121, 0, [2, 3, 4, 7, 8, 9, 10, 11, 12, 13, 14, 15, 16, 17, 18, 19, 20, 21, 22]),
 (122, 0, [1, 2, 4, 5, 6, 7, 8, 9, 10, 11, 12, 13, 14, 15, 16, 17, 18, 19, 20, 21, 22, 23, 24, 25, 26]),
 (124, 0, [1, 2, 4, 5, 7, 8, 9, 10, 11, 12, 13, 14, 15, 16, 17, 18, 19, 20, 21, 22, 23, 24, 25, 26, 27, 28, 29, 30, 31, 32, 33, 34, 35, 36, 37, 38, 39, 40, 41, 42, 43, 44, 45, 46, 47]),
 (124, 2, [0, 1, 2, 4, 6, 7, 8, 9, 10, 11, 12, 13, 14, 15, 16, 17, 18, 19, 20, 21, 22, 23, 24, 25, 26, 27, 28, 29, 30, 31, 32, 33, 34, 35, 36, 37, 38, 39, 40, 41, 42, 43, 44, 45, 46, 47]),
 (128, 0, [1, 5, 6, 7, 8, 9, 10, 11, 12, 13, 14, 15, 16, 17, 18, 19, 20, 21]),
 (129, 0, [2, 3, 4, 5, 6, 7, 8, 9, 10, 11, 12, 13, 14, 15, 16, 17, 18, 19, 20, 21, 22]),
 (130, 0, [3, 4, 5, 6, 8, 9, 10, 11, 12, 13, 14, 15, 16, 17, 18, 19, 20, 21, 22, 23, 24, 25, 26, 27, 28, 29, 30, 31, 32, 33, 34, 35, 36, 37, 38, 39, 40, 41, 42, 43, 44, 45, 46, 47]),
 (132, 0, [2, 3, 4, 5, 6, 7, 8, 9, 10, 11, 12, 13, 14, 15, 16, 17, 18, 19, 20]),
 (133, 0, [1, 3, 5, 6, 7, 8, 9, 10, 11, 12, 13, 14, 15, 16, 17, 18, 19, 20]),
 (134, 0, [2, 3, 4, 5, 6, 7, 8, 9, 10, 11, 12, 13, 14, 15, 16, 17, 18, 19]),
 (135, 0, [2, 3, 4, 5, 6, 7, 8, 9, 10, 11, 12, 13, 14, 15, 16, 17, 18, 19, 20, 21, 22, 23, 24, 25]),
 (136, 2, [1, 2, 3, 5, 7, 8, 9, 10, 11, 12, 13, 14, 15, 16, 17, 18, 19, 20, 21, 22, 23, 24, 25, 26, 27, 28, 29, 30, 31, 32, 33, 34, 35, 36, 37, 38, 39, 40, 41, 42, 43, 44, 45, 46, 47, 48, 49, 50, 51, 52, 53, 54, 55, 56, 57, 58, 59, 60, 61, 62, 63, 64, 65, 66, 70, 71, 72, 73, 74, 75, 76, 77, 78, 79, 80, 81, 82, 83, 84, 85, 86, 87]),
 (137, 0, [2, 4, 5, 6, 7, 8, 9, 10, 11, 12, 13, 14, 15, 16, 17, 18, 19, 20, 21, 22, 23, 24, 25, 26, 27, 28, 29, 30]),
 (141, 0, [2, 3, 4, 5, 6, 9, 10, 11, 12, 13, 14, 15, 16, 17, 18]),
 (145, 0, [0, 1, 3, 5, 7, 8, 9, 10, 11, 12, 13, 14, 15, 16, 17, 18, 19, 20, 21, 22, 23, 24, 25, 26, 27, 28, 29, 30, 31, 32, 33, 34, 35, 36, 37, 38, 39, 40, 41, 42, 43, 44, 45, 46, 47, 48, 49, 50, 51, 52, 53, 54, 55, 56, 57, 58, 59, 60, 61, 62, 63, 64, 65, 66, 67, 68, 69, 70, 71, 72]),
 (145, 2, [0, 1, 3, 5, 7, 8, 9, 10, 11, 12, 13, 14, 15, 16, 17, 18, 19, 20, 21, 22, 23, 24, 25, 26, 27, 28, 29, 30, 31, 32, 33, 34, 35, 36, 37, 38, 39, 40, 41, 42, 43, 44, 45, 46, 47, 48, 49, 50, 51, 52, 53, 54, 55, 56, 57, 58, 59, 60, 61, 62, 63, 64, 65, 66, 67, 68, 69, 70, 71, 72]),
 (146, 0, [0, 1, 2, 4, 5, 9, 10, 11, 12, 13, 14, 15, 16, 17, 18, 19, 20, 21, 22, 23, 24, 25]),
 (147, 0, [2, 3, 4, 5, 6, 9, 10, 11, 12, 13, 14, 15, 16, 17, 18]),
 (150, 0, [1, 2, 3, 4, 7, 8, 9, 10, 11, 12, 13, 14, 15, 16, 17, 18, 19, 20, 21, 22]),
 (151, 0, [1, 2, 3, 6, 7, 8, 9, 10, 11, 12, 13, 14, 15, 16, 17, 18, 19, 20, 21, 22, 23, 24, 25, 26, 27, 28, 29, 30, 31]),
 (155, 0, [1, 2, 3, 4, 5, 9, 10, 11, 12, 13, 14, 15, 16, 17, 18, 19, 20, 21]),
 (156, 0, [0, 2, 3, 4, 5, 6, 7, 9, 10, 11, 12, 13, 14]),
 (158, 1, [0, 2, 3, 4, 5, 6, 7, 8, 9, 10, 11, 12, 13, 14, 15, 16, 17, 18, 19, 20, 23, 24, 25, 26, 27, 28, 29, 30, 31, 32, 33, 34, 35, 36, 37, 38, 39, 40, 41, 42]),
 (158, 3, [0, 2, 3, 4, 5, 6, 7, 8, 9, 10, 11, 12, 13, 14, 15, 16, 17, 18, 19, 20, 21, 22, 23, 24, 25, 26, 27, 28, 29, 30, 31, 32, 33, 36, 37, 38, 39, 40, 41, 42]),
 (160, 0, [0, 1, 2, 3, 5, 6, 7, 8, 9, 10, 11, 12, 13, 14, 15, 16, 17, 18, 19, 23, 24, 25, 26, 27, 28, 29, 30]),
 (163, 0, [1, 2, 4, 5, 6, 7, 8, 9, 10, 11, 12, 13, 14, 15, 16, 17, 18, 19, 20, 21, 22, 23, 24, 25, 26, 27, 28, 29, 30, 31, 32, 33, 34, 35, 36, 37, 38, 39, 40, 41, 42, 43, 44, 45]),
 (164, 0, [1, 2, 4, 5, 6, 7, 8, 9, 10, 11, 12, 13, 14, 15, 16, 17, 18, 19, 20, 21]),
 (165, 0, [2, 3, 4, 5, 6, 9, 10, 11, 12, 13, 14, 15, 16, 17, 18]),
 (167, 0, [1, 2, 3, 4, 5, 6, 7, 9, 10, 11, 12, 13, 14, 15, 16, 17, 18, 19, 20, 21, 22, 23, 24, 25, 26]),
 (169, 0, [1, 2, 3, 4, 5, 6, 7, 8, 9, 10, 11, 12, 16, 17, 18, 19, 20, 21, 22, 23, 24, 25, 26, 27, 28, 29, 30, 31, 32, 33, 34, 35, 36, 37, 38, 39, 40, 41]),
 (170, 0, [2, 3, 4, 6, 7, 8, 9, 10, 11, 12, 13, 14, 15, 16, 17, 18, 19, 20, 21, 22, 23, 24, 25, 26, 27, 28, 29]),
 (170, 2, [2, 3, 4, 6, 7, 8, 9, 10, 11, 12, 13, 14, 15, 16, 17, 18, 19, 20, 21, 22, 23, 24, 25, 26, 27, 28, 29])]
def look {α : Type} (f id : Nat) : List (Nat × Nat × α) → Option α
 | [] => none
 | x :: r => bif Nat.beq x.1 f && Nat.beq x.2.1 id then some x.2.2 else look f id r
def kill (f id : Nat) : List Nat := match look f id killL with
 | some l => l
 | none => []
def vecL : List (Nat × Nat × List Vec) := [
 (3, 0, []),
 (5, 0, []),
 (6, 0, []),
 (7, 0, []),
 (7, 2, []),
 (8, 0, []),
 (8, 2, []),
 (9, 0, []),
 (9, 2, []),
 (17, 0, []),
 (18, 0, []),
 (19, 0, []),
 (22, 0, []),
 (24, 0, [⟨.tmp 3, 69, 68⟩]),
 (25, 0, [⟨.tmp 4, 26, 1⟩]),
 (26, 0, [⟨.tmp 4, 5, 1⟩]),
 (27, 0, []),
 (28, 0, []),
 (29, 0, []),
 (31, 0, []),
 (35, 0, [⟨.tmp 5, 61, 65⟩]),
 (36, 0, []),
 (38, 0, [⟨.tmp 3, 49, 3⟩]),
 (39, 0, []),
 (39, 2, [⟨.tmp 6, 49, 3⟩]),
 (40, 0, [⟨.tmp 3, 49, 3⟩]),
 (40, 2, []),
 (43, 0, []),
 (58, 0, []),
 (60, 0, []),
 (73, 0, [⟨.tmp 3, 5, 1⟩]),
 (75, 0, []),
 (81, 0, [⟨.tmp 5, 61, 65⟩]),
 (84, 0, [⟨.tmp 4, 26, 1⟩]),
 (89, 0, [⟨.tmp 4, 5, 1⟩]),
 (94, 0, []),
 (94, 2, [⟨.tmp 6, 5, 1⟩]),
 (97, 0, [⟨.tmp 3, 5, 1⟩]),
 (98, 0, []),
 (103, 0, []),
 (104, 0, [⟨.tmp 6, 89, 2⟩, ⟨.tmp 7, 3, 1⟩]),
 (107, 0, []),
 (116, 0, []),
 (120, 0, []),
 (120, 2, []),
 (121, 0, []),
 (122, 0, []),
 (124, 0, []),
 (124, 2, []),
 (128, 0, []),
 (129, 0, []),
 (130, 0, []),
 (132, 0, [⟨.tmp 0, 5, 1⟩]),
 (133, 0, []),
 (134, 0, [⟨.tmp 0, 5, 1⟩]),
 (135, 0, [⟨.tmp 0, 5, 1⟩]),
 (136, 2, []),
 (141, 0, []),
 (145, 0, []),
 (145, 2, []),
 (146, 0, [⟨.tmp 3, 5, 1⟩]),
 (147, 0, []),
 (150, 0, [⟨.tmp 5, 5, 1⟩]),
 (151, 0, [⟨.tmp 4, 5, 1⟩]),
 (155, 0, []),
 (156, 0, []),
 (158, 1, []),
 (158, 3, []),
 (160, 0, [⟨.tmp 4, 5, 1⟩]),
 (163, 0, []),
 (164, 0, [⟨.tmp 3, 5, 1⟩]),
 (165, 0, []),
 (167, 0, []),
 (169, 0, []),
 (170, 0, []),
 (170, 2, [⟨.tmp 0, 5, 1⟩])]
def vec (f id : Nat) : Option (List Vec) := look f id vecL
def pureT (f : FuncId) : Bool := !Nat.beq f 137
def own (f : FuncId) : List OwnT := bif Nat.beq f 10 then [.one (some (5, 1))] else bif Nat.beq f 43 then [.one (some (5, 1)), .one (none)] else bif Nat.beq f 94 then [.one (some (5, 1))] else bif Nat.beq f 131 then [.one (some (5, 1))] else bif Nat.beq f 45 then [.one (some (5, 1))] else []
def nilT (f : FuncId) : Bool := Nat.beq f 131
def ext (f : FuncId) : Option Pv.Xt := bif Nat.beq f 106 then some .compare else bif Nat.beq f 176 then some .indexByte else none
noncomputable def T : DTab := ⟨fun f => Tryd.prog.funcs[f]?, kill, pureT, own, nilT, fun f => match ext f with
 | some e => some (Xt.val e)
 | none => none, vec⟩
noncomputable def T' : Pv.Tab := ⟨fun f => Tryd.prog.funcs[f]?, kill, fun f => match ext f with
 | some e => some e.spec
 | none => none⟩
def exts : List (FuncId × Pv.Xt) := [(106, .compare), (176, .indexByte)]
end Go.Dv.Tryd
namespace Go.Dv
noncomputable abbrev P0 : Program := Go.Proofs.Tryd.prog
noncomputable abbrev T0 : DTab := Tryd.T
end Go.Dv
end
section
namespace Go.Dv
noncomputable instance noGlob : DGlob := ⟨fun _ => none, fun t => ([2, 3, 4, 5, 9, 89, 90, 212, 229] : List Nat).elem t, fun t => ([2, 3, 4, 5, 6, 7, 8, 9, 10, 11, 12, 13, 14, 18, 19, 21, 22, 23, 24, 25, 29, 30, 31, 42, 43, 45, 46, 48, 49, 58, 59, 60, 61, 68, 69, 88, 89, 90, 103, 137, 138, 155, 156, 164, 165, 182, 184, 185, 196, 203, 212, 216, 217, 218, 219, 220, 224, 225, 226, 227, 228, 229, 230, 231, 234, 235, 236, 237] : List Nat).elem t⟩
namespace S
def dB : DV → Option (List UInt8)
 | .fz xs => unB xs
 | _ => none
def dI : DV → Option Int
 | .int .i64 n => some n
 | _ => none
end S
open S
theorem dB_inv {x : DV} {s : List UInt8} (h : dB x = some s) : x = .fz (byt s) ∧ s.length ≤ lim := by
 cases x <;> simp only [dB] at h <;> try (cases h; done)
 obtain ⟨rfl, h2⟩ := unB_inv h
 exact ⟨rfl, h2⟩
theorem dB_ok {s : List UInt8} (h : s.length ≤ lim) : dB (.fz (byt s)) = some s := unB_ok h
theorem dI_inv {x : DV} {n : Int} (h : dI x = some n) : x = .int .i64 n := by
 cases x <;> simp only [dI] at h <;> try (cases h; done)
 rename_i k _
 cases k <;> simp only at h <;> cases h
 rfl
end Go.Dv
end
section
namespace Go.Dv
open Go.Proofs Go.Dv.S
instance noPlace : Pv.Glob := ⟨fun _ => none⟩
theorem names_ok : (Tryd.prog.funcs.toList.all fun fn => !(fn.name == "runtime.NumGoroutine")) = true := by kernel_rfl
theorem name_ok {f : FuncId} {fn : Func} (h : Tryd.prog.funcs[f]? = some fn) : (fn.name == "runtime.NumGoroutine") = false := by
 have h1 : fn ∈ Tryd.prog.funcs.toList := by
  obtain ⟨hi, rfl⟩ := Array.getElem?_eq_some_iff.1 h
  exact Array.mem_toList_iff.2 (Array.getElem_mem hi)
 simpa using List.all_eq_true.1 names_ok fn h1
theorem bif_ext {α : Type} {c : Bool} {a e : α} {r : Option α} (h : (bif c then some a else r) = some e) : (c = true ∧ a = e) ∨ r = some e := by
 cases c
 ·exact .inr h
 ·exact .inl ⟨rfl, Option.some.inj h⟩
theorem ext_inv {f : FuncId} {e : Pv.Xt} (h : Tryd.ext f = some e) : (f, e) ∈ Tryd.exts := by
 unfold Tryd.ext at h
 repeat
  rcases bif_ext h with ⟨h1, rfl⟩ | h
  ·cases Nat.eq_of_beq_eq_true h1; simp [Tryd.exts]
 cases h
theorem xt_ok {f : FuncId} {e : Pv.Xt} (h1 : (Tryd.prog.funcs[f]?).map (fun fn => fn.body.isNone) = some true) (h2 : (Tryd.prog.funcs[f]?).map Extern.findNext = some none) (h3 : (Tryd.prog.funcs[f]?).bind Extern.find = some e.entry) :
  ∃ fn, Tryd.prog.funcs[f]? = some fn ∧ fn.body.isNone = true ∧ Extern.findNext fn = none ∧ Extern.find fn = some e.entry := by
 obtain ⟨fn, hf, h1⟩ := Option.map_eq_some_iff.1 h1
 rw [hf] at h2 h3
 exact ⟨fn, hf, h1, Option.some.inj h2, h3⟩
theorem exts_ok {f : FuncId} {e : Pv.Xt} (hp : (f, e) ∈ Tryd.exts) : ∃ fn, Tryd.prog.funcs[f]? = some fn ∧ fn.body.isNone = true ∧ Extern.findNext fn = none ∧ Extern.find fn = some e.entry := by
 unfold Tryd.exts at hp
 repeat
  rcases List.mem_cons.1 hp with h | hp
  ·cases h
   exact xt_ok (by kernel_rfl) (by kernel_rfl) (by kernel_rfl)
 exact (List.not_mem_nil hp).elim
theorem tabOK : Pv.TabOK P0 Tryd.T' where
 fn f fn hs hf := ⟨hf, name_ok hf⟩
 spec f s h := by
  have h : (match Tryd.ext f with
   | some e => some e.spec
   | none => none) = some s := h
  cases hx : Tryd.ext f with
  | none => rw [hx] at h; cases h
  | some e =>
   rw [hx] at h
   cases h
   obtain ⟨fn, h1, h2, h3, h4⟩ := exts_ok (ext_inv hx)
   exact Pv.Xt.xok e h1 (name_ok h1) h2 h3 h4
theorem tabD : TabD T0 Tryd.T' where
 fn := rfl
 kill := rfl
 spec f := by
  show (match Tryd.ext f with
   | some e => some (Xt.val e)
   | none => none).isSome = (match Tryd.ext f with
   | some e => some e.spec
   | none => none).isSome
  cases Tryd.ext f <;> rfl
 sound f s s' xs v h h' hv F μ hp ys hg i hvs := by
  have h : (match Tryd.ext f with
   | some e => some (Xt.val e)
   | none => none) = some s := h
  have h' : (match Tryd.ext f with
   | some e => some e.spec
   | none => none) = some s' := h'
  cases hx : Tryd.ext f with
  | none => rw [hx] at h; cases h
  | some e =>
   rw [hx] at h h'
   cases h
   cases h'
   exact Xt.sound e hv i hvs
open Go.Proofs.YtngphbjigkgeaaaDoor in
theorem bulk_pos {H : Type} (d : DataW H) : 1 ≤ Rows.uptoBulk d := by
 cases d with
 | lit l => cases l <;> simp [Rows.uptoBulk]
 | nil => simp [Rows.uptoBulk]
 | ptr d => simp [Rows.uptoBulk]
 | slice elems spare => simp [Rows.uptoBulk]
 | agg parts => simp [Rows.uptoBulk]
 | iface t d => simp [Rows.uptoBulk]
 | map entries => simp [Rows.uptoBulk]
 | held h => simp [Rows.uptoBulk]
open Go.Proofs.YtngphbjigkgeaaaDoor in
theorem bulk_part {H : Type} {d : DataW H} {l : List (DataW H)} (h : d ∈ l) : Rows.uptoBulk d ≤ Rows.uptoBulkAll l := by
 induction l with
 | nil => cases h
 | cons x r ih =>
  simp only [Rows.uptoBulkAll]
  cases List.mem_cons.1 h with
  | inl e => subst e; omega
  | inr e => have := ih e; omega
open Go.Proofs.YtngphbjigkgeaaaDoor in
theorem bulk_len {H : Type} (l : List (DataW H)) : l.length ≤ Rows.uptoBulkAll l := by
 induction l with
 | nil => simp [Rows.uptoBulkAll]
 | cons x r ih => have := bulk_pos x; simp only [Rows.uptoBulkAll, List.length_cons]; omega
open Go.Proofs.YtngphbjigkgeaaaDoor in
def bulk (H : Type) : Bulk H where
 B := Rows.uptoBulk
 len es rest := by have := bulk_len es; simp only [Rows.uptoBulk]; omega
 elem es rest x h := by have := bulk_part h; simp only [Rows.uptoBulk]; omega
 part ps x h := by have := bulk_part h; simp only [Rows.uptoBulk]; omega
 str s := by simp only [Rows.uptoBulk]; omega
open Go.Proofs.YtngphbjigkgeaaaDoor in
theorem bulk_small {H : Type} {l : List (DataW H)} (hk : Rows.uptoSmall H l = true) {d : DataW H} (h : d ∈ l) : (bulk H).B d ≤ lim := by
 have h1 : Rows.uptoBulkAll l ≤ 1048576 := by simpa [Rows.uptoSmall] using hk
 have h2 := bulk_part h
 show Rows.uptoBulk d ≤ 1099511627776
 omega
theorem law_rowL {H : Type} {enc : TypeId × Value → H} {C : Checked} {os : Os} {f : FuncId} {fn : Func} {s : OpenSpec} {k : (H : Type) → List (DataW H) → Bool} (hk : s.cond = some k) {F : Stop.Interp} {conds : List PathCond} {laid : List (String × DataW Unit)}
  (own : ownKnob C.prog.godebug = none) (started : os.Started) (noInit : C.prog.inits.idxOf? f = none) (hfn : C.prog.funcs[f]? = some fn)
  (witness : ∃ (w : World) (tape : Tape) (i : Input), w.os = os ∧ (w.forCall tape i).Shaped C.prog ∧ i.vars = [] ∧ Input.okWide C.prog (w.forCall tape i) .any w.heap.size f i ∧
   s.preRow enc C.prog fn conds false laid (w.forCall tape i).memory i.args ∧ ({} : Assume).holds C.prog (lone (Frame.enter C.prog f i.args .normal) [] (w.forCall tape i)))
  (hglob : (((begin C.prog (fun _ _ => 0) default).world.heap[0]?).bind Obj.row?).isSome = true) (hgs : 0 < C.prog.globals.size)
  (core : ∀ (W : World) (base : Nat) (args : Array Value) (ds gs : List (DataW H)) (before : List MemPlace),
   (∀ (j : Nat) t v, fn.params[j]? = some t → args[j]? = some v → Value.okWide C.prog W .any base t v) →
   DataW.Whole enc C.prog fn.params.toList s.vars false W args.toList ds gs before → k H (ds ++ gs) = true → (∃ (g : Nat) (cs : Array Value) (e : TypeId) (fr : Nat × Nat), W.heap[g]? = some (.cells cs e fr)) →
   Calls C.prog f args W fun e W' => ∃ v, e = .returned v ∧ (s.at F).post enc C.prog fn false true false false W args v W') :
  ReturnsInHanded {} C os f .any (s.preRow enc C.prog fn conds false laid) ((s.at F).post enc C.prog fn false true false false) := by
 refine returnsInHanded_of_row own started noInit hfn witness ?_
 intro W base args ds gs before hval hW _ hcond _ _ hsh _
 have hg : ∃ (g : Nat) (cs : Array Value) (e : TypeId) (fr : Nat × Nat), W.heap[g]? = some (.cells cs e fr) := by
  obtain ⟨⟨z, t⟩, hz⟩ := Option.isSome_iff_exists.1 hglob
  obtain ⟨cs, h1, _⟩ := hsh.1 0 z t hgs hz
  exact ⟨0, cs, t, _, h1⟩
 exact core W base args ds gs before hval hW (hcond k hk) hg
def accCells : Array Value := #[.int .u8 128, .int .u8 191, .int .u8 160, .int .u8 191, .int .u8 128, .int .u8 159, .int .u8 144, .int .u8 191, .int .u8 128, .int .u8 143] ++ Array.replicate 22 (.int .u8 0)
def firstCells : Array Value := (Go.Pinned.utf8FirstZ.map fun n => Value.int .u8 (Int.ofNat n)).toArray
def holdCells (cs : Array Value) : Obj → Obj
 | .cells _ t frozen => .cells cs t frozen
 | o => o
noncomputable def laidWorld (os : Os) : World :=
 { World.holding Tryd.prog os ⟨#[], #[], []⟩ with heap := ((World.holding Tryd.prog os ⟨#[], #[], []⟩).heap.modify 2 (holdCells accCells)).modify 1 (holdCells firstCells) }
end Go.Dv
end
section
namespace Go.Dv.S
abbrev B := List UInt8
def isTag (t : Int) : Bool := decide (0 ≤ t) && decide (t ≤ 255) && !(t % 32 == 31)
def b8 (n : Nat) : UInt8 := UInt8.ofNat n
def lenB (n : Nat) : B :=
 bif Nat.blt n 128 then [b8 n] else bif Nat.blt n 256 then [129, b8 n] else bif Nat.blt n 65536 then [130, b8 (n / 256), b8 n] else [131, b8 (n / 65536), b8 (n / 256), b8 n]
def elemB (t : UInt8) (c : B) : B := t :: (lenB c.length ++ c)
def maxC : Nat := 16777215
def big : B → Nat → Nat
 | [], n => n
 | b :: r, n => big r (256 * n + b.toNat)
def head : B → Int × Nat × Nat
 | [] => (10, 0, 0)
 | t :: r => bif !isTag t.toNat then (11, 0, 0) else match r with
  | [] => (10, 0, 0)
  | l :: r => bif Nat.blt l.toNat 128 then (0, 2, l.toNat) else
    bif Nat.beq l.toNat 128 || Nat.blt 131 l.toNat || r.head? == some 0 then (12, 0, 0) else
    bif Nat.blt r.length (l.toNat - 128) then (10, 0, 0) else
    bif Nat.blt (big (r.take (l.toNat - 128)) 0) 128 then (12, 0, 0) else (0, 2 + (l.toNat - 128), big (r.take (l.toNat - 128)) 0)
def takeE (b : B) : Int := bif (head b).1 == 0 && Nat.blt b.length ((head b).2.1 + (head b).2.2) then 10 else (head b).1
def takeC (b : B) : B := bif takeE b == 0 then (b.drop (head b).2.1).take (head b).2.2 else []
def takeN (b : B) : Nat := bif takeE b == 0 then (head b).2.1 + (head b).2.2 else 0
def takeT (b : B) : Int := bif takeE b == 0 then (b.headD 0).toNat else 0
def oneE (b : B) : Int := bif takeE b == 0 && Nat.blt (takeN b) b.length then 13 else takeE b
def oneC (b : B) : B := bif oneE b == 0 then takeC b else []
def oneT (b : B) : Int := bif oneE b == 0 then takeT b else 0
abbrev Elem := Int × B
theorem head_pos {b : B} (h : (head b).1 = 0) : 2 ≤ (head b).2.1 := by
 unfold head at h ⊢
 split
 ·simp at h
 ·rename_i t r
  cases ht : isTag t.toNat with
  | false => simp [ht] at h
  | true =>
   simp only [ht, Bool.not_true, cond_false] at h ⊢
   split
   ·simp at h
   ·rename_i l r
    cases h1 : Nat.blt l.toNat 128 with
    | true => simp
    | false =>
     simp only [h1, cond_false] at h ⊢
     cases h2 : (Nat.beq l.toNat 128 || Nat.blt 131 l.toNat || r.head? == some 0) with
     | true => rw [h2] at h; simp at h
     | false =>
      rw [h2] at h
      simp only [cond_false] at h ⊢
      cases h3 : Nat.blt r.length (l.toNat - 128) with
      | true => rw [h3] at h; simp at h
      | false =>
       rw [h3] at h
       simp only [cond_false] at h ⊢
       cases h4 : Nat.blt (big (r.take (l.toNat - 128)) 0) 128 with
       | true => rw [h4] at h; simp at h
       | false => simp
theorem takeE_head {b : B} (h : takeE b = 0) : (head b).1 = 0 ∧ (head b).2.1 + (head b).2.2 ≤ b.length := by
 unfold takeE at h
 cases hc : ((head b).1 == 0 && Nat.blt b.length ((head b).2.1 + (head b).2.2)) with
 | true => rw [hc] at h; simp at h
 | false =>
  rw [hc, cond_false] at h
  refine ⟨h, ?_⟩
  rw [h] at hc
  have h2 : Nat.blt b.length ((head b).2.1 + (head b).2.2) = false := hc
  rcases Nat.lt_or_ge b.length ((head b).2.1 + (head b).2.2) with h3 | h3
  ·rw [Sx.bltT h3] at h2; cases h2
  ·exact h3
theorem takeN_pos {b : B} (h : takeE b = 0) : 2 ≤ takeN b ∧ takeN b ≤ b.length := by
 obtain ⟨h1, h2⟩ := takeE_head h
 have := head_pos h1
 unfold takeN
 rw [h]
 simp only [beq_self_eq_true, cond_true]
 omega
theorem takeN_drop {b : B} (h : takeE b = 0) : (b.drop (takeN b)).length < b.length := by
 have := takeN_pos h
 simp
 omega
def row (b : B) : List Elem :=
 if h : takeE b = 0 then (takeT b, takeC b) :: row (b.drop (takeN b)) else []
 termination_by b.length
 decreasing_by exact takeN_drop h
def rowN (b : B) : Nat :=
 if h : takeE b = 0 then takeN b + rowN (b.drop (takeN b)) else 0
 termination_by b.length
 decreasing_by exact takeN_drop h
def allE (b : B) : Int := bif Nat.beq (rowN b) b.length then 0 else takeE (b.drop (rowN b))
def allL (b : B) : List Elem := bif Nat.beq (rowN b) b.length then row b else []
theorem row_ok {b : B} (h : takeE b = 0) : row b = (takeT b, takeC b) :: row (b.drop (takeN b)) := by rw [row, dif_pos h]
theorem row_no {b : B} (h : takeE b ≠ 0) : row b = [] := by rw [row, dif_neg h]
theorem rowN_ok {b : B} (h : takeE b = 0) : rowN b = takeN b + rowN (b.drop (takeN b)) := by rw [rowN, dif_pos h]
theorem rowN_no {b : B} (h : takeE b ≠ 0) : rowN b = 0 := by rw [rowN, dif_neg h]
theorem rowN_le (b : B) : rowN b ≤ b.length := by
 induction hn : b.length using Nat.strongRecOn generalizing b with
 | _ n ih =>
  subst hn
  by_cases h : takeE b = 0
  ·rw [rowN_ok h]
   have h1 := takeN_pos h
   have h2 := ih _ (takeN_drop h) (b.drop (takeN b)) rfl
   simp at h2
   omega
  ·rw [rowN_no h]; omega
theorem takeC_len (b : B) : (takeC b).length ≤ b.length := by
 unfold takeC
 cases takeE b == 0 with
 | true => simp; omega
 | false => simp
theorem lenB_len (n : Nat) : (lenB n).length ≤ 4 ∧ 1 ≤ (lenB n).length := by
 unfold lenB
 cases Nat.blt n 128 <;> cases Nat.blt n 256 <;> cases Nat.blt n 65536 <;> simp
theorem elemB_len (t : UInt8) (c : B) : (elemB t c).length = 1 + (lenB c.length).length + c.length := by
 simp [elemB]; omega
def bare (b : B) : B := b.dropWhile (· == 0)
def natB (b : B) : B := bif (bare b).isEmpty || decide (128 ≤ (bare b).headD 0) then 0 :: bare b else bare b
def short : B → Bool
 | [] => false
 | [_] => true
 | a :: b :: _ => !(a == 0 && decide (b < 128) || a == 255 && decide (128 ≤ b))
def toNatE (b : B) : Int := bif !short b then 20 else bif decide (128 ≤ b.headD 0) then 22 else 0
def toNatC (b : B) : B := bif toNatE b == 0 then bare b else []
theorem bare_len (b : B) : (bare b).length ≤ b.length := (List.dropWhile_suffix _).length_le
end Go.Dv.S
end
section
namespace Go.Dv
namespace S
def ob (s : B) : DRes × DHeap := (.ret (.sl 0 0 s.length 0 1), [newBlk (ofBytes s) 5])
def obE (s : B) (e : Int) : DRes × DHeap := (.ret (.tup [.sl 0 0 s.length 0 1, .int .i64 e]), [newBlk (ofBytes s) 5])
def elt (e : Elem) : List DV := [.int .i64 e.1, .fz (byt e.2)]
def eltV (e : Elem) : DV := .agg (elt e)
def elts (l : List Elem) : List (List DV) := l.map elt
def dEl : DV → Option Elem
 | .agg [.int .i64 t, .fz s] => (unB s).bind fun s => some (t, s)
 | _ => none
def dM : DV → Option Nat
 | .int .i64 n => bif decide (0 ≤ n) && decide (n ≤ 16777215) then some n.toNat else none
 | _ => none
def dG : DV → Option Nat
 | .int .i64 n => bif decide (0 ≤ n) && decide (n ≤ 4398046511104) then some n.toNat else none
 | _ => none
def unBs' : List (List DV) → Option (List B)
 | [] => some []
 | [.fz s] :: r => (unB s).bind fun s => (unBs' r).bind fun l => some (s :: l)
 | _ => none
def dBs : DV → Option (List B)
 | .fz l => bif Nat.ble l.length lim then (unBs' l).bind fun l => bif Nat.ble l.flatten.length lim then some l else none else none
 | _ => none
def byts (l : List B) : List (List DV) := l.map fun s => [.fz (byt s)]
def unC : List DV → Option B
 | [] => some []
 | .int .u8 n :: r => bif decide (0 ≤ n) && decide (n < 256) then (unC r).map (UInt8.ofNat n.toNat :: ·) else none
 | _ => none
def dA (n : Nat) : DV → Option B
 | .agg cs => bif Nat.beq cs.length n then unC cs else none
 | _ => none
def dBm : DV → Option B
 | .fz xs => bif Nat.ble xs.length 274877906944 then unB xs else none
 | _ => none
def dZ : DV → Option Unit
 | .str [0] => some ()
 | _ => none
def dY0 : DV → Option Unit
 | .int .u8 0 => some ()
 | _ => none
def S_der_isTag : Spec := sp1 dI fun t => .bool (isTag t)
def S_chanceryref01_IsTag : Spec := S_der_isTag
def S_der_length : Spec := sp1 dM fun n => .fz (byt (lenB n))
def S_chanceryref01_Length : Spec := S_der_length
def S_slices_Clone_byte_byte : Spec := sp1 dB fun a => .fz (byt a)
def S_slices_Grow_byte_byte : Spec := fun R xs k => match xs with
 | [.nils, x] => (dG x).bind fun n => k (.ret (.sl 0 0 0 n 1), [newBlk (ofBytes (List.replicate n 0)) 5])
 | _ => none
def S_slices_Concat_byte_byte : Spec := sq1 dBs fun l => .leaf (ob l.flatten)
def S_der_Put : Spec := sq3 dBm dI dBs fun b t l => .cnd (isTag t) (.cnd (Nat.ble l.flatten.length maxC) (.leaf (obE (b ++ elemB (b8 t.toNat) l.flatten) 0)) (.leaf (obE [] 3))) (.leaf (obE [] 2))
def S_bytes_trimLeftByte : Spec := sp2 dB dY0 fun s _ => .fz (byt (bare s))
def S_bytes_TrimLeft : Spec := sp2 dB dZ fun s _ => .fz (byt (bare s))
def S_num_Nat : Spec := sp1 dBm fun s => .fz (byt (natB s))
def S_chanceryref02_Nat : Spec := S_num_Nat
def S_chanceryref02_bare : Spec := sp1 dB fun s => .fz (byt (bare s))
def S_num_shortest : Spec := sp1 dB fun s => .bool (short s)
def S_chanceryref02_Shortest : Spec := S_num_shortest
def S_num_ToNat : Spec := sp1 dB fun s => .tup [.fz (byt (toNatC s)), .int .i64 (toNatE s)]
def S_chanceryref02_ToNat : Spec := S_num_ToNat
def tagOf (b : B) : Int := bif (head b).1 == 0 then (b.headD 0).toNat else 0
def S_der_head : Spec := sp1 dB fun b => .tup [.int .i64 (tagOf b), .int .i64 ((head b).2.1 : Nat), .int .i64 ((head b).2.2 : Nat), .int .i64 (head b).1]
def S_der_Take : Spec := sp1 dB fun b => .tup [eltV (takeT b, takeC b), .int .i64 (takeN b : Nat), .int .i64 (takeE b)]
def S_chanceryref01_Take : Spec := S_der_Take
def S_der_One : Spec := sp1 dB fun b => .tup [eltV (oneT b, oneC b), .int .i64 (oneE b)]
def S_chanceryref01_One : Spec := S_der_One
def S_der_All : Spec := sp1 dB fun b => .tup [.fz (elts (allL b)), .int .i64 (rowN b : Nat), .int .i64 (allE b)]
def S_chanceryref01_All : Spec := S_der_All
def S_der_Size : Spec := sp1 dM fun n => .int .i64 ((1 + (lenB n).length : Nat) : Int)
def S_der_Each : Spec := fun R xs k => match xs with
 | [.fz l] => (dB (.fz l)).bind fun _ => k (ret (.func 137 [] [.fp false [.fz l]]))
 | _ => none
def rowP (b : B) (p : Nat) : List Nat :=
 if h : takeE b = 0 then p :: rowP (b.drop (takeN b)) (p + takeN b) else []
 termination_by b.length
 decreasing_by exact takeN_drop h
def ints (l : List Nat) : List (List DV) := l.map fun (n : Nat) => [DV.int .i64 (n : Int)]
def S_chanceryref01_Row : Spec := sp1 dB fun b => .tup [.fz (elts (row b)), .fz (ints (rowP b 0)), .int .i64 (rowN b : Nat), .int .i64 (allE b)]
def dElb (x : DV) : Option Elem := (dEl x).bind fun e => bif decide (0 ≤ e.1) && decide (e.1 < 256) && Nat.ble e.2.length maxC then some e else none
def S_chanceryref01_Bytes : Spec := sq1 dElb fun e => .leaf (ob (elemB (b8 e.1.toNat) e.2))
theorem ob_eq {s : B} {n : Nat} (h : n = s.length) : some ((.ret (.sl 0 0 n 0 1), [newBlk (ofBytes s) 5]) : DRes × DHeap) = some (ob s) := by rw [h]; rfl
end S
theorem freezeWith_froz [DGlob] (d : Nat) (h : DHeap) : ∀ {cs : List DV}, cs.all froz = true → freezeWith (freezeV (d + 1) h) cs = some (cs, [])
 | [], _ => rfl
 | x :: cs, e => by
  simp only [List.all_cons, Bool.and_eq_true] at e
  have h1 : freezeV (d + 1) h x = some (x, []) := by
   obtain ⟨e1, _⟩ := e
   cases x <;> first | rfl | cases e1
  show ((freezeV (d + 1) h x).bind fun q => (freezeWith (freezeV (d + 1) h) cs).bind fun q2 => some (q.1 :: q2.1, q.2 ++ q2.2)) = _
  rw [h1, freezeWith_froz d h e.2]
  rfl
end Go.Dv
end
section
namespace Go.Dv
open Go.Proofs Go.Dv.S
abbrev t_bytes_trimLeftByte : List (FuncId × Spec) := []
abbrev t_bytes_TrimLeft : List (FuncId × Spec) := [(132, S_bytes_trimLeftByte)]
abbrev t_slices_Clone_byte_byte : List (FuncId × Spec) := []
abbrev t_slices_Grow_byte_byte : List (FuncId × Spec) := []
abbrev t_slices_Concat_byte_byte : List (FuncId × Spec) := [(131, S_slices_Grow_byte_byte)]
abbrev t_der_isTag : List (FuncId × Spec) := []
abbrev t_chanceryref01_IsTag : List (FuncId × Spec) := []
abbrev t_der_length : List (FuncId × Spec) := []
abbrev t_der_Put : List (FuncId × Spec) := [(93, S_der_isTag), (94, S_slices_Concat_byte_byte), (95, S_der_length)]
abbrev t_num_shortest : List (FuncId × Spec) := []
abbrev t_num_Nat : List (FuncId × Spec) := [(96, S_bytes_TrimLeft), (94, S_slices_Concat_byte_byte), (76, S_slices_Clone_byte_byte)]
abbrev t_num_ToNat : List (FuncId × Spec) := [(96, S_bytes_TrimLeft), (138, S_num_shortest), (76, S_slices_Clone_byte_byte)]
abbrev t_der_head : List (FuncId × Spec) := [(93, S_der_isTag)]
abbrev t_der_Take : List (FuncId × Spec) := [(136, S_der_head), (76, S_slices_Clone_byte_byte)]
abbrev t_der_One : List (FuncId × Spec) := [(99, S_der_Take)]
abbrev t_der_Size : List (FuncId × Spec) := [(95, S_der_length)]
abbrev t_der_Each : List (FuncId × Spec) := [(76, S_slices_Clone_byte_byte)]
abbrev t_chanceryref02_Shortest : List (FuncId × Spec) := []
abbrev t_chanceryref02_bare : List (FuncId × Spec) := []
abbrev t_chanceryref02_Nat : List (FuncId × Spec) := [(98, S_chanceryref02_bare)]
abbrev t_chanceryref02_ToNat : List (FuncId × Spec) := [(98, S_chanceryref02_bare), (105, S_chanceryref02_Shortest)]
abbrev t_chanceryref01_Length : List (FuncId × Spec) := []
abbrev t_chanceryref01_Bytes : List (FuncId × Spec) := [(97, S_chanceryref01_Length)]
abbrev t_chanceryref01_Take : List (FuncId × Spec) := [(139, S_chanceryref01_IsTag)]
abbrev t_chanceryref01_One : List (FuncId × Spec) := [(103, S_chanceryref01_Take)]
abbrev t_chanceryref01_Row : List (FuncId × Spec) := [(103, S_chanceryref01_Take)]
abbrev t_chanceryref01_All : List (FuncId × Spec) := [(104, S_chanceryref01_Row)]
theorem e_bytes_trimLeftByte (Lp : LpT) (s : List (List DV)) (c : Int) : run P0 T0 Lp (Lt t_bytes_trimLeftByte) nY 132 [.fz s, .int .u8 c] =
  (Lp _ (tdF T0 132 none 0) ((bodyF P0 T0 Lp (Lt t_bytes_trimLeftByte) nY [] 132 none 0 : FX (DRes × DHeap))) (kontF P0 T0 Lp (Lt t_bytes_trimLeftByte) nY [] 132 0) (Go.Dv.S.stH 21 [(0, (DSlot.v (DV.fz (s)))), (1, (DSlot.v (DV.int (IntKind.u8) (c))))] [] []) []) := by kernel_rfl
theorem b_bytes_trimLeftByte_0 (Lp : LpT) (s : List (List DV)) (c : Int) (k : KX (DRes × DHeap)) : bodyF P0 T0 Lp (Lt t_bytes_trimLeftByte) nY [] 132 none 0 (stD 21 [(0, .v (.fz s)), (1, .v (.int .u8 c))] []) [] k =
  (bif (decide ((↑s.length : Int) > 0)) then (Option.bind (Go.Pv.idx (0 : Int) s.length) fun v0 => (Option.bind (s)[(v0)]? fun v1 => (Option.bind (Go.Dv.unc v1) fun v2 => (Option.bind (Go.Dv.toInt Go.IntKind.u8 v2.fst) fun v3 => (bif (v2.snd.isEmpty) then (bif (v3 == c) then (Option.bind (Go.Pv.upTo (1 : Int) s.length) fun v4 => (bif (s.all fun (x : List Go.Dv.DV) => x.length.beq 1) then (k DExit.normal (Go.Dv.S.stH 21 [(0, (DSlot.v (DV.fz (List.drop v4 (List.take s.length s))))), (1, (DSlot.v (DV.int (IntKind.u8) (c)))), (5, (DSlot.v (DV.fz (s)))), (6, (DSlot.v (DV.int (IntKind.i64) ((↑s.length : Int))))), (7, (DSlot.v (DV.bool (decide ((↑s.length : Int) > 0))))), (8, (DSlot.v (DV.bool (Bool.true)))), (9, (DSlot.v (DV.fz (s)))), (10, (DSlot.v (DV.fp (Bool.true) [(DV.int (IntKind.u8) (v3))]))), (11, (DSlot.v (DV.int (IntKind.u8) (v3)))), (12, (DSlot.v (DV.int (IntKind.u8) (c)))), (13, (DSlot.v (DV.bool (v3 == c)))), (14, (DSlot.v (DV.bool (v3 == c)))), (15, (DSlot.v (DV.fz (s)))), (16, (DSlot.v (DV.fz (List.drop v4 (List.take s.length s)))))] [] []) []) else none)) else (k (DExit.exit (0)) (Go.Dv.S.stH 21 [(0, (DSlot.v (DV.fz (s)))), (1, (DSlot.v (DV.int (IntKind.u8) (c)))), (5, (DSlot.v (DV.fz (s)))), (6, (DSlot.v (DV.int (IntKind.i64) ((↑s.length : Int))))), (7, (DSlot.v (DV.bool (decide ((↑s.length : Int) > 0))))), (8, (DSlot.v (DV.bool (Bool.true)))), (9, (DSlot.v (DV.fz (s)))), (10, (DSlot.v (DV.fp (Bool.true) [(DV.int (IntKind.u8) (v3))]))), (11, (DSlot.v (DV.int (IntKind.u8) (v3)))), (12, (DSlot.v (DV.int (IntKind.u8) (c)))), (13, (DSlot.v (DV.bool (v3 == c)))), (14, (DSlot.v (DV.bool (v3 == c))))] [] []) [])) else none))))) else (k (DExit.exit (0)) (Go.Dv.S.stH 21 [(0, (DSlot.v (DV.fz (s)))), (1, (DSlot.v (DV.int (IntKind.u8) (c)))), (5, (DSlot.v (DV.fz (s)))), (6, (DSlot.v (DV.int (IntKind.i64) ((↑s.length : Int))))), (7, (DSlot.v (DV.bool (decide ((↑s.length : Int) > 0))))), (8, (DSlot.v (DV.bool (Bool.false)))), (9, (DSlot.v (DV.tup []))), (10, (DSlot.v (DV.tup []))), (11, (DSlot.v (DV.tup []))), (12, (DSlot.v (DV.tup []))), (13, (DSlot.v (DV.tup []))), (14, (DSlot.v (DV.bool (Bool.false))))] [] []) [])) := by kernel_rfl
theorem e_bytes_TrimLeft (Lp : LpT) (s : List (List DV)) : run P0 T0 Lp (Lt t_bytes_TrimLeft) nY 96 [.fz s, .str [0]] =
  (bif ((↑s.length : Int) == Int.ofNat 0) then (some ((DRes.ret (DV.fz [])), [])) else (Option.bind (Go.Dv.S.dB (DV.fz s)) fun v0 => (some ((DRes.ret (DV.fz (Go.Dv.S.byt (Go.Dv.S.bare v0)))), [])))) := by kernel_rfl
theorem e_slices_Clone_byte_byte (Lp : LpT) (a : List (List DV)) : run P0 T0 Lp (Lt t_slices_Clone_byte_byte) nY 76 [.fz a] =
  (match (a) with | List.nil  => (Go.Dv.amb (some ((DRes.ret (DV.fz [])), [])) (Option.bind (bif (a.all fun (x : List Go.Dv.DV) => x.length.beq 1) then (some ((a.length), (a.flatten))) else none) fun v0 => (bif (((((0 + v0.fst) * 1).ble 140737488355328) && ((0 + v0.fst).ble 9223372036854775807)) && (Bool.true)) then (Option.bind (Option.bind (bif ((0 + (0 + v0.fst) * 1).ble (Go.Dv.repeatCells [DV.int Go.IntKind.u8 (0 : Int)] 0 ++ v0.snd).length) then (some (List.take ((0 + v0.fst) * 1) (List.drop 0 (Go.Dv.repeatCells [DV.int Go.IntKind.u8 (0 : Int)] 0 ++ v0.snd)))) else none) fun v1 => (Option.bind (Go.Dv.frozL v1) fun v2 => (some ((DV.fz (Go.Dv.chunks 1 (0 + v0.fst) v2)), [(1)])))) fun v3 => (some ((DRes.ret (v3.fst)), []))) else none))) | List.cons v4 v5 => (Option.bind (bif (a.all fun (x : List Go.Dv.DV) => x.length.beq 1) then (some ((a.length), (a.flatten))) else none) fun v6 => (bif (((((0 + v6.fst) * 1).ble 140737488355328) && ((0 + v6.fst).ble 9223372036854775807)) && (Bool.true)) then (Option.bind (Option.bind (bif ((0 + (0 + v6.fst) * 1).ble (Go.Dv.repeatCells [DV.int Go.IntKind.u8 (0 : Int)] 0 ++ v6.snd).length) then (some (List.take ((0 + v6.fst) * 1) (List.drop 0 (Go.Dv.repeatCells [DV.int Go.IntKind.u8 (0 : Int)] 0 ++ v6.snd)))) else none) fun v7 => (Option.bind (Go.Dv.frozL v7) fun v8 => (some ((DV.fz (Go.Dv.chunks 1 (0 + v6.fst) v8)), [(1)])))) fun v9 => (some ((DRes.ret (v9.fst)), []))) else none))) := by kernel_rfl
theorem e_slices_Grow_byte_byte (Lp : LpT) (n : Int) : run P0 T0 Lp (Lt t_slices_Grow_byte_byte) nY 131 [.nils, .int .i64 n] =
  (bif (decide (n < 0)) then (some ((DRes.pan (DV.iface (9) (DV.str ([99, 97, 110, 110, 111, 116, 32, 98, 101, 32, 110, 101, 103, 97, 116, 105, 118, 101])))), [])) else (bif (decide (IntKind.i64.wrap (n - Go.IntKind.i64.wrap (0 - (↑0 : Int))) > 0)) then (Option.bind (Go.Pv.upTo (IntKind.i64.wrap (n - Int.ofNat 0)) 9223372036854775807) fun v0 => (bif (((v0 * 1).ble 140737488355328) && (Bool.true)) then (bif (((((0 + v0) * 1).ble 140737488355328) && ((0 + v0).ble 9223372036854775807)) && (Bool.true)) then (Option.bind (bif ((Go.Dv.repeatCells [DV.int Go.IntKind.u8 (0 : Int)] v0).length.beq ((0 + (v0 + 0 - 0)) * 1)) then (Option.bind (bif ((Go.Dv.repeatCells [DV.int Go.IntKind.u8 (0 : Int)] v0).all Go.Dv.froz) then (some (Go.Dv.repeatCells [DV.int Go.IntKind.u8 (0 : Int)] v0)) else none) fun v1 => (some ([(DV.sl (0) (0) (0) (v0 + 0 - 0) (1))], [(DBlk.mk (v1) (5) (Bool.true) (Bool.false) (Bool.true) none)]))) else none) fun v2 => (Option.bind (match (Go.Dv.unflat [Go.Dv.OwnT.one (some (5, 1))] v2.fst) with | List.nil  => none | List.cons v3 v4 => (some (v3 ))) fun v5 => (some ((DRes.ret (v5 )), (v2.snd))))) else none) else none)) else (some ((DRes.ret (DV.sl (0) (0) (0) (0) (1))), [(DBlk.mk [] (5) (Bool.true) (Bool.false) (Bool.true) none)])))) := by kernel_rfl
theorem e_slices_Concat_byte_byte (Lp : LpT) (l : List (List DV)) : run P0 T0 Lp (Lt t_slices_Concat_byte_byte) nY 94 [.fz l] =
  (Lp _ (tdF T0 94 none 0) ((bodyF P0 T0 Lp (Lt t_slices_Concat_byte_byte) nY [] 94 none 0 : FX (DRes × DHeap))) (kontF P0 T0 Lp (Lt t_slices_Concat_byte_byte) nY [] 94 0) (Go.Dv.S.stH 36 [(0, (DSlot.v (DV.fz (l)))), (3, (DSlot.v (DV.int (IntKind.i64) (0 : Int)))), (9, (DSlot.v (DV.fz (l)))), (10, (DSlot.v (DV.int (IntKind.i64) ((↑l.length : Int))))), (11, (DSlot.v (DV.int (IntKind.i64) (0 : Int))))] [] []) []) := by kernel_rfl
theorem b_slices_Concat_byte_byte_0 (Lp : LpT) (l : List (List DV)) (t n i : Int) (k : KX (DRes × DHeap)) : bodyF P0 T0 Lp (Lt t_slices_Concat_byte_byte) nY [] 94 none 0 (stD 36 [(0, .v (.fz l)), (3, .v (.int .i64 t)), (9, .v (.fz l)), (10, .v (.int .i64 n)), (11, .v (.int .i64 i))] []) [] k =
  (bif (decide (i < n)) then (Option.bind (Go.Pv.idx i l.length) fun v0 => (Option.bind (l)[(v0)]? fun v1 => (Option.bind (Go.Dv.unc v1) fun v2 => (Option.bind (Go.Dv.toFz v2.fst) fun v3 => (bif (v2.snd.isEmpty) then (bif (decide (IntKind.i64.wrap (t + (↑v3.length : Int)) < 0)) then (k (DExit.panic (DV.iface (9) (DV.str ([108, 101, 110, 32, 111, 117, 116, 32, 111, 102, 32, 114, 97, 110, 103, 101])))) (Go.Dv.S.stH 36 [(0, (DSlot.v (DV.fz (l)))), (3, (DSlot.v (DV.int (IntKind.i64) (IntKind.i64.wrap (t + (↑v3.length : Int)))))), (5, (DSlot.v (DV.fz (v3)))), (9, (DSlot.v (DV.fz (l)))), (10, (DSlot.v (DV.int (IntKind.i64) (n)))), (11, (DSlot.v (DV.int (IntKind.i64) (i)))), (12, (DSlot.v (DV.bool (decide (i < n))))), (13, (DSlot.v (DV.fp (Bool.true) [(DV.fz (v3))]))), (14, (DSlot.v (DV.fz (v3)))), (15, (DSlot.v (DV.int (IntKind.i64) (t)))), (16, (DSlot.v (DV.fz (v3)))), (17, (DSlot.v (DV.int (IntKind.i64) ((↑v3.length : Int))))), (18, (DSlot.v (DV.int (IntKind.i64) (IntKind.i64.wrap (t + (↑v3.length : Int)))))), (19, (DSlot.v (DV.int (IntKind.i64) (IntKind.i64.wrap (t + (↑v3.length : Int)))))), (20, (DSlot.v (DV.bool (decide (IntKind.i64.wrap (t + (↑v3.length : Int)) < 0))))), (21, (DSlot.v (DV.iface (9) (DV.str ([108, 101, 110, 32, 111, 117, 116, 32, 111, 102, 32, 114, 97, 110, 103, 101])))))] [] []) []) else (k DExit.normal (Go.Dv.S.stH 36 [(0, (DSlot.v (DV.fz (l)))), (3, (DSlot.v (DV.int (IntKind.i64) (IntKind.i64.wrap (t + (↑v3.length : Int)))))), (5, (DSlot.v (DV.fz (v3)))), (9, (DSlot.v (DV.fz (l)))), (10, (DSlot.v (DV.int (IntKind.i64) (n)))), (11, (DSlot.v (DV.int (IntKind.i64) (IntKind.i64.wrap (i + Int.ofNat 1))))), (12, (DSlot.v (DV.bool (decide (i < n))))), (13, (DSlot.v (DV.fp (Bool.true) [(DV.fz (v3))]))), (14, (DSlot.v (DV.fz (v3)))), (15, (DSlot.v (DV.int (IntKind.i64) (t)))), (16, (DSlot.v (DV.fz (v3)))), (17, (DSlot.v (DV.int (IntKind.i64) ((↑v3.length : Int))))), (18, (DSlot.v (DV.int (IntKind.i64) (IntKind.i64.wrap (t + (↑v3.length : Int)))))), (19, (DSlot.v (DV.int (IntKind.i64) (IntKind.i64.wrap (t + (↑v3.length : Int)))))), (20, (DSlot.v (DV.bool (decide (IntKind.i64.wrap (t + (↑v3.length : Int)) < 0))))), (22, (DSlot.v (DV.int (IntKind.i64) (IntKind.i64.wrap (i + Int.ofNat 1)))))] [] []) [])) else none))))) else (k (DExit.exit (0)) (Go.Dv.S.stH 36 [(0, (DSlot.v (DV.fz (l)))), (3, (DSlot.v (DV.int (IntKind.i64) (t)))), (9, (DSlot.v (DV.fz (l)))), (10, (DSlot.v (DV.int (IntKind.i64) (n)))), (11, (DSlot.v (DV.int (IntKind.i64) (i)))), (12, (DSlot.v (DV.bool (decide (i < n)))))] [] []) [])) := by kernel_rfl
theorem b_slices_Concat_byte_byte_2 (Lp : LpT) (l : List (List DV)) (n i : Int) (m p : Nat) (cs : List DV) (k : KX (DRes × DHeap)) : bodyF P0 T0 Lp (Lt t_slices_Concat_byte_byte) nY [] 94 none 2 (stH 36 [(6, .v (.sl 0 0 m p 1)), (25, .v (.fz l)), (26, .v (.int .i64 n)), (27, .v (.int .i64 i))] [] [newBlk cs 5]) [] k =
  (bif (decide (i < n)) then (Option.bind (Go.Pv.idx i l.length) fun v0 => (Option.bind (l)[(v0)]? fun v1 => (Option.bind (Go.Dv.unc v1) fun v2 => (Option.bind (Go.Dv.toFz v2.fst) fun v3 => (bif (v2.snd.isEmpty) then (Option.bind (bif (v3.all fun (x : List Go.Dv.DV) => x.length.beq 1) then (some ((v3.length), (v3.flatten))) else none) fun v4 => (bif (((((m + v4.fst) * 1).ble 140737488355328) && ((m + v4.fst).ble 9223372036854775807)) && (Bool.true)) then (bif (Go.Dv.roomy v4.fst p) then (bif ((m * 1 + v4.snd.length).ble cs.length) then (k DExit.normal (Go.Dv.S.stH 36 [(6, (DSlot.v (DV.sl (0) (0) (m + v4.fst) (p - v4.fst) (1)))), (8, (DSlot.v (DV.fz (v3)))), (25, (DSlot.v (DV.fz (l)))), (26, (DSlot.v (DV.int (IntKind.i64) (n)))), (27, (DSlot.v (DV.int (IntKind.i64) (IntKind.i64.wrap (i + Int.ofNat 1))))), (28, (DSlot.v (DV.bool (decide (i < n))))), (29, (DSlot.v (DV.fp (Bool.true) [(DV.fz (v3))]))), (30, (DSlot.v (DV.fz (v3)))), (31, (DSlot.v (DV.sl (0) (0) (m) (p) (1)))), (32, (DSlot.v (DV.fz (v3)))), (33, (DSlot.v (DV.sl (0) (0) (m + v4.fst) (p - v4.fst) (1)))), (34, (DSlot.v (DV.int (IntKind.i64) (IntKind.i64.wrap (i + Int.ofNat 1)))))] [] [(DBlk.mk (Go.Dv.splice cs (m * 1) v4.snd) (5) (Bool.true) (Bool.false) (Bool.true) none)]) []) else none) else (bif ((m * 1).beq cs.length) then (k DExit.normal (Go.Dv.S.stH 36 [(6, (DSlot.v (DV.sl (1) (0) (m + v4.fst) (0) (1)))), (8, (DSlot.v (DV.fz (v3)))), (25, (DSlot.v (DV.fz (l)))), (26, (DSlot.v (DV.int (IntKind.i64) (n)))), (27, (DSlot.v (DV.int (IntKind.i64) (IntKind.i64.wrap (i + Int.ofNat 1))))), (28, (DSlot.v (DV.bool (decide (i < n))))), (29, (DSlot.v (DV.fp (Bool.true) [(DV.fz (v3))]))), (30, (DSlot.v (DV.fz (v3)))), (31, (DSlot.v (DV.sl (0) (0) (m) (p) (1)))), (32, (DSlot.v (DV.fz (v3)))), (33, (DSlot.v (DV.sl (1) (0) (m + v4.fst) (0) (1)))), (34, (DSlot.v (DV.int (IntKind.i64) (IntKind.i64.wrap (i + Int.ofNat 1)))))] [] [(DBlk.mk (cs) (5) (Bool.true) (Bool.false) (Bool.false) none), (DBlk.mk (cs ++ v4.snd) (5) (Bool.true) (Bool.false) (Bool.true) none)]) []) else none)) else none)) else none))))) else (k (DExit.exit (2)) (Go.Dv.S.stH 36 [(6, (DSlot.v (DV.sl (0) (0) (m) (p) (1)))), (25, (DSlot.v (DV.fz (l)))), (26, (DSlot.v (DV.int (IntKind.i64) (n)))), (27, (DSlot.v (DV.int (IntKind.i64) (i)))), (28, (DSlot.v (DV.bool (decide (i < n)))))] [] [(DBlk.mk (cs) (5) (Bool.true) (Bool.false) (Bool.true) none)]) [])) := by kernel_rfl
theorem e_der_isTag (Lp : LpT) (t : Int) : run P0 T0 Lp (Lt t_der_isTag) nY 93 [.int .i64 t] =
  (bif (decide (t ≥ 0)) then (bif (decide (t ≤ 255)) then (some ((DRes.ret (DV.bool (IntKind.i64.wrap (↑(BitVec.ofInt 64 t &&& BitVec.ofInt 64 (31 : Int)).toNat : Int) != Int.ofNat 31))), [])) else (some ((DRes.ret (DV.bool (Bool.false))), []))) else (some ((DRes.ret (DV.bool (Bool.false))), []))) := by kernel_rfl
theorem e_chanceryref01_IsTag (Lp : LpT) (t : Int) : run P0 T0 Lp (Lt t_chanceryref01_IsTag) nY 139 [.int .i64 t] =
  (bif (decide (t ≥ 0)) then (bif (decide (t < 256)) then (some ((DRes.ret (DV.bool (t.tmod (32 : Int) != Int.ofNat 31))), [])) else (some ((DRes.ret (DV.bool (Bool.false))), []))) else (some ((DRes.ret (DV.bool (Bool.false))), []))) := by kernel_rfl
theorem e_der_length (Lp : LpT) (t : Int) : run P0 T0 Lp (Lt t_der_length) nY 95 [.int .i64 t] =
  (bif (decide (t < 128)) then (some ((DRes.ret (DV.fz [[(DV.int (IntKind.u8) (IntKind.u8.wrap t))]])), [])) else (bif (decide (t < 256)) then (some ((DRes.ret (DV.fz [[(DV.int (IntKind.u8) (129 : Int))], [(DV.int (IntKind.u8) (IntKind.u8.wrap t))]])), [])) else (bif (decide (t < 65536)) then (some ((DRes.ret (DV.fz [[(DV.int (IntKind.u8) (130 : Int))], [(DV.int (IntKind.u8) (IntKind.u8.wrap (t.fdiv (256 : Int))))], [(DV.int (IntKind.u8) (IntKind.u8.wrap t))]])), [])) else (some ((DRes.ret (DV.fz [[(DV.int (IntKind.u8) (131 : Int))], [(DV.int (IntKind.u8) (IntKind.u8.wrap (t.fdiv (65536 : Int))))], [(DV.int (IntKind.u8) (IntKind.u8.wrap (t.fdiv (256 : Int))))], [(DV.int (IntKind.u8) (IntKind.u8.wrap t))]])), []))))) := by kernel_rfl
theorem e_der_Put (Lp : LpT) (s l : List (List DV)) (t : Int) : run P0 T0 Lp (Lt t_der_Put) nY 43 [.fz s, .int .i64 t, .fz l] =
  (bif (!Go.Dv.S.isTag t) then (some ((DRes.ret (DV.tup [(DV.sl (0) (0) (0) (0) (1)), (DV.int (IntKind.i64) (2 : Int))])), [(DBlk.mk [] (5) (Bool.true) (Bool.false) (Bool.true) none)])) else (Lp _ (tdF T0 43 none 0) ((bodyF P0 T0 Lp (Lt t_der_Put) nY [] 43 none 0 : FX (DRes × DHeap))) (kontF P0 T0 Lp (Lt t_der_Put) nY [] 43 0) (Go.Dv.S.stH 44 [(0, (DSlot.v (DV.fz (s)))), (1, (DSlot.v (DV.int (IntKind.i64) (t)))), (2, (DSlot.v (DV.fz (l)))), (8, (DSlot.v (DV.int (IntKind.i64) (0 : Int)))), (15, (DSlot.v (DV.fz (l)))), (16, (DSlot.v (DV.int (IntKind.i64) ((↑l.length : Int))))), (17, (DSlot.v (DV.int (IntKind.i64) (0 : Int))))] [] []) [])) := by kernel_rfl
theorem b_der_Put_0 (Lp : LpT) (s l : List (List DV)) (t n m i : Int) (k : KX (DRes × DHeap)) : bodyF P0 T0 Lp (Lt t_der_Put) nY [] 43 none 0 (stD 44 [(0, .v (.fz s)), (1, .v (.int .i64 t)), (2, .v (.fz l)), (8, .v (.int .i64 n)), (15, .v (.fz l)), (16, .v (.int .i64 m)), (17, .v (.int .i64 i))] []) [] k =
  (bif (decide (i < m)) then (Option.bind (Go.Pv.idx i l.length) fun v0 => (Option.bind (l)[(v0)]? fun v1 => (Option.bind (Go.Dv.unc v1) fun v2 => (Option.bind (Go.Dv.toFz v2.fst) fun v3 => (bif (v2.snd.isEmpty) then (bif (decide ((↑v3.length : Int) > Go.IntKind.i64.wrap (16777215 - n))) then (k DExit.ret (Go.Dv.S.stH 44 [(0, (DSlot.v (DV.fz (s)))), (1, (DSlot.v (DV.int (IntKind.i64) (t)))), (2, (DSlot.v (DV.fz (l)))), (6, (DSlot.v DV.nils)), (7, (DSlot.v (DV.int (IntKind.i64) (3 : Int)))), (8, (DSlot.v (DV.int (IntKind.i64) (n)))), (10, (DSlot.v (DV.fz (v3)))), (15, (DSlot.v (DV.fz (l)))), (16, (DSlot.v (DV.int (IntKind.i64) (m)))), (17, (DSlot.v (DV.int (IntKind.i64) (i)))), (18, (DSlot.v (DV.bool (decide (i < m))))), (19, (DSlot.v (DV.fp (Bool.true) [(DV.fz (v3))]))), (20, (DSlot.v (DV.fz (v3)))), (21, (DSlot.v (DV.fz (v3)))), (22, (DSlot.v (DV.int (IntKind.i64) ((↑v3.length : Int))))), (23, (DSlot.v (DV.int (IntKind.i64) (n)))), (24, (DSlot.v (DV.int (IntKind.i64) (IntKind.i64.wrap (Int.ofNat 16777215 - n))))), (25, (DSlot.v (DV.bool (decide ((↑v3.length : Int) > Go.IntKind.i64.wrap (16777215 - n))))))] [] []) []) else (k DExit.normal (Go.Dv.S.stH 44 [(0, (DSlot.v (DV.fz (s)))), (1, (DSlot.v (DV.int (IntKind.i64) (t)))), (2, (DSlot.v (DV.fz (l)))), (8, (DSlot.v (DV.int (IntKind.i64) (IntKind.i64.wrap (n + (↑v3.length : Int)))))), (10, (DSlot.v (DV.fz (v3)))), (15, (DSlot.v (DV.fz (l)))), (16, (DSlot.v (DV.int (IntKind.i64) (m)))), (17, (DSlot.v (DV.int (IntKind.i64) (IntKind.i64.wrap (i + Int.ofNat 1))))), (18, (DSlot.v (DV.bool (decide (i < m))))), (19, (DSlot.v (DV.fp (Bool.true) [(DV.fz (v3))]))), (20, (DSlot.v (DV.fz (v3)))), (21, (DSlot.v (DV.fz (v3)))), (22, (DSlot.v (DV.int (IntKind.i64) ((↑v3.length : Int))))), (23, (DSlot.v (DV.int (IntKind.i64) (n)))), (24, (DSlot.v (DV.int (IntKind.i64) (IntKind.i64.wrap (Int.ofNat 16777215 - n))))), (25, (DSlot.v (DV.bool (decide ((↑v3.length : Int) > Go.IntKind.i64.wrap (16777215 - n)))))), (26, (DSlot.v (DV.int (IntKind.i64) (n)))), (27, (DSlot.v (DV.fz (v3)))), (28, (DSlot.v (DV.int (IntKind.i64) ((↑v3.length : Int))))), (29, (DSlot.v (DV.int (IntKind.i64) (IntKind.i64.wrap (n + (↑v3.length : Int)))))), (30, (DSlot.v (DV.int (IntKind.i64) (IntKind.i64.wrap (i + Int.ofNat 1)))))] [] []) [])) else none))))) else (k (DExit.exit (0)) (Go.Dv.S.stH 44 [(0, (DSlot.v (DV.fz (s)))), (1, (DSlot.v (DV.int (IntKind.i64) (t)))), (2, (DSlot.v (DV.fz (l)))), (8, (DSlot.v (DV.int (IntKind.i64) (n)))), (15, (DSlot.v (DV.fz (l)))), (16, (DSlot.v (DV.int (IntKind.i64) (m)))), (17, (DSlot.v (DV.int (IntKind.i64) (i)))), (18, (DSlot.v (DV.bool (decide (i < m)))))] [] []) [])) := by kernel_rfl
theorem e_num_shortest (Lp : LpT) (s : List (List DV)) : run P0 T0 Lp (Lt t_num_shortest) nY 138 [.fz s] =
  (bif (decide ((↑s.length : Int) < 2)) then (some ((DRes.ret (DV.bool ((↑s.length : Int) == Int.ofNat 1))), [])) else (Option.bind (Go.Pv.idx (0 : Int) s.length) fun v0 => (Option.bind (s)[(v0)]? fun v1 => (Option.bind (Go.Dv.unc v1) fun v2 => (Option.bind (Go.Dv.toInt Go.IntKind.u8 v2.fst) fun v3 => (bif (v2.snd.isEmpty) then (bif (v3 == Int.ofNat 0) then (Option.bind (Go.Pv.idx (1 : Int) s.length) fun v4 => (Option.bind (s)[(v4)]? fun v5 => (Option.bind (Go.Dv.unc v5) fun v6 => (Option.bind (Go.Dv.toInt Go.IntKind.u8 v6.fst) fun v7 => (bif (v6.snd.isEmpty) then (bif (decide (v7 < 128)) then (some ((DRes.ret (DV.bool (Bool.false))), [])) else (Option.bind (Go.Pv.idx (0 : Int) s.length) fun v8 => (Option.bind (s)[(v8)]? fun v9 => (Option.bind (Go.Dv.unc v9) fun v10 => (Option.bind (Go.Dv.toInt Go.IntKind.u8 v10.fst) fun v11 => (bif (v10.snd.isEmpty) then (bif (v11 == Int.ofNat 255) then (Option.bind (Go.Pv.idx (1 : Int) s.length) fun v12 => (Option.bind (s)[(v12)]? fun v13 => (Option.bind (Go.Dv.unc v13) fun v14 => (Option.bind (Go.Dv.toInt Go.IntKind.u8 v14.fst) fun v15 => (bif (v14.snd.isEmpty) then (some ((DRes.ret (DV.bool (!decide (v15 ≥ 128)))), [])) else none))))) else (some ((DRes.ret (DV.bool (Bool.true))), []))) else none)))))) else none))))) else (Option.bind (Go.Pv.idx (0 : Int) s.length) fun v16 => (Option.bind (s)[(v16)]? fun v17 => (Option.bind (Go.Dv.unc v17) fun v18 => (Option.bind (Go.Dv.toInt Go.IntKind.u8 v18.fst) fun v19 => (bif (v18.snd.isEmpty) then (bif (v19 == Int.ofNat 255) then (Option.bind (Go.Pv.idx (1 : Int) s.length) fun v20 => (Option.bind (s)[(v20)]? fun v21 => (Option.bind (Go.Dv.unc v21) fun v22 => (Option.bind (Go.Dv.toInt Go.IntKind.u8 v22.fst) fun v23 => (bif (v22.snd.isEmpty) then (some ((DRes.ret (DV.bool (!decide (v23 ≥ 128)))), [])) else none))))) else (some ((DRes.ret (DV.bool (Bool.true))), []))) else none)))))) else none)))))) := by kernel_rfl
theorem e_num_Nat (Lp : LpT) (s : List (List DV)) : run P0 T0 Lp (Lt t_num_Nat) nY 44 [.fz s] =
  (Option.bind (Go.Dv.S.dB (DV.fz s)) fun v0 => (bif ((↑(Go.Dv.S.byt (Go.Dv.S.bare v0)).length : Int) == Int.ofNat 0) then (Option.bind (Go.Dv.S.dBs (DV.fz (Go.Dv.chunks 1 2 [DV.fz (Go.Dv.chunks 1 1 (List.take 1 (List.drop 0 (Go.Dv.splice (Go.Dv.repeatCells [DV.int Go.IntKind.u8 (0 : Int)] 1) 0 [DV.int Go.IntKind.u8 (0 : Int)])))), DV.fz (Go.Dv.S.byt (Go.Dv.S.bare v0))]))) fun v1 => (Option.bind (Option.bind (bif ((0 + v1.flatten.length * 1).ble (Go.Dv.ofBytes v1.flatten).length) then (some (List.take (v1.flatten.length * 1) (List.drop 0 (Go.Dv.ofBytes v1.flatten)))) else none) fun v2 => (Option.bind (Go.Dv.frozL v2) fun v3 => (some ((DV.fz (Go.Dv.chunks 1 v1.flatten.length v3)), [(2)])))) fun v4 => (some ((DRes.ret (v4.fst)), [])))) else (Option.bind (Go.Pv.idx (0 : Int) (Go.Dv.S.byt (Go.Dv.S.bare v0)).length) fun v5 => (Option.bind (Go.Dv.S.byt (Go.Dv.S.bare v0))[(v5)]? fun v6 => (Option.bind (Go.Dv.unc v6) fun v7 => (Option.bind (Go.Dv.toInt Go.IntKind.u8 v7.fst) fun v8 => (bif (v7.snd.isEmpty) then (bif (decide (v8 ≥ 128)) then (Option.bind (Go.Dv.S.dBs (DV.fz (Go.Dv.chunks 1 2 [DV.fz (Go.Dv.chunks 1 1 (List.take 1 (List.drop 0 (Go.Dv.splice (Go.Dv.repeatCells [DV.int Go.IntKind.u8 (0 : Int)] 1) 0 [DV.int Go.IntKind.u8 (0 : Int)])))), DV.fz (Go.Dv.S.byt (Go.Dv.S.bare v0))]))) fun v9 => (Option.bind (Option.bind (bif ((0 + v9.flatten.length * 1).ble (Go.Dv.ofBytes v9.flatten).length) then (some (List.take (v9.flatten.length * 1) (List.drop 0 (Go.Dv.ofBytes v9.flatten)))) else none) fun v10 => (Option.bind (Go.Dv.frozL v10) fun v11 => (some ((DV.fz (Go.Dv.chunks 1 v9.flatten.length v11)), [(2)])))) fun v12 => (some ((DRes.ret (v12.fst)), [])))) else (Option.bind (Go.Dv.S.dB (DV.fz (Go.Dv.S.byt (Go.Dv.S.bare v0)))) fun v13 => (some ((DRes.ret (DV.fz (Go.Dv.S.byt v13))), [])))) else none))))))) := by kernel_rfl
theorem e_num_ToNat (Lp : LpT) (s : List (List DV)) : run P0 T0 Lp (Lt t_num_ToNat) nY 102 [.fz s] =
  (Option.bind (Go.Dv.S.dB (DV.fz s)) fun v0 => (bif (!Go.Dv.S.short v0) then (some ((DRes.ret (DV.tup [(DV.fz []), (DV.int (IntKind.i64) (20 : Int))])), [])) else (Option.bind (Go.Pv.idx (0 : Int) s.length) fun v1 => (Option.bind (s)[(v1)]? fun v2 => (Option.bind (Go.Dv.unc v2) fun v3 => (Option.bind (Go.Dv.toInt Go.IntKind.u8 v3.fst) fun v4 => (bif (v3.snd.isEmpty) then (bif (decide (v4 ≥ 128)) then (some ((DRes.ret (DV.tup [(DV.fz []), (DV.int (IntKind.i64) (22 : Int))])), [])) else (Option.bind (Go.Dv.S.dB (DV.fz s)) fun v5 => (Option.bind (Go.Dv.S.dB (DV.fz (Go.Dv.S.byt (Go.Dv.S.bare v5)))) fun v6 => (some ((DRes.ret (DV.tup [(DV.fz (Go.Dv.S.byt v6)), (DV.int (IntKind.i64) (0 : Int))])), []))))) else none))))))) := by kernel_rfl
theorem e_der_head (Lp : LpT) (s : List (List DV)) : run P0 T0 Lp (Lt t_der_head) nY 136 [.fz s] =
  (bif ((↑s.length : Int) == Int.ofNat 0) then (some ((DRes.ret (DV.tup [(DV.int (IntKind.i64) (0 : Int)), (DV.int (IntKind.i64) (0 : Int)), (DV.int (IntKind.i64) (0 : Int)), (DV.int (IntKind.i64) (10 : Int))])), [])) else (Option.bind (Go.Pv.idx (0 : Int) s.length) fun v0 => (Option.bind (s)[(v0)]? fun v1 => (Option.bind (Go.Dv.unc v1) fun v2 => (Option.bind (Go.Dv.toInt Go.IntKind.u8 v2.fst) fun v3 => (bif (v2.snd.isEmpty) then (bif (!Go.Dv.S.isTag (IntKind.i64.wrap v3)) then (some ((DRes.ret (DV.tup [(DV.int (IntKind.i64) (0 : Int)), (DV.int (IntKind.i64) (0 : Int)), (DV.int (IntKind.i64) (0 : Int)), (DV.int (IntKind.i64) (11 : Int))])), [])) else (bif ((↑s.length : Int) == Int.ofNat 1) then (some ((DRes.ret (DV.tup [(DV.int (IntKind.i64) (0 : Int)), (DV.int (IntKind.i64) (0 : Int)), (DV.int (IntKind.i64) (0 : Int)), (DV.int (IntKind.i64) (10 : Int))])), [])) else (Option.bind (Go.Pv.idx (1 : Int) s.length) fun v4 => (Option.bind (s)[(v4)]? fun v5 => (Option.bind (Go.Dv.unc v5) fun v6 => (Option.bind (Go.Dv.toInt Go.IntKind.u8 v6.fst) fun v7 => (bif (v6.snd.isEmpty) then (bif (decide (IntKind.i64.wrap (IntKind.i64.wrap v7 - 128) < 0)) then (Option.bind (Go.Pv.idx (0 : Int) s.length) fun v8 => (Option.bind (s)[(v8)]? fun v9 => (Option.bind (Go.Dv.unc v9) fun v10 => (Option.bind (Go.Dv.toInt Go.IntKind.u8 v10.fst) fun v11 => (bif (v10.snd.isEmpty) then (Option.bind (Go.Pv.idx (1 : Int) s.length) fun v12 => (Option.bind (s)[(v12)]? fun v13 => (Option.bind (Go.Dv.unc v13) fun v14 => (Option.bind (Go.Dv.toInt Go.IntKind.u8 v14.fst) fun v15 => (bif (v14.snd.isEmpty) then (some ((DRes.ret (DV.tup [(DV.int (IntKind.i64) (IntKind.i64.wrap v11)), (DV.int (IntKind.i64) (2 : Int)), (DV.int (IntKind.i64) (IntKind.i64.wrap v15)), (DV.int (IntKind.i64) (0 : Int))])), [])) else none))))) else none))))) else (bif (IntKind.i64.wrap (IntKind.i64.wrap v7 - Int.ofNat 128) == Int.ofNat 0) then (some ((DRes.ret (DV.tup [(DV.int (IntKind.i64) (0 : Int)), (DV.int (IntKind.i64) (0 : Int)), (DV.int (IntKind.i64) (0 : Int)), (DV.int (IntKind.i64) (12 : Int))])), [])) else (bif (decide (IntKind.i64.wrap (IntKind.i64.wrap v7 - 128) > 3)) then (some ((DRes.ret (DV.tup [(DV.int (IntKind.i64) (0 : Int)), (DV.int (IntKind.i64) (0 : Int)), (DV.int (IntKind.i64) (0 : Int)), (DV.int (IntKind.i64) (12 : Int))])), [])) else (bif (decide ((↑s.length : Int) > 2)) then (Option.bind (Go.Pv.idx (2 : Int) s.length) fun v16 => (Option.bind (s)[(v16)]? fun v17 => (Option.bind (Go.Dv.unc v17) fun v18 => (Option.bind (Go.Dv.toInt Go.IntKind.u8 v18.fst) fun v19 => (bif (v18.snd.isEmpty) then (bif (v19 == Int.ofNat 0) then (some ((DRes.ret (DV.tup [(DV.int (IntKind.i64) (0 : Int)), (DV.int (IntKind.i64) (0 : Int)), (DV.int (IntKind.i64) (0 : Int)), (DV.int (IntKind.i64) (12 : Int))])), [])) else (bif (decide ((↑s.length : Int) < Go.IntKind.i64.wrap (2 + Go.IntKind.i64.wrap (IntKind.i64.wrap v7 - 128)))) then (some ((DRes.ret (DV.tup [(DV.int (IntKind.i64) (0 : Int)), (DV.int (IntKind.i64) (0 : Int)), (DV.int (IntKind.i64) (0 : Int)), (DV.int (IntKind.i64) (10 : Int))])), [])) else (Option.bind (Go.Pv.upTo (IntKind.i64.wrap (Int.ofNat 2 + Go.IntKind.i64.wrap (IntKind.i64.wrap v7 - Int.ofNat 128))) s.length) fun v20 => (Option.bind (Go.Pv.upTo (2 : Int) v20) fun v21 => (bif (s.all fun (x : List Go.Dv.DV) => x.length.beq 1) then (Lp _ (tdF T0 136 none 2) ((bodyF P0 T0 Lp (Lt t_der_head) nY [] 136 none 2 : FX (DRes × DHeap))) (kontF P0 T0 Lp (Lt t_der_head) nY [] 136 2) (Go.Dv.S.stH 88 [(0, (DSlot.v (DV.fz (s)))), (4, (DSlot.v (DV.int (IntKind.i64) (0 : Int)))), (6, (DSlot.v (DV.int (IntKind.i64) (IntKind.i64.wrap (IntKind.i64.wrap v7 - Int.ofNat 128))))), (67, (DSlot.v (DV.fz (List.drop v21 (List.take v20 s))))), (68, (DSlot.v (DV.int (IntKind.i64) ((↑(List.drop v21 (List.take v20 s)).length : Int))))), (69, (DSlot.v (DV.int (IntKind.i64) (0 : Int))))] [] []) []) else none))))) else none))))) else (bif (decide ((↑s.length : Int) < Go.IntKind.i64.wrap (2 + Go.IntKind.i64.wrap (IntKind.i64.wrap v7 - 128)))) then (some ((DRes.ret (DV.tup [(DV.int (IntKind.i64) (0 : Int)), (DV.int (IntKind.i64) (0 : Int)), (DV.int (IntKind.i64) (0 : Int)), (DV.int (IntKind.i64) (10 : Int))])), [])) else (Option.bind (Go.Pv.upTo (IntKind.i64.wrap (Int.ofNat 2 + Go.IntKind.i64.wrap (IntKind.i64.wrap v7 - Int.ofNat 128))) s.length) fun v22 => (Option.bind (Go.Pv.upTo (2 : Int) v22) fun v23 => (bif (s.all fun (x : List Go.Dv.DV) => x.length.beq 1) then (Lp _ (tdF T0 136 none 2) ((bodyF P0 T0 Lp (Lt t_der_head) nY [] 136 none 2 : FX (DRes × DHeap))) (kontF P0 T0 Lp (Lt t_der_head) nY [] 136 2) (Go.Dv.S.stH 88 [(0, (DSlot.v (DV.fz (s)))), (4, (DSlot.v (DV.int (IntKind.i64) (0 : Int)))), (6, (DSlot.v (DV.int (IntKind.i64) (IntKind.i64.wrap (IntKind.i64.wrap v7 - Int.ofNat 128))))), (67, (DSlot.v (DV.fz (List.drop v23 (List.take v22 s))))), (68, (DSlot.v (DV.int (IntKind.i64) ((↑(List.drop v23 (List.take v22 s)).length : Int))))), (69, (DSlot.v (DV.int (IntKind.i64) (0 : Int))))] [] []) []) else none)))))))) else none))))))) else none)))))) := by kernel_rfl
theorem b_der_head_2 (Lp : LpT) (s l : List (List DV)) (n q m i : Int) (k : KX (DRes × DHeap)) : bodyF P0 T0 Lp (Lt t_der_head) nY [] 136 none 2 (stD 88 [(0, .v (.fz s)), (4, .v (.int .i64 n)), (6, .v (.int .i64 q)), (67, .v (.fz l)), (68, .v (.int .i64 m)), (69, .v (.int .i64 i))] []) [] k =
  (bif (decide (i < m)) then (Option.bind (Go.Pv.idx i l.length) fun v0 => (Option.bind (l)[(v0)]? fun v1 => (Option.bind (Go.Dv.unc v1) fun v2 => (Option.bind (Go.Dv.toInt Go.IntKind.u8 v2.fst) fun v3 => (bif (v2.snd.isEmpty) then (k DExit.normal (Go.Dv.S.stH 88 [(0, (DSlot.v (DV.fz (s)))), (4, (DSlot.v (DV.int (IntKind.i64) (IntKind.i64.wrap (↑(BitVec.ofInt 64 (IntKind.i64.wrap (n * Int.ofNat 256)) ||| BitVec.ofInt 64 (IntKind.i64.wrap v3)).toNat : Int))))), (6, (DSlot.v (DV.int (IntKind.i64) (q)))), (8, (DSlot.v (DV.int (IntKind.u8) (v3)))), (67, (DSlot.v (DV.fz (l)))), (68, (DSlot.v (DV.int (IntKind.i64) (m)))), (69, (DSlot.v (DV.int (IntKind.i64) (IntKind.i64.wrap (i + Int.ofNat 1))))), (70, (DSlot.v (DV.bool (decide (i < m))))), (71, (DSlot.v (DV.fp (Bool.true) [(DV.int (IntKind.u8) (v3))]))), (72, (DSlot.v (DV.int (IntKind.u8) (v3)))), (73, (DSlot.v (DV.int (IntKind.i64) (n)))), (74, (DSlot.v (DV.int (IntKind.i64) (IntKind.i64.wrap (n * Int.ofNat 256))))), (75, (DSlot.v (DV.int (IntKind.u8) (v3)))), (76, (DSlot.v (DV.int (IntKind.i64) (IntKind.i64.wrap v3)))), (77, (DSlot.v (DV.int (IntKind.i64) (IntKind.i64.wrap (↑(BitVec.ofInt 64 (IntKind.i64.wrap (n * Int.ofNat 256)) ||| BitVec.ofInt 64 (IntKind.i64.wrap v3)).toNat : Int))))), (78, (DSlot.v (DV.int (IntKind.i64) (IntKind.i64.wrap (i + Int.ofNat 1)))))] [] []) []) else none))))) else (k (DExit.exit (2)) (Go.Dv.S.stH 88 [(0, (DSlot.v (DV.fz (s)))), (4, (DSlot.v (DV.int (IntKind.i64) (n)))), (6, (DSlot.v (DV.int (IntKind.i64) (q)))), (67, (DSlot.v (DV.fz (l)))), (68, (DSlot.v (DV.int (IntKind.i64) (m)))), (69, (DSlot.v (DV.int (IntKind.i64) (i)))), (70, (DSlot.v (DV.bool (decide (i < m)))))] [] []) [])) := by kernel_rfl
theorem e_der_Take (Lp : LpT) (s : List (List DV)) : run P0 T0 Lp (Lt t_der_Take) nY 99 [.fz s] =
  (Option.bind (Go.Dv.S.dB (DV.fz s)) fun v0 => (bif ((Go.Dv.S.head v0).fst == Int.ofNat 0) then (bif (decide (IntKind.i64.wrap ((↑s.length : Int) - (↑(Go.Dv.S.head v0).snd.fst : Int)) < (↑(Go.Dv.S.head v0).snd.snd : Int))) then (some ((DRes.ret (DV.tup [(DV.agg [(DV.int (IntKind.i64) (0 : Int)), (DV.fz [])]), (DV.int (IntKind.i64) (0 : Int)), (DV.int (IntKind.i64) (10 : Int))])), [])) else (bif ((Go.Dv.S.head v0).fst != Int.ofNat 0) then (some ((DRes.ret (DV.tup [(DV.agg [(DV.int (IntKind.i64) (0 : Int)), (DV.fz [])]), (DV.int (IntKind.i64) (0 : Int)), (DV.int (IntKind.i64) ((Go.Dv.S.head v0).fst))])), [])) else (Option.bind (Go.Pv.upTo (IntKind.i64.wrap ((↑(Go.Dv.S.head v0).snd.fst : Int) + (↑(Go.Dv.S.head v0).snd.snd : Int))) s.length) fun v1 => (Option.bind (Go.Pv.upTo (↑(Go.Dv.S.head v0).snd.fst : Int) v1) fun v2 => (bif (s.all fun (x : List Go.Dv.DV) => x.length.beq 1) then (Option.bind (Go.Dv.S.dB (DV.fz (List.drop v2 (List.take v1 s)))) fun v3 => (some ((DRes.ret (DV.tup [(DV.agg [(DV.int (IntKind.i64) (Go.Dv.S.tagOf v0)), (DV.fz (Go.Dv.S.byt v3))]), (DV.int (IntKind.i64) (IntKind.i64.wrap ((↑(Go.Dv.S.head v0).snd.fst : Int) + (↑(Go.Dv.S.head v0).snd.snd : Int)))), (DV.int (IntKind.i64) (0 : Int))])), []))) else none))))) else (bif ((Go.Dv.S.head v0).fst != Int.ofNat 0) then (some ((DRes.ret (DV.tup [(DV.agg [(DV.int (IntKind.i64) (0 : Int)), (DV.fz [])]), (DV.int (IntKind.i64) (0 : Int)), (DV.int (IntKind.i64) ((Go.Dv.S.head v0).fst))])), [])) else (Option.bind (Go.Pv.upTo (IntKind.i64.wrap ((↑(Go.Dv.S.head v0).snd.fst : Int) + (↑(Go.Dv.S.head v0).snd.snd : Int))) s.length) fun v4 => (Option.bind (Go.Pv.upTo (↑(Go.Dv.S.head v0).snd.fst : Int) v4) fun v5 => (bif (s.all fun (x : List Go.Dv.DV) => x.length.beq 1) then (Option.bind (Go.Dv.S.dB (DV.fz (List.drop v5 (List.take v4 s)))) fun v6 => (some ((DRes.ret (DV.tup [(DV.agg [(DV.int (IntKind.i64) (Go.Dv.S.tagOf v0)), (DV.fz (Go.Dv.S.byt v6))]), (DV.int (IntKind.i64) (IntKind.i64.wrap ((↑(Go.Dv.S.head v0).snd.fst : Int) + (↑(Go.Dv.S.head v0).snd.snd : Int)))), (DV.int (IntKind.i64) (0 : Int))])), []))) else none)))))) := by kernel_rfl
theorem e_der_One (Lp : LpT) (s : List (List DV)) : run P0 T0 Lp (Lt t_der_One) nY 47 [.fz s] =
  (Option.bind (Go.Dv.S.dB (DV.fz s)) fun v0 => (bif (Go.Dv.S.takeE v0 == Int.ofNat 0) then (bif (decide ((↑(Go.Dv.S.takeN v0) : Int) < (↑s.length : Int))) then (some ((DRes.ret (DV.tup [(DV.agg [(DV.int (IntKind.i64) (0 : Int)), (DV.fz [])]), (DV.int (IntKind.i64) (13 : Int))])), [])) else (some ((DRes.ret (DV.tup [(DV.agg [(DV.int (IntKind.i64) (Go.Dv.S.takeT v0)), (DV.fz (Go.Dv.S.byt (Go.Dv.S.takeC v0)))]), (DV.int (IntKind.i64) (Go.Dv.S.takeE v0))])), []))) else (some ((DRes.ret (DV.tup [(DV.agg [(DV.int (IntKind.i64) (Go.Dv.S.takeT v0)), (DV.fz (Go.Dv.S.byt (Go.Dv.S.takeC v0)))]), (DV.int (IntKind.i64) (Go.Dv.S.takeE v0))])), [])))) := by kernel_rfl
theorem e_der_Size (Lp : LpT) (n : Int) : run P0 T0 Lp (Lt t_der_Size) nY 101 [.int .i64 n] =
  (bif (decide (n < 0)) then (some ((DRes.ret (DV.int (IntKind.i64) (0 : Int))), [])) else (bif (decide (n > 16777215)) then (some ((DRes.ret (DV.int (IntKind.i64) (0 : Int))), [])) else (Option.bind (Go.Dv.S.dM (DV.int Go.IntKind.i64 n)) fun v0 => (some ((DRes.ret (DV.int (IntKind.i64) (IntKind.i64.wrap (Int.ofNat 1 + (↑(Go.Dv.S.byt (Go.Dv.S.lenB v0)).length : Int))))), []))))) := by kernel_rfl
theorem e_der_Each (Lp : LpT) (s : List (List DV)) : run P0 T0 Lp (Lt t_der_Each) nY 100 [.fz s] =
  (Option.bind (Go.Dv.S.dB (DV.fz s)) fun v0 => (some ((DRes.ret (DV.func (137) [] [(DV.fp (Bool.false) [(DV.fz (Go.Dv.S.byt v0))])])), []))) := by kernel_rfl
theorem e_chanceryref02_Shortest (Lp : LpT) (s : List (List DV)) : run P0 T0 Lp (Lt t_chanceryref02_Shortest) nY 105 [.fz s] =
  (bif ((↑s.length : Int) == Int.ofNat 0) then (some ((DRes.ret (DV.bool (Bool.false))), [])) else (bif ((↑s.length : Int) == Int.ofNat 1) then (some ((DRes.ret (DV.bool (Bool.true))), [])) else (Option.bind (Go.Pv.idx (0 : Int) s.length) fun v0 => (Option.bind (s)[(v0)]? fun v1 => (Option.bind (Go.Dv.unc v1) fun v2 => (Option.bind (Go.Dv.toInt Go.IntKind.u8 v2.fst) fun v3 => (bif (v2.snd.isEmpty) then (Option.bind (Go.Pv.idx (1 : Int) s.length) fun v4 => (Option.bind (s)[(v4)]? fun v5 => (Option.bind (Go.Dv.unc v5) fun v6 => (Option.bind (Go.Dv.toInt Go.IntKind.u8 v6.fst) fun v7 => (bif (v6.snd.isEmpty) then (bif (IntKind.i64.wrap (IntKind.i64.wrap (IntKind.i64.wrap v3 * Int.ofNat 2) + Go.IntKind.i64.wrap ((IntKind.i64.wrap v7).tdiv (128 : Int))) != Int.ofNat 0) then (some ((DRes.ret (DV.bool (IntKind.i64.wrap (IntKind.i64.wrap (IntKind.i64.wrap v3 * Int.ofNat 2) + Go.IntKind.i64.wrap ((IntKind.i64.wrap v7).tdiv (128 : Int))) != Int.ofNat 511))), [])) else (some ((DRes.ret (DV.bool (Bool.false))), []))) else none))))) else none))))))) := by kernel_rfl
theorem e_chanceryref02_bare (Lp : LpT) (s : List (List DV)) : run P0 T0 Lp (Lt t_chanceryref02_bare) nY 98 [.fz s] =
  (Lp _ (tdF T0 98 none 0) ((bodyF P0 T0 Lp (Lt t_chanceryref02_bare) nY [] 98 none 0 : FX (DRes × DHeap))) (kontF P0 T0 Lp (Lt t_chanceryref02_bare) nY [] 98 0) (Go.Dv.S.stH 22 [(0, (DSlot.v (DV.fz (s)))), (3, (DSlot.v (DV.int (IntKind.i64) (0 : Int))))] [] []) []) := by kernel_rfl
theorem b_chanceryref02_bare_0 (Lp : LpT) (s : List (List DV)) (i : Int) (k : KX (DRes × DHeap)) : bodyF P0 T0 Lp (Lt t_chanceryref02_bare) nY [] 98 none 0 (stD 22 [(0, .v (.fz s)), (3, .v (.int .i64 i))] []) [] k =
  (bif (decide (i < (↑s.length : Int))) then (Option.bind (Go.Pv.idx i s.length) fun v0 => (Option.bind (s)[(v0)]? fun v1 => (Option.bind (Go.Dv.unc v1) fun v2 => (Option.bind (Go.Dv.toInt Go.IntKind.u8 v2.fst) fun v3 => (bif (v2.snd.isEmpty) then (bif (v3 == Int.ofNat 0) then (k DExit.normal (Go.Dv.S.stH 22 [(0, (DSlot.v (DV.fz (s)))), (3, (DSlot.v (DV.int (IntKind.i64) (IntKind.i64.wrap (i + Int.ofNat 1))))), (4, (DSlot.v (DV.int (IntKind.i64) (i)))), (5, (DSlot.v (DV.fz (s)))), (6, (DSlot.v (DV.int (IntKind.i64) ((↑s.length : Int))))), (7, (DSlot.v (DV.bool (decide (i < (↑s.length : Int)))))), (8, (DSlot.v (DV.bool (Bool.true)))), (9, (DSlot.v (DV.fz (s)))), (10, (DSlot.v (DV.int (IntKind.i64) (i)))), (11, (DSlot.v (DV.fp (Bool.true) [(DV.int (IntKind.u8) (v3))]))), (12, (DSlot.v (DV.int (IntKind.u8) (v3)))), (13, (DSlot.v (DV.bool (v3 == Int.ofNat 0)))), (14, (DSlot.v (DV.bool (v3 == Int.ofNat 0)))), (15, (DSlot.v (DV.int (IntKind.i64) (i)))), (16, (DSlot.v (DV.int (IntKind.i64) (IntKind.i64.wrap (i + Int.ofNat 1)))))] [] []) []) else (k (DExit.exit (0)) (Go.Dv.S.stH 22 [(0, (DSlot.v (DV.fz (s)))), (3, (DSlot.v (DV.int (IntKind.i64) (i)))), (4, (DSlot.v (DV.int (IntKind.i64) (i)))), (5, (DSlot.v (DV.fz (s)))), (6, (DSlot.v (DV.int (IntKind.i64) ((↑s.length : Int))))), (7, (DSlot.v (DV.bool (decide (i < (↑s.length : Int)))))), (8, (DSlot.v (DV.bool (Bool.true)))), (9, (DSlot.v (DV.fz (s)))), (10, (DSlot.v (DV.int (IntKind.i64) (i)))), (11, (DSlot.v (DV.fp (Bool.true) [(DV.int (IntKind.u8) (v3))]))), (12, (DSlot.v (DV.int (IntKind.u8) (v3)))), (13, (DSlot.v (DV.bool (v3 == Int.ofNat 0)))), (14, (DSlot.v (DV.bool (v3 == Int.ofNat 0))))] [] []) [])) else none))))) else (k (DExit.exit (0)) (Go.Dv.S.stH 22 [(0, (DSlot.v (DV.fz (s)))), (3, (DSlot.v (DV.int (IntKind.i64) (i)))), (4, (DSlot.v (DV.int (IntKind.i64) (i)))), (5, (DSlot.v (DV.fz (s)))), (6, (DSlot.v (DV.int (IntKind.i64) ((↑s.length : Int))))), (7, (DSlot.v (DV.bool (decide (i < (↑s.length : Int)))))), (8, (DSlot.v (DV.bool (Bool.false)))), (9, (DSlot.v (DV.tup []))), (10, (DSlot.v (DV.tup []))), (11, (DSlot.v (DV.tup []))), (12, (DSlot.v (DV.tup []))), (13, (DSlot.v (DV.tup []))), (14, (DSlot.v (DV.bool (Bool.false))))] [] []) [])) := by kernel_rfl
theorem e_chanceryref02_Nat (Lp : LpT) (s : List (List DV)) : run P0 T0 Lp (Lt t_chanceryref02_Nat) nY 46 [.fz s] =
  (Option.bind (Go.Dv.S.dB (DV.fz s)) fun v0 => (bif ((↑(Go.Dv.S.byt (Go.Dv.S.bare v0)).length : Int) == Int.ofNat 0) then (Option.bind (bif ((Go.Dv.S.byt (Go.Dv.S.bare v0)).all fun (x : List Go.Dv.DV) => x.length.beq 1) then (some (((Go.Dv.S.byt (Go.Dv.S.bare v0)).length), ((Go.Dv.S.byt (Go.Dv.S.bare v0)).flatten))) else none) fun v1 => (bif (((((1 + v1.fst) * 1).ble 140737488355328) && ((1 + v1.fst).ble 9223372036854775807)) && (Bool.true)) then (Option.bind (Option.bind (bif ((0 + (1 + v1.fst) * 1).ble (Go.Dv.splice (Go.Dv.repeatCells [DV.int Go.IntKind.u8 (0 : Int)] 1) 0 [DV.int Go.IntKind.u8 (0 : Int)] ++ v1.snd).length) then (some (List.take ((1 + v1.fst) * 1) (List.drop 0 (Go.Dv.splice (Go.Dv.repeatCells [DV.int Go.IntKind.u8 (0 : Int)] 1) 0 [DV.int Go.IntKind.u8 (0 : Int)] ++ v1.snd)))) else none) fun v2 => (Option.bind (Go.Dv.frozL v2) fun v3 => (some ((DV.fz (Go.Dv.chunks 1 (1 + v1.fst) v3)), [(1)])))) fun v4 => (some ((DRes.ret (v4.fst)), []))) else none)) else (Option.bind (Go.Pv.idx (0 : Int) (Go.Dv.S.byt (Go.Dv.S.bare v0)).length) fun v5 => (Option.bind (Go.Dv.S.byt (Go.Dv.S.bare v0))[(v5)]? fun v6 => (Option.bind (Go.Dv.unc v6) fun v7 => (Option.bind (Go.Dv.toInt Go.IntKind.u8 v7.fst) fun v8 => (bif (v7.snd.isEmpty) then (bif (decide (v8 ≥ 128)) then (Option.bind (bif ((Go.Dv.S.byt (Go.Dv.S.bare v0)).all fun (x : List Go.Dv.DV) => x.length.beq 1) then (some (((Go.Dv.S.byt (Go.Dv.S.bare v0)).length), ((Go.Dv.S.byt (Go.Dv.S.bare v0)).flatten))) else none) fun v9 => (bif (((((1 + v9.fst) * 1).ble 140737488355328) && ((1 + v9.fst).ble 9223372036854775807)) && (Bool.true)) then (Option.bind (Option.bind (bif ((0 + (1 + v9.fst) * 1).ble (Go.Dv.splice (Go.Dv.repeatCells [DV.int Go.IntKind.u8 (0 : Int)] 1) 0 [DV.int Go.IntKind.u8 (0 : Int)] ++ v9.snd).length) then (some (List.take ((1 + v9.fst) * 1) (List.drop 0 (Go.Dv.splice (Go.Dv.repeatCells [DV.int Go.IntKind.u8 (0 : Int)] 1) 0 [DV.int Go.IntKind.u8 (0 : Int)] ++ v9.snd)))) else none) fun v10 => (Option.bind (Go.Dv.frozL v10) fun v11 => (some ((DV.fz (Go.Dv.chunks 1 (1 + v9.fst) v11)), [(1)])))) fun v12 => (some ((DRes.ret (v12.fst)), []))) else none)) else (some ((DRes.ret (DV.fz (Go.Dv.S.byt (Go.Dv.S.bare v0)))), []))) else none))))))) := by kernel_rfl
theorem e_chanceryref02_ToNat (Lp : LpT) (s : List (List DV)) : run P0 T0 Lp (Lt t_chanceryref02_ToNat) nY 52 [.fz s] =
  (Option.bind (Go.Dv.S.dB (DV.fz s)) fun v0 => (bif (!Go.Dv.S.short v0) then (some ((DRes.ret (DV.tup [(DV.fz []), (DV.int (IntKind.i64) (20 : Int))])), [])) else (Option.bind (Go.Pv.idx (0 : Int) s.length) fun v1 => (Option.bind (s)[(v1)]? fun v2 => (Option.bind (Go.Dv.unc v2) fun v3 => (Option.bind (Go.Dv.toInt Go.IntKind.u8 v3.fst) fun v4 => (bif (v3.snd.isEmpty) then (bif (decide (v4 ≥ 128)) then (some ((DRes.ret (DV.tup [(DV.fz []), (DV.int (IntKind.i64) (22 : Int))])), [])) else (Option.bind (Go.Dv.S.dB (DV.fz s)) fun v5 => (some ((DRes.ret (DV.tup [(DV.fz (Go.Dv.S.byt (Go.Dv.S.bare v5))), (DV.int (IntKind.i64) (0 : Int))])), [])))) else none))))))) := by kernel_rfl
theorem e_chanceryref01_Length (Lp : LpT) (n : Int) : run P0 T0 Lp (Lt t_chanceryref01_Length) nY 97 [.int .i64 n] =
  (bif (decide (n < 128)) then (some ((DRes.ret (DV.fz [[(DV.int (IntKind.u8) (IntKind.u8.wrap n))]])), [])) else (Lp _ (tdF T0 97 none 0) ((bodyF P0 T0 Lp (Lt t_chanceryref01_Length) nY [] 97 none 0 : FX (DRes × DHeap))) (kontF P0 T0 Lp (Lt t_chanceryref01_Length) nY [] 97 0) (Go.Dv.S.stH 26 [(0, (DSlot.v (DV.int (IntKind.i64) (n)))), (3, (DSlot.v (DV.sl (0) (0) (0) (0) (1))))] [] [(DBlk.mk [] (5) (Bool.true) (Bool.false) (Bool.true) none)]) [])) := by kernel_rfl
theorem b_chanceryref01_Length_0 (Lp : LpT) (n : Int) (m : Nat) (cs : List DV) (k : KX (DRes × DHeap)) : bodyF P0 T0 Lp (Lt t_chanceryref01_Length) nY [] 97 none 0 (stH 26 [(0, .v (.int .i64 n)), (3, .v (.sl 0 0 m 0 1))] [] [newBlk cs 5]) [] k =
  (bif (decide (n > 0)) then (Option.bind (Option.bind (bif ((0 + m * 1).ble cs.length) then (some (List.take (m * 1) (List.drop 0 cs))) else none) fun v0 => (some ((m), (v0)))) fun v1 => (bif (((((1 + v1.fst) * 1).ble 140737488355328) && ((1 + v1.fst).ble 9223372036854775807)) && (Bool.true)) then (k DExit.normal (Go.Dv.S.stH 26 [(0, (DSlot.v (DV.int (IntKind.i64) (IntKind.i64.wrap (n.tdiv (256 : Int)))))), (3, (DSlot.v (DV.sl (2) (0) (1 + v1.fst) (0) (1)))), (9, (DSlot.v (DV.int (IntKind.i64) (n)))), (10, (DSlot.v (DV.bool (decide (n > 0))))), (11, (DSlot.v (DV.int (IntKind.i64) (n)))), (12, (DSlot.v (DV.int (IntKind.i64) (n.tmod (256 : Int))))), (13, (DSlot.v (DV.int (IntKind.u8) (IntKind.u8.wrap (n.tmod (256 : Int)))))), (14, (DSlot.v (DV.sl (1) (0) (1) (0) (1)))), (15, (DSlot.v (DV.sl (0) (0) (m) (0) (1)))), (16, (DSlot.v (DV.sl (2) (0) (1 + v1.fst) (0) (1)))), (17, (DSlot.v (DV.int (IntKind.i64) (n)))), (18, (DSlot.v (DV.int (IntKind.i64) (IntKind.i64.wrap (n.tdiv (256 : Int))))))] [] [(DBlk.mk (cs) (5) (Bool.true) (Bool.false) (Bool.true) none), (DBlk.mk [(DV.int (IntKind.u8) (IntKind.u8.wrap (n.tmod (256 : Int))))] (5) (Bool.true) (Bool.false) (Bool.false) none), (DBlk.mk (Go.Dv.splice (Go.Dv.repeatCells [DV.int Go.IntKind.u8 (0 : Int)] 1) 0 [DV.int Go.IntKind.u8 (IntKind.u8.wrap (n.tmod (256 : Int)))] ++ v1.snd) (5) (Bool.true) (Bool.false) (Bool.true) none)]) []) else none)) else (k (DExit.exit (0)) (Go.Dv.S.stH 26 [(0, (DSlot.v (DV.int (IntKind.i64) (n)))), (3, (DSlot.v (DV.sl (0) (0) (m) (0) (1)))), (9, (DSlot.v (DV.int (IntKind.i64) (n)))), (10, (DSlot.v (DV.bool (decide (n > 0)))))] [] [(DBlk.mk (cs) (5) (Bool.true) (Bool.false) (Bool.true) none)]) [])) := by kernel_rfl
theorem e_chanceryref01_Bytes (Lp : LpT) (s : List (List DV)) (t : Int) : run P0 T0 Lp (Lt t_chanceryref01_Bytes) nY 45 [.agg [.int .i64 t, .fz s]] =
  (Option.bind (Go.Dv.S.dM (DV.int Go.IntKind.i64 (↑s.length : Int))) fun v0 => (Option.bind (bif ((Go.Dv.S.byt (Go.Dv.S.lenB v0)).all fun (x : List Go.Dv.DV) => x.length.beq 1) then (some (((Go.Dv.S.byt (Go.Dv.S.lenB v0)).length), ((Go.Dv.S.byt (Go.Dv.S.lenB v0)).flatten))) else none) fun v1 => (bif (((((1 + v1.fst) * 1).ble 140737488355328) && ((1 + v1.fst).ble 9223372036854775807)) && (Bool.true)) then (Option.bind (bif (s.all fun (x : List Go.Dv.DV) => x.length.beq 1) then (some ((s.length), (s.flatten))) else none) fun v2 => (bif (((((1 + v1.fst + v2.fst) * 1).ble 140737488355328) && ((1 + v1.fst + v2.fst).ble 9223372036854775807)) && (Bool.true)) then (bif (((1 + v1.fst) * 1).beq (List.take 1 (List.drop 0 (Go.Dv.splice (Go.Dv.repeatCells [DV.int Go.IntKind.u8 (0 : Int)] 1) 0 [DV.int Go.IntKind.u8 (IntKind.u8.wrap t)])) ++ v1.snd).length) then (Option.bind (bif ((List.take 1 (List.drop 0 (Go.Dv.splice (Go.Dv.repeatCells [DV.int Go.IntKind.u8 (0 : Int)] 1) 0 [DV.int Go.IntKind.u8 (IntKind.u8.wrap t)])) ++ v1.snd ++ v2.snd).length.beq ((1 + v1.fst + v2.fst + 0) * 1)) then (Option.bind (bif ((List.take 1 (List.drop 0 (Go.Dv.splice (Go.Dv.repeatCells [DV.int Go.IntKind.u8 (0 : Int)] 1) 0 [DV.int Go.IntKind.u8 (IntKind.u8.wrap t)])) ++ v1.snd ++ v2.snd).all Go.Dv.froz) then (some (List.take 1 (List.drop 0 (Go.Dv.splice (Go.Dv.repeatCells [DV.int Go.IntKind.u8 (0 : Int)] 1) 0 [DV.int Go.IntKind.u8 (IntKind.u8.wrap t)])) ++ v1.snd ++ v2.snd)) else none) fun v3 => (some ([(DV.sl (0) (0) (1 + v1.fst + v2.fst) (0) (1))], [(DBlk.mk (v3) (5) (Bool.true) (Bool.false) (Bool.true) none)]))) else none) fun v4 => (Option.bind (match (Go.Dv.unflat [Go.Dv.OwnT.one (some (5, 1))] v4.fst) with | List.nil  => none | List.cons v5 v6 => (some (v5 ))) fun v7 => (some ((DRes.ret (v7 )), (v4.snd))))) else none) else none)) else none))) := by kernel_rfl
theorem e_chanceryref01_Take (Lp : LpT) (s : List (List DV)) : run P0 T0 Lp (Lt t_chanceryref01_Take) nY 103 [.fz s] =
  (bif ((↑s.length : Int) == Int.ofNat 0) then (some ((DRes.ret (DV.tup [(DV.agg [(DV.int (IntKind.i64) (0 : Int)), (DV.fz [])]), (DV.int (IntKind.i64) (0 : Int)), (DV.int (IntKind.i64) (10 : Int))])), [])) else (Option.bind (Go.Pv.idx (0 : Int) s.length) fun v0 => (Option.bind (s)[(v0)]? fun v1 => (Option.bind (Go.Dv.unc v1) fun v2 => (Option.bind (Go.Dv.toInt Go.IntKind.u8 v2.fst) fun v3 => (bif (v2.snd.isEmpty) then (bif (!Go.Dv.S.isTag (IntKind.i64.wrap v3)) then (some ((DRes.ret (DV.tup [(DV.agg [(DV.int (IntKind.i64) (0 : Int)), (DV.fz [])]), (DV.int (IntKind.i64) (0 : Int)), (DV.int (IntKind.i64) (11 : Int))])), [])) else (bif ((↑s.length : Int) == Int.ofNat 1) then (some ((DRes.ret (DV.tup [(DV.agg [(DV.int (IntKind.i64) (0 : Int)), (DV.fz [])]), (DV.int (IntKind.i64) (0 : Int)), (DV.int (IntKind.i64) (10 : Int))])), [])) else (Option.bind (Go.Pv.idx (1 : Int) s.length) fun v4 => (Option.bind (s)[(v4)]? fun v5 => (Option.bind (Go.Dv.unc v5) fun v6 => (Option.bind (Go.Dv.toInt Go.IntKind.u8 v6.fst) fun v7 => (bif (v6.snd.isEmpty) then (bif (IntKind.i64.wrap v7 == Int.ofNat 128) then (some ((DRes.ret (DV.tup [(DV.agg [(DV.int (IntKind.i64) (0 : Int)), (DV.fz [])]), (DV.int (IntKind.i64) (0 : Int)), (DV.int (IntKind.i64) (12 : Int))])), [])) else (bif (decide (IntKind.i64.wrap v7 > 131)) then (some ((DRes.ret (DV.tup [(DV.agg [(DV.int (IntKind.i64) (0 : Int)), (DV.fz [])]), (DV.int (IntKind.i64) (0 : Int)), (DV.int (IntKind.i64) (12 : Int))])), [])) else (bif (decide (IntKind.i64.wrap v7 > 128)) then (bif (decide ((↑s.length : Int) > 2)) then (Option.bind (Go.Pv.idx (2 : Int) s.length) fun v8 => (Option.bind (s)[(v8)]? fun v9 => (Option.bind (Go.Dv.unc v9) fun v10 => (Option.bind (Go.Dv.toInt Go.IntKind.u8 v10.fst) fun v11 => (bif (v10.snd.isEmpty) then (bif (v11 == Int.ofNat 0) then (some ((DRes.ret (DV.tup [(DV.agg [(DV.int (IntKind.i64) (0 : Int)), (DV.fz [])]), (DV.int (IntKind.i64) (0 : Int)), (DV.int (IntKind.i64) (12 : Int))])), [])) else (bif (decide ((↑s.length : Int) < Go.IntKind.i64.wrap (2 + Go.IntKind.i64.wrap (IntKind.i64.wrap v7 - 128)))) then (some ((DRes.ret (DV.tup [(DV.agg [(DV.int (IntKind.i64) (0 : Int)), (DV.fz [])]), (DV.int (IntKind.i64) (0 : Int)), (DV.int (IntKind.i64) (10 : Int))])), [])) else (Lp _ (tdF T0 103 none 0) ((bodyF P0 T0 Lp (Lt t_chanceryref01_Take) nY [] 103 none 0 : FX (DRes × DHeap))) (kontF P0 T0 Lp (Lt t_chanceryref01_Take) nY [] 103 0) (Go.Dv.S.stH 97 [(0, (DSlot.v (DV.fz (s)))), (2, (DSlot.lp (2) (0))), (5, (DSlot.v (DV.int (IntKind.i64) (0 : Int)))), (7, (DSlot.v (DV.int (IntKind.i64) (IntKind.i64.wrap (IntKind.i64.wrap v7 - Int.ofNat 128))))), (8, (DSlot.v (DV.int (IntKind.i64) (0 : Int))))] [(2, (DBox.loc [(DV.int (IntKind.i64) (0 : Int)), DV.nils] (89)))] []) []))) else none))))) else (bif (decide ((↑s.length : Int) < Go.IntKind.i64.wrap (2 + Go.IntKind.i64.wrap (IntKind.i64.wrap v7 - 128)))) then (some ((DRes.ret (DV.tup [(DV.agg [(DV.int (IntKind.i64) (0 : Int)), (DV.fz [])]), (DV.int (IntKind.i64) (0 : Int)), (DV.int (IntKind.i64) (10 : Int))])), [])) else (Lp _ (tdF T0 103 none 0) ((bodyF P0 T0 Lp (Lt t_chanceryref01_Take) nY [] 103 none 0 : FX (DRes × DHeap))) (kontF P0 T0 Lp (Lt t_chanceryref01_Take) nY [] 103 0) (Go.Dv.S.stH 97 [(0, (DSlot.v (DV.fz (s)))), (2, (DSlot.lp (2) (0))), (5, (DSlot.v (DV.int (IntKind.i64) (0 : Int)))), (7, (DSlot.v (DV.int (IntKind.i64) (IntKind.i64.wrap (IntKind.i64.wrap v7 - Int.ofNat 128))))), (8, (DSlot.v (DV.int (IntKind.i64) (0 : Int))))] [(2, (DBox.loc [(DV.int (IntKind.i64) (0 : Int)), DV.nils] (89)))] []) []))) else (bif (decide (IntKind.i64.wrap ((↑s.length : Int) - 2) < Go.IntKind.i64.wrap v7)) then (some ((DRes.ret (DV.tup [(DV.agg [(DV.int (IntKind.i64) (0 : Int)), (DV.fz [])]), (DV.int (IntKind.i64) (0 : Int)), (DV.int (IntKind.i64) (10 : Int))])), [])) else (Option.bind (Go.Pv.idx (0 : Int) s.length) fun v12 => (Option.bind (s)[(v12)]? fun v13 => (Option.bind (Go.Dv.unc v13) fun v14 => (Option.bind (Go.Dv.toInt Go.IntKind.u8 v14.fst) fun v15 => (bif (v14.snd.isEmpty) then (Option.bind (Go.Pv.upTo (IntKind.i64.wrap (Int.ofNat 2 + Go.IntKind.i64.wrap v7)) s.length) fun v16 => (Option.bind (Go.Pv.upTo (2 : Int) v16) fun v17 => (bif (s.all fun (x : List Go.Dv.DV) => x.length.beq 1) then (Option.bind (bif ((List.drop v17 (List.take v16 s)).all fun (x : List Go.Dv.DV) => x.length.beq 1) then (some (((List.drop v17 (List.take v16 s)).length), ((List.drop v17 (List.take v16 s)).flatten))) else none) fun v18 => (bif ((((((((v18.fst * 1).ble 140737488355328) && (v18.fst.ble 9223372036854775807)) && (Bool.true)) && (Bool.true)) && (Bool.true)) && (Bool.true)) && (Bool.true)) then (bif (v18.fst.beq 0) then (some ((DRes.ret (DV.tup [(DV.agg [(DV.int (IntKind.i64) (IntKind.i64.wrap v15)), (DV.fz [])]), (DV.int (IntKind.i64) (IntKind.i64.wrap (Int.ofNat 2 + Go.IntKind.i64.wrap v7))), (DV.int (IntKind.i64) (0 : Int))])), [])) else (Option.bind (Option.bind (Option.bind (Option.bind (Option.bind (Option.bind (Option.bind (bif ((0 + v18.fst * 1).ble v18.snd.length) then (some (List.take (v18.fst * 1) (List.drop 0 v18.snd))) else none) fun v19 => (Option.bind (Go.Dv.frozL v19) fun v20 => (some ((DV.fz (Go.Dv.chunks 1 v18.fst v20)), [(1)])))) fun v21 => (some ([(v21.fst)], (v21.snd ++ [])))) fun v22 => (some (((DV.int (IntKind.i64) (IntKind.i64.wrap v15)) :: (v22.fst)), ([] ++ v22.snd)))) fun v23 => (some ((DV.agg (v23.fst)), (v23.snd)))) fun v24 => (some ([(v24.fst), (DV.int (IntKind.i64) (IntKind.i64.wrap (Int.ofNat 2 + Go.IntKind.i64.wrap v7))), (DV.int (IntKind.i64) (0 : Int))], (v24.snd ++ ([] ++ ([] ++ [])))))) fun v25 => (some ((DV.tup (v25.fst)), (v25.snd)))) fun v26 => (some ((DRes.ret (v26.fst)), [])))) else none)) else none))) else none))))))))) else none))))))) else none)))))) := by kernel_rfl
theorem b_chanceryref01_Take_0 (Lp : LpT) (s : List (List DV)) (n q i : Int) (k : KX (DRes × DHeap)) : bodyF P0 T0 Lp (Lt t_chanceryref01_Take) nY [] 103 none 0 (stD 97 [(0, .v (.fz s)), (2, .lp 2 0), (5, .v (.int .i64 n)), (7, .v (.int .i64 q)), (8, .v (.int .i64 i))] [(2, .loc [.int .i64 0, .nils] 89)]) [] k =
  (bif (decide (i < q)) then (Option.bind (Go.Pv.idx (IntKind.i64.wrap (Int.ofNat 2 + i)) s.length) fun v0 => (Option.bind (s)[(v0)]? fun v1 => (Option.bind (Go.Dv.unc v1) fun v2 => (Option.bind (Go.Dv.toInt Go.IntKind.u8 v2.fst) fun v3 => (bif (v2.snd.isEmpty) then (k DExit.normal (Go.Dv.S.stH 97 [(0, (DSlot.v (DV.fz (s)))), (2, (DSlot.lp (2) (0))), (5, (DSlot.v (DV.int (IntKind.i64) (IntKind.i64.wrap (IntKind.i64.wrap (Int.ofNat 256 * n) + Go.IntKind.i64.wrap v3))))), (7, (DSlot.v (DV.int (IntKind.i64) (q)))), (8, (DSlot.v (DV.int (IntKind.i64) (IntKind.i64.wrap (i + Int.ofNat 1))))), (55, (DSlot.v (DV.int (IntKind.i64) (i)))), (56, (DSlot.v (DV.int (IntKind.i64) (q)))), (57, (DSlot.v (DV.bool (decide (i < q))))), (58, (DSlot.v (DV.int (IntKind.i64) (i)))), (59, (DSlot.v (DV.int (IntKind.i64) (IntKind.i64.wrap (i + Int.ofNat 1))))), (60, (DSlot.v (DV.int (IntKind.i64) (n)))), (61, (DSlot.v (DV.int (IntKind.i64) (IntKind.i64.wrap (Int.ofNat 256 * n))))), (62, (DSlot.v (DV.fz (s)))), (63, (DSlot.v (DV.int (IntKind.i64) (i)))), (64, (DSlot.v (DV.int (IntKind.i64) (IntKind.i64.wrap (Int.ofNat 2 + i))))), (65, (DSlot.v (DV.fp (Bool.true) [(DV.int (IntKind.u8) (v3))]))), (66, (DSlot.v (DV.int (IntKind.u8) (v3)))), (67, (DSlot.v (DV.int (IntKind.i64) (IntKind.i64.wrap v3)))), (68, (DSlot.v (DV.int (IntKind.i64) (IntKind.i64.wrap (IntKind.i64.wrap (Int.ofNat 256 * n) + Go.IntKind.i64.wrap v3)))))] [(2, (DBox.loc [(DV.int (IntKind.i64) (0 : Int)), DV.nils] (89)))] []) []) else none))))) else (k (DExit.exit (0)) (Go.Dv.S.stH 97 [(0, (DSlot.v (DV.fz (s)))), (2, (DSlot.lp (2) (0))), (5, (DSlot.v (DV.int (IntKind.i64) (n)))), (7, (DSlot.v (DV.int (IntKind.i64) (q)))), (8, (DSlot.v (DV.int (IntKind.i64) (i)))), (55, (DSlot.v (DV.int (IntKind.i64) (i)))), (56, (DSlot.v (DV.int (IntKind.i64) (q)))), (57, (DSlot.v (DV.bool (decide (i < q)))))] [(2, (DBox.loc [(DV.int (IntKind.i64) (0 : Int)), DV.nils] (89)))] []) [])) := by kernel_rfl
theorem e_chanceryref01_One (Lp : LpT) (s : List (List DV)) : run P0 T0 Lp (Lt t_chanceryref01_One) nY 50 [.fz s] =
  (Option.bind (Go.Dv.S.dB (DV.fz s)) fun v0 => (bif (Go.Dv.S.takeE v0 == Int.ofNat 0) then (bif ((↑(Go.Dv.S.takeN v0) : Int) != (↑s.length : Int)) then (some ((DRes.ret (DV.tup [(DV.agg [(DV.int (IntKind.i64) (0 : Int)), (DV.fz [])]), (DV.int (IntKind.i64) (13 : Int))])), [])) else (some ((DRes.ret (DV.tup [(DV.agg [(DV.int (IntKind.i64) (Go.Dv.S.takeT v0)), (DV.fz (Go.Dv.S.byt (Go.Dv.S.takeC v0)))]), (DV.int (IntKind.i64) (Go.Dv.S.takeE v0))])), []))) else (some ((DRes.ret (DV.tup [(DV.agg [(DV.int (IntKind.i64) (Go.Dv.S.takeT v0)), (DV.fz (Go.Dv.S.byt (Go.Dv.S.takeC v0)))]), (DV.int (IntKind.i64) (Go.Dv.S.takeE v0))])), [])))) := by kernel_rfl
theorem e_chanceryref01_Row (Lp : LpT) (s : List (List DV)) : run P0 T0 Lp (Lt t_chanceryref01_Row) nY 104 [.fz s] =
  (Lp _ (tdF T0 104 none 0) ((bodyF P0 T0 Lp (Lt t_chanceryref01_Row) nY [] 104 none 0 : FX (DRes × DHeap))) (kontF P0 T0 Lp (Lt t_chanceryref01_Row) nY [] 104 0) (Go.Dv.S.stH 44 [(0, (DSlot.v (DV.fz (s)))), (6, (DSlot.v (DV.sl (0) (0) (0) (0) (2)))), (7, (DSlot.v (DV.sl (1) (0) (0) (0) (1)))), (8, (DSlot.v (DV.int (IntKind.i64) (0 : Int))))] [] [(DBlk.mk [] (89) (Bool.true) (Bool.false) (Bool.true) none), (DBlk.mk [] (3) (Bool.true) (Bool.false) (Bool.true) none)]) []) := by kernel_rfl
theorem b_chanceryref01_Row_0 (Lp : LpT) (s : List (List DV)) (p : Int) (m n : Nat) (cs ds : List DV) (k : KX (DRes × DHeap)) : bodyF P0 T0 Lp (Lt t_chanceryref01_Row) nY [] 104 none 0 (stH 44 [(0, .v (.fz s)), (6, .v (.sl 0 0 m 0 2)), (7, .v (.sl 1 0 n 0 1)), (8, .v (.int .i64 p))] [] [newBlk cs 89, newBlk ds 3]) [] k =
  (bif (decide (p < (↑s.length : Int))) then (Option.bind (Go.Pv.upTo p s.length) fun v0 => (bif (s.all fun (x : List Go.Dv.DV) => x.length.beq 1) then (Option.bind (Go.Dv.S.dB (DV.fz (List.drop v0 (List.take s.length s)))) fun v1 => (bif (Go.Dv.S.takeE v1 != Int.ofNat 0) then (k DExit.ret (Go.Dv.S.stH 44 [(0, (DSlot.v (DV.fz (s)))), (2, (DSlot.v (DV.sl (0) (0) (m) (0) (2)))), (3, (DSlot.v (DV.sl (1) (0) (n) (0) (1)))), (4, (DSlot.v (DV.int (IntKind.i64) (p)))), (5, (DSlot.v (DV.int (IntKind.i64) (Go.Dv.S.takeE v1)))), (6, (DSlot.v (DV.sl (0) (0) (m) (0) (2)))), (7, (DSlot.v (DV.sl (1) (0) (n) (0) (1)))), (8, (DSlot.v (DV.int (IntKind.i64) (p)))), (9, (DSlot.lp (9) (0))), (10, (DSlot.v (DV.int (IntKind.i64) ((↑(Go.Dv.S.takeN v1) : Int))))), (11, (DSlot.v (DV.int (IntKind.i64) (Go.Dv.S.takeE v1)))), (12, (DSlot.v (DV.int (IntKind.i64) (p)))), (13, (DSlot.v (DV.fz (s)))), (14, (DSlot.v (DV.int (IntKind.i64) ((↑s.length : Int))))), (15, (DSlot.v (DV.bool (decide (p < (↑s.length : Int)))))), (16, (DSlot.v (DV.tup [(DV.agg [(DV.int (IntKind.i64) (Go.Dv.S.takeT v1)), (DV.fz (Go.Dv.S.byt (Go.Dv.S.takeC v1)))]), (DV.int (IntKind.i64) ((↑(Go.Dv.S.takeN v1) : Int))), (DV.int (IntKind.i64) (Go.Dv.S.takeE v1))]))), (17, (DSlot.v (DV.fz (s)))), (18, (DSlot.v (DV.int (IntKind.i64) (p)))), (19, (DSlot.v (DV.fz (List.drop v0 (List.take s.length s))))), (20, (DSlot.v (DV.tup [(DV.agg [(DV.int (IntKind.i64) (Go.Dv.S.takeT v1)), (DV.fz (Go.Dv.S.byt (Go.Dv.S.takeC v1)))]), (DV.int (IntKind.i64) ((↑(Go.Dv.S.takeN v1) : Int))), (DV.int (IntKind.i64) (Go.Dv.S.takeE v1))]))), (21, (DSlot.v (DV.agg [(DV.int (IntKind.i64) (Go.Dv.S.takeT v1)), (DV.fz (Go.Dv.S.byt (Go.Dv.S.takeC v1)))]))), (22, (DSlot.v (DV.int (IntKind.i64) ((↑(Go.Dv.S.takeN v1) : Int))))), (23, (DSlot.v (DV.int (IntKind.i64) (Go.Dv.S.takeE v1)))), (24, (DSlot.v (DV.int (IntKind.i64) (Go.Dv.S.takeE v1)))), (25, (DSlot.v (DV.bool (Go.Dv.S.takeE v1 != Int.ofNat 0)))), (26, (DSlot.v (DV.sl (0) (0) (m) (0) (2)))), (27, (DSlot.v (DV.sl (1) (0) (n) (0) (1)))), (28, (DSlot.v (DV.int (IntKind.i64) (p)))), (29, (DSlot.v (DV.int (IntKind.i64) (Go.Dv.S.takeE v1))))] [(9, (DBox.loc [(DV.int (IntKind.i64) (Go.Dv.S.takeT v1)), (DV.fz (Go.Dv.S.byt (Go.Dv.S.takeC v1)))] (89)))] [(DBlk.mk (cs) (89) (Bool.true) (Bool.false) (Bool.true) none), (DBlk.mk (ds) (3) (Bool.true) (Bool.false) (Bool.true) none)]) []) else (bif (((((m + 1) * 32).ble 140737488355328) && ((m + 1).ble 9223372036854775807)) && (Bool.true)) then (bif ((m * 2).beq cs.length) then (bif (((((n + 1) * 8).ble 140737488355328) && ((n + 1).ble 9223372036854775807)) && (Bool.true)) then (bif ((n * 1).beq ds.length) then (k DExit.normal (Go.Dv.S.stH 44 [(0, (DSlot.v (DV.fz (s)))), (6, (DSlot.v (DV.sl (3) (0) (m + 1) (0) (2)))), (7, (DSlot.v (DV.sl (5) (0) (n + 1) (0) (1)))), (8, (DSlot.v (DV.int (IntKind.i64) (IntKind.i64.wrap (p + (↑(Go.Dv.S.takeN v1) : Int)))))), (9, (DSlot.lp (9) (0))), (10, (DSlot.v (DV.int (IntKind.i64) ((↑(Go.Dv.S.takeN v1) : Int))))), (11, (DSlot.v (DV.int (IntKind.i64) (Go.Dv.S.takeE v1)))), (12, (DSlot.v (DV.int (IntKind.i64) (p)))), (13, (DSlot.v (DV.fz (s)))), (14, (DSlot.v (DV.int (IntKind.i64) ((↑s.length : Int))))), (15, (DSlot.v (DV.bool (decide (p < (↑s.length : Int)))))), (16, (DSlot.v (DV.tup [(DV.agg [(DV.int (IntKind.i64) (Go.Dv.S.takeT v1)), (DV.fz (Go.Dv.S.byt (Go.Dv.S.takeC v1)))]), (DV.int (IntKind.i64) ((↑(Go.Dv.S.takeN v1) : Int))), (DV.int (IntKind.i64) (Go.Dv.S.takeE v1))]))), (17, (DSlot.v (DV.fz (s)))), (18, (DSlot.v (DV.int (IntKind.i64) (p)))), (19, (DSlot.v (DV.fz (List.drop v0 (List.take s.length s))))), (20, (DSlot.v (DV.tup [(DV.agg [(DV.int (IntKind.i64) (Go.Dv.S.takeT v1)), (DV.fz (Go.Dv.S.byt (Go.Dv.S.takeC v1)))]), (DV.int (IntKind.i64) ((↑(Go.Dv.S.takeN v1) : Int))), (DV.int (IntKind.i64) (Go.Dv.S.takeE v1))]))), (21, (DSlot.v (DV.agg [(DV.int (IntKind.i64) (Go.Dv.S.takeT v1)), (DV.fz (Go.Dv.S.byt (Go.Dv.S.takeC v1)))]))), (22, (DSlot.v (DV.int (IntKind.i64) ((↑(Go.Dv.S.takeN v1) : Int))))), (23, (DSlot.v (DV.int (IntKind.i64) (Go.Dv.S.takeE v1)))), (24, (DSlot.v (DV.int (IntKind.i64) (Go.Dv.S.takeE v1)))), (25, (DSlot.v (DV.bool (Go.Dv.S.takeE v1 != Int.ofNat 0)))), (30, (DSlot.v (DV.sl (0) (0) (m) (0) (2)))), (31, (DSlot.v (DV.agg [(DV.int (IntKind.i64) (Go.Dv.S.takeT v1)), (DV.fz (Go.Dv.S.byt (Go.Dv.S.takeC v1)))]))), (32, (DSlot.v (DV.sl (2) (0) (1) (0) (2)))), (33, (DSlot.v (DV.sl (3) (0) (m + 1) (0) (2)))), (34, (DSlot.v (DV.sl (1) (0) (n) (0) (1)))), (35, (DSlot.v (DV.int (IntKind.i64) (p)))), (36, (DSlot.v (DV.sl (4) (0) (1) (0) (1)))), (37, (DSlot.v (DV.sl (5) (0) (n + 1) (0) (1)))), (38, (DSlot.v (DV.int (IntKind.i64) (p)))), (39, (DSlot.v (DV.int (IntKind.i64) ((↑(Go.Dv.S.takeN v1) : Int))))), (40, (DSlot.v (DV.int (IntKind.i64) (IntKind.i64.wrap (p + (↑(Go.Dv.S.takeN v1) : Int))))))] [(9, (DBox.loc [(DV.int (IntKind.i64) (Go.Dv.S.takeT v1)), (DV.fz (Go.Dv.S.byt (Go.Dv.S.takeC v1)))] (89)))] [(DBlk.mk (cs) (89) (Bool.true) (Bool.false) (Bool.false) none), (DBlk.mk (ds) (3) (Bool.true) (Bool.false) (Bool.false) none), (DBlk.mk [(DV.int (IntKind.i64) (Go.Dv.S.takeT v1)), (DV.fz (Go.Dv.S.byt (Go.Dv.S.takeC v1)))] (89) (Bool.true) (Bool.false) (Bool.true) none), (DBlk.mk (cs ++ List.take 2 (List.drop 0 (Go.Dv.splice (Go.Dv.repeatCells [DV.int Go.IntKind.i64 (0 : Int), DV.nils] 1) 0 (List.take 2 (List.drop 0 (Go.Dv.splice [DV.int Go.IntKind.i64 (0 : Int), DV.nils] 0 (Go.Dv.S.elt (Go.Dv.S.takeT v1, Go.Dv.S.takeC v1)))))))) (89) (Bool.true) (Bool.false) (Bool.true) none), (DBlk.mk [(DV.int (IntKind.i64) (p))] (3) (Bool.true) (Bool.false) (Bool.true) none), (DBlk.mk (ds ++ List.take 1 (List.drop 0 (Go.Dv.splice (Go.Dv.repeatCells [DV.int Go.IntKind.i64 (0 : Int)] 1) 0 [DV.int Go.IntKind.i64 p]))) (3) (Bool.true) (Bool.false) (Bool.true) none)]) []) else none) else none) else none) else none))) else none)) else (k (DExit.exit (0)) (Go.Dv.S.stH 44 [(0, (DSlot.v (DV.fz (s)))), (6, (DSlot.v (DV.sl (0) (0) (m) (0) (2)))), (7, (DSlot.v (DV.sl (1) (0) (n) (0) (1)))), (8, (DSlot.v (DV.int (IntKind.i64) (p)))), (12, (DSlot.v (DV.int (IntKind.i64) (p)))), (13, (DSlot.v (DV.fz (s)))), (14, (DSlot.v (DV.int (IntKind.i64) ((↑s.length : Int))))), (15, (DSlot.v (DV.bool (decide (p < (↑s.length : Int))))))] [] [(DBlk.mk (cs) (89) (Bool.true) (Bool.false) (Bool.true) none), (DBlk.mk (ds) (3) (Bool.true) (Bool.false) (Bool.true) none)]) [])) := by kernel_rfl
theorem x_slices_Concat_byte_byte_0 (Lp : LpT) (l : List (List DV)) (t : Nat) (n i : Int) (q : Bool) : kontF P0 T0 Lp (Lt t_slices_Concat_byte_byte) nY [] 94 0 (.exit 0) (stD 36 [(0, .v (.fz l)), (3, .v (.int .i64 t)), (9, .v (.fz l)), (10, .v (.int .i64 n)), (11, .v (.int .i64 i)), (12, .v (.bool q))] []) [] =
  (Option.bind (Go.Dv.S.dG (DV.int Go.IntKind.i64 (↑t : Int))) fun v0 => (Lp _ (tdF T0 94 none 2) ((bodyF P0 T0 Lp (Lt t_slices_Concat_byte_byte) nY [] 94 none 2 : FX (DRes × DHeap))) (kontF P0 T0 Lp (Lt t_slices_Concat_byte_byte) nY [] 94 2) (bif (((Go.Dv.ofBytes (List.replicate v0 0)).all Go.Dv.froz) && (Bool.true)) then (Go.Dv.S.stH 36 [(6, (DSlot.v (DV.sl (0) (0) (0) (v0) (1)))), (25, (DSlot.v (DV.fz (l)))), (26, (DSlot.v (DV.int (IntKind.i64) ((↑l.length : Int))))), (27, (DSlot.v (DV.int (IntKind.i64) (0 : Int))))] [] [(DBlk.mk (Go.Dv.ofBytes (List.replicate v0 0)) (5) (Bool.true) (Bool.false) (Bool.true) none)]) else (Go.Dv.S.stH 36 [(6, (DSlot.v (DV.sl (0) (0) (0) (v0) (1)))), (25, (DSlot.v (DV.fz (l)))), (26, (DSlot.v (DV.int (IntKind.i64) ((↑l.length : Int))))), (27, (DSlot.v (DV.int (IntKind.i64) (0 : Int))))] [] [(DBlk.mk (Go.Dv.ofBytes (List.replicate v0 0)) (5) (Bool.true) (Bool.false) (Bool.true) none)])) [])) := by kernel_rfl
theorem x_slices_Concat_byte_byte_2 (Lp : LpT) (l : List (List DV)) (n i : Int) (m p : Nat) (cs : List DV) (q : Bool) : kontF P0 T0 Lp (Lt t_slices_Concat_byte_byte) nY [] 94 2 (.exit 2) (stH 36 [(6, .v (.sl 0 0 m p 1)), (25, .v (.fz l)), (26, .v (.int .i64 n)), (27, .v (.int .i64 i)), (28, .v (.bool q))] [] [newBlk cs 5]) [] =
  (Option.bind (bif (cs.length.beq ((m + p) * 1)) then (Option.bind (bif (cs.all Go.Dv.froz) then (some (cs)) else none) fun v0 => (some ([(DV.sl (0) (0) (m) (p) (1))], [(DBlk.mk (v0) (5) (Bool.true) (Bool.false) (Bool.true) none)]))) else none) fun v1 => (Option.bind (match (Go.Dv.unflat [Go.Dv.OwnT.one (some (5, 1))] v1.fst) with | List.nil  => none | List.cons v2 v3 => (some (v2 ))) fun v4 => (some ((DRes.ret (v4 )), (v1.snd))))) := by kernel_rfl
theorem x_der_Put_0 (Lp : LpT) (s l : List (List DV)) (t n m i : Int) (q : Bool) : kontF P0 T0 Lp (Lt t_der_Put) nY [] 43 0 (.exit 0) (stD 44 [(0, .v (.fz s)), (1, .v (.int .i64 t)), (2, .v (.fz l)), (8, .v (.int .i64 n)), (15, .v (.fz l)), (16, .v (.int .i64 m)), (17, .v (.int .i64 i)), (18, .v (.bool q))] []) [] =
  (Option.bind (Go.Dv.S.dM (DV.int Go.IntKind.i64 n)) fun v0 => (Option.bind (Go.Dv.S.dBs (DV.fz (Go.Dv.chunks 1 3 [DV.fz s, DV.fz (Go.Dv.chunks 1 1 (List.take 1 (List.drop 0 (Go.Dv.splice (Go.Dv.repeatCells [DV.int Go.IntKind.u8 (0 : Int)] 1) 0 [DV.int Go.IntKind.u8 (IntKind.u8.wrap t)])))), DV.fz (Go.Dv.S.byt (Go.Dv.S.lenB v0))]))) fun v1 => (Option.bind (Go.Dv.S.dBs (DV.fz l)) fun v2 => (Option.bind (Option.bind (Option.bind (Option.bind (Option.bind (bif ((0 + v1.flatten.length * 1).ble (Go.Dv.ofBytes v1.flatten).length) then (some (List.take (v1.flatten.length * 1) (List.drop 0 (Go.Dv.ofBytes v1.flatten)))) else none) fun v3 => (Option.bind (Go.Dv.frozL v3) fun v4 => (some ((DV.fz (Go.Dv.chunks 1 v1.flatten.length v4)), [(2)])))) fun v5 => (Option.bind (Option.bind (Option.bind (bif ((0 + v2.flatten.length * 1).ble (Go.Dv.ofBytes v2.flatten).length) then (some (List.take (v2.flatten.length * 1) (List.drop 0 (Go.Dv.ofBytes v2.flatten)))) else none) fun v6 => (Option.bind (Go.Dv.frozL v6) fun v7 => (some ((DV.fz (Go.Dv.chunks 1 v2.flatten.length v7)), [(3)])))) fun v8 => (some ([(v8.fst)], (v8.snd ++ [])))) fun v9 => (some (((v5.fst) :: (v9.fst)), (v5.snd ++ v9.snd))))) fun v10 => (some ((DV.fz [(List.take 1 v10.fst), (List.take 1 (List.drop 1 v10.fst))]), ((4) :: (v10.snd))))) fun v11 => (some ([(v11.fst)], (v11.snd ++ [])))) fun v12 => (Option.bind (Go.Dv.S.l1 v12.fst) fun v13 => (Option.bind (Go.Dv.S.dBs v13) fun v14 => (Option.bind (bif ((Go.Dv.ofBytes v14.flatten).length.beq ((v14.flatten.length + 0) * 1)) then (Option.bind (bif ((Go.Dv.ofBytes v14.flatten).all Go.Dv.froz) then (some (Go.Dv.ofBytes v14.flatten)) else none) fun v15 => (some ([(DV.sl (0) (0) (v14.flatten.length) (0) (1)), (DV.int (IntKind.i64) (0 : Int))], [(DBlk.mk (v15) (5) (Bool.true) (Bool.false) (Bool.true) none)]))) else none) fun v16 => (some ((DRes.ret (DV.tup (Go.Dv.unflat [Go.Dv.OwnT.one (some (5, 1)), Go.Dv.OwnT.one none] v16.fst))), (v16.snd)))))))))) := by kernel_rfl
theorem x_chanceryref02_bare_0 (Lp : LpT) (s : List (List DV)) (i : Int) : kontF P0 T0 Lp (Lt t_chanceryref02_bare) nY [] 98 0 (.exit 0) (stD 22 [(0, .v (.fz s)), (3, .v (.int .i64 i))] []) [] =
  (Option.bind (Go.Pv.upTo i s.length) fun v0 => (bif (s.all fun (x : List Go.Dv.DV) => x.length.beq 1) then (Option.bind (bif ((List.drop v0 (List.take s.length s)).all fun (x : List Go.Dv.DV) => x.length.beq 1) then (some (((List.drop v0 (List.take s.length s)).length), ((List.drop v0 (List.take s.length s)).flatten))) else none) fun v1 => (bif (((((0 + v1.fst) * 1).ble 140737488355328) && ((0 + v1.fst).ble 9223372036854775807)) && (Bool.true)) then (Option.bind (Option.bind (bif ((0 + (0 + v1.fst) * 1).ble (Go.Dv.repeatCells [DV.int Go.IntKind.u8 (0 : Int)] 0 ++ v1.snd).length) then (some (List.take ((0 + v1.fst) * 1) (List.drop 0 (Go.Dv.repeatCells [DV.int Go.IntKind.u8 (0 : Int)] 0 ++ v1.snd)))) else none) fun v2 => (Option.bind (Go.Dv.frozL v2) fun v3 => (some ((DV.fz (Go.Dv.chunks 1 (0 + v1.fst) v3)), [(1)])))) fun v4 => (some ((DRes.ret (v4.fst)), []))) else none)) else none)) := by kernel_rfl
theorem x_der_head_2 (Lp : LpT) (s l : List (List DV)) (n q m i : Int) : kontF P0 T0 Lp (Lt t_der_head) nY [] 136 2 (.exit 2) (stD 88 [(0, .v (.fz s)), (4, .v (.int .i64 n)), (6, .v (.int .i64 q)), (67, .v (.fz l)), (68, .v (.int .i64 m)), (69, .v (.int .i64 i))] []) [] =
  (bif (decide (n < 128)) then (some ((DRes.ret (DV.tup [(DV.int (IntKind.i64) (0 : Int)), (DV.int (IntKind.i64) (0 : Int)), (DV.int (IntKind.i64) (0 : Int)), (DV.int (IntKind.i64) (12 : Int))])), [])) else (Option.bind (Go.Pv.idx (0 : Int) s.length) fun v0 => (Option.bind (s)[(v0)]? fun v1 => (Option.bind (Go.Dv.unc v1) fun v2 => (Option.bind (Go.Dv.toInt Go.IntKind.u8 v2.fst) fun v3 => (bif (v2.snd.isEmpty) then (some ((DRes.ret (DV.tup [(DV.int (IntKind.i64) (IntKind.i64.wrap v3)), (DV.int (IntKind.i64) (IntKind.i64.wrap (Int.ofNat 2 + q))), (DV.int (IntKind.i64) (n)), (DV.int (IntKind.i64) (0 : Int))])), [])) else none)))))) := by kernel_rfl
theorem x_chanceryref01_Length_0 (Lp : LpT) (n : Int) (m : Nat) (cs : List DV) : kontF P0 T0 Lp (Lt t_chanceryref01_Length) nY [] 97 0 (.exit 0) (stH 26 [(0, .v (.int .i64 n)), (3, .v (.sl 0 0 m 0 1))] [] [newBlk cs 5]) [] =
  (Option.bind (Option.bind (bif ((0 + m * 1).ble cs.length) then (some (List.take (m * 1) (List.drop 0 cs))) else none) fun v0 => (some ((m), (v0)))) fun v1 => (bif (((((1 + v1.fst) * 1).ble 140737488355328) && ((1 + v1.fst).ble 9223372036854775807)) && (Bool.true)) then (Option.bind (Option.bind (bif ((0 + (1 + v1.fst) * 1).ble (Go.Dv.splice (Go.Dv.repeatCells [DV.int Go.IntKind.u8 (0 : Int)] 1) 0 [DV.int Go.IntKind.u8 (IntKind.u8.wrap (IntKind.i64.wrap (Int.ofNat 128 + (↑m : Int))))] ++ v1.snd).length) then (some (List.take ((1 + v1.fst) * 1) (List.drop 0 (Go.Dv.splice (Go.Dv.repeatCells [DV.int Go.IntKind.u8 (0 : Int)] 1) 0 [DV.int Go.IntKind.u8 (IntKind.u8.wrap (IntKind.i64.wrap (Int.ofNat 128 + (↑m : Int))))] ++ v1.snd)))) else none) fun v2 => (Option.bind (Go.Dv.frozL v2) fun v3 => (some ((DV.fz (Go.Dv.chunks 1 (1 + v1.fst) v3)), [(2)])))) fun v4 => (some ((DRes.ret (v4.fst)), []))) else none)) := by kernel_rfl
theorem x_chanceryref01_Take_0 (Lp : LpT) (s : List (List DV)) (n q i : Int) : kontF P0 T0 Lp (Lt t_chanceryref01_Take) nY [] 103 0 (.exit 0) (stD 97 [(0, .v (.fz s)), (2, .lp 2 0), (5, .v (.int .i64 n)), (7, .v (.int .i64 q)), (8, .v (.int .i64 i))] [(2, .loc [.int .i64 0, .nils] 89)]) [] =
  (bif (decide (n < 128)) then (some ((DRes.ret (DV.tup [(DV.agg [(DV.int (IntKind.i64) (0 : Int)), (DV.fz [])]), (DV.int (IntKind.i64) (0 : Int)), (DV.int (IntKind.i64) (12 : Int))])), [])) else (bif (decide (IntKind.i64.wrap ((↑s.length : Int) - Go.IntKind.i64.wrap (2 + q)) < n)) then (some ((DRes.ret (DV.tup [(DV.agg [(DV.int (IntKind.i64) (0 : Int)), (DV.fz [])]), (DV.int (IntKind.i64) (0 : Int)), (DV.int (IntKind.i64) (10 : Int))])), [])) else (Option.bind (Go.Pv.idx (0 : Int) s.length) fun v0 => (Option.bind (s)[(v0)]? fun v1 => (Option.bind (Go.Dv.unc v1) fun v2 => (Option.bind (Go.Dv.toInt Go.IntKind.u8 v2.fst) fun v3 => (bif (v2.snd.isEmpty) then (Option.bind (Go.Pv.upTo (IntKind.i64.wrap (IntKind.i64.wrap (Int.ofNat 2 + q) + n)) s.length) fun v4 => (Option.bind (Go.Pv.upTo (IntKind.i64.wrap (Int.ofNat 2 + q)) v4) fun v5 => (bif (s.all fun (x : List Go.Dv.DV) => x.length.beq 1) then (Option.bind (bif ((List.drop v5 (List.take v4 s)).all fun (x : List Go.Dv.DV) => x.length.beq 1) then (some (((List.drop v5 (List.take v4 s)).length), ((List.drop v5 (List.take v4 s)).flatten))) else none) fun v6 => (bif ((((((((v6.fst * 1).ble 140737488355328) && (v6.fst.ble 9223372036854775807)) && (Bool.true)) && (Bool.true)) && (Bool.true)) && (Bool.true)) && (Bool.true)) then (bif (v6.fst.beq 0) then (some ((DRes.ret (DV.tup [(DV.agg [(DV.int (IntKind.i64) (IntKind.i64.wrap v3)), (DV.fz [])]), (DV.int (IntKind.i64) (IntKind.i64.wrap (IntKind.i64.wrap (Int.ofNat 2 + q) + n))), (DV.int (IntKind.i64) (0 : Int))])), [])) else (Option.bind (Option.bind (Option.bind (Option.bind (Option.bind (Option.bind (Option.bind (bif ((0 + v6.fst * 1).ble v6.snd.length) then (some (List.take (v6.fst * 1) (List.drop 0 v6.snd))) else none) fun v7 => (Option.bind (Go.Dv.frozL v7) fun v8 => (some ((DV.fz (Go.Dv.chunks 1 v6.fst v8)), [(1)])))) fun v9 => (some ([(v9.fst)], (v9.snd ++ [])))) fun v10 => (some (((DV.int (IntKind.i64) (IntKind.i64.wrap v3)) :: (v10.fst)), ([] ++ v10.snd)))) fun v11 => (some ((DV.agg (v11.fst)), (v11.snd)))) fun v12 => (some ([(v12.fst), (DV.int (IntKind.i64) (IntKind.i64.wrap (IntKind.i64.wrap (Int.ofNat 2 + q) + n))), (DV.int (IntKind.i64) (0 : Int))], (v12.snd ++ ([] ++ ([] ++ [])))))) fun v13 => (some ((DV.tup (v13.fst)), (v13.snd)))) fun v14 => (some ((DRes.ret (v14.fst)), [])))) else none)) else none))) else none))))))) := by kernel_rfl
theorem e_chanceryref01_All (Lp : LpT) (s : List (List DV)) : run P0 T0 Lp (Lt t_chanceryref01_All) nY 51 [.fz s] =
  (Option.bind (Go.Dv.S.dB (DV.fz s)) fun v0 => (bif (Go.Dv.S.allE v0 != Int.ofNat 0) then (some ((DRes.ret (DV.tup [(DV.fz []), (DV.int (IntKind.i64) ((↑(Go.Dv.S.rowN v0) : Int))), (DV.int (IntKind.i64) (Go.Dv.S.allE v0))])), [])) else (some ((DRes.ret (DV.tup [(DV.fz (Go.Dv.S.elts (Go.Dv.S.row v0))), (DV.int (IntKind.i64) ((↑(Go.Dv.S.rowN v0) : Int))), (DV.int (IntKind.i64) (0 : Int))])), [])))) := by kernel_rfl
theorem x_chanceryref01_Row_0 (Lp : LpT) (s : List (List DV)) (p : Int) (m n : Nat) (cs ds : List DV) : kontF P0 T0 Lp (Lt t_chanceryref01_Row) nY [] 104 0 (.exit 0) (stH 44 [(0, .v (.fz s)), (6, .v (.sl 0 0 m 0 2)), (7, .v (.sl 1 0 n 0 1)), (8, .v (.int .i64 p))] [] [newBlk cs 89, newBlk ds 3]) [] =
  (Option.bind (Option.bind (Option.bind (Option.bind (bif ((0 + m * 2).ble cs.length) then (some (List.take (m * 2) (List.drop 0 cs))) else none) fun v0 => (Option.bind (Go.Dv.frozL v0) fun v1 => (some ((DV.fz (Go.Dv.chunks 2 m v1)), [(0)])))) fun v2 => (Option.bind (Option.bind (Option.bind (bif ((0 + n * 1).ble ds.length) then (some (List.take (n * 1) (List.drop 0 ds))) else none) fun v3 => (Option.bind (Go.Dv.frozL v3) fun v4 => (some ((DV.fz (Go.Dv.chunks 1 n v4)), [(1)])))) fun v5 => (some ([(v5.fst), (DV.int (IntKind.i64) (p)), (DV.int (IntKind.i64) (0 : Int))], (v5.snd ++ ([] ++ ([] ++ [])))))) fun v6 => (some (((v2.fst) :: (v6.fst)), (v2.snd ++ v6.snd))))) fun v7 => (some ((DV.tup (v7.fst)), (v7.snd)))) fun v8 => (some ((DRes.ret (v8.fst)), []))) := by kernel_rfl
theorem x_chanceryref01_Row_0r (Lp : LpT) (s : List (List DV)) (p e : Int) (m n : Nat) (cs ds : List DV) : kontF P0 T0 Lp (Lt t_chanceryref01_Row) nY [] 104 0 (.ret) (stH 44 [(0, .v (.fz s)), (2, .v (.sl 0 0 m 0 2)), (3, .v (.sl 1 0 n 0 1)), (4, .v (.int .i64 p)), (5, .v (.int .i64 e))] [] [newBlk cs 89, newBlk ds 3]) [] =
  (Option.bind (Option.bind (Option.bind (Option.bind (bif ((0 + m * 2).ble cs.length) then (some (List.take (m * 2) (List.drop 0 cs))) else none) fun v0 => (Option.bind (Go.Dv.frozL v0) fun v1 => (some ((DV.fz (Go.Dv.chunks 2 m v1)), [(0)])))) fun v2 => (Option.bind (Option.bind (Option.bind (bif ((0 + n * 1).ble ds.length) then (some (List.take (n * 1) (List.drop 0 ds))) else none) fun v3 => (Option.bind (Go.Dv.frozL v3) fun v4 => (some ((DV.fz (Go.Dv.chunks 1 n v4)), [(1)])))) fun v5 => (some ([(v5.fst), (DV.int (IntKind.i64) (p)), (DV.int (IntKind.i64) (e))], (v5.snd ++ ([] ++ ([] ++ [])))))) fun v6 => (some (((v2.fst) :: (v6.fst)), (v2.snd ++ v6.snd))))) fun v7 => (some ((DV.tup (v7.fst)), (v7.snd)))) fun v8 => (some ((DRes.ret (v8.fst)), []))) := by kernel_rfl
end Go.Dv
end
section
namespace Go.Dv
open Go.Proofs Go.Dv.S
open Go.Pv (idx upTo)
theorem dY0_inv {x : DV} {u : Unit} (h : dY0 x = some u) : x = .int .u8 0 := by
 unfold dY0 at h
 split at h
 ·rfl
 ·cases h
theorem dZ_inv {x : DV} {u : Unit} (h : dZ x = some u) : x = .str [0] := by
 unfold dZ at h
 split at h
 ·rfl
 ·cases h
theorem dM_inv {x : DV} {n : Nat} (h : dM x = some n) : x = .int .i64 n ∧ n ≤ 16777215 := by
 cases x <;> simp only [dM] at h <;> try (cases h; done)
 rename_i k m
 cases k <;> simp only at h <;> try (cases h; done)
 obtain ⟨h1, h2⟩ := bif1 h
 cases h2
 simp only [Bool.and_eq_true, decide_eq_true_eq] at h1
 refine ⟨?_, by omega⟩
 congr 1; omega
theorem dM_ok {n : Nat} (h : n ≤ 16777215) : dM (.int .i64 (n : Int)) = some n := by
 show (bif decide (0 ≤ (n : Int)) && decide ((n : Int) ≤ 16777215) then some (n : Int).toNat else none) = some n
 rw [show decide (0 ≤ (n : Int)) = true by simp, show decide ((n : Int) ≤ 16777215) = true by simp; omega]
 rfl
theorem dG_inv {x : DV} {n : Nat} (h : dG x = some n) : x = .int .i64 n ∧ n ≤ 4398046511104 := by
 cases x <;> simp only [dG] at h <;> try (cases h; done)
 rename_i k m
 cases k <;> simp only at h <;> try (cases h; done)
 obtain ⟨h1, h2⟩ := bif1 h
 cases h2
 simp only [Bool.and_eq_true, decide_eq_true_eq] at h1
 refine ⟨?_, by omega⟩
 congr 1; omega
theorem dG_ok {n : Nat} (h : n ≤ 4398046511104) : dG (.int .i64 (n : Int)) = some n := by
 show (bif decide (0 ≤ (n : Int)) && decide ((n : Int) ≤ 4398046511104) then some (n : Int).toNat else none) = some n
 rw [show decide (0 ≤ (n : Int)) = true by simp, show decide ((n : Int) ≤ 4398046511104) = true by simp; omega]
 rfl
theorem byts_len (l : List B) : (byts l).length = l.length := by simp [byts]
theorem byts_get {l : List B} {i : Nat} (h : i < l.length) : (byts l)[i]? = some [.fz (byt l[i])] := by simp [byts, h]
theorem unBs'_inv : ∀ {l : List (List DV)} {m : List B}, unBs' l = some m → l = byts m
 | [], m, h => by cases h; rfl
 | x :: l, m, h => by
  unfold unBs' at h
  split at h
  ·rename_i heq; cases heq
  ·rename_i heq
   cases heq
   obtain ⟨s, hs, h⟩ := bnd' h
   obtain ⟨m', hm, h⟩ := bnd' h
   cases h
   rw [unBs'_inv hm, (unB_inv hs).1]
   rfl
  ·cases h
theorem dBs_inv {x : DV} {l : List B} (h : dBs x = some l) : x = .fz (byts l) ∧ l.length ≤ lim ∧ l.flatten.length ≤ lim := by
 cases x <;> simp only [dBs] at h <;> try (cases h; done)
 obtain ⟨h1, h⟩ := bif1 h
 obtain ⟨m, hm, h⟩ := bnd' h
 obtain ⟨h2, h⟩ := bif1 h
 cases h
 have := unBs'_inv hm
 subst this
 rw [byts_len] at h1
 exact ⟨rfl, Nat.le_of_ble_eq_true h1, Nat.le_of_ble_eq_true h2⟩
theorem flat_le {l : List B} {s : B} (h : s ∈ l) : s.length ≤ l.flatten.length := by
 rw [List.length_flatten]
 induction l with
 | nil => simp at h
 | cons t l ih =>
  simp only [List.map_cons, List.sum_cons]
  rcases List.mem_cons.1 h with rfl | h
  ·omega
  ·have := ih h; omega
theorem dBs_ok {l : List B} (h1 : l.length ≤ lim) (h2 : l.flatten.length ≤ lim) : dBs (.fz (byts l)) = some l := by
 have key : ∀ l : List B, (∀ s ∈ l, s.length ≤ lim) → unBs' (byts l) = some l := by
  intro l
  induction l with
  | nil => intro _; rfl
  | cons s l ih =>
   intro h
   show ((unB (byt s)).bind fun s => (unBs' (byts l)).bind fun l => some (s :: l)) = _
   rw [unB_ok (h s (by simp)), Option.bind_some, ih fun t ht => h t (by simp [ht])]
   rfl
 show (bif Nat.ble (byts l).length lim then (unBs' (byts l)).bind fun l => bif Nat.ble l.flatten.length lim then some l else none else none) = some l
 rw [byts_len, Nat.ble_eq_true_of_le h1, cond_true, key l fun s hs => Nat.le_trans (flat_le hs) h2, Option.bind_some, Nat.ble_eq_true_of_le h2, cond_true]
theorem c_slices_Clone_byte_byte : Con P0 T0 76 S_slices_Clone_byte_byte := con1 fun x s hx => by
 obtain ⟨rfl, hl⟩ := dB_inv hx
 unfold lim at hl
 refine Lx.of_in (tab := t_slices_Clone_byte_byte) trivial ?_
 rw [e_slices_Clone_byte_byte]
 cases s with
 | nil => exact amb_self _
 | cons b s =>
  simp only [List.length_cons] at hl
  show (Option.bind (bif _ then _ else _) _) = _
  simp (disch := (first | omega | (simp only [List.length_cons, List.length_append, List.length_nil, List.length_take, List.length_drop, List.length_replicate, byt_len, ofBytes_len, byts_len, Sx.tn, Sx.tn1, Sx.tnL]; done) | (simp only [List.length_cons, List.length_append, List.length_nil, List.length_take, List.length_drop, List.length_replicate, byt_len, ofBytes_len, byts_len, Sx.tn, Sx.tn1, Sx.tnL]; omega))) only [repeatCells, List.nil_append, Sx.w64, Sx.wu8, Sx.idxI, Sx.upI, Sx.bleT, Sx.bleF, Sx.beqT, Sx.beqF, Sx.ltT, Sx.ltF, Sx.leT, Sx.leF, Sx.gtT, Sx.gtF, Sx.geT, Sx.geF, Sx.eqT, Sx.eqF, Sx.neT, Sx.neF, Sx.ofN, Sx.tn, Sx.tn1, cond_true, cond_false, Option.bind_some, Bool.true_and, Bool.and_true, Bool.false_and, Bool.and_false, Bool.and_self, Bool.not_true, Bool.not_false, Bool.or_false, Bool.or_true, Bool.false_or, Bool.true_or, decide_true, decide_false, Nat.zero_add, Nat.add_zero, Nat.mul_one, Nat.sub_zero, List.drop_zero, List.isEmpty_nil, Int.ofNat_eq_natCast, Sx.castN, Int.natCast_zero, Int.natCast_one, Sx.tnL, Int.sub_zero, Int.add_zero, Int.zero_add, Sx.takeAll, Sx.dropAll, List.drop_succ_cons, List.drop_zero, List.getD_cons_zero, List.getD_cons_succ, byt_len, ofBytes_len, byt_all, byt_flatten, byt_flat_len, Sx.byt_get, Sx.ofB_get, Sx.byt_take, Sx.byt_drop, Sx.byt_app, Sx.ofB_take, Sx.ofB_drop, Sx.ofB_app, Sx.ofB_snoc, Sx.chunkB, Sx.frozB, Sx.zeros, ofBytes_froz, toBytes_of, Sx.uncC, Sx.toI, Sx.toF, Sx.toS, Sx.toB, List.length_append, List.length_cons, List.length_nil, List.length_take, List.length_drop, List.length_replicate]
theorem bare_cons (c : UInt8) (s : B) : bare (c :: s) = bif c == 0 then bare s else c :: s := by
 unfold bare
 rw [List.dropWhile_cons]
 cases h : c == 0 <;> simp
theorem u8_zero (c : UInt8) : ((c.toNat : Int) == 0) = (c == 0) := by
 rw [Bool.eq_iff_iff, beq_iff_eq, beq_iff_eq]
 constructor
 ·intro h
  have : c.toNat = 0 := by omega
  exact UInt8.toNat_inj.1 this
 ·rintro rfl; rfl
theorem l_trim : ∀ (s : B), s.length ≤ lim → LoopLim (tdF T0 132 none 0) (bodyF P0 T0 (fun _ => LoopLim) (Lt t_bytes_trimLeftByte) nY [] 132 none 0) (kontF P0 T0 (fun _ => LoopLim) (Lt t_bytes_trimLeftByte) nY [] 132 0) (stD 21 [(0, .v (.fz (byt s))), (1, .v (.int .u8 0))] []) [] = some (ret (.fz (byt (bare s))))
 | [], hl => by
  refine loop_step (show Cons P0 T0 t_bytes_trimLeftByte from trivial).cont ?_
  rw [b_bytes_trimLeftByte_0]
  simp (disch := (first | omega | (simp only [List.length_cons, List.length_append, List.length_nil, List.length_take, List.length_drop, List.length_replicate, byt_len, ofBytes_len, byts_len, Sx.tn, Sx.tn1, Sx.tnL]; done) | (simp only [List.length_cons, List.length_append, List.length_nil, List.length_take, List.length_drop, List.length_replicate, byt_len, ofBytes_len, byts_len, Sx.tn, Sx.tn1, Sx.tnL]; omega))) only [Sx.w64, Sx.wu8, Sx.idxI, Sx.upI, Sx.bleT, Sx.bleF, Sx.beqT, Sx.beqF, Sx.ltT, Sx.ltF, Sx.leT, Sx.leF, Sx.gtT, Sx.gtF, Sx.geT, Sx.geF, Sx.eqT, Sx.eqF, Sx.neT, Sx.neF, Sx.ofN, Sx.tn, Sx.tn1, cond_true, cond_false, Option.bind_some, Bool.true_and, Bool.and_true, Bool.false_and, Bool.and_false, Bool.and_self, Bool.not_true, Bool.not_false, Bool.or_false, Bool.or_true, Bool.false_or, Bool.true_or, decide_true, decide_false, Nat.zero_add, Nat.add_zero, Nat.mul_one, Nat.sub_zero, List.drop_zero, List.isEmpty_nil, Int.ofNat_eq_natCast, Sx.castN, Int.natCast_zero, Int.natCast_one, Sx.tnL, Int.sub_zero, Int.add_zero, Int.zero_add, Sx.takeAll, Sx.dropAll, List.drop_succ_cons, List.drop_zero, List.getD_cons_zero, List.getD_cons_succ, byt_len, ofBytes_len, byt_all, byt_flatten, byt_flat_len, Sx.byt_get, Sx.ofB_get, Sx.byt_take, Sx.byt_drop, Sx.byt_app, Sx.ofB_take, Sx.ofB_drop, Sx.ofB_app, Sx.ofB_snoc, Sx.chunkB, Sx.frozB, Sx.zeros, ofBytes_froz, toBytes_of, Sx.uncC, Sx.toI, Sx.toF, Sx.toS, Sx.toB, List.length_append, List.length_cons, List.length_nil, List.length_take, List.length_drop, List.length_replicate]
  show _ = some (ret (.fz []))
  (show _ = _; kernel_rfl)
 | c :: s, hl => by
  have ih := l_trim s (by simp at hl; omega)
  simp only [List.length_cons] at hl
  unfold lim at hl
  refine loop_step (show Cons P0 T0 t_bytes_trimLeftByte from trivial).cont ?_
  rw [b_bytes_trimLeftByte_0]
  simp (disch := (first | omega | (simp only [List.length_cons, List.length_append, List.length_nil, List.length_take, List.length_drop, List.length_replicate, byt_len, ofBytes_len, byts_len, Sx.tn, Sx.tn1, Sx.tnL]; done) | (simp only [List.length_cons, List.length_append, List.length_nil, List.length_take, List.length_drop, List.length_replicate, byt_len, ofBytes_len, byts_len, Sx.tn, Sx.tn1, Sx.tnL]; omega))) only [Sx.w64, Sx.wu8, Sx.idxI, Sx.upI, Sx.bleT, Sx.bleF, Sx.beqT, Sx.beqF, Sx.ltT, Sx.ltF, Sx.leT, Sx.leF, Sx.gtT, Sx.gtF, Sx.geT, Sx.geF, Sx.eqT, Sx.eqF, Sx.neT, Sx.neF, Sx.ofN, Sx.tn, Sx.tn1, cond_true, cond_false, Option.bind_some, Bool.true_and, Bool.and_true, Bool.false_and, Bool.and_false, Bool.and_self, Bool.not_true, Bool.not_false, Bool.or_false, Bool.or_true, Bool.false_or, Bool.true_or, decide_true, decide_false, Nat.zero_add, Nat.add_zero, Nat.mul_one, Nat.sub_zero, List.drop_zero, List.isEmpty_nil, Int.ofNat_eq_natCast, Sx.castN, Int.natCast_zero, Int.natCast_one, Sx.tnL, Int.sub_zero, Int.add_zero, Int.zero_add, Sx.takeAll, Sx.dropAll, List.drop_succ_cons, List.drop_zero, List.getD_cons_zero, List.getD_cons_succ, byt_len, ofBytes_len, byt_all, byt_flatten, byt_flat_len, Sx.byt_get, Sx.ofB_get, Sx.byt_take, Sx.byt_drop, Sx.byt_app, Sx.ofB_take, Sx.ofB_drop, Sx.ofB_app, Sx.ofB_snoc, Sx.chunkB, Sx.frozB, Sx.zeros, ofBytes_froz, toBytes_of, Sx.uncC, Sx.toI, Sx.toF, Sx.toS, Sx.toB, List.length_append, List.length_cons, List.length_nil, List.length_take, List.length_drop, List.length_replicate]
  simp only [u8_zero, bare_cons]
  cases hc : c == 0 with
  | true =>
   simp only [cond_true]
   refine leafT (X := true) ih ?_ rfl ?_ rfl
   ·(show _ = _; kernel_rfl)
   ·(show _ = _; kernel_rfl)
  | false =>
   simp only [cond_false]
   (show _ = _; kernel_rfl)
theorem c_bytes_trimLeftByte : Con P0 T0 132 S_bytes_trimLeftByte := con2 fun x s y u hx hy => by
 obtain ⟨rfl, hl⟩ := dB_inv hx
 obtain rfl := dY0_inv hy
 refine Lx.of_in (tab := t_bytes_trimLeftByte) trivial ?_
 rw [e_bytes_trimLeftByte]
 refine headT (l_trim s hl) ?_
 (show _ = _; kernel_rfl)
theorem c_bytes_TrimLeft : Con P0 T0 96 S_bytes_TrimLeft := con2 fun x s y u hx hy => by
 have hx' := hx
 obtain ⟨rfl, hl⟩ := dB_inv hx
 obtain rfl := dZ_inv hy
 refine Lx.of_in (tab := t_bytes_TrimLeft) ⟨c_bytes_trimLeftByte, trivial⟩ ?_
 rw [e_bytes_TrimLeft]
 cases s with
 | nil => rfl
 | cons c s =>
  simp (disch := (first | omega | (simp only [List.length_cons, List.length_append, List.length_nil, List.length_take, List.length_drop, List.length_replicate, byt_len, ofBytes_len, byts_len, Sx.tn, Sx.tn1, Sx.tnL]; done) | (simp only [List.length_cons, List.length_append, List.length_nil, List.length_take, List.length_drop, List.length_replicate, byt_len, ofBytes_len, byts_len, Sx.tn, Sx.tn1, Sx.tnL]; omega))) only [hx', Sx.w64, Sx.wu8, Sx.idxI, Sx.upI, Sx.bleT, Sx.bleF, Sx.beqT, Sx.beqF, Sx.ltT, Sx.ltF, Sx.leT, Sx.leF, Sx.gtT, Sx.gtF, Sx.geT, Sx.geF, Sx.eqT, Sx.eqF, Sx.neT, Sx.neF, Sx.ofN, Sx.tn, Sx.tn1, cond_true, cond_false, Option.bind_some, Bool.true_and, Bool.and_true, Bool.false_and, Bool.and_false, Bool.and_self, Bool.not_true, Bool.not_false, Bool.or_false, Bool.or_true, Bool.false_or, Bool.true_or, decide_true, decide_false, Nat.zero_add, Nat.add_zero, Nat.mul_one, Nat.sub_zero, List.drop_zero, List.isEmpty_nil, Int.ofNat_eq_natCast, Sx.castN, Int.natCast_zero, Int.natCast_one, Sx.tnL, Int.sub_zero, Int.add_zero, Int.zero_add, Sx.takeAll, Sx.dropAll, List.drop_succ_cons, List.drop_zero, List.getD_cons_zero, List.getD_cons_succ, byt_len, ofBytes_len, byt_all, byt_flatten, byt_flat_len, Sx.byt_get, Sx.ofB_get, Sx.byt_take, Sx.byt_drop, Sx.byt_app, Sx.ofB_take, Sx.ofB_drop, Sx.ofB_app, Sx.ofB_snoc, Sx.chunkB, Sx.frozB, Sx.zeros, ofBytes_froz, toBytes_of, Sx.uncC, Sx.toI, Sx.toF, Sx.toS, Sx.toB, List.length_append, List.length_cons, List.length_nil, List.length_take, List.length_drop, List.length_replicate]
theorem c_slices_Grow : Con P0 T0 131 S_slices_Grow_byte_byte where
 nat R xs k := by
  unfold S_slices_Grow_byte_byte
  split
  ·simp only [Option.bind_assoc, Option.bind_some]
  ·rfl
 ok xs r h := by
  unfold S_slices_Grow_byte_byte at h
  split at h
  ·obtain ⟨n, hn, h2⟩ := bnd' h
   obtain ⟨rfl, hl⟩ := dG_inv hn
   obtain rfl := Option.some.inj h2
   refine Lx.of_in (tab := t_slices_Grow_byte_byte) trivial ?_
   rw [e_slices_Grow_byte_byte]
   rcases Nat.eq_zero_or_pos n with rfl | hp
   ·rfl
   ·simp (disch := (first | omega | (simp only [List.length_cons, List.length_append, List.length_nil, List.length_take, List.length_drop, List.length_replicate, byt_len, ofBytes_len, byts_len, Sx.tn, Sx.tn1, Sx.tnL]; done) | (simp only [List.length_cons, List.length_append, List.length_nil, List.length_take, List.length_drop, List.length_replicate, byt_len, ofBytes_len, byts_len, Sx.tn, Sx.tn1, Sx.tnL]; omega))) only [Sx.w64, Int.neg_zero, Sx.w64, Sx.wu8, Sx.idxI, Sx.upI, Sx.bleT, Sx.bleF, Sx.beqT, Sx.beqF, Sx.ltT, Sx.ltF, Sx.leT, Sx.leF, Sx.gtT, Sx.gtF, Sx.geT, Sx.geF, Sx.eqT, Sx.eqF, Sx.neT, Sx.neF, Sx.ofN, Sx.tn, Sx.tn1, cond_true, cond_false, Option.bind_some, Bool.true_and, Bool.and_true, Bool.false_and, Bool.and_false, Bool.and_self, Bool.not_true, Bool.not_false, Bool.or_false, Bool.or_true, Bool.false_or, Bool.true_or, decide_true, decide_false, Nat.zero_add, Nat.add_zero, Nat.mul_one, Nat.sub_zero, List.drop_zero, List.isEmpty_nil, Int.ofNat_eq_natCast, Sx.castN, Int.natCast_zero, Int.natCast_one, Sx.tnL, Int.sub_zero, Int.add_zero, Int.zero_add, Sx.takeAll, Sx.dropAll, List.drop_succ_cons, List.drop_zero, List.getD_cons_zero, List.getD_cons_succ, byt_len, ofBytes_len, byt_all, byt_flatten, byt_flat_len, Sx.byt_get, Sx.ofB_get, Sx.byt_take, Sx.byt_drop, Sx.byt_app, Sx.ofB_take, Sx.ofB_drop, Sx.ofB_app, Sx.ofB_snoc, Sx.chunkB, Sx.frozB, Sx.zeros, ofBytes_froz, toBytes_of, Sx.uncC, Sx.toI, Sx.toF, Sx.toS, Sx.toB, List.length_append, List.length_cons, List.length_nil, List.length_take, List.length_drop, List.length_replicate]
    rfl
  ·cases h
theorem spl_room {b s : B} {p : Nat} (h : s.length ≤ p) : splice (ofBytes (b ++ List.replicate p 0)) b.length (ofBytes s) = ofBytes (b ++ s ++ List.replicate (p - s.length) 0) := by
 rw [Sx.spl_ofB, List.take_left, ← List.drop_drop, List.drop_left, List.drop_replicate]
abbrev stCt (l : List B) (b : B) (p i : Nat) : DSt := stH 36 [(6, .v (.sl 0 0 b.length p 1)), (25, .v (.fz (byts l))), (26, .v (.int .i64 l.length)), (27, .v (.int .i64 i))] [] [newBlk (ofBytes (b ++ List.replicate p 0)) 5]
theorem l_Concat2 (l : List B) (hl : l.length ≤ lim) : ∀ m i (b : B) (p : Nat), l.length - i = m → i ≤ l.length → p = (l.drop i).flatten.length → b.length + p ≤ lim →
  LoopLim (tdF T0 94 none 2) (bodyF P0 T0 (fun _ => LoopLim) (Lt t_slices_Concat_byte_byte) nY [] 94 none 2) (kontF P0 T0 (fun _ => LoopLim) (Lt t_slices_Concat_byte_byte) nY [] 94 2) (stCt l b p i) [] = some (ob (b ++ (l.drop i).flatten)) := by
 have hc : Cons P0 T0 t_slices_Concat_byte_byte := ⟨c_slices_Grow, trivial⟩
 intro m
 induction m with
 | zero =>
  intro i b p hm hi hp hb
  have hie : i = l.length := by omega
  subst hie
  simp only [List.drop_length, List.flatten_nil, List.length_nil] at hp
  subst hp
  refine loop_step hc.cont ?_
  rw [b_slices_Concat_byte_byte_2]
  simp (disch := (first | omega | (simp only [List.length_cons, List.length_append, List.length_nil, List.length_take, List.length_drop, List.length_replicate, byt_len, ofBytes_len, byts_len, Sx.tn, Sx.tn1, Sx.tnL]; done) | (simp only [List.length_cons, List.length_append, List.length_nil, List.length_take, List.length_drop, List.length_replicate, byt_len, ofBytes_len, byts_len, Sx.tn, Sx.tn1, Sx.tnL]; omega))) only [Sx.w64, Sx.wu8, Sx.idxI, Sx.upI, Sx.bleT, Sx.bleF, Sx.beqT, Sx.beqF, Sx.ltT, Sx.ltF, Sx.leT, Sx.leF, Sx.gtT, Sx.gtF, Sx.geT, Sx.geF, Sx.eqT, Sx.eqF, Sx.neT, Sx.neF, Sx.ofN, Sx.tn, Sx.tn1, cond_true, cond_false, Option.bind_some, Bool.true_and, Bool.and_true, Bool.false_and, Bool.and_false, Bool.and_self, Bool.not_true, Bool.not_false, Bool.or_false, Bool.or_true, Bool.false_or, Bool.true_or, decide_true, decide_false, Nat.zero_add, Nat.add_zero, Nat.mul_one, Nat.sub_zero, List.drop_zero, List.isEmpty_nil, Int.ofNat_eq_natCast, Sx.castN, Int.natCast_zero, Int.natCast_one, Sx.tnL, Int.sub_zero, Int.add_zero, Int.zero_add, Sx.takeAll, Sx.dropAll, List.drop_succ_cons, List.drop_zero, List.getD_cons_zero, List.getD_cons_succ, byt_len, ofBytes_len, byt_all, byt_flatten, byt_flat_len, Sx.byt_get, Sx.ofB_get, Sx.byt_take, Sx.byt_drop, Sx.byt_app, Sx.ofB_take, Sx.ofB_drop, Sx.ofB_app, Sx.ofB_snoc, Sx.chunkB, Sx.frozB, Sx.zeros, ofBytes_froz, toBytes_of, Sx.uncC, Sx.toI, Sx.toF, Sx.toS, Sx.toB, List.length_append, List.length_cons, List.length_nil, List.length_take, List.length_drop, List.length_replicate, List.replicate_zero, List.append_nil, List.drop_length, List.flatten_nil]
  refine Eq.trans ?_ ((x_slices_Concat_byte_byte_2 (fun _ => LoopLim) (byts l) l.length l.length b.length 0 (ofBytes b) false).trans ?_)
  ·(show _ = _; kernel_rfl)
  ·simp (disch := (first | omega | (simp only [List.length_cons, List.length_append, List.length_nil, List.length_take, List.length_drop, List.length_replicate, byt_len, ofBytes_len, byts_len, Sx.tn, Sx.tn1, Sx.tnL]; done) | (simp only [List.length_cons, List.length_append, List.length_nil, List.length_take, List.length_drop, List.length_replicate, byt_len, ofBytes_len, byts_len, Sx.tn, Sx.tn1, Sx.tnL]; omega))) only [Sx.w64, Sx.wu8, Sx.idxI, Sx.upI, Sx.bleT, Sx.bleF, Sx.beqT, Sx.beqF, Sx.ltT, Sx.ltF, Sx.leT, Sx.leF, Sx.gtT, Sx.gtF, Sx.geT, Sx.geF, Sx.eqT, Sx.eqF, Sx.neT, Sx.neF, Sx.ofN, Sx.tn, Sx.tn1, cond_true, cond_false, Option.bind_some, Bool.true_and, Bool.and_true, Bool.false_and, Bool.and_false, Bool.and_self, Bool.not_true, Bool.not_false, Bool.or_false, Bool.or_true, Bool.false_or, Bool.true_or, decide_true, decide_false, Nat.zero_add, Nat.add_zero, Nat.mul_one, Nat.sub_zero, List.drop_zero, List.isEmpty_nil, Int.ofNat_eq_natCast, Sx.castN, Int.natCast_zero, Int.natCast_one, Sx.tnL, Int.sub_zero, Int.add_zero, Int.zero_add, Sx.takeAll, Sx.dropAll, List.drop_succ_cons, List.drop_zero, List.getD_cons_zero, List.getD_cons_succ, byt_len, ofBytes_len, byt_all, byt_flatten, byt_flat_len, Sx.byt_get, Sx.ofB_get, Sx.byt_take, Sx.byt_drop, Sx.byt_app, Sx.ofB_take, Sx.ofB_drop, Sx.ofB_app, Sx.ofB_snoc, Sx.chunkB, Sx.frozB, Sx.zeros, ofBytes_froz, toBytes_of, Sx.uncC, Sx.toI, Sx.toF, Sx.toS, Sx.toB, List.length_append, List.length_cons, List.length_nil, List.length_take, List.length_drop, List.length_replicate]
   rfl
 | succ m ih =>
  intro i b p hm hi hp hb
  have hil : i < l.length := by omega
  have hd := List.drop_eq_getElem_cons hil
  rw [hd, List.flatten_cons, List.length_append] at hp
  unfold lim at hl hb
  have hnx := ih (i + 1) (b ++ l[i]) (p - l[i].length) (by omega) hil (by omega) (by unfold lim; simp only [List.length_append]; omega)
  simp only [stCt, List.length_append] at hnx
  refine loop_step hc.cont ?_
  rw [b_slices_Concat_byte_byte_2]
  simp (disch := (first | omega | (simp only [List.length_cons, List.length_append, List.length_nil, List.length_take, List.length_drop, List.length_replicate, byt_len, ofBytes_len, byts_len, Sx.tn, Sx.tn1, Sx.tnL]; done) | (simp only [List.length_cons, List.length_append, List.length_nil, List.length_take, List.length_drop, List.length_replicate, byt_len, ofBytes_len, byts_len, Sx.tn, Sx.tn1, Sx.tnL]; omega))) only [Sx.w64, Sx.wu8, Sx.idxI, Sx.upI, Sx.bleT, Sx.bleF, Sx.beqT, Sx.beqF, Sx.ltT, Sx.ltF, Sx.leT, Sx.leF, Sx.gtT, Sx.gtF, Sx.geT, Sx.geF, Sx.eqT, Sx.eqF, Sx.neT, Sx.neF, Sx.ofN, Sx.tn, Sx.tn1, cond_true, cond_false, Option.bind_some, Bool.true_and, Bool.and_true, Bool.false_and, Bool.and_false, Bool.and_self, Bool.not_true, Bool.not_false, Bool.or_false, Bool.or_true, Bool.false_or, Bool.true_or, decide_true, decide_false, Nat.zero_add, Nat.add_zero, Nat.mul_one, Nat.sub_zero, List.drop_zero, List.isEmpty_nil, Int.ofNat_eq_natCast, Sx.castN, Int.natCast_zero, Int.natCast_one, Sx.tnL, Int.sub_zero, Int.add_zero, Int.zero_add, Sx.takeAll, Sx.dropAll, List.drop_succ_cons, List.drop_zero, List.getD_cons_zero, List.getD_cons_succ, byt_len, ofBytes_len, byt_all, byt_flatten, byt_flat_len, Sx.byt_get, Sx.ofB_get, Sx.byt_take, Sx.byt_drop, Sx.byt_app, Sx.ofB_take, Sx.ofB_drop, Sx.ofB_app, Sx.ofB_snoc, Sx.chunkB, Sx.frozB, Sx.zeros, ofBytes_froz, toBytes_of, Sx.uncC, Sx.toI, Sx.toF, Sx.toS, Sx.toB, List.length_append, List.length_cons, List.length_nil, List.length_take, List.length_drop, List.length_replicate, byts_get]
  rw [hd, List.flatten_cons, ← List.append_assoc]
  rcases Nat.eq_zero_or_pos p with h0 | h0
  ·have hl0 : l[i] = [] := List.eq_nil_of_length_eq_zero (by omega)
   subst h0
   simp only [hl0, List.append_nil, List.length_nil, Nat.add_zero, Nat.sub_zero, List.replicate_zero] at hnx
   simp (disch := (first | omega | (simp only [List.length_cons, List.length_append, List.length_nil, List.length_take, List.length_drop, List.length_replicate, byt_len, ofBytes_len, byts_len, Sx.tn, Sx.tn1, Sx.tnL]; done) | (simp only [List.length_cons, List.length_append, List.length_nil, List.length_take, List.length_drop, List.length_replicate, byt_len, ofBytes_len, byts_len, Sx.tn, Sx.tn1, Sx.tnL]; omega))) only [roomy, Sx.w64, Sx.wu8, Sx.idxI, Sx.upI, Sx.bleT, Sx.bleF, Sx.beqT, Sx.beqF, Sx.ltT, Sx.ltF, Sx.leT, Sx.leF, Sx.gtT, Sx.gtF, Sx.geT, Sx.geF, Sx.eqT, Sx.eqF, Sx.neT, Sx.neF, Sx.ofN, Sx.tn, Sx.tn1, cond_true, cond_false, Option.bind_some, Bool.true_and, Bool.and_true, Bool.false_and, Bool.and_false, Bool.and_self, Bool.not_true, Bool.not_false, Bool.or_false, Bool.or_true, Bool.false_or, Bool.true_or, decide_true, decide_false, Nat.zero_add, Nat.add_zero, Nat.mul_one, Nat.sub_zero, List.drop_zero, List.isEmpty_nil, Int.ofNat_eq_natCast, Sx.castN, Int.natCast_zero, Int.natCast_one, Sx.tnL, Int.sub_zero, Int.add_zero, Int.zero_add, Sx.takeAll, Sx.dropAll, List.drop_succ_cons, List.drop_zero, List.getD_cons_zero, List.getD_cons_succ, byt_len, ofBytes_len, byt_all, byt_flatten, byt_flat_len, Sx.byt_get, Sx.ofB_get, Sx.byt_take, Sx.byt_drop, Sx.byt_app, Sx.ofB_take, Sx.ofB_drop, Sx.ofB_app, Sx.ofB_snoc, Sx.chunkB, Sx.frozB, Sx.zeros, ofBytes_froz, toBytes_of, Sx.uncC, Sx.toI, Sx.toF, Sx.toS, Sx.toB, List.length_append, List.length_cons, List.length_nil, List.length_take, List.length_drop, List.length_replicate, hl0, List.append_nil, List.replicate_zero]
   refine leafT (X := ((ofBytes b).all froz && true)) hnx ?_ ?_ ?_ rfl
   ·(show _ = _; kernel_rfl)
   ·rw [ofBytes_froz]; rfl
   ·(show _ = _; kernel_rfl)
  ·have hr : roomy l[i].length p = true := by
    cases p with
    | zero => omega
    | succ p => exact Sx.bleT (by omega)
   rw [hr]
   have hs : splice (ofBytes (b ++ List.replicate p 0)) b.length (ofBytes l[i]) = ofBytes (b ++ l[i] ++ List.replicate (p - l[i].length) 0) := by
    exact spl_room (by omega)
   simp (disch := (first | omega | (simp only [List.length_cons, List.length_append, List.length_nil, List.length_take, List.length_drop, List.length_replicate, byt_len, ofBytes_len, byts_len, Sx.tn, Sx.tn1, Sx.tnL]; done) | (simp only [List.length_cons, List.length_append, List.length_nil, List.length_take, List.length_drop, List.length_replicate, byt_len, ofBytes_len, byts_len, Sx.tn, Sx.tn1, Sx.tnL]; omega))) only [Sx.w64, Sx.wu8, Sx.idxI, Sx.upI, Sx.bleT, Sx.bleF, Sx.beqT, Sx.beqF, Sx.ltT, Sx.ltF, Sx.leT, Sx.leF, Sx.gtT, Sx.gtF, Sx.geT, Sx.geF, Sx.eqT, Sx.eqF, Sx.neT, Sx.neF, Sx.ofN, Sx.tn, Sx.tn1, cond_true, cond_false, Option.bind_some, Bool.true_and, Bool.and_true, Bool.false_and, Bool.and_false, Bool.and_self, Bool.not_true, Bool.not_false, Bool.or_false, Bool.or_true, Bool.false_or, Bool.true_or, decide_true, decide_false, Nat.zero_add, Nat.add_zero, Nat.mul_one, Nat.sub_zero, List.drop_zero, List.isEmpty_nil, Int.ofNat_eq_natCast, Sx.castN, Int.natCast_zero, Int.natCast_one, Sx.tnL, Int.sub_zero, Int.add_zero, Int.zero_add, Sx.takeAll, Sx.dropAll, List.drop_succ_cons, List.drop_zero, List.getD_cons_zero, List.getD_cons_succ, byt_len, ofBytes_len, byt_all, byt_flatten, byt_flat_len, Sx.byt_get, Sx.ofB_get, Sx.byt_take, Sx.byt_drop, Sx.byt_app, Sx.ofB_take, Sx.ofB_drop, Sx.ofB_app, Sx.ofB_snoc, Sx.chunkB, Sx.frozB, Sx.zeros, ofBytes_froz, toBytes_of, Sx.uncC, Sx.toI, Sx.toF, Sx.toS, Sx.toB, List.length_append, List.length_cons, List.length_nil, List.length_take, List.length_drop, List.length_replicate, hs]
   refine leafT (X := ((ofBytes (b ++ l[i] ++ List.replicate (p - l[i].length) 0)).all froz && true)) hnx ?_ ?_ ?_ rfl
   ·(show _ = _; kernel_rfl)
   ·rw [ofBytes_froz]; rfl
   ·(show _ = _; kernel_rfl)
theorem l_Concat0 (l : List B) (hl : l.length ≤ lim) (hf : l.flatten.length ≤ lim) : ∀ m i (t : Nat), l.length - i = m → i ≤ l.length → t + (l.drop i).flatten.length = l.flatten.length →
  LoopLim (tdF T0 94 none 0) (bodyF P0 T0 (fun _ => LoopLim) (Lt t_slices_Concat_byte_byte) nY [] 94 none 0) (kontF P0 T0 (fun _ => LoopLim) (Lt t_slices_Concat_byte_byte) nY [] 94 0) (stD 36 [(0, .v (.fz (byts l))), (3, .v (.int .i64 t)), (9, .v (.fz (byts l))), (10, .v (.int .i64 l.length)), (11, .v (.int .i64 i))] []) [] = some (ob l.flatten) := by
 have hc : Cons P0 T0 t_slices_Concat_byte_byte := ⟨c_slices_Grow, trivial⟩
 intro m
 induction m with
 | zero =>
  intro i t hm hi ht
  have hie : i = l.length := by omega
  subst hie
  simp only [List.drop_length, List.flatten_nil, List.length_nil, Nat.add_zero] at ht
  subst ht
  refine loop_step hc.cont ?_
  rw [b_slices_Concat_byte_byte_0]
  simp (disch := (first | omega | (simp only [List.length_cons, List.length_append, List.length_nil, List.length_take, List.length_drop, List.length_replicate, byt_len, ofBytes_len, byts_len, Sx.tn, Sx.tn1, Sx.tnL]; done) | (simp only [List.length_cons, List.length_append, List.length_nil, List.length_take, List.length_drop, List.length_replicate, byt_len, ofBytes_len, byts_len, Sx.tn, Sx.tn1, Sx.tnL]; omega))) only [Sx.w64, Sx.wu8, Sx.idxI, Sx.upI, Sx.bleT, Sx.bleF, Sx.beqT, Sx.beqF, Sx.ltT, Sx.ltF, Sx.leT, Sx.leF, Sx.gtT, Sx.gtF, Sx.geT, Sx.geF, Sx.eqT, Sx.eqF, Sx.neT, Sx.neF, Sx.ofN, Sx.tn, Sx.tn1, cond_true, cond_false, Option.bind_some, Bool.true_and, Bool.and_true, Bool.false_and, Bool.and_false, Bool.and_self, Bool.not_true, Bool.not_false, Bool.or_false, Bool.or_true, Bool.false_or, Bool.true_or, decide_true, decide_false, Nat.zero_add, Nat.add_zero, Nat.mul_one, Nat.sub_zero, List.drop_zero, List.isEmpty_nil, Int.ofNat_eq_natCast, Sx.castN, Int.natCast_zero, Int.natCast_one, Sx.tnL, Int.sub_zero, Int.add_zero, Int.zero_add, Sx.takeAll, Sx.dropAll, List.drop_succ_cons, List.drop_zero, List.getD_cons_zero, List.getD_cons_succ, byt_len, ofBytes_len, byt_all, byt_flatten, byt_flat_len, Sx.byt_get, Sx.ofB_get, Sx.byt_take, Sx.byt_drop, Sx.byt_app, Sx.ofB_take, Sx.ofB_drop, Sx.ofB_app, Sx.ofB_snoc, Sx.chunkB, Sx.frozB, Sx.zeros, ofBytes_froz, toBytes_of, Sx.uncC, Sx.toI, Sx.toF, Sx.toS, Sx.toB, List.length_append, List.length_cons, List.length_nil, List.length_take, List.length_drop, List.length_replicate]
  refine Eq.trans ?_ ((x_slices_Concat_byte_byte_0 (fun _ => LoopLim) (byts l) l.flatten.length l.length l.length false).trans ?_)
  ·(show _ = _; kernel_rfl)
  ·have h2 := l_Concat2 l hl l.length 0 [] l.flatten.length (by omega) (by omega) (by simp) (by simpa using hf)
   rw [List.drop_zero, List.nil_append] at h2
   rw [dG_ok (by unfold lim at hf; omega)]
   simp (disch := (first | omega | (simp only [List.length_cons, List.length_append, List.length_nil, List.length_take, List.length_drop, List.length_replicate, byt_len, ofBytes_len, byts_len, Sx.tn, Sx.tn1, Sx.tnL]; done) | (simp only [List.length_cons, List.length_append, List.length_nil, List.length_take, List.length_drop, List.length_replicate, byt_len, ofBytes_len, byts_len, Sx.tn, Sx.tn1, Sx.tnL]; omega))) only [Sx.w64, Sx.wu8, Sx.idxI, Sx.upI, Sx.bleT, Sx.bleF, Sx.beqT, Sx.beqF, Sx.ltT, Sx.ltF, Sx.leT, Sx.leF, Sx.gtT, Sx.gtF, Sx.geT, Sx.geF, Sx.eqT, Sx.eqF, Sx.neT, Sx.neF, Sx.ofN, Sx.tn, Sx.tn1, cond_true, cond_false, Option.bind_some, Bool.true_and, Bool.and_true, Bool.false_and, Bool.and_false, Bool.and_self, Bool.not_true, Bool.not_false, Bool.or_false, Bool.or_true, Bool.false_or, Bool.true_or, decide_true, decide_false, Nat.zero_add, Nat.add_zero, Nat.mul_one, Nat.sub_zero, List.drop_zero, List.isEmpty_nil, Int.ofNat_eq_natCast, Sx.castN, Int.natCast_zero, Int.natCast_one, Sx.tnL, Int.sub_zero, Int.add_zero, Int.zero_add, Sx.takeAll, Sx.dropAll, List.drop_succ_cons, List.drop_zero, List.getD_cons_zero, List.getD_cons_succ, byt_len, ofBytes_len, byt_all, byt_flatten, byt_flat_len, Sx.byt_get, Sx.ofB_get, Sx.byt_take, Sx.byt_drop, Sx.byt_app, Sx.ofB_take, Sx.ofB_drop, Sx.ofB_app, Sx.ofB_snoc, Sx.chunkB, Sx.frozB, Sx.zeros, ofBytes_froz, toBytes_of, Sx.uncC, Sx.toI, Sx.toF, Sx.toS, Sx.toB, List.length_append, List.length_cons, List.length_nil, List.length_take, List.length_drop, List.length_replicate, byts_len]
   refine headT h2 ?_
   (show _ = _; kernel_rfl)
 | succ m ih =>
  intro i t hm hi ht
  have hil : i < l.length := by omega
  have hd := List.drop_eq_getElem_cons hil
  rw [hd, List.flatten_cons, List.length_append] at ht
  unfold lim at hl hf
  have hnx := ih (i + 1) (t + l[i].length) (by omega) hil (by omega)
  refine loop_step hc.cont ?_
  rw [b_slices_Concat_byte_byte_0]
  simp (disch := (first | omega | (simp only [List.length_cons, List.length_append, List.length_nil, List.length_take, List.length_drop, List.length_replicate, byt_len, ofBytes_len, byts_len, Sx.tn, Sx.tn1, Sx.tnL]; done) | (simp only [List.length_cons, List.length_append, List.length_nil, List.length_take, List.length_drop, List.length_replicate, byt_len, ofBytes_len, byts_len, Sx.tn, Sx.tn1, Sx.tnL]; omega))) only [Sx.w64, Sx.wu8, Sx.idxI, Sx.upI, Sx.bleT, Sx.bleF, Sx.beqT, Sx.beqF, Sx.ltT, Sx.ltF, Sx.leT, Sx.leF, Sx.gtT, Sx.gtF, Sx.geT, Sx.geF, Sx.eqT, Sx.eqF, Sx.neT, Sx.neF, Sx.ofN, Sx.tn, Sx.tn1, cond_true, cond_false, Option.bind_some, Bool.true_and, Bool.and_true, Bool.false_and, Bool.and_false, Bool.and_self, Bool.not_true, Bool.not_false, Bool.or_false, Bool.or_true, Bool.false_or, Bool.true_or, decide_true, decide_false, Nat.zero_add, Nat.add_zero, Nat.mul_one, Nat.sub_zero, List.drop_zero, List.isEmpty_nil, Int.ofNat_eq_natCast, Sx.castN, Int.natCast_zero, Int.natCast_one, Sx.tnL, Int.sub_zero, Int.add_zero, Int.zero_add, Sx.takeAll, Sx.dropAll, List.drop_succ_cons, List.drop_zero, List.getD_cons_zero, List.getD_cons_succ, byt_len, ofBytes_len, byt_all, byt_flatten, byt_flat_len, Sx.byt_get, Sx.ofB_get, Sx.byt_take, Sx.byt_drop, Sx.byt_app, Sx.ofB_take, Sx.ofB_drop, Sx.ofB_app, Sx.ofB_snoc, Sx.chunkB, Sx.frozB, Sx.zeros, ofBytes_froz, toBytes_of, Sx.uncC, Sx.toI, Sx.toF, Sx.toS, Sx.toB, List.length_append, List.length_cons, List.length_nil, List.length_take, List.length_drop, List.length_replicate, byts_get]
  refine leafT (X := true) hnx ?_ rfl ?_ rfl
  ·(show _ = _; kernel_rfl)
  ·(show _ = _; kernel_rfl)
theorem c_slices_Concat : Con P0 T0 94 S_slices_Concat_byte_byte := coq1 fun x l hx => by
 obtain ⟨rfl, hl, hf⟩ := dBs_inv hx
 refine Lx.of_in (tab := t_slices_Concat_byte_byte) ⟨c_slices_Grow, trivial⟩ ?_
 rw [e_slices_Concat_byte_byte]
 simp only [byts_len]
 refine headT (l_Concat0 l hl hf l.length 0 0 (by omega) (by omega) (by simp)) ?_
 (show _ = _; kernel_rfl)
theorem land31 (t : Int) (h1 : 0 ≤ t) (h2 : t ≤ 255) : IntKind.i64.wrap ((BitVec.ofInt 64 t &&& BitVec.ofInt 64 31).toNat : Int) = t % 32 := by
 obtain ⟨n, rfl⟩ := Int.eq_ofNat_of_zero_le h1
 have h3 : n < 256 := by omega
 have e : (BitVec.ofInt 64 (n : Int)).toNat = n := by
  rw [BitVec.toNat_ofInt]
  omega
 have e2 : (BitVec.ofInt 64 (n : Int) &&& BitVec.ofInt 64 31).toNat = n % 32 := by
  rw [BitVec.toNat_and, e]
  exact Nat.and_two_pow_sub_one_eq_mod n 5
 rw [e2, Sx.w64 (by omega)]
 rfl
theorem c_der_isTag : Con P0 T0 93 S_der_isTag := con1 fun x t hx => by
 obtain rfl := dI_inv hx
 refine Lx.of_in (tab := t_der_isTag) trivial ?_
 rw [e_der_isTag]
 unfold isTag
 rcases Int.lt_or_le t 0 with h1 | h1
 ·simp (disch := (first | omega | (simp only [List.length_cons, List.length_append, List.length_nil, List.length_take, List.length_drop, List.length_replicate, byt_len, ofBytes_len, byts_len, Sx.tn, Sx.tn1, Sx.tnL]; done) | (simp only [List.length_cons, List.length_append, List.length_nil, List.length_take, List.length_drop, List.length_replicate, byt_len, ofBytes_len, byts_len, Sx.tn, Sx.tn1, Sx.tnL]; omega))) only [Sx.w64, Sx.wu8, Sx.idxI, Sx.upI, Sx.bleT, Sx.bleF, Sx.beqT, Sx.beqF, Sx.ltT, Sx.ltF, Sx.leT, Sx.leF, Sx.gtT, Sx.gtF, Sx.geT, Sx.geF, Sx.eqT, Sx.eqF, Sx.neT, Sx.neF, Sx.ofN, Sx.tn, Sx.tn1, cond_true, cond_false, Option.bind_some, Bool.true_and, Bool.and_true, Bool.false_and, Bool.and_false, Bool.and_self, Bool.not_true, Bool.not_false, Bool.or_false, Bool.or_true, Bool.false_or, Bool.true_or, decide_true, decide_false, Nat.zero_add, Nat.add_zero, Nat.mul_one, Nat.sub_zero, List.drop_zero, List.isEmpty_nil, Int.ofNat_eq_natCast, Sx.castN, Int.natCast_zero, Int.natCast_one, Sx.tnL, Int.sub_zero, Int.add_zero, Int.zero_add]
 ·rcases Int.lt_or_le 255 t with h2 | h2
  ·simp (disch := (first | omega | (simp only [List.length_cons, List.length_append, List.length_nil, List.length_take, List.length_drop, List.length_replicate, byt_len, ofBytes_len, byts_len, Sx.tn, Sx.tn1, Sx.tnL]; done) | (simp only [List.length_cons, List.length_append, List.length_nil, List.length_take, List.length_drop, List.length_replicate, byt_len, ofBytes_len, byts_len, Sx.tn, Sx.tn1, Sx.tnL]; omega))) only [Sx.w64, Sx.wu8, Sx.idxI, Sx.upI, Sx.bleT, Sx.bleF, Sx.beqT, Sx.beqF, Sx.ltT, Sx.ltF, Sx.leT, Sx.leF, Sx.gtT, Sx.gtF, Sx.geT, Sx.geF, Sx.eqT, Sx.eqF, Sx.neT, Sx.neF, Sx.ofN, Sx.tn, Sx.tn1, cond_true, cond_false, Option.bind_some, Bool.true_and, Bool.and_true, Bool.false_and, Bool.and_false, Bool.and_self, Bool.not_true, Bool.not_false, Bool.or_false, Bool.or_true, Bool.false_or, Bool.true_or, decide_true, decide_false, Nat.zero_add, Nat.add_zero, Nat.mul_one, Nat.sub_zero, List.drop_zero, List.isEmpty_nil, Int.ofNat_eq_natCast, Sx.castN, Int.natCast_zero, Int.natCast_one, Sx.tnL, Int.sub_zero, Int.add_zero, Int.zero_add]
  ·have := land31 t h1 h2
   simp (disch := (first | omega | (simp only [List.length_cons, List.length_append, List.length_nil, List.length_take, List.length_drop, List.length_replicate, byt_len, ofBytes_len, byts_len, Sx.tn, Sx.tn1, Sx.tnL]; done) | (simp only [List.length_cons, List.length_append, List.length_nil, List.length_take, List.length_drop, List.length_replicate, byt_len, ofBytes_len, byts_len, Sx.tn, Sx.tn1, Sx.tnL]; omega))) only [Sx.w64, Sx.wu8, Sx.idxI, Sx.upI, Sx.bleT, Sx.bleF, Sx.beqT, Sx.beqF, Sx.ltT, Sx.ltF, Sx.leT, Sx.leF, Sx.gtT, Sx.gtF, Sx.geT, Sx.geF, Sx.eqT, Sx.eqF, Sx.neT, Sx.neF, Sx.ofN, Sx.tn, Sx.tn1, cond_true, cond_false, Option.bind_some, Bool.true_and, Bool.and_true, Bool.false_and, Bool.and_false, Bool.and_self, Bool.not_true, Bool.not_false, Bool.or_false, Bool.or_true, Bool.false_or, Bool.true_or, decide_true, decide_false, Nat.zero_add, Nat.add_zero, Nat.mul_one, Nat.sub_zero, List.drop_zero, List.isEmpty_nil, Int.ofNat_eq_natCast, Sx.castN, Int.natCast_zero, Int.natCast_one, Sx.tnL, Int.sub_zero, Int.add_zero, Int.zero_add]
   show some (DRes.ret (DV.bool (IntKind.i64.wrap ((BitVec.ofInt 64 t &&& BitVec.ofInt 64 31).toNat : Int) != 31)), []) = _
   rw [this]
   rfl
theorem c_chanceryref01_IsTag : Con P0 T0 139 S_chanceryref01_IsTag := con1 fun x t hx => by
 obtain rfl := dI_inv hx
 refine Lx.of_in (tab := t_chanceryref01_IsTag) trivial ?_
 rw [e_chanceryref01_IsTag]
 unfold isTag
 rcases Int.lt_or_le t 0 with h1 | h1
 ·simp (disch := (first | omega | (simp only [List.length_cons, List.length_append, List.length_nil, List.length_take, List.length_drop, List.length_replicate, byt_len, ofBytes_len, byts_len, Sx.tn, Sx.tn1, Sx.tnL]; done) | (simp only [List.length_cons, List.length_append, List.length_nil, List.length_take, List.length_drop, List.length_replicate, byt_len, ofBytes_len, byts_len, Sx.tn, Sx.tn1, Sx.tnL]; omega))) only [Sx.w64, Sx.wu8, Sx.idxI, Sx.upI, Sx.bleT, Sx.bleF, Sx.beqT, Sx.beqF, Sx.ltT, Sx.ltF, Sx.leT, Sx.leF, Sx.gtT, Sx.gtF, Sx.geT, Sx.geF, Sx.eqT, Sx.eqF, Sx.neT, Sx.neF, Sx.ofN, Sx.tn, Sx.tn1, cond_true, cond_false, Option.bind_some, Bool.true_and, Bool.and_true, Bool.false_and, Bool.and_false, Bool.and_self, Bool.not_true, Bool.not_false, Bool.or_false, Bool.or_true, Bool.false_or, Bool.true_or, decide_true, decide_false, Nat.zero_add, Nat.add_zero, Nat.mul_one, Nat.sub_zero, List.drop_zero, List.isEmpty_nil, Int.ofNat_eq_natCast, Sx.castN, Int.natCast_zero, Int.natCast_one, Sx.tnL, Int.sub_zero, Int.add_zero, Int.zero_add]
 ·rcases Int.lt_or_le 255 t with h2 | h2
  ·simp (disch := (first | omega | (simp only [List.length_cons, List.length_append, List.length_nil, List.length_take, List.length_drop, List.length_replicate, byt_len, ofBytes_len, byts_len, Sx.tn, Sx.tn1, Sx.tnL]; done) | (simp only [List.length_cons, List.length_append, List.length_nil, List.length_take, List.length_drop, List.length_replicate, byt_len, ofBytes_len, byts_len, Sx.tn, Sx.tn1, Sx.tnL]; omega))) only [Sx.w64, Sx.wu8, Sx.idxI, Sx.upI, Sx.bleT, Sx.bleF, Sx.beqT, Sx.beqF, Sx.ltT, Sx.ltF, Sx.leT, Sx.leF, Sx.gtT, Sx.gtF, Sx.geT, Sx.geF, Sx.eqT, Sx.eqF, Sx.neT, Sx.neF, Sx.ofN, Sx.tn, Sx.tn1, cond_true, cond_false, Option.bind_some, Bool.true_and, Bool.and_true, Bool.false_and, Bool.and_false, Bool.and_self, Bool.not_true, Bool.not_false, Bool.or_false, Bool.or_true, Bool.false_or, Bool.true_or, decide_true, decide_false, Nat.zero_add, Nat.add_zero, Nat.mul_one, Nat.sub_zero, List.drop_zero, List.isEmpty_nil, Int.ofNat_eq_natCast, Sx.castN, Int.natCast_zero, Int.natCast_one, Sx.tnL, Int.sub_zero, Int.add_zero, Int.zero_add]
  ·simp (disch := (first | omega | (simp only [List.length_cons, List.length_append, List.length_nil, List.length_take, List.length_drop, List.length_replicate, byt_len, ofBytes_len, byts_len, Sx.tn, Sx.tn1, Sx.tnL]; done) | (simp only [List.length_cons, List.length_append, List.length_nil, List.length_take, List.length_drop, List.length_replicate, byt_len, ofBytes_len, byts_len, Sx.tn, Sx.tn1, Sx.tnL]; omega))) only [Sx.w64, Sx.wu8, Sx.idxI, Sx.upI, Sx.bleT, Sx.bleF, Sx.beqT, Sx.beqF, Sx.ltT, Sx.ltF, Sx.leT, Sx.leF, Sx.gtT, Sx.gtF, Sx.geT, Sx.geF, Sx.eqT, Sx.eqF, Sx.neT, Sx.neF, Sx.ofN, Sx.tn, Sx.tn1, cond_true, cond_false, Option.bind_some, Bool.true_and, Bool.and_true, Bool.false_and, Bool.and_false, Bool.and_self, Bool.not_true, Bool.not_false, Bool.or_false, Bool.or_true, Bool.false_or, Bool.true_or, decide_true, decide_false, Nat.zero_add, Nat.add_zero, Nat.mul_one, Nat.sub_zero, List.drop_zero, List.isEmpty_nil, Int.ofNat_eq_natCast, Sx.castN, Int.natCast_zero, Int.natCast_one, Sx.tnL, Int.sub_zero, Int.add_zero, Int.zero_add]
   rw [Int.tmod_eq_emod_of_nonneg h1]
   rfl
theorem b8_toNat (n : Nat) : ((b8 n).toNat : Int) = (n : Int) % 256 := by
 unfold b8
 rw [UInt8.toNat_ofNat']
 omega
theorem wb8 (n : Nat) : IntKind.u8.wrap (n : Int) = ((b8 n).toNat : Int) := by rw [Sx.wu8m, b8_toNat]
theorem fd256 (n : Nat) : (n : Int).fdiv 256 = ((n / 256 : Nat) : Int) := (Int.ofNat_fdiv n 256).symm
theorem fd65536 (n : Nat) : (n : Int).fdiv 65536 = ((n / 65536 : Nat) : Int) := (Int.ofNat_fdiv n 65536).symm
theorem byt_cons (c : UInt8) (s : B) : byt (c :: s) = [.int .u8 c.toNat] :: byt s := rfl
theorem c_der_length : Con P0 T0 95 S_der_length := con1 fun x n hx => by
 obtain ⟨rfl, hn⟩ := dM_inv hx
 refine Lx.of_in (tab := t_der_length) trivial ?_
 rw [e_der_length]
 unfold lenB
 rcases Nat.lt_or_ge n 128 with h1 | h1
 ·simp (disch := (first | omega | (simp only [List.length_cons, List.length_append, List.length_nil, List.length_take, List.length_drop, List.length_replicate, byt_len, ofBytes_len, byts_len, Sx.tn, Sx.tn1, Sx.tnL]; done) | (simp only [List.length_cons, List.length_append, List.length_nil, List.length_take, List.length_drop, List.length_replicate, byt_len, ofBytes_len, byts_len, Sx.tn, Sx.tn1, Sx.tnL]; omega))) only [Sx.w64, Sx.idxI, Sx.upI, Sx.bleT, Sx.bleF, Sx.beqT, Sx.beqF, Sx.ltT, Sx.ltF, Sx.leT, Sx.leF, Sx.gtT, Sx.gtF, Sx.geT, Sx.geF, Sx.eqT, Sx.eqF, Sx.neT, Sx.neF, Sx.ofN, Sx.tn, Sx.tn1, cond_true, cond_false, Option.bind_some, Bool.true_and, Bool.and_true, Bool.false_and, Bool.and_false, Bool.and_self, Bool.not_true, Bool.not_false, Bool.or_false, Bool.or_true, Bool.false_or, Bool.true_or, decide_true, decide_false, Nat.zero_add, Nat.add_zero, Nat.mul_one, Nat.sub_zero, List.drop_zero, List.isEmpty_nil, Int.ofNat_eq_natCast, Sx.castN, Int.natCast_zero, Int.natCast_one, Sx.tnL, Int.sub_zero, Int.add_zero, Int.zero_add, Sx.bltT, byt_cons, Sx.byt_nil, wb8]
 ·rcases Nat.lt_or_ge n 256 with h2 | h2
  ·simp (disch := (first | omega | (simp only [List.length_cons, List.length_append, List.length_nil, List.length_take, List.length_drop, List.length_replicate, byt_len, ofBytes_len, byts_len, Sx.tn, Sx.tn1, Sx.tnL]; done) | (simp only [List.length_cons, List.length_append, List.length_nil, List.length_take, List.length_drop, List.length_replicate, byt_len, ofBytes_len, byts_len, Sx.tn, Sx.tn1, Sx.tnL]; omega))) only [Sx.w64, Sx.idxI, Sx.upI, Sx.bleT, Sx.bleF, Sx.beqT, Sx.beqF, Sx.ltT, Sx.ltF, Sx.leT, Sx.leF, Sx.gtT, Sx.gtF, Sx.geT, Sx.geF, Sx.eqT, Sx.eqF, Sx.neT, Sx.neF, Sx.ofN, Sx.tn, Sx.tn1, cond_true, cond_false, Option.bind_some, Bool.true_and, Bool.and_true, Bool.false_and, Bool.and_false, Bool.and_self, Bool.not_true, Bool.not_false, Bool.or_false, Bool.or_true, Bool.false_or, Bool.true_or, decide_true, decide_false, Nat.zero_add, Nat.add_zero, Nat.mul_one, Nat.sub_zero, List.drop_zero, List.isEmpty_nil, Int.ofNat_eq_natCast, Sx.castN, Int.natCast_zero, Int.natCast_one, Sx.tnL, Int.sub_zero, Int.add_zero, Int.zero_add, Sx.bltT, Sx.bltF, byt_cons, Sx.byt_nil, wb8, fd256, fd65536]
   rfl
  ·rcases Nat.lt_or_ge n 65536 with h3 | h3
   ·simp (disch := (first | omega | (simp only [List.length_cons, List.length_append, List.length_nil, List.length_take, List.length_drop, List.length_replicate, byt_len, ofBytes_len, byts_len, Sx.tn, Sx.tn1, Sx.tnL]; done) | (simp only [List.length_cons, List.length_append, List.length_nil, List.length_take, List.length_drop, List.length_replicate, byt_len, ofBytes_len, byts_len, Sx.tn, Sx.tn1, Sx.tnL]; omega))) only [Sx.w64, Sx.idxI, Sx.upI, Sx.bleT, Sx.bleF, Sx.beqT, Sx.beqF, Sx.ltT, Sx.ltF, Sx.leT, Sx.leF, Sx.gtT, Sx.gtF, Sx.geT, Sx.geF, Sx.eqT, Sx.eqF, Sx.neT, Sx.neF, Sx.ofN, Sx.tn, Sx.tn1, cond_true, cond_false, Option.bind_some, Bool.true_and, Bool.and_true, Bool.false_and, Bool.and_false, Bool.and_self, Bool.not_true, Bool.not_false, Bool.or_false, Bool.or_true, Bool.false_or, Bool.true_or, decide_true, decide_false, Nat.zero_add, Nat.add_zero, Nat.mul_one, Nat.sub_zero, List.drop_zero, List.isEmpty_nil, Int.ofNat_eq_natCast, Sx.castN, Int.natCast_zero, Int.natCast_one, Sx.tnL, Int.sub_zero, Int.add_zero, Int.zero_add, Sx.bltT, Sx.bltF, byt_cons, Sx.byt_nil, wb8, fd256, fd65536]
    rfl
   ·simp (disch := (first | omega | (simp only [List.length_cons, List.length_append, List.length_nil, List.length_take, List.length_drop, List.length_replicate, byt_len, ofBytes_len, byts_len, Sx.tn, Sx.tn1, Sx.tnL]; done) | (simp only [List.length_cons, List.length_append, List.length_nil, List.length_take, List.length_drop, List.length_replicate, byt_len, ofBytes_len, byts_len, Sx.tn, Sx.tn1, Sx.tnL]; omega))) only [Sx.w64, Sx.idxI, Sx.upI, Sx.bleT, Sx.bleF, Sx.beqT, Sx.beqF, Sx.ltT, Sx.ltF, Sx.leT, Sx.leF, Sx.gtT, Sx.gtF, Sx.geT, Sx.geF, Sx.eqT, Sx.eqF, Sx.neT, Sx.neF, Sx.ofN, Sx.tn, Sx.tn1, cond_true, cond_false, Option.bind_some, Bool.true_and, Bool.and_true, Bool.false_and, Bool.and_false, Bool.and_self, Bool.not_true, Bool.not_false, Bool.or_false, Bool.or_true, Bool.false_or, Bool.true_or, decide_true, decide_false, Nat.zero_add, Nat.add_zero, Nat.mul_one, Nat.sub_zero, List.drop_zero, List.isEmpty_nil, Int.ofNat_eq_natCast, Sx.castN, Int.natCast_zero, Int.natCast_one, Sx.tnL, Int.sub_zero, Int.add_zero, Int.zero_add, Sx.bltT, Sx.bltF, byt_cons, Sx.byt_nil, wb8, fd256, fd65536]
    rfl
end Go.Dv
end

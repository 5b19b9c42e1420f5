/- What the functions come to that the statement's law runs, and the statement itself. Parts: Tab, CtG, RwD, SpA, CtD, EqD. -/
import Derived.Test.YtngphbjigkgeaaaDoorProg
import Derived.KernelRfl
import Derived.Test.YtngphbjigkgeaaaDoorRows
import Derived.Test.YtngphbjigkgeaaaDoorCards
import Derived.Test.YtngphbjigkgeaaaDoorTie
import Derived.WalkKit
import Derived.ProofKit
import Derived.OpenShut
import Derived.Deep.DeepHandedRow
import Derived.Lib.LaidTab
import Derived.Test.YtngphbjigkgeaaaDoorLbG
set_option linter.unusedVariables false
set_option linter.unusedSimpArgs false
set_option linter.unusedSectionVars false
section
namespace Go.Dv.Tryd
open Go.Proofs
def killL : List (Nat × Nat × List Nat) := [
 (3, 0, [0, 2, 3, 4, 9, 10, 11, 12, 13, 14, 15, 16, 17, 18, 19, 20, 21, 22, 23, 24, 25, 26, 27, 28, 29, 30, 31, 32, 33, 34, 35, 36, 37, 38, 39, 40, 41, 42, 43, 44, 45, 46, 47, 48, 49, 50, 51, 52, 53, 54, 55, 56, 57, 58, 59, 60, 61, 62, 63, 64, 65, 66, 67, 68, 69, 70, 71, 72, 73, 74, 75, 76, 77, 78, 79, 80, 81, 82, 83, 84, 85, 86, 87, 88, 89, 90, 91, 92, 93, 94, 95]),
 (5, 0, [0, 4, 5, 6, 9, 10, 11, 13, 14, 15, 16, 17, 18, 19, 20, 21, 22, 23, 24, 25, 26, 27, 28, 29, 30, 31, 32, 33, 34, 35, 36, 37, 38, 39, 40, 41, 42, 43, 44, 45, 46, 47, 48, 49, 50, 51, 52, 53, 54, 55, 56, 57, 58, 59, 60, 61, 62, 63, 64, 65, 66, 67, 68, 69, 70, 71, 72, 73, 74, 75, 76, 77, 78, 79, 80, 81]),
 (6, 0, [0, 1, 3, 4, 6, 7, 8, 9, 10, 11, 13, 14, 15, 17, 18, 19, 20, 21, 22, 23, 24, 25, 26, 27, 28, 29, 30, 31, 32, 33, 34, 35, 36, 37, 38, 39, 40, 41, 42, 43, 44, 45, 46, 47, 48, 49, 50, 51, 52, 53, 54, 55, 56, 57, 58, 59, 60, 61, 62, 63, 64, 65, 66, 67, 68, 69, 70, 71, 72, 73, 74, 75, 76, 77, 78, 79, 80, 81, 82, 83, 84, 85, 86, 87, 88, 89, 90, 91, 92, 93, 94, 95, 96, 97, 98, 99, 100, 101, 102, 103, 104, 105, 106, 107, 108, 109, 110]),
 (7, 0, [1, 2, 5, 7, 9, 11, 12, 13, 14, 15, 16, 17, 18, 19, 20, 21, 22, 23, 24, 25, 26, 27, 28, 29, 30, 31, 32, 33, 34, 35, 36, 37, 38, 39, 40, 41, 42, 43, 44, 45, 46, 47, 48, 49, 50, 51, 52, 53, 54, 55, 56, 57, 58, 59, 60, 61, 62, 63, 64, 65, 66, 67, 68, 69, 70, 71, 72, 73, 74, 75, 76, 77, 78, 79, 80]),
 (7, 2, [1, 2, 5, 7, 9, 12, 13, 14, 15, 16, 17, 18, 19, 20, 21, 22, 23, 24, 25, 26, 27, 28, 29, 30, 31, 32, 33, 34, 35, 36, 37, 38, 39, 40, 41, 42, 43, 44, 45, 46, 47, 48, 49, 50, 51, 52, 53, 54, 55, 56, 57, 58, 59, 60, 61, 62, 63, 64, 65, 66, 67, 68, 69, 70, 71, 72, 73, 74, 75, 76, 77, 78, 79, 80]),
 (8, 0, [1, 2, 8, 9, 10, 11, 12, 13, 14, 15, 16, 17, 18, 19, 20, 21, 22, 23, 24, 25, 26, 27, 28, 29, 30, 31, 32, 33, 34, 35, 36, 37, 38, 39, 40, 41, 42, 43, 44, 45, 46, 47, 48, 49, 50, 51, 52, 53, 54, 55, 56, 57, 58, 59, 60, 61, 62, 63]),
 (8, 2, [1, 2, 9, 10, 11, 12, 13, 14, 15, 16, 17, 18, 19, 20, 21, 22, 23, 24, 25, 26, 27, 28, 29, 30, 31, 32, 33, 34, 35, 36, 37, 38, 39, 40, 41, 42, 43, 44, 45, 46, 47, 48, 49, 50, 51, 52, 53, 54, 55, 56, 57, 58, 59, 60, 61, 62, 63]),
 (9, 0, [1, 2, 3, 4, 5, 6, 7, 8, 9, 10, 14, 15, 16, 17, 18, 19, 20, 21, 22, 23, 24, 25, 26, 27, 28, 29, 30, 31, 32, 33, 34, 35, 36, 37, 38, 39, 40, 41, 42, 43, 44, 45, 46, 47, 48, 49, 50, 51, 52, 53, 54, 55, 56, 57, 58, 59, 60, 61, 62, 63, 64, 65, 66, 67, 68, 69, 70, 71, 72, 73, 74, 75, 76, 77, 78, 79, 80, 81, 82, 83, 84, 85, 86, 87, 88, 89, 90, 91, 92, 93, 94, 95, 96, 97, 98, 99, 100, 101, 102, 103, 104, 105, 106, 107, 108, 109, 110, 111, 112, 113, 114, 115, 116, 117, 118, 119, 120, 121, 122, 123, 124, 125, 126, 127, 128, 129, 130, 131, 132, 133, 134, 135, 136, 137, 138, 139, 140, 141, 142, 143, 144, 145, 146]),
 (9, 2, [1, 2, 3, 4, 5, 6, 7, 8, 9, 10, 12, 13, 15, 16, 17, 18, 19, 20, 21, 22, 23, 24, 25, 26, 27, 28, 29, 30, 31, 32, 33, 34, 35, 36, 37, 38, 39, 40, 41, 42, 43, 44, 45, 46, 47, 48, 49, 50, 51, 52, 53, 54, 55, 56, 57, 58, 59, 60, 61, 62, 63, 64, 65, 66, 67, 68, 69, 70, 71, 72, 73, 74, 75, 76, 77, 78, 79, 80, 81, 82, 83, 84, 85, 86, 87, 88, 89, 90, 91, 92, 93, 94, 95, 96, 97, 98, 99, 100, 101, 102, 103, 104, 105, 106, 107, 108, 109, 110, 111, 112, 113, 114, 115, 116, 117, 118, 119, 120, 121, 122, 123, 124, 125, 126, 127, 128, 129, 130, 131, 132, 133, 134, 135, 136, 137, 138, 139, 140, 141, 142, 143, 144, 145, 146]),
 (13, 0, [0, 1, 3, 4, 5, 7, 10, 11, 12, 13, 14, 15, 16, 17, 18, 19, 20, 21, 22, 23, 24, 25, 26, 27, 28, 29, 30, 31, 32, 33, 34, 35, 36, 37, 38, 39, 40, 41, 42, 43, 44, 45, 46, 47, 48, 49, 50, 51, 52, 53, 54, 55, 56, 57, 58, 59, 60, 61, 62, 63, 64, 65, 66, 67, 68, 69, 70, 71, 72, 73, 74, 75, 76, 77, 78, 79, 80, 81, 82, 83, 84, 85, 86, 87, 88, 89, 90, 91, 92, 93, 94, 95, 96, 97, 98]),
 (13, 2, [0, 1, 3, 4, 5, 7, 11, 13, 14, 15, 16, 17, 18, 19, 20, 21, 22, 23, 24, 25, 26, 27, 28, 29, 30, 31, 32, 33, 34, 35, 36, 37, 38, 39, 40, 41, 42, 43, 44, 45, 46, 47, 48, 49, 50, 51, 52, 53, 54, 55, 56, 57, 58, 59, 60, 61, 62, 63, 64, 65, 66, 67, 68, 69, 70, 71, 72, 73, 74, 75, 76, 77, 78, 79, 80, 81, 82, 83, 84, 85, 86, 87, 88, 89, 90, 91, 92, 93, 94, 95, 96, 97, 98]),
 (17, 0, [0, 2, 3, 5, 6, 7, 8, 12, 13, 14, 15, 16, 17, 18, 19, 20, 21, 22]),
 (18, 0, [2, 3, 5, 7, 8, 9, 10, 11, 12, 13, 14, 15, 16, 17, 18, 19, 20, 21, 22, 23, 24, 25, 26]),
 (19, 0, [2, 3, 4, 6, 7, 8, 9, 10, 11, 12, 13, 14, 15, 16, 17, 18, 19, 20, 21, 22, 23, 24, 25, 26, 27, 28, 29, 30, 31, 32, 33, 34, 35, 36, 37, 38, 39, 40, 41, 42, 43, 44, 45, 46, 47, 48, 49, 50, 51, 52, 53, 54, 55]),
 (22, 0, [2, 3, 4, 6, 7, 8, 9, 10, 11, 12, 13, 14, 15, 16, 17, 18, 19, 20, 21, 22, 23, 24, 25, 26, 27, 28, 29, 30, 31, 32, 33, 34, 35, 36, 37, 38, 39]),
 (24, 0, [0, 5, 6, 7, 8, 9, 10, 11, 12, 13, 14, 15, 16, 17, 18, 19, 20, 21, 22, 23, 24, 25, 26, 27, 28, 29, 30, 31]),
 (25, 0, [0, 2, 3, 5, 6, 7, 8, 9, 10, 11, 12, 13, 14, 15, 16, 17, 18, 19, 20, 21, 22, 23, 24, 25, 26, 27, 28, 29, 30, 34, 35, 36, 37, 38, 39, 40, 41, 42, 43, 44, 45, 46, 47, 48, 49, 50, 51, 52, 53, 54, 55, 56]),
 (26, 0, [0, 2, 3, 6, 7, 8, 9, 10, 11, 12, 13, 14, 15, 16, 17, 18, 19, 20, 21, 22, 23, 24, 25, 26, 27, 28, 29, 30, 31, 32, 33, 34, 35, 36, 37, 38, 39, 40, 41, 42, 43, 44, 45, 46, 47, 48, 49, 50, 51, 52, 53, 54, 55, 56, 57, 58, 59, 60, 61, 62, 63, 64, 65, 66, 67, 68, 69, 70, 71, 72, 73, 74, 75, 76, 77, 78, 79, 80, 81, 82, 83, 84, 85, 86, 87, 88, 89, 90, 91, 92, 93, 94, 95, 96, 97, 98, 99, 100, 101, 102, 103, 104, 105, 106]),
 (27, 0, [2, 4, 5, 6, 7, 8, 9, 10, 12, 13, 14, 15, 16, 17, 18, 19, 20, 21, 22, 23, 24, 25, 26, 27, 28, 29, 30, 31, 32, 33, 34, 35, 36, 37, 38, 39, 40]),
 (28, 0, [0, 1, 2, 5, 6, 7, 8, 12, 13, 14, 15, 16, 17, 18, 19, 20, 21, 22, 23, 24, 25, 26, 27, 28, 29, 30, 31, 32, 33, 34, 35, 36, 37, 38, 39, 40, 41, 42, 43, 44, 45]),
 (29, 0, [0, 1, 5, 7, 8, 9, 10, 11, 12, 13, 14, 15, 16, 17, 18, 19, 20, 21, 22, 23, 24, 25, 26, 27]),
 (31, 0, [0, 1, 4, 6, 7, 8, 9, 10, 11, 12, 13, 14, 15, 16, 17, 18, 19, 20, 21, 22, 23, 24, 25, 26, 27, 28, 29, 30, 31, 32, 33, 34, 35, 36, 37, 38, 39, 40, 41, 42, 43, 44, 45, 46, 47, 48, 49, 50, 51, 52, 53, 54, 55, 56, 57, 58, 59, 60, 61, 62, 63, 64, 65, 66, 67, 68, 69, 70, 71, 72, 73, 74, 75, 76, 77, 78, 79]),
 (35, 0, [1, 2, 3, 7, 8, 9, 10, 11, 12, 13, 14, 15, 16, 17, 18, 19, 20, 21, 22, 23, 24, 25, 26, 27, 28, 29, 30, 31, 32, 33, 34, 35, 36, 37, 38, 39, 40, 41, 42, 43, 44, 45, 46, 47, 48, 49, 50]),
 (36, 0, [2, 3, 4, 6, 7, 8, 9, 10, 11, 12, 13, 14, 15, 16, 17, 18, 19, 20, 21, 22, 23, 24, 25, 26]),
 (38, 0, [1, 2, 5, 6, 7, 8, 9, 10, 11, 12, 13, 14, 15, 16, 17, 18, 19, 20, 21, 22, 23, 24, 25, 26, 27, 28, 29, 30, 31, 32]),
 (39, 0, [0, 1, 2, 4, 5, 6, 7, 8, 9, 10, 14, 15, 16, 17, 18, 19, 20, 21, 22, 23, 24, 25, 26, 27, 28, 29, 30, 31, 32, 33, 34, 35, 36, 37, 38, 39, 40, 41, 42, 43, 44, 45, 46, 47, 48, 49, 50, 51, 52, 53, 54, 55, 56, 57, 58]),
 (39, 2, [0, 1, 2, 4, 5, 7, 8, 9, 10, 11, 12, 13, 14, 15, 16, 17, 18, 19, 20, 21, 22, 23, 24, 25, 26, 27, 28, 29, 30, 31, 32, 33, 34, 35, 36, 37, 38, 39, 40, 41, 42, 43, 44, 45, 46, 47, 48, 49, 50, 51, 52, 53, 54, 55, 56, 57, 58]),
 (40, 0, [1, 2, 5, 6, 7, 8, 9, 10, 11, 12, 13, 14, 15, 16, 17, 18, 19, 20, 21, 22, 23, 24, 25, 26, 27, 28, 29, 30, 31, 32, 33, 34, 35, 36, 37, 38, 39, 40, 41, 42, 43, 44, 45, 46, 47, 48, 49, 50, 51, 52, 53, 54, 55, 56, 57, 58, 59, 60, 61, 62]),
 (40, 2, [1, 2, 5, 6, 8, 9, 10, 11, 12, 13, 14, 15, 16, 17, 18, 19, 20, 21, 22, 23, 24, 25, 26, 27, 28, 29, 30, 31, 32, 33, 34, 35, 36, 37, 38, 39, 40, 41, 42, 43, 44, 45, 46, 47, 48, 49, 50, 51, 52, 53, 54, 55, 56, 57, 58, 59, 60, 61, 62]),
 (43, 0, [3, 4, 5, 6, 7, 9, 10, 11, 12, 13, 14, 18, 19, 20, 21, 22, 23, 24, 25, 26, 27, 28, 29, 30, 31, 32, 33, 34, 35, 36, 37, 38, 39, 40, 41, 42, 43]),
 (58, 0, [2, 3, 4, 6, 7, 8, 9, 10, 11, 12, 13, 14, 15, 16, 17, 18, 19, 20, 21, 22, 23, 24, 25, 26, 27, 28, 29, 30, 31, 32, 33, 34, 35, 36, 37, 38, 39, 40]),
 (60, 0, [0, 2, 3, 4, 5, 6, 7, 8, 9, 10, 11, 12, 13, 14, 15, 16, 17, 18, 19, 20, 21, 22, 23, 24, 25, 26, 27, 28, 29, 30, 31, 32, 33, 34, 35, 36, 37, 38, 39, 43, 44, 45, 46, 47, 48, 49, 50, 51, 52, 53, 54, 55, 56, 57, 58, 59, 60, 61, 62, 63, 64, 65, 66, 67]),
 (73, 0, [1, 2, 5, 6, 7, 8, 9, 10, 11, 12, 13, 14, 15, 16, 17]),
 (75, 0, [2, 3, 4, 5, 6, 7, 8, 9, 10, 11, 14, 15, 16, 17, 18, 19, 20, 21, 22, 23, 24, 25]),
 (81, 0, [0, 2, 3, 4, 6, 7, 11, 12, 13, 14, 15, 16, 17, 18, 19, 20, 21]),
 (84, 0, [0, 1, 2, 3, 5, 6, 7, 8, 9, 13, 14, 15, 16, 17, 18, 19, 20, 21, 22, 23, 24, 25, 26, 27, 28, 29]),
 (89, 0, [1, 2, 3, 6, 7, 8, 9, 10, 11, 12, 13, 14, 15, 16, 17, 18, 19, 20, 21, 22, 23, 24, 25, 26, 27, 28, 29, 30, 31, 32, 33, 34, 35, 36, 37, 38]),
 (94, 0, [1, 2, 4, 5, 6, 7, 8, 12, 13, 14, 15, 16, 17, 18, 19, 20, 21, 22, 23, 24, 25, 26, 27, 28, 29, 30, 31, 32, 33, 34, 35]),
 (94, 2, [0, 1, 2, 3, 4, 5, 7, 8, 9, 10, 11, 12, 13, 14, 15, 16, 17, 18, 19, 20, 21, 22, 23, 24, 28, 29, 30, 31, 32, 33, 34, 35]),
 (97, 0, [1, 2, 4, 5, 6, 7, 8, 9, 10, 11, 12, 13, 14, 15, 16, 17, 18, 19, 20, 21, 22, 23, 24, 25]),
 (98, 0, [1, 2, 4, 5, 6, 7, 8, 9, 10, 11, 12, 13, 14, 15, 16, 17, 18, 19, 20, 21]),
 (103, 0, [1, 3, 4, 6, 9, 10, 11, 12, 13, 14, 15, 16, 17, 18, 19, 20, 21, 22, 23, 24, 25, 26, 27, 28, 29, 30, 31, 32, 33, 34, 35, 36, 37, 38, 39, 40, 41, 42, 43, 44, 45, 46, 47, 48, 49, 50, 51, 52, 53, 54, 55, 56, 57, 58, 59, 60, 61, 62, 63, 64, 65, 66, 67, 68, 69, 70, 71, 72, 73, 74, 75, 76, 77, 78, 79, 80, 81, 82, 83, 84, 85, 86, 87, 88, 89, 90, 91, 92, 93, 94, 95, 96]),
 (104, 0, [1, 2, 3, 4, 5, 9, 10, 11, 12, 13, 14, 15, 16, 17, 18, 19, 20, 21, 22, 23, 24, 25, 26, 27, 28, 29, 30, 31, 32, 33, 34, 35, 36, 37, 38, 39, 40, 41, 42, 43]),
 (107, 0, [0, 1, 2, 3, 4, 5, 6, 7, 11, 12, 13, 14, 15, 16, 17]),
 (116, 0, [2, 3, 4, 7, 8, 9, 10, 11, 12, 13, 14, 15, 16, 17, 18, 19, 20, 21, 22, 23, 24, 25, 26, 27, 28, 29, 30, 31, 32, 33, 34, 35, 36, 37, 38, 39, 40, 41]),
 (120, 0, [0, 1, 3, 5, 7, 8, 9, 10, 11, 12, 13, 14, 15, 16, 17, 18, 19, 20, 21, 22, 23, 24, 25, 26, 27, 28, 29, 30, 31, 32, 33, 34, 35, 36, 37, 38, 39, 40, 41, 42, 43, 44, 45, 46, 47, 48, 49, 50, 51, 52, 53, 54, 55, 56, 57, 58, 59, 60]),
 (120, 2, [0, 1, 3, 5, 7, 8, 9, 10, 11, 12, 13, 14, 15, 16, 17, 18, 19, 20, 21, 22, 23, 24, 25, 26, 27, 28, 29, 30, 31, 32, 33, 34, 35, 36, 37, 38, 39, 40, 41, 42, 43, 44, 45, 46, 47, 48, 49, 50, 51, 52, 53, 54, 55, 56, 57, 58, 59, 60]),
 (121, 0, [2, 3, 4, 7, 8, 9, 10, 11, 12, 13, 14, 15, 16, 17, 18, 19, 20, 21, 22]),
 (122, 0, [1, 2, 4, 5, 6, 7, 8, 9, 10, 11, 12, 13, 14, 15, 16, 17, 18, 19, 20, 21, 22, 23, 24, 25, 26]),
 (124, 0, [1, 2, 4, 5, 7, 8, 9, 10, 11, 12, 13, 14, 15, 16, 17, 18, 19, 20, 21, 22, 23, 24, 25, 26, 27, 28, 29, 30, 31, 32, 33, 34, 35, 36, 37, 38, 39, 40, 41, 42, 43, 44, 45, 46, 47]),
 (124, 2, [0, 1, 2, 4, 6, 7, 8, 9, 10, 11, 12, 13, 14, 15, 16, 17, 18, 19, 20, 21, 22, 23, 24, 25, 26, 27, 28, 29, 30, 31, 32, 33, 34, 35, 36, 37, 38, 39, 40, 41, 42, 43, 44, 45, 46, 47]),
 (128, 0, [1, 5, 6, 7, 8, 9, 10, 11, 12, 13, 14, 15, 16, 17, 18, 19, 20, 21]),
 (129, 0, [2, 3, 4, 5, 6, 7, 8, 9, 10, 11, 12, 13, 14, 15, 16, 17, 18, 19, 20, 21, 22]),
 (130, 0, [3, 4, 5, 6, 8, 9, 10, 11, 12, 13, 14, 15, 16, 17, 18, 19, 20, 21, 22, 23, 24, 25, 26, 27, 28, 29, 30, 31, 32, 33, 34, 35, 36, 37, 38, 39, 40, 41, 42, 43, 44, 45, 46, 47]),
 (132, 0, [2, 3, 4, 5, 6, 7, 8, 9, 10, 11, 12, 13, 14, 15, 16, 17, 18, 19, 20]),
 (133, 0, [1, 3, 5, 6, 7, 8, 9, 10, 11, 12, 13, 14, 15, 16, 17, 18, 19, 20]),
 (134, 0, [2, 3, 4, 5, 6, 7, 8, 9, 10, 11, 12, 13, 14, 15, 16, 17, 18, 19]),
 (135, 0, [2, 3, 4, 5, 6, 7, 8, 9, 10, 11, 12, 13, 14, 15, 16, 17, 18, 19, 20, 21, 22, 23, 24, 25]),
 (136, 2, [1, 2, 3, 5, 7, 8, 9, 10, 11, 12, 13, 14, 15, 16, 17, 18, 19, 20, 21, 22, 23, 24, 25, 26, 27, 28, 29, 30, 31, 32, 33, 34, 35, 36, 37, 38, 39, 40, 41, 42, 43, 44, 45, 46, 47, 48, 49, 50, 51, 52, 53, 54, 55, 56, 57, 58, 59, 60, 61, 62, 63, 64, 65, 66, 70, 71, 72, 73, 74, 75, 76, 77, 78, 79, 80, 81, 82, 83, 84, 85, 86, 87]),
 (137, 0, [2, 4, 5, 6, 7, 8, 9, 10, 11, 12, 13, 14, 15, 16, 17, 18, 19, 20, 21, 22, 23, 24, 25, 26, 27, 28, 29, 30]),
 (141, 0, [2, 3, 4, 5, 6, 9, 10, 11, 12, 13, 14, 15, 16, 17, 18]),
 (145, 0, [0, 1, 3, 5, 7, 8, 9, 10, 11, 12, 13, 14, 15, 16, 17, 18, 19, 20, 21, 22, 23, 24, 25, 26, 27, 28, 29, 30, 31, 32, 33, 34, 35, 36, 37, 38, 39, 40, 41, 42, 43, 44, 45, 46, 47, 48, 49, 50, 51, 52, 53, 54, 55, 56, 57, 58, 59, 60, 61, 62, 63, 64, 65, 66, 67, 68, 69, 70, 71, 72]),
 (145, 2, [0, 1, 3, 5, 7, 8, 9, 10, 11, 12, 13, 14, 15, 16, 17, 18, 19, 20, 21, 22, 23, 24, 25, 26, 27, 28, 29, 30, 31, 32, 33, 34, 35, 36, 37, 38, 39, 40, 41, 42, 43, 44, 45, 46, 47, 48, 49, 50, 51, 52, 53, 54, 55, 56, 57, 58, 59, 60, 61, 62, 63, 64, 65, 66, 67, 68, 69, 70, 71, 72]),
 (146, 0, [0, 1, 2, 4, 5, 9, 10, 11, 12, 13, 14, 15, 16, 17, 18, 19, 20, 21, 22, 23, 24, 25]),
 (147, 0, [2, 3, 4, 5, 6, 9, 10, 11, 12, 13, 14, 15, 16, 17, 18]),
 (150, 0, [1, 2, 3, 4, 7, 8, 9, 10, 11, 12, 13, 14, 15, 16, 17, 18, 19, 20, 21, 22]),
 (151, 0, [1, 2, 3, 6, 7, 8, 9, 10, 11, 12, 13, 14, 15, 16, 17, 18, 19, 20, 21, 22, 23, 24, 25, 26, 27, 28, 29, 30, 31]),
 (155, 0, [1, 2, 3, 4, 5, 9, 10, 11, 12, 13, 14, 15, 16, 17, 18, 19, 20, 21]),
 (156, 0, [0, 2, 3, 4, 5, 6, 7, 9, 10, 11, 12, 13, 14]),
 (158, 1, [0, 2, 3, 4, 5, 6, 7, 8, 9, 10, 11, 12, 13, 14, 15, 16, 17, 18, 19, 20, 23, 24, 25, 26, 27, 28, 29, 30, 31, 32, 33, 34, 35, 36, 37, 38, 39, 40, 41, 42]),
 (158, 3, [0, 2, 3, 4, 5, 6, 7, 8, 9, 10, 11, 12, 13, 14, 15, 16, 17, 18, 19, 20, 21, 22, 23, 24, 25, 26, 27, 28, 29, 30, 31, 32, 33, 36, 37, 38, 39, 40, 41, 42]),
 (160, 0, [0, 1, 2, 3, 5, 6, 7, 8, 9, 10, 11, 12, 13, 14, 15, 16, 17, 18, 19, 23, 24, 25, 26, 27, 28, 29, 30]),
 (163, 0, [1, 2, 4, 5, 6, 7, 8, 9, 10, 11, 12, 13, 14, 15, 16, 17, 18, 19, 20, 21, 22, 23, 24, 25, 26, 27, 28, 29, 30, 31, 32, 33, 34, 35, 36, 37, 38, 39, 40, 41, 42, 43, 44, 45]),
 (164, 0, [1, 2, 4, 5, 6, 7, 8, 9, 10, 11, 12, 13, 14, 15, 16, 17, 18, 19, 20, 21]),
 (165, 0, [2, 3, 4, 5, 6, 9, 10, 11, 12, 13, 14, 15, 16, 17, 18]),
 (167, 0, [1, 2, 3, 4, 5, 6, 7, 9, 10, 11, 12, 13, 14, 15, 16, 17, 18, 19, 20, 21, 22, 23, 24, 25, 26]),
 (169, 0, [1, 2, 3, 4, 5, 6, 7, 8, 9, 10, 11, 12, 16, 17, 18, 19, 20, 21, 22, 23, 24, 25, 26, 27, 28, 29, 30, 31, 32, 33, 34, 35, 36, 37, 38, 39, 40, 41]),
 (170, 0, [2, 3, 4, 6, 7, 8, 9, 10, 11, 12, 13, 14, 15, 16, 17, 18, 19, 20, 21, 22, 23, 24, 25, 26, 27, 28, 29]),
 (170, 2, [2, 3, 4, 6, 7, 8, 9, 10, 11, 12, 13, 14, 15, 16, 17, 18, 19, 20, 21, 22, 23, 24, 25, 26, 27, 28, 29])]
def look {α : Type} (f id : Nat) : List (Nat × Nat × α) → Option α
 | [] => none
 | x :: r => bif Nat.beq x.1 f && Nat.beq x.2.1 id then some x.2.2 else look f id r
def kill (f id : Nat) : List Nat := match look f id killL with
 | some l => l
 | none => []
def vecL : List (Nat × Nat × List Vec) := [
 (3, 0, []),
 (5, 0, []),
 (6, 0, []),
 (7, 0, []),
 (7, 2, []),
 (8, 0, []),
 (8, 2, []),
 (9, 0, []),
 (9, 2, []),
 (17, 0, []),
 (18, 0, []),
 (19, 0, []),
 (22, 0, []),
 (24, 0, [⟨.tmp 3, 69, 68⟩]),
 (25, 0, [⟨.tmp 4, 26, 1⟩]),
 (26, 0, [⟨.tmp 4, 5, 1⟩]),
 (27, 0, []),
 (28, 0, []),
 (29, 0, []),
 (31, 0, []),
 (35, 0, [⟨.tmp 5, 61, 65⟩]),
 (36, 0, []),
 (38, 0, [⟨.tmp 3, 49, 3⟩]),
 (39, 0, []),
 (39, 2, [⟨.tmp 6, 49, 3⟩]),
 (40, 0, [⟨.tmp 3, 49, 3⟩]),
 (40, 2, []),
 (43, 0, []),
 (58, 0, []),
 (60, 0, []),
 (73, 0, [⟨.tmp 3, 5, 1⟩]),
 (75, 0, []),
 (81, 0, [⟨.tmp 5, 61, 65⟩]),
 (84, 0, [⟨.tmp 4, 26, 1⟩]),
 (89, 0, [⟨.tmp 4, 5, 1⟩]),
 (94, 0, []),
 (94, 2, [⟨.tmp 6, 5, 1⟩]),
 (97, 0, [⟨.tmp 3, 5, 1⟩]),
 (98, 0, []),
 (103, 0, []),
 (104, 0, [⟨.tmp 6, 89, 2⟩, ⟨.tmp 7, 3, 1⟩]),
 (107, 0, []),
 (116, 0, []),
 (120, 0, []),
 (120, 2, []),
 (121, 0, []),
 (122, 0, []),
 (124, 0, []),
 (124, 2, []),
 (128, 0, []),
 (129, 0, []),
 (130, 0, []),
 (132, 0, [⟨.tmp 0, 5, 1⟩]),
 (133, 0, []),
 (134, 0, [⟨.tmp 0, 5, 1⟩]),
 (135, 0, [⟨.tmp 0, 5, 1⟩]),
 (136, 2, []),
 (141, 0, []),
 (145, 0, []),
 (145, 2, []),
 (146, 0, [⟨.tmp 3, 5, 1⟩]),
 (147, 0, []),
 (150, 0, [⟨.tmp 5, 5, 1⟩]),
 (151, 0, [⟨.tmp 4, 5, 1⟩]),
 (155, 0, []),
 (156, 0, []),
 (158, 1, []),
 (158, 3, []),
 (160, 0, [⟨.tmp 4, 5, 1⟩]),
 (163, 0, []),
 (164, 0, [⟨.tmp 3, 5, 1⟩]),
 (165, 0, []),
 (167, 0, []),
 (169, 0, []),
 (170, 0, []),
 (170, 2, [⟨.tmp 0, 5, 1⟩])]
def vec (f id : Nat) : Option (List Vec) := look f id vecL
def pureT (f : FuncId) : Bool := !Nat.beq f 137
def own (f : FuncId) : List OwnT := bif Nat.beq f 10 then [.one (some (5, 1))] else bif Nat.beq f 43 then [.one (some (5, 1)), .one (none)] else bif Nat.beq f 94 then [.one (some (5, 1))] else bif Nat.beq f 131 then [.one (some (5, 1))] else bif Nat.beq f 45 then [.one (some (5, 1))] else bif Nat.beq f 76 then [.one (some (5, 1))] else bif Nat.beq f 57 then [.agg [some (5, 1), none, none]] else bif Nat.beq f 17 then [.agg [some (5, 1), none, none], .one (none)] else []
def nilT (f : FuncId) : Bool := Nat.beq f 131
def ext (f : FuncId) : Option Pv.Xt := bif Nat.beq f 106 then some .compare else bif Nat.beq f 176 then some .indexByte else none
noncomputable def T : DTab := ⟨fun f => Tryd.prog.funcs[f]?, kill, pureT, own, nilT, fun f => match ext f with
 | some e => some (Xt.val e)
 | none => none, vec⟩
noncomputable def T' : Pv.Tab := ⟨fun f => Tryd.prog.funcs[f]?, kill, fun f => match ext f with
 | some e => some e.spec
 | none => none⟩
def exts : List (FuncId × Pv.Xt) := [(106, .compare), (176, .indexByte)]
end Go.Dv.Tryd
namespace Go.Dv
noncomputable abbrev P0 : Program := Go.Proofs.Tryd.prog
noncomputable abbrev T0 : DTab := Tryd.T
end Go.Dv
end
section
namespace Go.Dv
noncomputable instance noGlob : DGlob := ⟨fun _ => none, fun t => ([2, 3, 4, 5, 9, 89, 90, 212, 229] : List Nat).elem t, fun t => ([2, 3, 4, 5, 6, 7, 8, 9, 10, 11, 12, 13, 14, 18, 19, 21, 22, 23, 24, 25, 29, 30, 31, 42, 43, 45, 46, 48, 49, 58, 59, 60, 61, 68, 69, 88, 89, 90, 103, 137, 138, 155, 156, 164, 165, 182, 184, 185, 196, 203, 212, 216, 217, 218, 219, 220, 224, 225, 226, 227, 228, 229, 230, 231, 234, 235, 236, 237] : List Nat).elem t, fun t => ([49, 61, 69] : List Nat).elem t⟩
namespace S
def dB : DV → Option (List UInt8)
 | .fz xs => unB xs
 | _ => none
def dI : DV → Option Int
 | .int .i64 n => some n
 | _ => none
abbrev Name := List (Int × List UInt8)
def nam (n : Name) : List (List DV) := n.map fun p => [.int .i64 p.1, .str p.2]
def unN' : List (List DV) → Option Name
 | [] => some []
 | [.int .i64 t, .str v] :: r => bif Nat.ble v.length lim then (unN' r).map ((t, v) :: ·) else none
 | _ => none
def dN : DV → Option Name
 | .fz l => bif Nat.ble l.length lim then unN' l else none
 | _ => none
abbrev Entry := List UInt8 × Int × Int
def ent (e : Entry) : List DV := [.fz (byt e.1), .int .i64 e.2.1, .int .i64 e.2.2]
def unE' : List (List DV) → Option (List Entry)
 | [] => some []
 | [.fz s, .int .i64 t, .int .i64 u] :: r => (unB s).bind fun s => (unE' r).map ((s, t, u) :: ·)
 | _ => none
def dE : DV → Option (List Entry)
 | .fz l => bif Nat.ble l.length lim then unE' l else none
 | _ => none
def dEnt : DV → Option Entry
 | .agg [.fz s, .int .i64 t, .int .i64 u] => (unB s).bind fun s => some (s, t, u)
 | _ => none
def entV (e : Entry) : DV := .agg (ent e)
def kList : List SK := [.sl, .int .i64, .int .i64] ++ List.replicate 20 (.int .u8) ++ [.int .i64, .sl]
def lstD (m : List (List DV)) (a b : Int) (u : Nat → Int) (c : Int) (es : List (List DV)) : List DV := [.fz m, .int .i64 a, .int .i64 b] ++ (List.range 20).map (fun i => .int .u8 (u i)) ++ [.int .i64 c, .fz es]
end S
open S
theorem dB_inv {x : DV} {s : List UInt8} (h : dB x = some s) : x = .fz (byt s) ∧ s.length ≤ lim := by
 cases x <;> simp only [dB] at h <;> try (cases h; done)
 obtain ⟨rfl, h2⟩ := unB_inv h
 exact ⟨rfl, h2⟩
theorem dB_ok {s : List UInt8} (h : s.length ≤ lim) : dB (.fz (byt s)) = some s := unB_ok h
theorem dI_inv {x : DV} {n : Int} (h : dI x = some n) : x = .int .i64 n := by
 cases x <;> simp only [dI] at h <;> try (cases h; done)
 rename_i k _
 cases k <;> simp only at h <;> cases h
 rfl
theorem unN'_inv : ∀ {l : List (List DV)} {n : Name}, unN' l = some n → l = nam n ∧ ∀ p ∈ n, p.2.length ≤ lim
 | [], n, h => by cases h; exact ⟨rfl, fun p hp => by simp at hp⟩
 | x :: l, n, h => by
  unfold unN' at h
  split at h
  ·rename_i heq; cases heq
  ·rename_i heq
   cases heq
   obtain ⟨h0, h⟩ := bif1 h
   obtain ⟨m, hm, rfl⟩ := Option.map_eq_some_iff.1 h
   obtain ⟨h1, h2⟩ := unN'_inv hm
   refine ⟨by rw [h1]; rfl, fun p hp => ?_⟩
   rcases List.mem_cons.1 hp with rfl | hp
   ·exact Nat.le_of_ble_eq_true h0
   ·exact h2 p hp
  ·cases h
theorem nam_len (n : Name) : (nam n).length = n.length := by simp [nam]
theorem dN_inv {x : DV} {n : Name} (h : dN x = some n) : x = .fz (nam n) ∧ n.length ≤ lim ∧ ∀ p ∈ n, p.2.length ≤ lim := by
 cases x <;> simp only [dN] at h <;> try (cases h; done)
 obtain ⟨h1, h2⟩ := bif1 h
 obtain ⟨rfl, h3⟩ := unN'_inv h2
 exact ⟨rfl, by simpa [nam] using Nat.le_of_ble_eq_true h1, h3⟩
theorem dN_ok {n : Name} (h1 : n.length ≤ lim) (h2 : ∀ p ∈ n, p.2.length ≤ lim) : dN (.fz (nam n)) = some n := by
 have key : ∀ n : Name, (∀ p ∈ n, p.2.length ≤ lim) → unN' (nam n) = some n := by
  intro n
  induction n with
  | nil => intro _; rfl
  | cons p n ih =>
   intro h
   obtain ⟨t, v⟩ := p
   show (bif Nat.ble v.length lim then (unN' (nam n)).map ((t, v) :: ·) else none) = _
   rw [Nat.ble_eq_true_of_le (h (t, v) (by simp)), cond_true, ih fun p hp => h p (by simp [hp])]
   rfl
 show (bif Nat.ble (nam n).length lim then unN' (nam n) else none) = _
 rw [nam_len, Nat.ble_eq_true_of_le h1, cond_true, key n h2]
theorem unE'_inv : ∀ {l : List (List DV)} {es : List Entry}, unE' l = some es → l = es.map ent ∧ ∀ e ∈ es, e.1.length ≤ lim
 | [], es, h => by cases h; exact ⟨rfl, fun e he => by simp at he⟩
 | x :: l, es, h => by
  unfold unE' at h
  split at h
  ·rename_i heq; cases heq
  ·rename_i heq
   cases heq
   obtain ⟨s, hs, h⟩ := bnd' h
   obtain ⟨m, hm, rfl⟩ := Option.map_eq_some_iff.1 h
   obtain ⟨h1, h2⟩ := unE'_inv hm
   obtain ⟨h3, h4⟩ := unB_inv hs
   subst h3
   refine ⟨by rw [h1]; rfl, fun e he => ?_⟩
   rcases List.mem_cons.1 he with rfl | he
   ·exact h4
   ·exact h2 e he
  ·cases h
theorem dE_inv {x : DV} {es : List Entry} (h : dE x = some es) : x = .fz (es.map ent) ∧ es.length ≤ lim ∧ ∀ e ∈ es, e.1.length ≤ lim := by
 cases x <;> simp only [dE] at h <;> try (cases h; done)
 obtain ⟨h1, h2⟩ := bif1 h
 obtain ⟨rfl, h3⟩ := unE'_inv h2
 exact ⟨rfl, by simpa using Nat.le_of_ble_eq_true h1, h3⟩
theorem dE_ok {es : List Entry} (h1 : es.length ≤ lim) (h2 : ∀ e ∈ es, e.1.length ≤ lim) : dE (.fz (es.map ent)) = some es := by
 have key : ∀ es : List Entry, (∀ e ∈ es, e.1.length ≤ lim) → unE' (es.map ent) = some es := by
  intro es
  induction es with
  | nil => intro _; rfl
  | cons e es ih =>
   intro h
   obtain ⟨s, t, u⟩ := e
   show ((unB (byt s)).bind fun s => (unE' (es.map ent)).map ((s, t, u) :: ·)) = _
   rw [unB_ok (h (s, t, u) (by simp)), Option.bind_some, ih fun p hp => h p (by simp [hp])]
   rfl
 show (bif Nat.ble (es.map ent).length lim then unE' (es.map ent) else none) = _
 rw [List.length_map, Nat.ble_eq_true_of_le h1, cond_true, key es h2]
theorem dEnt_inv {x : DV} {e : Entry} (h : dEnt x = some e) : x = entV e ∧ e.1.length ≤ lim := by
 unfold dEnt at h
 split at h
 ·obtain ⟨s, hs, h⟩ := bnd' h
  cases h
  obtain ⟨rfl, h2⟩ := unB_inv hs
  exact ⟨rfl, h2⟩
 ·cases h
theorem lst_form {xs : List DV} (h : TyCs kList xs) : ∃ m a b u c es, xs = lstD m a b u c es := by
 match xs, h with
 | x0 :: x1 :: x2 :: xs, h =>
  obtain ⟨⟨m, rfl⟩, ⟨a, rfl⟩, ⟨b, rfl⟩, h9⟩ := (show TyC .sl x0 ∧ TyC (.int .i64) x1 ∧ TyC (.int .i64) x2 ∧ TyCs (List.replicate 20 (.int .u8) ++ [.int .i64, .sl]) xs from h)
  obtain ⟨u, ys, rfl, h8⟩ := TyCs.ints h9
  match ys, h8 with
  | [y0, y1], h =>
   obtain ⟨⟨c, rfl⟩, ⟨es, rfl⟩, _⟩ := h
   exact ⟨m, a, b, u, c, es, rfl⟩
  | [y0], h => exact h.2.elim
  | _ :: _ :: _ :: _, h => exact h.2.2.elim
 | [_], h => exact h.2.elim
 | [_, _], h => exact h.2.2.elim
end Go.Dv
end
section
namespace Go.Dv
open Go.Proofs Go.Dv.S
instance noPlace : Pv.Glob := ⟨fun _ => none⟩
theorem names_ok : (Tryd.prog.funcs.toList.all fun fn => !(fn.name == "runtime.NumGoroutine")) = true := by kernel_rfl
theorem name_ok {f : FuncId} {fn : Func} (h : Tryd.prog.funcs[f]? = some fn) : (fn.name == "runtime.NumGoroutine") = false := by
 have h1 : fn ∈ Tryd.prog.funcs.toList := by
  obtain ⟨hi, rfl⟩ := Array.getElem?_eq_some_iff.1 h
  exact Array.mem_toList_iff.2 (Array.getElem_mem hi)
 simpa using List.all_eq_true.1 names_ok fn h1
theorem bif_ext {α : Type} {c : Bool} {a e : α} {r : Option α} (h : (bif c then some a else r) = some e) : (c = true ∧ a = e) ∨ r = some e := by
 cases c
 ·exact .inr h
 ·exact .inl ⟨rfl, Option.some.inj h⟩
theorem ext_inv {f : FuncId} {e : Pv.Xt} (h : Tryd.ext f = some e) : (f, e) ∈ Tryd.exts := by
 unfold Tryd.ext at h
 repeat
  rcases bif_ext h with ⟨h1, rfl⟩ | h
  ·cases Nat.eq_of_beq_eq_true h1; simp [Tryd.exts]
 cases h
theorem xt_ok {f : FuncId} {e : Pv.Xt} (h1 : (Tryd.prog.funcs[f]?).map (fun fn => fn.body.isNone) = some true) (h2 : (Tryd.prog.funcs[f]?).map Extern.findNext = some none) (h3 : (Tryd.prog.funcs[f]?).bind Extern.find = some e.entry) :
  ∃ fn, Tryd.prog.funcs[f]? = some fn ∧ fn.body.isNone = true ∧ Extern.findNext fn = none ∧ Extern.find fn = some e.entry := by
 obtain ⟨fn, hf, h1⟩ := Option.map_eq_some_iff.1 h1
 rw [hf] at h2 h3
 exact ⟨fn, hf, h1, Option.some.inj h2, h3⟩
theorem exts_ok {f : FuncId} {e : Pv.Xt} (hp : (f, e) ∈ Tryd.exts) : ∃ fn, Tryd.prog.funcs[f]? = some fn ∧ fn.body.isNone = true ∧ Extern.findNext fn = none ∧ Extern.find fn = some e.entry := by
 unfold Tryd.exts at hp
 repeat
  rcases List.mem_cons.1 hp with h | hp
  ·cases h
   exact xt_ok (by kernel_rfl) (by kernel_rfl) (by kernel_rfl)
 exact (List.not_mem_nil hp).elim
theorem tabOK : Pv.TabOK P0 Tryd.T' where
 fn f fn hs hf := ⟨hf, name_ok hf⟩
 spec f s h := by
  have h : (match Tryd.ext f with
   | some e => some e.spec
   | none => none) = some s := h
  cases hx : Tryd.ext f with
  | none => rw [hx] at h; cases h
  | some e =>
   rw [hx] at h
   cases h
   obtain ⟨fn, h1, h2, h3, h4⟩ := exts_ok (ext_inv hx)
   exact Pv.Xt.xok e h1 (name_ok h1) h2 h3 h4
theorem tabD : TabD T0 Tryd.T' where
 fn := rfl
 kill := rfl
 spec f := by
  show (match Tryd.ext f with
   | some e => some (Xt.val e)
   | none => none).isSome = (match Tryd.ext f with
   | some e => some e.spec
   | none => none).isSome
  cases Tryd.ext f <;> rfl
 sound f s s' xs v h h' hv F μ hp ys hg i hvs := by
  have h : (match Tryd.ext f with
   | some e => some (Xt.val e)
   | none => none) = some s := h
  have h' : (match Tryd.ext f with
   | some e => some e.spec
   | none => none) = some s' := h'
  cases hx : Tryd.ext f with
  | none => rw [hx] at h; cases h
  | some e =>
   rw [hx] at h h'
   cases h
   cases h'
   exact Xt.sound e hv i hvs
open Go.Proofs.YtngphbjigkgeaaaDoor in
theorem bulk_pos {H : Type} (d : DataW H) : 1 ≤ Rows.uptoBulk d := by
 cases d with
 | lit l => cases l <;> simp [Rows.uptoBulk]
 | nil => simp [Rows.uptoBulk]
 | ptr d => simp [Rows.uptoBulk]
 | slice elems spare => simp [Rows.uptoBulk]
 | agg parts => simp [Rows.uptoBulk]
 | iface t d => simp [Rows.uptoBulk]
 | map entries => simp [Rows.uptoBulk]
 | held h => simp [Rows.uptoBulk]
open Go.Proofs.YtngphbjigkgeaaaDoor in
theorem bulk_part {H : Type} {d : DataW H} {l : List (DataW H)} (h : d ∈ l) : Rows.uptoBulk d ≤ Rows.uptoBulkAll l := by
 induction l with
 | nil => cases h
 | cons x r ih =>
  simp only [Rows.uptoBulkAll]
  cases List.mem_cons.1 h with
  | inl e => subst e; omega
  | inr e => have := ih e; omega
open Go.Proofs.YtngphbjigkgeaaaDoor in
theorem bulk_len {H : Type} (l : List (DataW H)) : l.length ≤ Rows.uptoBulkAll l := by
 induction l with
 | nil => simp [Rows.uptoBulkAll]
 | cons x r ih => have := bulk_pos x; simp only [Rows.uptoBulkAll, List.length_cons]; omega
open Go.Proofs.YtngphbjigkgeaaaDoor in
def bulk (H : Type) : Bulk H where
 B := Rows.uptoBulk
 len es rest := by have := bulk_len es; simp only [Rows.uptoBulk]; omega
 elem es rest x h := by have := bulk_part h; simp only [Rows.uptoBulk]; omega
 part ps x h := by have := bulk_part h; simp only [Rows.uptoBulk]; omega
 str s := by simp only [Rows.uptoBulk]; omega
open Go.Proofs.YtngphbjigkgeaaaDoor in
theorem bulk_small {H : Type} {l : List (DataW H)} (hk : Rows.uptoSmall H l = true) {d : DataW H} (h : d ∈ l) : (bulk H).B d ≤ lim := by
 have h1 : Rows.uptoBulkAll l ≤ 1048576 := by simpa [Rows.uptoSmall] using hk
 have h2 := bulk_part h
 show Rows.uptoBulk d ≤ 1099511627776
 omega
theorem law_rowL {H : Type} {enc : TypeId × Value → H} {C : Checked} {os : Os} {f : FuncId} {fn : Func} {s : OpenSpec} {k : (H : Type) → List (DataW H) → Bool} (hk : s.cond = some k) {F : Stop.Interp} {conds : List PathCond} {laid : List (String × DataW Unit)}
  (own : ownKnob C.prog.godebug = none) (started : os.Started) (noInit : C.prog.inits.idxOf? f = none) (hfn : C.prog.funcs[f]? = some fn)
  (witness : ∃ (w : World) (tape : Tape) (i : Input), w.os = os ∧ (w.forCall tape i).Shaped C.prog ∧ i.vars = [] ∧ Input.okWide C.prog (w.forCall tape i) .any w.heap.size f i ∧
   s.preRow enc C.prog fn conds false laid (w.forCall tape i).memory i.args ∧ ({} : Assume).holds C.prog (lone (Frame.enter C.prog f i.args .normal) [] (w.forCall tape i)))
  (hglob : (((begin C.prog (fun _ _ => 0) default).world.heap[0]?).bind Obj.row?).isSome = true) (hgs : 0 < C.prog.globals.size)
  (core : ∀ (W : World) (base : Nat) (args : Array Value) (ds gs : List (DataW H)) (before : List MemPlace),
   (∀ (j : Nat) t v, fn.params[j]? = some t → args[j]? = some v → Value.okWide C.prog W .any base t v) →
   DataW.Whole enc C.prog fn.params.toList s.vars false W args.toList ds gs before → k H (ds ++ gs) = true → (∃ (g : Nat) (cs : Array Value) (e : TypeId) (fr : Nat × Nat), W.heap[g]? = some (.cells cs e fr)) →
   Calls C.prog f args W fun e W' => ∃ v, e = .returned v ∧ (s.at F).post enc C.prog fn false true false false W args v W') :
  ReturnsInHanded {} C os f .any (s.preRow enc C.prog fn conds false laid) ((s.at F).post enc C.prog fn false true false false) := by
 refine returnsInHanded_of_row own started noInit hfn witness ?_
 intro W base args ds gs before hval hW _ hcond _ _ hsh _
 have hg : ∃ (g : Nat) (cs : Array Value) (e : TypeId) (fr : Nat × Nat), W.heap[g]? = some (.cells cs e fr) := by
  obtain ⟨⟨z, t⟩, hz⟩ := Option.isSome_iff_exists.1 hglob
  obtain ⟨cs, h1, _⟩ := hsh.1 0 z t hgs hz
  exact ⟨0, cs, t, _, h1⟩
 exact core W base args ds gs before hval hW (hcond k hk) hg
def accCells : Array Value := #[.int .u8 128, .int .u8 191, .int .u8 160, .int .u8 191, .int .u8 128, .int .u8 159, .int .u8 144, .int .u8 191, .int .u8 128, .int .u8 143] ++ Array.replicate 22 (.int .u8 0)
def firstCells : Array Value := (Go.Pinned.utf8FirstZ.map fun n => Value.int .u8 (Int.ofNat n)).toArray
def holdCells (cs : Array Value) : Obj → Obj
 | .cells _ t frozen => .cells cs t frozen
 | o => o
noncomputable def laidWorld (os : Os) : World :=
 { World.holding Tryd.prog os ⟨#[], #[], []⟩ with heap := ((World.holding Tryd.prog os ⟨#[], #[], []⟩).heap.modify 2 (holdCells accCells)).modify 1 (holdCells firstCells) }
end Go.Dv
end
section
namespace Go.Dv.S
abbrev B := List UInt8
def isTag (t : Int) : Bool := decide (0 ≤ t) && decide (t ≤ 255) && !(t % 32 == 31)
def big : B → Nat → Nat
 | [], n => n
 | b :: r, n => big r (256 * n + b.toNat)
def head : B → Int × Nat × Nat
 | [] => (10, 0, 0)
 | t :: r => bif !isTag t.toNat then (11, 0, 0) else match r with
  | [] => (10, 0, 0)
  | l :: r => bif Nat.blt l.toNat 128 then (0, 2, l.toNat) else
    bif Nat.beq l.toNat 128 || Nat.blt 131 l.toNat || r.head? == some 0 then (12, 0, 0) else
    bif Nat.blt r.length (l.toNat - 128) then (10, 0, 0) else
    bif Nat.blt (big (r.take (l.toNat - 128)) 0) 128 then (12, 0, 0) else (0, 2 + (l.toNat - 128), big (r.take (l.toNat - 128)) 0)
def takeE (b : B) : Int := bif (head b).1 == 0 && Nat.blt b.length ((head b).2.1 + (head b).2.2) then 10 else (head b).1
def takeC (b : B) : B := bif takeE b == 0 then (b.drop (head b).2.1).take (head b).2.2 else []
def takeN (b : B) : Nat := bif takeE b == 0 then (head b).2.1 + (head b).2.2 else 0
def takeT (b : B) : Int := bif takeE b == 0 then (b.headD 0).toNat else 0
abbrev Elem := Int × B
theorem head_pos {b : B} (h : (head b).1 = 0) : 2 ≤ (head b).2.1 := by
 unfold head at h ⊢
 split
 ·simp at h
 ·rename_i t r
  cases ht : isTag t.toNat with
  | false => simp [ht] at h
  | true =>
   simp only [ht, Bool.not_true, cond_false] at h ⊢
   split
   ·simp at h
   ·rename_i l r
    cases h1 : Nat.blt l.toNat 128 with
    | true => simp
    | false =>
     simp only [h1, cond_false] at h ⊢
     cases h2 : (Nat.beq l.toNat 128 || Nat.blt 131 l.toNat || r.head? == some 0) with
     | true => rw [h2] at h; simp at h
     | false =>
      rw [h2] at h
      simp only [cond_false] at h ⊢
      cases h3 : Nat.blt r.length (l.toNat - 128) with
      | true => rw [h3] at h; simp at h
      | false =>
       rw [h3] at h
       simp only [cond_false] at h ⊢
       cases h4 : Nat.blt (big (r.take (l.toNat - 128)) 0) 128 with
       | true => rw [h4] at h; simp at h
       | false => simp
theorem takeE_head {b : B} (h : takeE b = 0) : (head b).1 = 0 ∧ (head b).2.1 + (head b).2.2 ≤ b.length := by
 unfold takeE at h
 cases hc : ((head b).1 == 0 && Nat.blt b.length ((head b).2.1 + (head b).2.2)) with
 | true => rw [hc] at h; simp at h
 | false =>
  rw [hc, cond_false] at h
  refine ⟨h, ?_⟩
  rw [h] at hc
  have h2 : Nat.blt b.length ((head b).2.1 + (head b).2.2) = false := hc
  rcases Nat.lt_or_ge b.length ((head b).2.1 + (head b).2.2) with h3 | h3
  ·rw [Sx.bltT h3] at h2; cases h2
  ·exact h3
theorem takeN_pos {b : B} (h : takeE b = 0) : 2 ≤ takeN b ∧ takeN b ≤ b.length := by
 obtain ⟨h1, h2⟩ := takeE_head h
 have := head_pos h1
 unfold takeN
 rw [h]
 simp only [beq_self_eq_true, cond_true]
 omega
theorem takeN_drop {b : B} (h : takeE b = 0) : (b.drop (takeN b)).length < b.length := by
 have := takeN_pos h
 simp
 omega
def row (b : B) : List Elem :=
 if h : takeE b = 0 then (takeT b, takeC b) :: row (b.drop (takeN b)) else []
 termination_by b.length
 decreasing_by exact takeN_drop h
end Go.Dv.S
end
section
namespace Go.Dv
namespace S
def ob (s : B) : DRes × DHeap := (.ret (.sl 0 0 s.length 0 1), [newBlk (ofBytes s) 5])
def byts (l : List B) : List (List DV) := l.map fun s => [.fz (byt s)]
def S_slices_Clone_byte_byte : Spec := sq1 dB fun a => .leaf (ob a)
def ints (l : List Nat) : List (List DV) := l.map fun (n : Nat) => [DV.int .i64 (n : Int)]
theorem ob_eq {s : B} {n : Nat} (h : n = s.length) : some ((.ret (.sl 0 0 n 0 1), [newBlk (ofBytes s) 5]) : DRes × DHeap) = some (ob s) := by rw [h]; rfl
end S
theorem freezeWith_froz [DGlob] (d : Nat) (h : DHeap) : ∀ {cs : List DV}, cs.all froz = true → freezeWith (freezeV (d + 1) h) cs = some (cs, [])
 | [], _ => rfl
 | x :: cs, e => by
  simp only [List.all_cons, Bool.and_eq_true] at e
  have h1 : freezeV (d + 1) h x = some (x, []) := by
   obtain ⟨e1, _⟩ := e
   cases x <;> first | rfl | cases e1
  show ((freezeV (d + 1) h x).bind fun q => (freezeWith (freezeV (d + 1) h) cs).bind fun q2 => some (q.1 :: q2.1, q.2 ++ q2.2)) = _
  rw [h1, freezeWith_froz d h e.2]
  rfl
end Go.Dv
end
section
namespace Go.Dv
open Go.Proofs Go.Dv.S
noncomputable abbrev t_slices_Clone_byte_byte : List (FuncId × Spec) := []
theorem e_slices_Clone_byte_byte (Lp : LpT) (a : List (List DV)) : run P0 T0 Lp (Lt t_slices_Clone_byte_byte) nY 76 [.fz a] =
  (match (a) with | List.nil  => (Go.Dv.amb (some ((DRes.ret (DV.sl (0) (0) (0) (0) (1))), [(DBlk.mk [] (5) (Bool.true) (Bool.false) (Bool.true) none)])) (Option.bind (bif (a.all fun (x : List Go.Dv.DV) => x.length.beq 1) then (some ((a.length), (a.flatten))) else none) fun v0 => (bif (((((0 + v0.fst) * 1).ble 140737488355328) && ((0 + v0.fst).ble 9223372036854775807)) && (Bool.true)) then (Option.bind (bif ((Go.Dv.repeatCells [DV.int Go.IntKind.u8 (0 : Int)] 0 ++ v0.snd).length.beq ((0 + v0.fst + 0) * 1)) then (Option.bind (bif ((Go.Dv.repeatCells [DV.int Go.IntKind.u8 (0 : Int)] 0 ++ v0.snd).all Go.Dv.froz) then (some (Go.Dv.repeatCells [DV.int Go.IntKind.u8 (0 : Int)] 0 ++ v0.snd)) else none) fun v1 => (some ([(DV.sl (0) (0) (0 + v0.fst) (0) (1))], [(DBlk.mk (v1) (5) (Bool.true) (Bool.false) (Bool.true) none)]))) else none) fun v2 => (Option.bind (match (Go.Dv.unflat [Go.Dv.OwnT.one (some (5, 1))] v2.fst) with | List.nil  => none | List.cons v3 v4 => (some (v3 ))) fun v5 => (some ((DRes.ret (v5 )), (v2.snd))))) else none))) | List.cons v6 v7 => (Option.bind (bif (a.all fun (x : List Go.Dv.DV) => x.length.beq 1) then (some ((a.length), (a.flatten))) else none) fun v8 => (bif (((((0 + v8.fst) * 1).ble 140737488355328) && ((0 + v8.fst).ble 9223372036854775807)) && (Bool.true)) then (Option.bind (bif ((Go.Dv.repeatCells [DV.int Go.IntKind.u8 (0 : Int)] 0 ++ v8.snd).length.beq ((0 + v8.fst + 0) * 1)) then (Option.bind (bif ((Go.Dv.repeatCells [DV.int Go.IntKind.u8 (0 : Int)] 0 ++ v8.snd).all Go.Dv.froz) then (some (Go.Dv.repeatCells [DV.int Go.IntKind.u8 (0 : Int)] 0 ++ v8.snd)) else none) fun v9 => (some ([(DV.sl (0) (0) (0 + v8.fst) (0) (1))], [(DBlk.mk (v9) (5) (Bool.true) (Bool.false) (Bool.true) none)]))) else none) fun v10 => (Option.bind (match (Go.Dv.unflat [Go.Dv.OwnT.one (some (5, 1))] v10.fst) with | List.nil  => none | List.cons v11 v12 => (some (v11 ))) fun v13 => (some ((DRes.ret (v13 )), (v10.snd))))) else none))) := by kernel_rfl
end Go.Dv
end

/- What the functions come to that the statement's law runs, and the statement itself. Parts: EqB, CoD, CoE, CoF, RwA, RwStatusOf. -/
import Derived.KernelRfl
import Derived.Test.YtngphbjigkgeaaaRows
import Derived.WalkKit
import Derived.ProofKit
import Derived.OpenShut
import Derived.JoinedCond
import Derived.Test.YtngphbjigkgeaaaStatusOfA
set_option linter.unusedVariables false
set_option linter.unusedSimpArgs false
set_option linter.unusedSectionVars false
section
/- What functions come to, path by path: printed by eqs2.py. -/
namespace Go.Dv
open Go.Proofs Go.Dv.S
abbrev t_chanceryref05_Words : List (FuncId × Spec) := []
abbrev t_chanceryref05_Fold : List (FuncId × Spec) := [(160, S_chanceryref05_Words)]
theorem e_chanceryref05_Words (Lp : LpT) (s : List UInt8) : run P0 T0 Lp (Lt t_chanceryref05_Words) nY 160 [.str s] =
    (Lp _ (tdF T0 160 none 0) ((bodyF P0 T0 Lp (Lt t_chanceryref05_Words) nY [] 160 none 0 : FX (DRes × DHeap))) (kontF P0 T0 Lp (Lt t_chanceryref05_Words) nY [] 160 0) (DSt.mk [(DSlot.v (DV.str (s))), DSlot.dead, DSlot.dead, (DSlot.v (DV.sl (0) (0) (0) (0) (1))), (DSlot.v (DV.int (IntKind.i64) (0 : Int))), (DSlot.v (DV.int (IntKind.i64) (0 : Int))), DSlot.dead, DSlot.dead, DSlot.dead, DSlot.dead, DSlot.dead, DSlot.dead, DSlot.dead, DSlot.dead, DSlot.dead, DSlot.dead, DSlot.dead, DSlot.dead, DSlot.dead, DSlot.dead, DSlot.dead, DSlot.dead, DSlot.dead, DSlot.dead, DSlot.dead, DSlot.dead, DSlot.dead, DSlot.dead, DSlot.dead, DSlot.dead, DSlot.dead, DSlot.dead, DSlot.dead, DSlot.dead, DSlot.dead] [DBox.no, DBox.no, DBox.no, DBox.no, DBox.no, DBox.no, DBox.no, DBox.no, DBox.no, DBox.no, DBox.no, DBox.no, DBox.no, DBox.no, DBox.no, DBox.no, DBox.no, DBox.no, DBox.no, DBox.no, DBox.no, DBox.no, DBox.no, DBox.no, DBox.no, DBox.no, DBox.no, DBox.no, DBox.no, DBox.no, DBox.no, DBox.no, DBox.no, DBox.no, DBox.no] [(DBlk.mk [] (9) (Bool.true) (Bool.false) (Bool.true) none)]) []) := by kernel_rfl
theorem b_chanceryref05_Words_0 (Lp : LpT) (s : List UInt8) (f i : Int) (n : Nat) (cs : List DV) (k : KX (DRes × DHeap)) : bodyF P0 T0 Lp (Lt t_chanceryref05_Words) nY [] 160 none 0 (stH 35 [(0, .v (.str s)), (3, .v (.sl 0 0 n n 1)), (4, .v (.int .i64 f)), (5, .v (.int .i64 i))] [] [newBlk cs 9]) [] k =
    (bif (decide (i ≤ (↑s.length : Int))) then (bif (i == (↑s.length : Int)) then (bif (decide (i > f)) then (Option.bind (Go.Pv.upTo i s.length) fun v0 => (Option.bind (Go.Pv.upTo f v0) fun v1 => (bif (((((n + 1) * 16).ble 140737488355328) && ((n + 1).ble 9223372036854775807)) && (Bool.true)) then (bif ((n + 1).ble n) then (bif ((n * 1 + (List.take 1 (List.drop 0 (Go.Dv.splice (Go.Dv.repeatCells [DV.str []] 1) 0 [DV.str (List.take (v0 - v1) (List.drop v1 s))]))).length).ble cs.length) then (k DExit.normal (DSt.mk [(DSlot.v (DV.str (s))), DSlot.dead, DSlot.dead, (DSlot.v (DV.sl (0) (0) (n + 1) (n) (1))), (DSlot.v (DV.int (IntKind.i64) (IntKind.i64.wrap (i + Int.ofNat 1)))), (DSlot.v (DV.int (IntKind.i64) (IntKind.i64.wrap (i + Int.ofNat 1)))), (DSlot.v (DV.int (IntKind.i64) (i))), (DSlot.v (DV.str (s))), (DSlot.v (DV.int (IntKind.i64) ((↑s.length : Int)))), (DSlot.v (DV.bool (decide (i ≤ (↑s.length : Int))))), (DSlot.v (DV.int (IntKind.i64) (i))), (DSlot.v (DV.int (IntKind.i64) (IntKind.i64.wrap (i + Int.ofNat 1)))), (DSlot.v (DV.int (IntKind.i64) (i))), (DSlot.v (DV.str (s))), (DSlot.v (DV.int (IntKind.i64) ((↑s.length : Int)))), (DSlot.v (DV.bool (i == (↑s.length : Int)))), (DSlot.v (DV.bool (Bool.true))), (DSlot.v (DV.tup [])), (DSlot.v (DV.tup [])), (DSlot.v (DV.tup [])), (DSlot.v (DV.tup [])), (DSlot.v (DV.bool (Bool.true))), (DSlot.v (DV.int (IntKind.i64) (i))), (DSlot.v (DV.int (IntKind.i64) (f))), (DSlot.v (DV.bool (decide (i > f)))), (DSlot.v (DV.sl (0) (0) (n) (n) (1))), (DSlot.v (DV.str (s))), (DSlot.v (DV.int (IntKind.i64) (f))), (DSlot.v (DV.int (IntKind.i64) (i))), (DSlot.v (DV.str (List.take (v0 - v1) (List.drop v1 s)))), (DSlot.v (DV.sl (1) (0) (1) (1) (1))), (DSlot.v (DV.sl (0) (0) (n + 1) (n) (1))), (DSlot.v (DV.int (IntKind.i64) (i))), (DSlot.v (DV.int (IntKind.i64) (IntKind.i64.wrap (i + Int.ofNat 1)))), DSlot.dead] [DBox.no, DBox.no, DBox.no, DBox.no, DBox.no, DBox.no, DBox.no, DBox.no, DBox.no, DBox.no, DBox.no, DBox.no, DBox.no, DBox.no, DBox.no, DBox.no, DBox.no, DBox.no, DBox.no, DBox.no, DBox.no, DBox.no, DBox.no, DBox.no, DBox.no, DBox.no, DBox.no, DBox.no, DBox.no, DBox.no, DBox.no, DBox.no, DBox.no, DBox.no, DBox.no] [(DBlk.mk (Go.Dv.splice cs (n * 1) (List.take 1 (List.drop 0 (Go.Dv.splice (Go.Dv.repeatCells [DV.str []] 1) 0 [DV.str (List.take (v0 - v1) (List.drop v1 s))])))) (9) (Bool.true) (Bool.false) (Bool.true) none), (DBlk.mk [(DV.str (List.take (v0 - v1) (List.drop v1 s)))] (9) (Bool.true) (Bool.false) (Bool.true) none)]) []) else none) else (bif ((n * 1).beq cs.length) then (k DExit.normal (DSt.mk [(DSlot.v (DV.str (s))), DSlot.dead, DSlot.dead, (DSlot.v (DV.sl (2) (0) (n + 1) (n + 1) (1))), (DSlot.v (DV.int (IntKind.i64) (IntKind.i64.wrap (i + Int.ofNat 1)))), (DSlot.v (DV.int (IntKind.i64) (IntKind.i64.wrap (i + Int.ofNat 1)))), (DSlot.v (DV.int (IntKind.i64) (i))), (DSlot.v (DV.str (s))), (DSlot.v (DV.int (IntKind.i64) ((↑s.length : Int)))), (DSlot.v (DV.bool (decide (i ≤ (↑s.length : Int))))), (DSlot.v (DV.int (IntKind.i64) (i))), (DSlot.v (DV.int (IntKind.i64) (IntKind.i64.wrap (i + Int.ofNat 1)))), (DSlot.v (DV.int (IntKind.i64) (i))), (DSlot.v (DV.str (s))), (DSlot.v (DV.int (IntKind.i64) ((↑s.length : Int)))), (DSlot.v (DV.bool (i == (↑s.length : Int)))), (DSlot.v (DV.bool (Bool.true))), (DSlot.v (DV.tup [])), (DSlot.v (DV.tup [])), (DSlot.v (DV.tup [])), (DSlot.v (DV.tup [])), (DSlot.v (DV.bool (Bool.true))), (DSlot.v (DV.int (IntKind.i64) (i))), (DSlot.v (DV.int (IntKind.i64) (f))), (DSlot.v (DV.bool (decide (i > f)))), (DSlot.v (DV.sl (0) (0) (n) (n) (1))), (DSlot.v (DV.str (s))), (DSlot.v (DV.int (IntKind.i64) (f))), (DSlot.v (DV.int (IntKind.i64) (i))), (DSlot.v (DV.str (List.take (v0 - v1) (List.drop v1 s)))), (DSlot.v (DV.sl (1) (0) (1) (1) (1))), (DSlot.v (DV.sl (2) (0) (n + 1) (n + 1) (1))), (DSlot.v (DV.int (IntKind.i64) (i))), (DSlot.v (DV.int (IntKind.i64) (IntKind.i64.wrap (i + Int.ofNat 1)))), DSlot.dead] [DBox.no, DBox.no, DBox.no, DBox.no, DBox.no, DBox.no, DBox.no, DBox.no, DBox.no, DBox.no, DBox.no, DBox.no, DBox.no, DBox.no, DBox.no, DBox.no, DBox.no, DBox.no, DBox.no, DBox.no, DBox.no, DBox.no, DBox.no, DBox.no, DBox.no, DBox.no, DBox.no, DBox.no, DBox.no, DBox.no, DBox.no, DBox.no, DBox.no, DBox.no, DBox.no] [(DBlk.mk (cs) (9) (Bool.true) (Bool.false) (Bool.false) none), (DBlk.mk [(DV.str (List.take (v0 - v1) (List.drop v1 s)))] (9) (Bool.true) (Bool.false) (Bool.true) none), (DBlk.mk (cs ++ List.take 1 (List.drop 0 (Go.Dv.splice (Go.Dv.repeatCells [DV.str []] 1) 0 [DV.str (List.take (v0 - v1) (List.drop v1 s))]))) (9) (Bool.true) (Bool.false) (Bool.true) none)]) []) else none)) else none))) else (k DExit.normal (DSt.mk [(DSlot.v (DV.str (s))), DSlot.dead, DSlot.dead, (DSlot.v (DV.sl (0) (0) (n) (n) (1))), (DSlot.v (DV.int (IntKind.i64) (IntKind.i64.wrap (i + Int.ofNat 1)))), (DSlot.v (DV.int (IntKind.i64) (IntKind.i64.wrap (i + Int.ofNat 1)))), (DSlot.v (DV.int (IntKind.i64) (i))), (DSlot.v (DV.str (s))), (DSlot.v (DV.int (IntKind.i64) ((↑s.length : Int)))), (DSlot.v (DV.bool (decide (i ≤ (↑s.length : Int))))), (DSlot.v (DV.int (IntKind.i64) (i))), (DSlot.v (DV.int (IntKind.i64) (IntKind.i64.wrap (i + Int.ofNat 1)))), (DSlot.v (DV.int (IntKind.i64) (i))), (DSlot.v (DV.str (s))), (DSlot.v (DV.int (IntKind.i64) ((↑s.length : Int)))), (DSlot.v (DV.bool (i == (↑s.length : Int)))), (DSlot.v (DV.bool (Bool.true))), (DSlot.v (DV.tup [])), (DSlot.v (DV.tup [])), (DSlot.v (DV.tup [])), (DSlot.v (DV.tup [])), (DSlot.v (DV.bool (Bool.true))), (DSlot.v (DV.int (IntKind.i64) (i))), (DSlot.v (DV.int (IntKind.i64) (f))), (DSlot.v (DV.bool (decide (i > f)))), DSlot.dead, DSlot.dead, DSlot.dead, DSlot.dead, DSlot.dead, DSlot.dead, DSlot.dead, (DSlot.v (DV.int (IntKind.i64) (i))), (DSlot.v (DV.int (IntKind.i64) (IntKind.i64.wrap (i + Int.ofNat 1)))), DSlot.dead] [DBox.no, DBox.no, DBox.no, DBox.no, DBox.no, DBox.no, DBox.no, DBox.no, DBox.no, DBox.no, DBox.no, DBox.no, DBox.no, DBox.no, DBox.no, DBox.no, DBox.no, DBox.no, DBox.no, DBox.no, DBox.no, DBox.no, DBox.no, DBox.no, DBox.no, DBox.no, DBox.no, DBox.no, DBox.no, DBox.no, DBox.no, DBox.no, DBox.no, DBox.no, DBox.no] [(DBlk.mk (cs) (9) (Bool.true) (Bool.false) (Bool.true) none)]) [])) else (Option.bind (Go.Pv.idx i s.length) fun v2 => (bif ((↑(s.getD v2 0).toNat : Int) == Int.ofNat 32) then (bif (decide (i > f)) then (Option.bind (Go.Pv.upTo i s.length) fun v3 => (Option.bind (Go.Pv.upTo f v3) fun v4 => (bif (((((n + 1) * 16).ble 140737488355328) && ((n + 1).ble 9223372036854775807)) && (Bool.true)) then (bif ((n + 1).ble n) then (bif ((n * 1 + (List.take 1 (List.drop 0 (Go.Dv.splice (Go.Dv.repeatCells [DV.str []] 1) 0 [DV.str (List.take (v3 - v4) (List.drop v4 s))]))).length).ble cs.length) then (k DExit.normal (DSt.mk [(DSlot.v (DV.str (s))), DSlot.dead, DSlot.dead, (DSlot.v (DV.sl (0) (0) (n + 1) (n) (1))), (DSlot.v (DV.int (IntKind.i64) (IntKind.i64.wrap (i + Int.ofNat 1)))), (DSlot.v (DV.int (IntKind.i64) (IntKind.i64.wrap (i + Int.ofNat 1)))), (DSlot.v (DV.int (IntKind.i64) (i))), (DSlot.v (DV.str (s))), (DSlot.v (DV.int (IntKind.i64) ((↑s.length : Int)))), (DSlot.v (DV.bool (decide (i ≤ (↑s.length : Int))))), (DSlot.v (DV.int (IntKind.i64) (i))), (DSlot.v (DV.int (IntKind.i64) (IntKind.i64.wrap (i + Int.ofNat 1)))), (DSlot.v (DV.int (IntKind.i64) (i))), (DSlot.v (DV.str (s))), (DSlot.v (DV.int (IntKind.i64) ((↑s.length : Int)))), (DSlot.v (DV.bool (i == (↑s.length : Int)))), (DSlot.v (DV.bool (Bool.false))), (DSlot.v (DV.str (s))), (DSlot.v (DV.int (IntKind.i64) (i))), (DSlot.v (DV.int (IntKind.u8) ((↑(s.getD v2 0).toNat : Int)))), (DSlot.v (DV.bool ((↑(s.getD v2 0).toNat : Int) == Int.ofNat 32))), (DSlot.v (DV.bool ((↑(s.getD v2 0).toNat : Int) == Int.ofNat 32))), (DSlot.v (DV.int (IntKind.i64) (i))), (DSlot.v (DV.int (IntKind.i64) (f))), (DSlot.v (DV.bool (decide (i > f)))), (DSlot.v (DV.sl (0) (0) (n) (n) (1))), (DSlot.v (DV.str (s))), (DSlot.v (DV.int (IntKind.i64) (f))), (DSlot.v (DV.int (IntKind.i64) (i))), (DSlot.v (DV.str (List.take (v3 - v4) (List.drop v4 s)))), (DSlot.v (DV.sl (1) (0) (1) (1) (1))), (DSlot.v (DV.sl (0) (0) (n + 1) (n) (1))), (DSlot.v (DV.int (IntKind.i64) (i))), (DSlot.v (DV.int (IntKind.i64) (IntKind.i64.wrap (i + Int.ofNat 1)))), DSlot.dead] [DBox.no, DBox.no, DBox.no, DBox.no, DBox.no, DBox.no, DBox.no, DBox.no, DBox.no, DBox.no, DBox.no, DBox.no, DBox.no, DBox.no, DBox.no, DBox.no, DBox.no, DBox.no, DBox.no, DBox.no, DBox.no, DBox.no, DBox.no, DBox.no, DBox.no, DBox.no, DBox.no, DBox.no, DBox.no, DBox.no, DBox.no, DBox.no, DBox.no, DBox.no, DBox.no] [(DBlk.mk (Go.Dv.splice cs (n * 1) (List.take 1 (List.drop 0 (Go.Dv.splice (Go.Dv.repeatCells [DV.str []] 1) 0 [DV.str (List.take (v3 - v4) (List.drop v4 s))])))) (9) (Bool.true) (Bool.false) (Bool.true) none), (DBlk.mk [(DV.str (List.take (v3 - v4) (List.drop v4 s)))] (9) (Bool.true) (Bool.false) (Bool.true) none)]) []) else none) else (bif ((n * 1).beq cs.length) then (k DExit.normal (DSt.mk [(DSlot.v (DV.str (s))), DSlot.dead, DSlot.dead, (DSlot.v (DV.sl (2) (0) (n + 1) (n + 1) (1))), (DSlot.v (DV.int (IntKind.i64) (IntKind.i64.wrap (i + Int.ofNat 1)))), (DSlot.v (DV.int (IntKind.i64) (IntKind.i64.wrap (i + Int.ofNat 1)))), (DSlot.v (DV.int (IntKind.i64) (i))), (DSlot.v (DV.str (s))), (DSlot.v (DV.int (IntKind.i64) ((↑s.length : Int)))), (DSlot.v (DV.bool (decide (i ≤ (↑s.length : Int))))), (DSlot.v (DV.int (IntKind.i64) (i))), (DSlot.v (DV.int (IntKind.i64) (IntKind.i64.wrap (i + Int.ofNat 1)))), (DSlot.v (DV.int (IntKind.i64) (i))), (DSlot.v (DV.str (s))), (DSlot.v (DV.int (IntKind.i64) ((↑s.length : Int)))), (DSlot.v (DV.bool (i == (↑s.length : Int)))), (DSlot.v (DV.bool (Bool.false))), (DSlot.v (DV.str (s))), (DSlot.v (DV.int (IntKind.i64) (i))), (DSlot.v (DV.int (IntKind.u8) ((↑(s.getD v2 0).toNat : Int)))), (DSlot.v (DV.bool ((↑(s.getD v2 0).toNat : Int) == Int.ofNat 32))), (DSlot.v (DV.bool ((↑(s.getD v2 0).toNat : Int) == Int.ofNat 32))), (DSlot.v (DV.int (IntKind.i64) (i))), (DSlot.v (DV.int (IntKind.i64) (f))), (DSlot.v (DV.bool (decide (i > f)))), (DSlot.v (DV.sl (0) (0) (n) (n) (1))), (DSlot.v (DV.str (s))), (DSlot.v (DV.int (IntKind.i64) (f))), (DSlot.v (DV.int (IntKind.i64) (i))), (DSlot.v (DV.str (List.take (v3 - v4) (List.drop v4 s)))), (DSlot.v (DV.sl (1) (0) (1) (1) (1))), (DSlot.v (DV.sl (2) (0) (n + 1) (n + 1) (1))), (DSlot.v (DV.int (IntKind.i64) (i))), (DSlot.v (DV.int (IntKind.i64) (IntKind.i64.wrap (i + Int.ofNat 1)))), DSlot.dead] [DBox.no, DBox.no, DBox.no, DBox.no, DBox.no, DBox.no, DBox.no, DBox.no, DBox.no, DBox.no, DBox.no, DBox.no, DBox.no, DBox.no, DBox.no, DBox.no, DBox.no, DBox.no, DBox.no, DBox.no, DBox.no, DBox.no, DBox.no, DBox.no, DBox.no, DBox.no, DBox.no, DBox.no, DBox.no, DBox.no, DBox.no, DBox.no, DBox.no, DBox.no, DBox.no] [(DBlk.mk (cs) (9) (Bool.true) (Bool.false) (Bool.false) none), (DBlk.mk [(DV.str (List.take (v3 - v4) (List.drop v4 s)))] (9) (Bool.true) (Bool.false) (Bool.true) none), (DBlk.mk (cs ++ List.take 1 (List.drop 0 (Go.Dv.splice (Go.Dv.repeatCells [DV.str []] 1) 0 [DV.str (List.take (v3 - v4) (List.drop v4 s))]))) (9) (Bool.true) (Bool.false) (Bool.true) none)]) []) else none)) else none))) else (k DExit.normal (DSt.mk [(DSlot.v (DV.str (s))), DSlot.dead, DSlot.dead, (DSlot.v (DV.sl (0) (0) (n) (n) (1))), (DSlot.v (DV.int (IntKind.i64) (IntKind.i64.wrap (i + Int.ofNat 1)))), (DSlot.v (DV.int (IntKind.i64) (IntKind.i64.wrap (i + Int.ofNat 1)))), (DSlot.v (DV.int (IntKind.i64) (i))), (DSlot.v (DV.str (s))), (DSlot.v (DV.int (IntKind.i64) ((↑s.length : Int)))), (DSlot.v (DV.bool (decide (i ≤ (↑s.length : Int))))), (DSlot.v (DV.int (IntKind.i64) (i))), (DSlot.v (DV.int (IntKind.i64) (IntKind.i64.wrap (i + Int.ofNat 1)))), (DSlot.v (DV.int (IntKind.i64) (i))), (DSlot.v (DV.str (s))), (DSlot.v (DV.int (IntKind.i64) ((↑s.length : Int)))), (DSlot.v (DV.bool (i == (↑s.length : Int)))), (DSlot.v (DV.bool (Bool.false))), (DSlot.v (DV.str (s))), (DSlot.v (DV.int (IntKind.i64) (i))), (DSlot.v (DV.int (IntKind.u8) ((↑(s.getD v2 0).toNat : Int)))), (DSlot.v (DV.bool ((↑(s.getD v2 0).toNat : Int) == Int.ofNat 32))), (DSlot.v (DV.bool ((↑(s.getD v2 0).toNat : Int) == Int.ofNat 32))), (DSlot.v (DV.int (IntKind.i64) (i))), (DSlot.v (DV.int (IntKind.i64) (f))), (DSlot.v (DV.bool (decide (i > f)))), DSlot.dead, DSlot.dead, DSlot.dead, DSlot.dead, DSlot.dead, DSlot.dead, DSlot.dead, (DSlot.v (DV.int (IntKind.i64) (i))), (DSlot.v (DV.int (IntKind.i64) (IntKind.i64.wrap (i + Int.ofNat 1)))), DSlot.dead] [DBox.no, DBox.no, DBox.no, DBox.no, DBox.no, DBox.no, DBox.no, DBox.no, DBox.no, DBox.no, DBox.no, DBox.no, DBox.no, DBox.no, DBox.no, DBox.no, DBox.no, DBox.no, DBox.no, DBox.no, DBox.no, DBox.no, DBox.no, DBox.no, DBox.no, DBox.no, DBox.no, DBox.no, DBox.no, DBox.no, DBox.no, DBox.no, DBox.no, DBox.no, DBox.no] [(DBlk.mk (cs) (9) (Bool.true) (Bool.false) (Bool.true) none)]) [])) else (k DExit.normal (DSt.mk [(DSlot.v (DV.str (s))), DSlot.dead, DSlot.dead, (DSlot.v (DV.sl (0) (0) (n) (n) (1))), (DSlot.v (DV.int (IntKind.i64) (f))), (DSlot.v (DV.int (IntKind.i64) (IntKind.i64.wrap (i + Int.ofNat 1)))), (DSlot.v (DV.int (IntKind.i64) (i))), (DSlot.v (DV.str (s))), (DSlot.v (DV.int (IntKind.i64) ((↑s.length : Int)))), (DSlot.v (DV.bool (decide (i ≤ (↑s.length : Int))))), (DSlot.v (DV.int (IntKind.i64) (i))), (DSlot.v (DV.int (IntKind.i64) (IntKind.i64.wrap (i + Int.ofNat 1)))), (DSlot.v (DV.int (IntKind.i64) (i))), (DSlot.v (DV.str (s))), (DSlot.v (DV.int (IntKind.i64) ((↑s.length : Int)))), (DSlot.v (DV.bool (i == (↑s.length : Int)))), (DSlot.v (DV.bool (Bool.false))), (DSlot.v (DV.str (s))), (DSlot.v (DV.int (IntKind.i64) (i))), (DSlot.v (DV.int (IntKind.u8) ((↑(s.getD v2 0).toNat : Int)))), (DSlot.v (DV.bool ((↑(s.getD v2 0).toNat : Int) == Int.ofNat 32))), (DSlot.v (DV.bool ((↑(s.getD v2 0).toNat : Int) == Int.ofNat 32))), DSlot.dead, DSlot.dead, DSlot.dead, DSlot.dead, DSlot.dead, DSlot.dead, DSlot.dead, DSlot.dead, DSlot.dead, DSlot.dead, DSlot.dead, DSlot.dead, DSlot.dead] [DBox.no, DBox.no, DBox.no, DBox.no, DBox.no, DBox.no, DBox.no, DBox.no, DBox.no, DBox.no, DBox.no, DBox.no, DBox.no, DBox.no, DBox.no, DBox.no, DBox.no, DBox.no, DBox.no, DBox.no, DBox.no, DBox.no, DBox.no, DBox.no, DBox.no, DBox.no, DBox.no, DBox.no, DBox.no, DBox.no, DBox.no, DBox.no, DBox.no, DBox.no, DBox.no] [(DBlk.mk (cs) (9) (Bool.true) (Bool.false) (Bool.true) none)]) [])))) else (k (DExit.exit (0)) (DSt.mk [(DSlot.v (DV.str (s))), DSlot.dead, DSlot.dead, (DSlot.v (DV.sl (0) (0) (n) (n) (1))), (DSlot.v (DV.int (IntKind.i64) (f))), (DSlot.v (DV.int (IntKind.i64) (i))), (DSlot.v (DV.int (IntKind.i64) (i))), (DSlot.v (DV.str (s))), (DSlot.v (DV.int (IntKind.i64) ((↑s.length : Int)))), (DSlot.v (DV.bool (decide (i ≤ (↑s.length : Int))))), DSlot.dead, DSlot.dead, DSlot.dead, DSlot.dead, DSlot.dead, DSlot.dead, DSlot.dead, DSlot.dead, DSlot.dead, DSlot.dead, DSlot.dead, DSlot.dead, DSlot.dead, DSlot.dead, DSlot.dead, DSlot.dead, DSlot.dead, DSlot.dead, DSlot.dead, DSlot.dead, DSlot.dead, DSlot.dead, DSlot.dead, DSlot.dead, DSlot.dead] [DBox.no, DBox.no, DBox.no, DBox.no, DBox.no, DBox.no, DBox.no, DBox.no, DBox.no, DBox.no, DBox.no, DBox.no, DBox.no, DBox.no, DBox.no, DBox.no, DBox.no, DBox.no, DBox.no, DBox.no, DBox.no, DBox.no, DBox.no, DBox.no, DBox.no, DBox.no, DBox.no, DBox.no, DBox.no, DBox.no, DBox.no, DBox.no, DBox.no, DBox.no, DBox.no] [(DBlk.mk (cs) (9) (Bool.true) (Bool.false) (Bool.true) none)]) [])) := by kernel_rfl
theorem x_chanceryref05_Words (Lp : LpT) (s : List UInt8) (f i : Int) (q : Bool) (n : Nat) (cs : List DV) : kontF P0 T0 Lp (Lt t_chanceryref05_Words) nY [] 160 0 (.exit 0) (stH 35 [(0, .v (.str s)), (3, .v (.sl 0 0 n n 1)), (4, .v (.int .i64 f)), (5, .v (.int .i64 i)), (6, .v (.int .i64 i)), (7, .v (.str s)), (8, .v (.int .i64 s.length)), (9, .v (.bool q))] [] [newBlk cs 9]) [] =
    (Option.bind (bif (n.ble n) then (Option.bind (bif ((0 + n * 1).ble cs.length) then (some (List.take (n * 1) (List.drop 0 cs))) else none) fun v0 => (Option.bind (Go.Dv.frozL v0) fun v1 => (some ((DV.fz (Go.Dv.chunks 1 n v1)), [(0)])))) else none) fun v2 => (some ((DRes.ret (v2.fst)), []))) := by kernel_rfl
theorem e_chanceryref05_Fold (Lp : LpT) (s : List UInt8) : run P0 T0 Lp (Lt t_chanceryref05_Fold) nY 129 [.str s] =
    (Option.bind (Go.Dv.S.dS (DV.str s)) fun v0 => (Lp _ (tdF T0 129 none 0) ((bodyF P0 T0 Lp (Lt t_chanceryref05_Fold) nY [] 129 none 0 : FX (DRes × DHeap))) (kontF P0 T0 Lp (Lt t_chanceryref05_Fold) nY [] 129 0) (DSt.mk [DSlot.dead, DSlot.dead, DSlot.dead, (DSlot.v (DV.fz (List.map (fun (w : List UInt8) => [DV.str w]) (Go.Dv.S.words v0)))), (DSlot.v (DV.sl (0) (0) (0) (0) (1))), (DSlot.v (DV.int (IntKind.i64) (0 : Int))), DSlot.dead, DSlot.dead, DSlot.dead, DSlot.dead, DSlot.dead, DSlot.dead, DSlot.dead, DSlot.dead, DSlot.dead, DSlot.dead, DSlot.dead, DSlot.dead, DSlot.dead, DSlot.dead, DSlot.dead, DSlot.dead, DSlot.dead, DSlot.dead, DSlot.dead, DSlot.dead, DSlot.dead, DSlot.dead, DSlot.dead, DSlot.dead, DSlot.dead, DSlot.dead, DSlot.dead, DSlot.dead, DSlot.dead, DSlot.dead, DSlot.dead, DSlot.dead, DSlot.dead, DSlot.dead, DSlot.dead, DSlot.dead, DSlot.dead, DSlot.dead, DSlot.dead, DSlot.dead, DSlot.dead, DSlot.dead, DSlot.dead, DSlot.dead] [DBox.no, DBox.no, DBox.no, DBox.no, DBox.no, DBox.no, DBox.no, DBox.no, DBox.no, DBox.no, DBox.no, DBox.no, DBox.no, DBox.no, DBox.no, DBox.no, DBox.no, DBox.no, DBox.no, DBox.no, DBox.no, DBox.no, DBox.no, DBox.no, DBox.no, DBox.no, DBox.no, DBox.no, DBox.no, DBox.no, DBox.no, DBox.no, DBox.no, DBox.no, DBox.no, DBox.no, DBox.no, DBox.no, DBox.no, DBox.no, DBox.no, DBox.no, DBox.no, DBox.no, DBox.no, DBox.no, DBox.no, DBox.no, DBox.no, DBox.no] [(DBlk.mk [] (5) (Bool.true) (Bool.false) (Bool.true) none)]) [])) := by kernel_rfl
theorem b_chanceryref05_Fold_0 (Lp : LpT) (l : List (List DV)) (i : Int) (n : Nat) (cs : List DV) (k : KX (DRes × DHeap)) : bodyF P0 T0 Lp (Lt t_chanceryref05_Fold) nY [] 129 none 0 (stH 50 [(3, .v (.fz l)), (4, .v (.sl 0 0 n n 1)), (5, .v (.int .i64 i))] [] [newBlk cs 5]) [] k =
    (bif (decide (i < (↑l.length : Int))) then (bif (decide (i > 0)) then (bif (((((n + 1) * 1).ble 140737488355328) && ((n + 1).ble 9223372036854775807)) && (Bool.true)) then (bif ((n + 1).ble n) then (bif ((n * 1 + 1).ble cs.length) then (Lp _ (tdF T0 129 none 2) ((bodyF P0 T0 Lp (Lt t_chanceryref05_Fold) nY [] 129 none 2 : FX (DRes × DHeap))) (kont P0 T0 Lp (Lt t_chanceryref05_Fold) nY [] 129 none 2 (loopOf T0 129 0) k) (bif (((Go.Dv.splice cs (n * 1) (List.take 1 (List.drop 0 (Go.Dv.splice (Go.Dv.repeatCells [DV.int Go.IntKind.u8 (0 : Int)] 1) 0 [DV.int Go.IntKind.u8 (32 : Int)])))).all Go.Dv.froz) && (Bool.true)) then (DSt.mk [DSlot.dead, DSlot.dead, DSlot.dead, (DSlot.v (DV.fz (l))), (DSlot.v (DV.sl (0) (0) (n + 1) (n) (1))), (DSlot.v (DV.int (IntKind.i64) (i))), (DSlot.v (DV.int (IntKind.i64) (0 : Int))), DSlot.dead, DSlot.dead, DSlot.dead, DSlot.dead, DSlot.dead, DSlot.dead, DSlot.dead, DSlot.dead, DSlot.dead, DSlot.dead, DSlot.dead, DSlot.dead, DSlot.dead, DSlot.dead, DSlot.dead, DSlot.dead, DSlot.dead, DSlot.dead, DSlot.dead, DSlot.dead, DSlot.dead, DSlot.dead, DSlot.dead, DSlot.dead, DSlot.dead, DSlot.dead, DSlot.dead, DSlot.dead, DSlot.dead, DSlot.dead, DSlot.dead, DSlot.dead, DSlot.dead, DSlot.dead, DSlot.dead, DSlot.dead, DSlot.dead, DSlot.dead, DSlot.dead, DSlot.dead, DSlot.dead, DSlot.dead, DSlot.dead] [DBox.no, DBox.no, DBox.no, DBox.no, DBox.no, DBox.no, DBox.no, DBox.no, DBox.no, DBox.no, DBox.no, DBox.no, DBox.no, DBox.no, DBox.no, DBox.no, DBox.no, DBox.no, DBox.no, DBox.no, DBox.no, DBox.no, DBox.no, DBox.no, DBox.no, DBox.no, DBox.no, DBox.no, DBox.no, DBox.no, DBox.no, DBox.no, DBox.no, DBox.no, DBox.no, DBox.no, DBox.no, DBox.no, DBox.no, DBox.no, DBox.no, DBox.no, DBox.no, DBox.no, DBox.no, DBox.no, DBox.no, DBox.no, DBox.no, DBox.no] [(DBlk.mk (Go.Dv.splice cs (n * 1) (List.take 1 (List.drop 0 (Go.Dv.splice (Go.Dv.repeatCells [DV.int Go.IntKind.u8 (0 : Int)] 1) 0 [DV.int Go.IntKind.u8 (32 : Int)])))) (5) (Bool.true) (Bool.false) (Bool.true) none)]) else (DSt.mk [DSlot.dead, DSlot.dead, DSlot.dead, (DSlot.v (DV.fz (l))), (DSlot.v (DV.sl (0) (0) (n + 1) (n) (1))), (DSlot.v (DV.int (IntKind.i64) (i))), (DSlot.v (DV.int (IntKind.i64) (0 : Int))), DSlot.dead, DSlot.dead, DSlot.dead, DSlot.dead, DSlot.dead, DSlot.dead, DSlot.dead, DSlot.dead, DSlot.dead, DSlot.dead, DSlot.dead, DSlot.dead, DSlot.dead, DSlot.dead, DSlot.dead, DSlot.dead, DSlot.dead, DSlot.dead, DSlot.dead, DSlot.dead, DSlot.dead, DSlot.dead, DSlot.dead, DSlot.dead, DSlot.dead, DSlot.dead, DSlot.dead, DSlot.dead, DSlot.dead, DSlot.dead, DSlot.dead, DSlot.dead, DSlot.dead, DSlot.dead, DSlot.dead, DSlot.dead, DSlot.dead, DSlot.dead, DSlot.dead, DSlot.dead, DSlot.dead, DSlot.dead, DSlot.dead] [DBox.no, DBox.no, DBox.no, DBox.no, DBox.no, DBox.no, DBox.no, DBox.no, DBox.no, DBox.no, DBox.no, DBox.no, DBox.no, DBox.no, DBox.no, DBox.no, DBox.no, DBox.no, DBox.no, DBox.no, DBox.no, DBox.no, DBox.no, DBox.no, DBox.no, DBox.no, DBox.no, DBox.no, DBox.no, DBox.no, DBox.no, DBox.no, DBox.no, DBox.no, DBox.no, DBox.no, DBox.no, DBox.no, DBox.no, DBox.no, DBox.no, DBox.no, DBox.no, DBox.no, DBox.no, DBox.no, DBox.no, DBox.no, DBox.no, DBox.no] [(DBlk.mk (Go.Dv.splice cs (n * 1) (List.take 1 (List.drop 0 (Go.Dv.splice (Go.Dv.repeatCells [DV.int Go.IntKind.u8 (0 : Int)] 1) 0 [DV.int Go.IntKind.u8 (32 : Int)])))) (5) (Bool.true) (Bool.false) (Bool.true) none), (DBlk.mk [(DV.int (IntKind.u8) (32 : Int))] (5) (Bool.true) (Bool.false) (Bool.true) none)])) []) else none) else (bif ((n * 1).beq cs.length) then (Lp _ (tdF T0 129 none 2) ((bodyF P0 T0 Lp (Lt t_chanceryref05_Fold) nY [] 129 none 2 : FX (DRes × DHeap))) (kont P0 T0 Lp (Lt t_chanceryref05_Fold) nY [] 129 none 2 (loopOf T0 129 0) k) (bif (((cs ++ List.take 1 (List.drop 0 (Go.Dv.splice (Go.Dv.repeatCells [DV.int Go.IntKind.u8 (0 : Int)] 1) 0 [DV.int Go.IntKind.u8 (32 : Int)]))).all Go.Dv.froz) && (Bool.true)) then (DSt.mk [DSlot.dead, DSlot.dead, DSlot.dead, (DSlot.v (DV.fz (l))), (DSlot.v (DV.sl (0) (0) (n + 1) (n + 1) (1))), (DSlot.v (DV.int (IntKind.i64) (i))), (DSlot.v (DV.int (IntKind.i64) (0 : Int))), DSlot.dead, DSlot.dead, DSlot.dead, DSlot.dead, DSlot.dead, DSlot.dead, DSlot.dead, DSlot.dead, DSlot.dead, DSlot.dead, DSlot.dead, DSlot.dead, DSlot.dead, DSlot.dead, DSlot.dead, DSlot.dead, DSlot.dead, DSlot.dead, DSlot.dead, DSlot.dead, DSlot.dead, DSlot.dead, DSlot.dead, DSlot.dead, DSlot.dead, DSlot.dead, DSlot.dead, DSlot.dead, DSlot.dead, DSlot.dead, DSlot.dead, DSlot.dead, DSlot.dead, DSlot.dead, DSlot.dead, DSlot.dead, DSlot.dead, DSlot.dead, DSlot.dead, DSlot.dead, DSlot.dead, DSlot.dead, DSlot.dead] [DBox.no, DBox.no, DBox.no, DBox.no, DBox.no, DBox.no, DBox.no, DBox.no, DBox.no, DBox.no, DBox.no, DBox.no, DBox.no, DBox.no, DBox.no, DBox.no, DBox.no, DBox.no, DBox.no, DBox.no, DBox.no, DBox.no, DBox.no, DBox.no, DBox.no, DBox.no, DBox.no, DBox.no, DBox.no, DBox.no, DBox.no, DBox.no, DBox.no, DBox.no, DBox.no, DBox.no, DBox.no, DBox.no, DBox.no, DBox.no, DBox.no, DBox.no, DBox.no, DBox.no, DBox.no, DBox.no, DBox.no, DBox.no, DBox.no, DBox.no] [(DBlk.mk (cs ++ List.take 1 (List.drop 0 (Go.Dv.splice (Go.Dv.repeatCells [DV.int Go.IntKind.u8 (0 : Int)] 1) 0 [DV.int Go.IntKind.u8 (32 : Int)]))) (5) (Bool.true) (Bool.false) (Bool.true) none)]) else (DSt.mk [DSlot.dead, DSlot.dead, DSlot.dead, (DSlot.v (DV.fz (l))), (DSlot.v (DV.sl (2) (0) (n + 1) (n + 1) (1))), (DSlot.v (DV.int (IntKind.i64) (i))), (DSlot.v (DV.int (IntKind.i64) (0 : Int))), DSlot.dead, DSlot.dead, DSlot.dead, DSlot.dead, DSlot.dead, DSlot.dead, DSlot.dead, DSlot.dead, DSlot.dead, DSlot.dead, DSlot.dead, DSlot.dead, DSlot.dead, DSlot.dead, DSlot.dead, DSlot.dead, DSlot.dead, DSlot.dead, DSlot.dead, DSlot.dead, DSlot.dead, DSlot.dead, DSlot.dead, DSlot.dead, DSlot.dead, DSlot.dead, DSlot.dead, DSlot.dead, DSlot.dead, DSlot.dead, DSlot.dead, DSlot.dead, DSlot.dead, DSlot.dead, DSlot.dead, DSlot.dead, DSlot.dead, DSlot.dead, DSlot.dead, DSlot.dead, DSlot.dead, DSlot.dead, DSlot.dead] [DBox.no, DBox.no, DBox.no, DBox.no, DBox.no, DBox.no, DBox.no, DBox.no, DBox.no, DBox.no, DBox.no, DBox.no, DBox.no, DBox.no, DBox.no, DBox.no, DBox.no, DBox.no, DBox.no, DBox.no, DBox.no, DBox.no, DBox.no, DBox.no, DBox.no, DBox.no, DBox.no, DBox.no, DBox.no, DBox.no, DBox.no, DBox.no, DBox.no, DBox.no, DBox.no, DBox.no, DBox.no, DBox.no, DBox.no, DBox.no, DBox.no, DBox.no, DBox.no, DBox.no, DBox.no, DBox.no, DBox.no, DBox.no, DBox.no, DBox.no] [(DBlk.mk (cs) (5) (Bool.true) (Bool.false) (Bool.false) none), (DBlk.mk [(DV.int (IntKind.u8) (32 : Int))] (5) (Bool.true) (Bool.false) (Bool.true) none), (DBlk.mk (cs ++ List.take 1 (List.drop 0 (Go.Dv.splice (Go.Dv.repeatCells [DV.int Go.IntKind.u8 (0 : Int)] 1) 0 [DV.int Go.IntKind.u8 (32 : Int)]))) (5) (Bool.true) (Bool.false) (Bool.true) none)])) []) else none)) else none) else (Lp _ (tdF T0 129 none 2) ((bodyF P0 T0 Lp (Lt t_chanceryref05_Fold) nY [] 129 none 2 : FX (DRes × DHeap))) (kont P0 T0 Lp (Lt t_chanceryref05_Fold) nY [] 129 none 2 (loopOf T0 129 0) k) (bif ((cs.all Go.Dv.froz) && (Bool.true)) then (DSt.mk [DSlot.dead, DSlot.dead, DSlot.dead, (DSlot.v (DV.fz (l))), (DSlot.v (DV.sl (0) (0) (n) (n) (1))), (DSlot.v (DV.int (IntKind.i64) (i))), (DSlot.v (DV.int (IntKind.i64) (0 : Int))), DSlot.dead, DSlot.dead, DSlot.dead, DSlot.dead, DSlot.dead, DSlot.dead, DSlot.dead, DSlot.dead, DSlot.dead, DSlot.dead, DSlot.dead, DSlot.dead, DSlot.dead, DSlot.dead, DSlot.dead, DSlot.dead, DSlot.dead, DSlot.dead, DSlot.dead, DSlot.dead, DSlot.dead, DSlot.dead, DSlot.dead, DSlot.dead, DSlot.dead, DSlot.dead, DSlot.dead, DSlot.dead, DSlot.dead, DSlot.dead, DSlot.dead, DSlot.dead, DSlot.dead, DSlot.dead, DSlot.dead, DSlot.dead, DSlot.dead, DSlot.dead, DSlot.dead, DSlot.dead, DSlot.dead, DSlot.dead, DSlot.dead] [DBox.no, DBox.no, DBox.no, DBox.no, DBox.no, DBox.no, DBox.no, DBox.no, DBox.no, DBox.no, DBox.no, DBox.no, DBox.no, DBox.no, DBox.no, DBox.no, DBox.no, DBox.no, DBox.no, DBox.no, DBox.no, DBox.no, DBox.no, DBox.no, DBox.no, DBox.no, DBox.no, DBox.no, DBox.no, DBox.no, DBox.no, DBox.no, DBox.no, DBox.no, DBox.no, DBox.no, DBox.no, DBox.no, DBox.no, DBox.no, DBox.no, DBox.no, DBox.no, DBox.no, DBox.no, DBox.no, DBox.no, DBox.no, DBox.no, DBox.no] [(DBlk.mk (cs) (5) (Bool.true) (Bool.false) (Bool.true) none)]) else (DSt.mk [DSlot.dead, DSlot.dead, DSlot.dead, (DSlot.v (DV.fz (l))), (DSlot.v (DV.sl (0) (0) (n) (n) (1))), (DSlot.v (DV.int (IntKind.i64) (i))), (DSlot.v (DV.int (IntKind.i64) (0 : Int))), DSlot.dead, DSlot.dead, DSlot.dead, DSlot.dead, DSlot.dead, DSlot.dead, DSlot.dead, DSlot.dead, DSlot.dead, DSlot.dead, DSlot.dead, DSlot.dead, DSlot.dead, DSlot.dead, DSlot.dead, DSlot.dead, DSlot.dead, DSlot.dead, DSlot.dead, DSlot.dead, DSlot.dead, DSlot.dead, DSlot.dead, DSlot.dead, DSlot.dead, DSlot.dead, DSlot.dead, DSlot.dead, DSlot.dead, DSlot.dead, DSlot.dead, DSlot.dead, DSlot.dead, DSlot.dead, DSlot.dead, DSlot.dead, DSlot.dead, DSlot.dead, DSlot.dead, DSlot.dead, DSlot.dead, DSlot.dead, DSlot.dead] [DBox.no, DBox.no, DBox.no, DBox.no, DBox.no, DBox.no, DBox.no, DBox.no, DBox.no, DBox.no, DBox.no, DBox.no, DBox.no, DBox.no, DBox.no, DBox.no, DBox.no, DBox.no, DBox.no, DBox.no, DBox.no, DBox.no, DBox.no, DBox.no, DBox.no, DBox.no, DBox.no, DBox.no, DBox.no, DBox.no, DBox.no, DBox.no, DBox.no, DBox.no, DBox.no, DBox.no, DBox.no, DBox.no, DBox.no, DBox.no, DBox.no, DBox.no, DBox.no, DBox.no, DBox.no, DBox.no, DBox.no, DBox.no, DBox.no, DBox.no] [(DBlk.mk (cs) (5) (Bool.true) (Bool.false) (Bool.true) none)])) [])) else (k (DExit.exit (0)) (DSt.mk [DSlot.dead, DSlot.dead, DSlot.dead, (DSlot.v (DV.fz (l))), (DSlot.v (DV.sl (0) (0) (n) (n) (1))), (DSlot.v (DV.int (IntKind.i64) (i))), DSlot.dead, DSlot.dead, DSlot.dead, DSlot.dead, (DSlot.v (DV.int (IntKind.i64) (i))), (DSlot.v (DV.fz (l))), (DSlot.v (DV.int (IntKind.i64) ((↑l.length : Int)))), (DSlot.v (DV.bool (decide (i < (↑l.length : Int))))), DSlot.dead, DSlot.dead, DSlot.dead, DSlot.dead, DSlot.dead, DSlot.dead, DSlot.dead, DSlot.dead, DSlot.dead, DSlot.dead, DSlot.dead, DSlot.dead, DSlot.dead, DSlot.dead, DSlot.dead, DSlot.dead, DSlot.dead, DSlot.dead, DSlot.dead, DSlot.dead, DSlot.dead, DSlot.dead, DSlot.dead, DSlot.dead, DSlot.dead, DSlot.dead, DSlot.dead, DSlot.dead, DSlot.dead, DSlot.dead, DSlot.dead, DSlot.dead, DSlot.dead, DSlot.dead, DSlot.dead, DSlot.dead] [DBox.no, DBox.no, DBox.no, DBox.no, DBox.no, DBox.no, DBox.no, DBox.no, DBox.no, DBox.no, DBox.no, DBox.no, DBox.no, DBox.no, DBox.no, DBox.no, DBox.no, DBox.no, DBox.no, DBox.no, DBox.no, DBox.no, DBox.no, DBox.no, DBox.no, DBox.no, DBox.no, DBox.no, DBox.no, DBox.no, DBox.no, DBox.no, DBox.no, DBox.no, DBox.no, DBox.no, DBox.no, DBox.no, DBox.no, DBox.no, DBox.no, DBox.no, DBox.no, DBox.no, DBox.no, DBox.no, DBox.no, DBox.no, DBox.no, DBox.no] [(DBlk.mk (cs) (5) (Bool.true) (Bool.false) (Bool.true) none)]) [])) := by kernel_rfl
theorem b_chanceryref05_Fold_2 (Lp : LpT) (l : List (List DV)) (i j : Int) (n : Nat) (cs : List DV) (k : KX (DRes × DHeap)) : bodyF P0 T0 Lp (Lt t_chanceryref05_Fold) nY [] 129 none 2 (stH 50 [(3, .v (.fz l)), (4, .v (.sl 0 0 n n 1)), (5, .v (.int .i64 i)), (6, .v (.int .i64 j))] [] [newBlk cs 5]) [] k =
    (Option.bind (Go.Pv.idx i l.length) fun v0 => (Option.bind (l)[(v0)]? fun v1 => (Option.bind (Go.Dv.unc v1) fun v2 => (Option.bind (Go.Dv.toStr v2.fst) fun v3 => (bif (v2.snd.isEmpty) then (bif (decide (j < (↑v3.length : Int))) then (Option.bind (Go.Pv.idx i l.length) fun v4 => (Option.bind (l)[(v4)]? fun v5 => (Option.bind (Go.Dv.unc v5) fun v6 => (Option.bind (Go.Dv.toStr v6.fst) fun v7 => (bif (v6.snd.isEmpty) then (Option.bind (Go.Pv.idx j v7.length) fun v8 => (bif (decide ((↑(v7.getD v8 0).toNat : Int) ≥ 65)) then (bif (decide ((↑(v7.getD v8 0).toNat : Int) ≤ 90)) then (bif (((((n + 1) * 1).ble 140737488355328) && ((n + 1).ble 9223372036854775807)) && (Bool.true)) then (bif ((n + 1).ble n) then (bif ((n * 1 + (List.take 1 (List.drop 0 (Go.Dv.splice (Go.Dv.repeatCells [DV.int Go.IntKind.u8 (0 : Int)] 1) 0 [DV.int Go.IntKind.u8 (IntKind.u8.wrap ((↑(v7.getD v8 0).toNat : Int) + Int.ofNat 32))]))).length).ble cs.length) then (k DExit.normal (DSt.mk [DSlot.dead, DSlot.dead, DSlot.dead, (DSlot.v (DV.fz (l))), (DSlot.v (DV.sl (0) (0) (n + 1) (n) (1))), (DSlot.v (DV.int (IntKind.i64) (i))), (DSlot.v (DV.int (IntKind.i64) (IntKind.i64.wrap (j + Int.ofNat 1)))), (DSlot.v (DV.int (IntKind.u8) (IntKind.u8.wrap ((↑(v7.getD v8 0).toNat : Int) + Int.ofNat 32)))), DSlot.dead, DSlot.dead, DSlot.dead, DSlot.dead, DSlot.dead, DSlot.dead, DSlot.dead, DSlot.dead, DSlot.dead, DSlot.dead, DSlot.dead, DSlot.dead, DSlot.dead, (DSlot.v (DV.int (IntKind.i64) (j))), (DSlot.v (DV.fz (l))), (DSlot.v (DV.int (IntKind.i64) (i))), (DSlot.v (DV.fp (Bool.true) [(DV.str (v3))])), (DSlot.v (DV.str (v3))), (DSlot.v (DV.int (IntKind.i64) ((↑v3.length : Int)))), (DSlot.v (DV.bool (decide (j < (↑v3.length : Int))))), (DSlot.v (DV.int (IntKind.i64) (j))), (DSlot.v (DV.int (IntKind.i64) (IntKind.i64.wrap (j + Int.ofNat 1)))), (DSlot.v (DV.fz (l))), (DSlot.v (DV.int (IntKind.i64) (i))), (DSlot.v (DV.fp (Bool.true) [(DV.str (v7))])), (DSlot.v (DV.str (v7))), (DSlot.v (DV.int (IntKind.i64) (j))), (DSlot.v (DV.int (IntKind.u8) ((↑(v7.getD v8 0).toNat : Int)))), (DSlot.v (DV.int (IntKind.u8) ((↑(v7.getD v8 0).toNat : Int)))), (DSlot.v (DV.bool (decide ((↑(v7.getD v8 0).toNat : Int) ≥ 65)))), (DSlot.v (DV.bool (Bool.true))), (DSlot.v (DV.int (IntKind.u8) ((↑(v7.getD v8 0).toNat : Int)))), (DSlot.v (DV.bool (decide ((↑(v7.getD v8 0).toNat : Int) ≤ 90)))), (DSlot.v (DV.bool (decide ((↑(v7.getD v8 0).toNat : Int) ≤ 90)))), (DSlot.v (DV.int (IntKind.u8) ((↑(v7.getD v8 0).toNat : Int)))), (DSlot.v (DV.int (IntKind.u8) (IntKind.u8.wrap ((↑(v7.getD v8 0).toNat : Int) + Int.ofNat 32)))), (DSlot.v (DV.sl (0) (0) (n) (n) (1))), (DSlot.v (DV.int (IntKind.u8) (IntKind.u8.wrap ((↑(v7.getD v8 0).toNat : Int) + Int.ofNat 32)))), (DSlot.v (DV.sl (1) (0) (1) (1) (1))), (DSlot.v (DV.sl (0) (0) (n + 1) (n) (1))), DSlot.dead, DSlot.dead] [DBox.no, DBox.no, DBox.no, DBox.no, DBox.no, DBox.no, DBox.no, DBox.no, DBox.no, DBox.no, DBox.no, DBox.no, DBox.no, DBox.no, DBox.no, DBox.no, DBox.no, DBox.no, DBox.no, DBox.no, DBox.no, DBox.no, DBox.no, DBox.no, DBox.no, DBox.no, DBox.no, DBox.no, DBox.no, DBox.no, DBox.no, DBox.no, DBox.no, DBox.no, DBox.no, DBox.no, DBox.no, DBox.no, DBox.no, DBox.no, DBox.no, DBox.no, DBox.no, DBox.no, DBox.no, DBox.no, DBox.no, DBox.no, DBox.no, DBox.no] [(DBlk.mk (Go.Dv.splice cs (n * 1) (List.take 1 (List.drop 0 (Go.Dv.splice (Go.Dv.repeatCells [DV.int Go.IntKind.u8 (0 : Int)] 1) 0 [DV.int Go.IntKind.u8 (IntKind.u8.wrap ((↑(v7.getD v8 0).toNat : Int) + Int.ofNat 32))])))) (5) (Bool.true) (Bool.false) (Bool.true) none), (DBlk.mk [(DV.int (IntKind.u8) (IntKind.u8.wrap ((↑(v7.getD v8 0).toNat : Int) + Int.ofNat 32)))] (5) (Bool.true) (Bool.false) (Bool.true) none)]) []) else none) else (bif ((n * 1).beq cs.length) then (k DExit.normal (DSt.mk [DSlot.dead, DSlot.dead, DSlot.dead, (DSlot.v (DV.fz (l))), (DSlot.v (DV.sl (2) (0) (n + 1) (n + 1) (1))), (DSlot.v (DV.int (IntKind.i64) (i))), (DSlot.v (DV.int (IntKind.i64) (IntKind.i64.wrap (j + Int.ofNat 1)))), (DSlot.v (DV.int (IntKind.u8) (IntKind.u8.wrap ((↑(v7.getD v8 0).toNat : Int) + Int.ofNat 32)))), DSlot.dead, DSlot.dead, DSlot.dead, DSlot.dead, DSlot.dead, DSlot.dead, DSlot.dead, DSlot.dead, DSlot.dead, DSlot.dead, DSlot.dead, DSlot.dead, DSlot.dead, (DSlot.v (DV.int (IntKind.i64) (j))), (DSlot.v (DV.fz (l))), (DSlot.v (DV.int (IntKind.i64) (i))), (DSlot.v (DV.fp (Bool.true) [(DV.str (v3))])), (DSlot.v (DV.str (v3))), (DSlot.v (DV.int (IntKind.i64) ((↑v3.length : Int)))), (DSlot.v (DV.bool (decide (j < (↑v3.length : Int))))), (DSlot.v (DV.int (IntKind.i64) (j))), (DSlot.v (DV.int (IntKind.i64) (IntKind.i64.wrap (j + Int.ofNat 1)))), (DSlot.v (DV.fz (l))), (DSlot.v (DV.int (IntKind.i64) (i))), (DSlot.v (DV.fp (Bool.true) [(DV.str (v7))])), (DSlot.v (DV.str (v7))), (DSlot.v (DV.int (IntKind.i64) (j))), (DSlot.v (DV.int (IntKind.u8) ((↑(v7.getD v8 0).toNat : Int)))), (DSlot.v (DV.int (IntKind.u8) ((↑(v7.getD v8 0).toNat : Int)))), (DSlot.v (DV.bool (decide ((↑(v7.getD v8 0).toNat : Int) ≥ 65)))), (DSlot.v (DV.bool (Bool.true))), (DSlot.v (DV.int (IntKind.u8) ((↑(v7.getD v8 0).toNat : Int)))), (DSlot.v (DV.bool (decide ((↑(v7.getD v8 0).toNat : Int) ≤ 90)))), (DSlot.v (DV.bool (decide ((↑(v7.getD v8 0).toNat : Int) ≤ 90)))), (DSlot.v (DV.int (IntKind.u8) ((↑(v7.getD v8 0).toNat : Int)))), (DSlot.v (DV.int (IntKind.u8) (IntKind.u8.wrap ((↑(v7.getD v8 0).toNat : Int) + Int.ofNat 32)))), (DSlot.v (DV.sl (0) (0) (n) (n) (1))), (DSlot.v (DV.int (IntKind.u8) (IntKind.u8.wrap ((↑(v7.getD v8 0).toNat : Int) + Int.ofNat 32)))), (DSlot.v (DV.sl (1) (0) (1) (1) (1))), (DSlot.v (DV.sl (2) (0) (n + 1) (n + 1) (1))), DSlot.dead, DSlot.dead] [DBox.no, DBox.no, DBox.no, DBox.no, DBox.no, DBox.no, DBox.no, DBox.no, DBox.no, DBox.no, DBox.no, DBox.no, DBox.no, DBox.no, DBox.no, DBox.no, DBox.no, DBox.no, DBox.no, DBox.no, DBox.no, DBox.no, DBox.no, DBox.no, DBox.no, DBox.no, DBox.no, DBox.no, DBox.no, DBox.no, DBox.no, DBox.no, DBox.no, DBox.no, DBox.no, DBox.no, DBox.no, DBox.no, DBox.no, DBox.no, DBox.no, DBox.no, DBox.no, DBox.no, DBox.no, DBox.no, DBox.no, DBox.no, DBox.no, DBox.no] [(DBlk.mk (cs) (5) (Bool.true) (Bool.false) (Bool.false) none), (DBlk.mk [(DV.int (IntKind.u8) (IntKind.u8.wrap ((↑(v7.getD v8 0).toNat : Int) + Int.ofNat 32)))] (5) (Bool.true) (Bool.false) (Bool.true) none), (DBlk.mk (cs ++ List.take 1 (List.drop 0 (Go.Dv.splice (Go.Dv.repeatCells [DV.int Go.IntKind.u8 (0 : Int)] 1) 0 [DV.int Go.IntKind.u8 (IntKind.u8.wrap ((↑(v7.getD v8 0).toNat : Int) + Int.ofNat 32))]))) (5) (Bool.true) (Bool.false) (Bool.true) none)]) []) else none)) else none) else (bif (((((n + 1) * 1).ble 140737488355328) && ((n + 1).ble 9223372036854775807)) && (Bool.true)) then (bif ((n + 1).ble n) then (bif ((n * 1 + (List.take 1 (List.drop 0 (Go.Dv.splice (Go.Dv.repeatCells [DV.int Go.IntKind.u8 (0 : Int)] 1) 0 [DV.int Go.IntKind.u8 (↑(v7.getD v8 0).toNat : Int)]))).length).ble cs.length) then (k DExit.normal (DSt.mk [DSlot.dead, DSlot.dead, DSlot.dead, (DSlot.v (DV.fz (l))), (DSlot.v (DV.sl (0) (0) (n + 1) (n) (1))), (DSlot.v (DV.int (IntKind.i64) (i))), (DSlot.v (DV.int (IntKind.i64) (IntKind.i64.wrap (j + Int.ofNat 1)))), (DSlot.v (DV.int (IntKind.u8) ((↑(v7.getD v8 0).toNat : Int)))), DSlot.dead, DSlot.dead, DSlot.dead, DSlot.dead, DSlot.dead, DSlot.dead, DSlot.dead, DSlot.dead, DSlot.dead, DSlot.dead, DSlot.dead, DSlot.dead, DSlot.dead, (DSlot.v (DV.int (IntKind.i64) (j))), (DSlot.v (DV.fz (l))), (DSlot.v (DV.int (IntKind.i64) (i))), (DSlot.v (DV.fp (Bool.true) [(DV.str (v3))])), (DSlot.v (DV.str (v3))), (DSlot.v (DV.int (IntKind.i64) ((↑v3.length : Int)))), (DSlot.v (DV.bool (decide (j < (↑v3.length : Int))))), (DSlot.v (DV.int (IntKind.i64) (j))), (DSlot.v (DV.int (IntKind.i64) (IntKind.i64.wrap (j + Int.ofNat 1)))), (DSlot.v (DV.fz (l))), (DSlot.v (DV.int (IntKind.i64) (i))), (DSlot.v (DV.fp (Bool.true) [(DV.str (v7))])), (DSlot.v (DV.str (v7))), (DSlot.v (DV.int (IntKind.i64) (j))), (DSlot.v (DV.int (IntKind.u8) ((↑(v7.getD v8 0).toNat : Int)))), (DSlot.v (DV.int (IntKind.u8) ((↑(v7.getD v8 0).toNat : Int)))), (DSlot.v (DV.bool (decide ((↑(v7.getD v8 0).toNat : Int) ≥ 65)))), (DSlot.v (DV.bool (Bool.true))), (DSlot.v (DV.int (IntKind.u8) ((↑(v7.getD v8 0).toNat : Int)))), (DSlot.v (DV.bool (decide ((↑(v7.getD v8 0).toNat : Int) ≤ 90)))), (DSlot.v (DV.bool (decide ((↑(v7.getD v8 0).toNat : Int) ≤ 90)))), DSlot.dead, DSlot.dead, (DSlot.v (DV.sl (0) (0) (n) (n) (1))), (DSlot.v (DV.int (IntKind.u8) ((↑(v7.getD v8 0).toNat : Int)))), (DSlot.v (DV.sl (1) (0) (1) (1) (1))), (DSlot.v (DV.sl (0) (0) (n + 1) (n) (1))), DSlot.dead, DSlot.dead] [DBox.no, DBox.no, DBox.no, DBox.no, DBox.no, DBox.no, DBox.no, DBox.no, DBox.no, DBox.no, DBox.no, DBox.no, DBox.no, DBox.no, DBox.no, DBox.no, DBox.no, DBox.no, DBox.no, DBox.no, DBox.no, DBox.no, DBox.no, DBox.no, DBox.no, DBox.no, DBox.no, DBox.no, DBox.no, DBox.no, DBox.no, DBox.no, DBox.no, DBox.no, DBox.no, DBox.no, DBox.no, DBox.no, DBox.no, DBox.no, DBox.no, DBox.no, DBox.no, DBox.no, DBox.no, DBox.no, DBox.no, DBox.no, DBox.no, DBox.no] [(DBlk.mk (Go.Dv.splice cs (n * 1) (List.take 1 (List.drop 0 (Go.Dv.splice (Go.Dv.repeatCells [DV.int Go.IntKind.u8 (0 : Int)] 1) 0 [DV.int Go.IntKind.u8 (↑(v7.getD v8 0).toNat : Int)])))) (5) (Bool.true) (Bool.false) (Bool.true) none), (DBlk.mk [(DV.int (IntKind.u8) ((↑(v7.getD v8 0).toNat : Int)))] (5) (Bool.true) (Bool.false) (Bool.true) none)]) []) else none) else (bif ((n * 1).beq cs.length) then (k DExit.normal (DSt.mk [DSlot.dead, DSlot.dead, DSlot.dead, (DSlot.v (DV.fz (l))), (DSlot.v (DV.sl (2) (0) (n + 1) (n + 1) (1))), (DSlot.v (DV.int (IntKind.i64) (i))), (DSlot.v (DV.int (IntKind.i64) (IntKind.i64.wrap (j + Int.ofNat 1)))), (DSlot.v (DV.int (IntKind.u8) ((↑(v7.getD v8 0).toNat : Int)))), DSlot.dead, DSlot.dead, DSlot.dead, DSlot.dead, DSlot.dead, DSlot.dead, DSlot.dead, DSlot.dead, DSlot.dead, DSlot.dead, DSlot.dead, DSlot.dead, DSlot.dead, (DSlot.v (DV.int (IntKind.i64) (j))), (DSlot.v (DV.fz (l))), (DSlot.v (DV.int (IntKind.i64) (i))), (DSlot.v (DV.fp (Bool.true) [(DV.str (v3))])), (DSlot.v (DV.str (v3))), (DSlot.v (DV.int (IntKind.i64) ((↑v3.length : Int)))), (DSlot.v (DV.bool (decide (j < (↑v3.length : Int))))), (DSlot.v (DV.int (IntKind.i64) (j))), (DSlot.v (DV.int (IntKind.i64) (IntKind.i64.wrap (j + Int.ofNat 1)))), (DSlot.v (DV.fz (l))), (DSlot.v (DV.int (IntKind.i64) (i))), (DSlot.v (DV.fp (Bool.true) [(DV.str (v7))])), (DSlot.v (DV.str (v7))), (DSlot.v (DV.int (IntKind.i64) (j))), (DSlot.v (DV.int (IntKind.u8) ((↑(v7.getD v8 0).toNat : Int)))), (DSlot.v (DV.int (IntKind.u8) ((↑(v7.getD v8 0).toNat : Int)))), (DSlot.v (DV.bool (decide ((↑(v7.getD v8 0).toNat : Int) ≥ 65)))), (DSlot.v (DV.bool (Bool.true))), (DSlot.v (DV.int (IntKind.u8) ((↑(v7.getD v8 0).toNat : Int)))), (DSlot.v (DV.bool (decide ((↑(v7.getD v8 0).toNat : Int) ≤ 90)))), (DSlot.v (DV.bool (decide ((↑(v7.getD v8 0).toNat : Int) ≤ 90)))), DSlot.dead, DSlot.dead, (DSlot.v (DV.sl (0) (0) (n) (n) (1))), (DSlot.v (DV.int (IntKind.u8) ((↑(v7.getD v8 0).toNat : Int)))), (DSlot.v (DV.sl (1) (0) (1) (1) (1))), (DSlot.v (DV.sl (2) (0) (n + 1) (n + 1) (1))), DSlot.dead, DSlot.dead] [DBox.no, DBox.no, DBox.no, DBox.no, DBox.no, DBox.no, DBox.no, DBox.no, DBox.no, DBox.no, DBox.no, DBox.no, DBox.no, DBox.no, DBox.no, DBox.no, DBox.no, DBox.no, DBox.no, DBox.no, DBox.no, DBox.no, DBox.no, DBox.no, DBox.no, DBox.no, DBox.no, DBox.no, DBox.no, DBox.no, DBox.no, DBox.no, DBox.no, DBox.no, DBox.no, DBox.no, DBox.no, DBox.no, DBox.no, DBox.no, DBox.no, DBox.no, DBox.no, DBox.no, DBox.no, DBox.no, DBox.no, DBox.no, DBox.no, DBox.no] [(DBlk.mk (cs) (5) (Bool.true) (Bool.false) (Bool.false) none), (DBlk.mk [(DV.int (IntKind.u8) ((↑(v7.getD v8 0).toNat : Int)))] (5) (Bool.true) (Bool.false) (Bool.true) none), (DBlk.mk (cs ++ List.take 1 (List.drop 0 (Go.Dv.splice (Go.Dv.repeatCells [DV.int Go.IntKind.u8 (0 : Int)] 1) 0 [DV.int Go.IntKind.u8 (↑(v7.getD v8 0).toNat : Int)]))) (5) (Bool.true) (Bool.false) (Bool.true) none)]) []) else none)) else none)) else (bif (((((n + 1) * 1).ble 140737488355328) && ((n + 1).ble 9223372036854775807)) && (Bool.true)) then (bif ((n + 1).ble n) then (bif ((n * 1 + (List.take 1 (List.drop 0 (Go.Dv.splice (Go.Dv.repeatCells [DV.int Go.IntKind.u8 (0 : Int)] 1) 0 [DV.int Go.IntKind.u8 (↑(v7.getD v8 0).toNat : Int)]))).length).ble cs.length) then (k DExit.normal (DSt.mk [DSlot.dead, DSlot.dead, DSlot.dead, (DSlot.v (DV.fz (l))), (DSlot.v (DV.sl (0) (0) (n + 1) (n) (1))), (DSlot.v (DV.int (IntKind.i64) (i))), (DSlot.v (DV.int (IntKind.i64) (IntKind.i64.wrap (j + Int.ofNat 1)))), (DSlot.v (DV.int (IntKind.u8) ((↑(v7.getD v8 0).toNat : Int)))), DSlot.dead, DSlot.dead, DSlot.dead, DSlot.dead, DSlot.dead, DSlot.dead, DSlot.dead, DSlot.dead, DSlot.dead, DSlot.dead, DSlot.dead, DSlot.dead, DSlot.dead, (DSlot.v (DV.int (IntKind.i64) (j))), (DSlot.v (DV.fz (l))), (DSlot.v (DV.int (IntKind.i64) (i))), (DSlot.v (DV.fp (Bool.true) [(DV.str (v3))])), (DSlot.v (DV.str (v3))), (DSlot.v (DV.int (IntKind.i64) ((↑v3.length : Int)))), (DSlot.v (DV.bool (decide (j < (↑v3.length : Int))))), (DSlot.v (DV.int (IntKind.i64) (j))), (DSlot.v (DV.int (IntKind.i64) (IntKind.i64.wrap (j + Int.ofNat 1)))), (DSlot.v (DV.fz (l))), (DSlot.v (DV.int (IntKind.i64) (i))), (DSlot.v (DV.fp (Bool.true) [(DV.str (v7))])), (DSlot.v (DV.str (v7))), (DSlot.v (DV.int (IntKind.i64) (j))), (DSlot.v (DV.int (IntKind.u8) ((↑(v7.getD v8 0).toNat : Int)))), (DSlot.v (DV.int (IntKind.u8) ((↑(v7.getD v8 0).toNat : Int)))), (DSlot.v (DV.bool (decide ((↑(v7.getD v8 0).toNat : Int) ≥ 65)))), (DSlot.v (DV.bool (Bool.false))), (DSlot.v (DV.tup [])), (DSlot.v (DV.tup [])), (DSlot.v (DV.bool (Bool.false))), DSlot.dead, DSlot.dead, (DSlot.v (DV.sl (0) (0) (n) (n) (1))), (DSlot.v (DV.int (IntKind.u8) ((↑(v7.getD v8 0).toNat : Int)))), (DSlot.v (DV.sl (1) (0) (1) (1) (1))), (DSlot.v (DV.sl (0) (0) (n + 1) (n) (1))), DSlot.dead, DSlot.dead] [DBox.no, DBox.no, DBox.no, DBox.no, DBox.no, DBox.no, DBox.no, DBox.no, DBox.no, DBox.no, DBox.no, DBox.no, DBox.no, DBox.no, DBox.no, DBox.no, DBox.no, DBox.no, DBox.no, DBox.no, DBox.no, DBox.no, DBox.no, DBox.no, DBox.no, DBox.no, DBox.no, DBox.no, DBox.no, DBox.no, DBox.no, DBox.no, DBox.no, DBox.no, DBox.no, DBox.no, DBox.no, DBox.no, DBox.no, DBox.no, DBox.no, DBox.no, DBox.no, DBox.no, DBox.no, DBox.no, DBox.no, DBox.no, DBox.no, DBox.no] [(DBlk.mk (Go.Dv.splice cs (n * 1) (List.take 1 (List.drop 0 (Go.Dv.splice (Go.Dv.repeatCells [DV.int Go.IntKind.u8 (0 : Int)] 1) 0 [DV.int Go.IntKind.u8 (↑(v7.getD v8 0).toNat : Int)])))) (5) (Bool.true) (Bool.false) (Bool.true) none), (DBlk.mk [(DV.int (IntKind.u8) ((↑(v7.getD v8 0).toNat : Int)))] (5) (Bool.true) (Bool.false) (Bool.true) none)]) []) else none) else (bif ((n * 1).beq cs.length) then (k DExit.normal (DSt.mk [DSlot.dead, DSlot.dead, DSlot.dead, (DSlot.v (DV.fz (l))), (DSlot.v (DV.sl (2) (0) (n + 1) (n + 1) (1))), (DSlot.v (DV.int (IntKind.i64) (i))), (DSlot.v (DV.int (IntKind.i64) (IntKind.i64.wrap (j + Int.ofNat 1)))), (DSlot.v (DV.int (IntKind.u8) ((↑(v7.getD v8 0).toNat : Int)))), DSlot.dead, DSlot.dead, DSlot.dead, DSlot.dead, DSlot.dead, DSlot.dead, DSlot.dead, DSlot.dead, DSlot.dead, DSlot.dead, DSlot.dead, DSlot.dead, DSlot.dead, (DSlot.v (DV.int (IntKind.i64) (j))), (DSlot.v (DV.fz (l))), (DSlot.v (DV.int (IntKind.i64) (i))), (DSlot.v (DV.fp (Bool.true) [(DV.str (v3))])), (DSlot.v (DV.str (v3))), (DSlot.v (DV.int (IntKind.i64) ((↑v3.length : Int)))), (DSlot.v (DV.bool (decide (j < (↑v3.length : Int))))), (DSlot.v (DV.int (IntKind.i64) (j))), (DSlot.v (DV.int (IntKind.i64) (IntKind.i64.wrap (j + Int.ofNat 1)))), (DSlot.v (DV.fz (l))), (DSlot.v (DV.int (IntKind.i64) (i))), (DSlot.v (DV.fp (Bool.true) [(DV.str (v7))])), (DSlot.v (DV.str (v7))), (DSlot.v (DV.int (IntKind.i64) (j))), (DSlot.v (DV.int (IntKind.u8) ((↑(v7.getD v8 0).toNat : Int)))), (DSlot.v (DV.int (IntKind.u8) ((↑(v7.getD v8 0).toNat : Int)))), (DSlot.v (DV.bool (decide ((↑(v7.getD v8 0).toNat : Int) ≥ 65)))), (DSlot.v (DV.bool (Bool.false))), (DSlot.v (DV.tup [])), (DSlot.v (DV.tup [])), (DSlot.v (DV.bool (Bool.false))), DSlot.dead, DSlot.dead, (DSlot.v (DV.sl (0) (0) (n) (n) (1))), (DSlot.v (DV.int (IntKind.u8) ((↑(v7.getD v8 0).toNat : Int)))), (DSlot.v (DV.sl (1) (0) (1) (1) (1))), (DSlot.v (DV.sl (2) (0) (n + 1) (n + 1) (1))), DSlot.dead, DSlot.dead] [DBox.no, DBox.no, DBox.no, DBox.no, DBox.no, DBox.no, DBox.no, DBox.no, DBox.no, DBox.no, DBox.no, DBox.no, DBox.no, DBox.no, DBox.no, DBox.no, DBox.no, DBox.no, DBox.no, DBox.no, DBox.no, DBox.no, DBox.no, DBox.no, DBox.no, DBox.no, DBox.no, DBox.no, DBox.no, DBox.no, DBox.no, DBox.no, DBox.no, DBox.no, DBox.no, DBox.no, DBox.no, DBox.no, DBox.no, DBox.no, DBox.no, DBox.no, DBox.no, DBox.no, DBox.no, DBox.no, DBox.no, DBox.no, DBox.no, DBox.no] [(DBlk.mk (cs) (5) (Bool.true) (Bool.false) (Bool.false) none), (DBlk.mk [(DV.int (IntKind.u8) ((↑(v7.getD v8 0).toNat : Int)))] (5) (Bool.true) (Bool.false) (Bool.true) none), (DBlk.mk (cs ++ List.take 1 (List.drop 0 (Go.Dv.splice (Go.Dv.repeatCells [DV.int Go.IntKind.u8 (0 : Int)] 1) 0 [DV.int Go.IntKind.u8 (↑(v7.getD v8 0).toNat : Int)]))) (5) (Bool.true) (Bool.false) (Bool.true) none)]) []) else none)) else none))) else none))))) else (k (DExit.exit (2)) (DSt.mk [DSlot.dead, DSlot.dead, DSlot.dead, (DSlot.v (DV.fz (l))), (DSlot.v (DV.sl (0) (0) (n) (n) (1))), (DSlot.v (DV.int (IntKind.i64) (i))), (DSlot.v (DV.int (IntKind.i64) (j))), DSlot.dead, DSlot.dead, DSlot.dead, DSlot.dead, DSlot.dead, DSlot.dead, DSlot.dead, DSlot.dead, DSlot.dead, DSlot.dead, DSlot.dead, DSlot.dead, DSlot.dead, DSlot.dead, (DSlot.v (DV.int (IntKind.i64) (j))), (DSlot.v (DV.fz (l))), (DSlot.v (DV.int (IntKind.i64) (i))), (DSlot.v (DV.fp (Bool.true) [(DV.str (v3))])), (DSlot.v (DV.str (v3))), (DSlot.v (DV.int (IntKind.i64) ((↑v3.length : Int)))), (DSlot.v (DV.bool (decide (j < (↑v3.length : Int))))), DSlot.dead, DSlot.dead, DSlot.dead, DSlot.dead, DSlot.dead, DSlot.dead, DSlot.dead, DSlot.dead, DSlot.dead, DSlot.dead, DSlot.dead, DSlot.dead, DSlot.dead, DSlot.dead, DSlot.dead, DSlot.dead, DSlot.dead, DSlot.dead, DSlot.dead, DSlot.dead, DSlot.dead, DSlot.dead] [DBox.no, DBox.no, DBox.no, DBox.no, DBox.no, DBox.no, DBox.no, DBox.no, DBox.no, DBox.no, DBox.no, DBox.no, DBox.no, DBox.no, DBox.no, DBox.no, DBox.no, DBox.no, DBox.no, DBox.no, DBox.no, DBox.no, DBox.no, DBox.no, DBox.no, DBox.no, DBox.no, DBox.no, DBox.no, DBox.no, DBox.no, DBox.no, DBox.no, DBox.no, DBox.no, DBox.no, DBox.no, DBox.no, DBox.no, DBox.no, DBox.no, DBox.no, DBox.no, DBox.no, DBox.no, DBox.no, DBox.no, DBox.no, DBox.no, DBox.no] [(DBlk.mk (cs) (5) (Bool.true) (Bool.false) (Bool.true) none)]) [])) else none))))) := by kernel_rfl
theorem x_chanceryref05_Fold (Lp : LpT) (l : List (List DV)) (i m : Int) (q : Bool) (n : Nat) (cs : List DV) : kontF P0 T0 Lp (Lt t_chanceryref05_Fold) nY [] 129 0 (.exit 0) (stH 50 [(3, .v (.fz l)), (4, .v (.sl 0 0 n n 1)), (5, .v (.int .i64 i)), (10, .v (.int .i64 i)), (11, .v (.fz l)), (12, .v (.int .i64 m)), (13, .v (.bool q))] [] [newBlk cs 5]) [] =
    (Option.bind (Option.bind (bif ((0 + n * 1).ble cs.length) then (some (List.take (n * 1) (List.drop 0 cs))) else none) fun v0 => (some ((n), (v0)))) fun v1 => (Option.bind (Go.Dv.toBytes v1.snd) fun v2 => (some ((DRes.ret (DV.str (v2))), [])))) := by kernel_rfl
end Go.Dv
end
section
/- Texts as they are compared: the reference. -/
namespace Go.Dv
open Go.Proofs Go.Dv.S
open Go.Pv (idx upTo)
theorem wd_run {t : List UInt8} {k : Nat} (h : ∀ c ∈ t.take k, c ≠ 32) (hk : k = t.length ∨ t[k]? = some 32) : wd t = t.take k := by
  conv => lhs; rw [← List.take_append_drop k t]
  unfold wd
  rw [List.takeWhile_append_of_pos (by intro c hc; simpa using h c hc)]
  have : List.takeWhile (fun c : UInt8 => c != 32) (t.drop k) = [] := by
    rcases hk with rfl | hk
    · simp
    · have hlt : k < t.length := (List.getElem?_eq_some_iff.1 hk).1
      rw [List.drop_eq_getElem_cons hlt]
      have : t[k] = 32 := (List.getElem?_eq_some_iff.1 hk).2
      rw [this]
      rfl
  rw [this, List.append_nil]
theorem words_run {t : List UInt8} {k : Nat} (h : ∀ c ∈ t.take k, c ≠ 32) (hk : k = t.length ∨ t[k]? = some 32) : words t = (bif Nat.beq k 0 then [] else [t.take k]) ++ words (t.drop (k + 1)) := by
  have hkl : k ≤ t.length := by
    rcases hk with rfl | hk
    · exact Nat.le_refl _
    · exact Nat.le_of_lt (List.getElem?_eq_some_iff.1 hk).1
  by_cases ht : t = []
  · subst ht
    have : k = 0 := by simpa using hkl
    subst this
    simp [words_nil]
  · rw [words_eq ht, wd_run h hk]
    have hlen : (t.take k).length = k := by simp [hkl]
    rw [hlen]
    cases k with
    | zero => rfl
    | succ k =>
      have : (t.take (k + 1)).isEmpty = false := by
        cases hh : t.take (k + 1) with
        | nil => rw [hh] at hlen; simp at hlen
        | cons a b => rfl
      rw [this]
      rfl
abbrev strs (ls : List (List UInt8)) : List DV := ls.map DV.str
theorem strs_froz (ls : List (List UInt8)) : (strs ls).all froz = true := by
  rw [List.all_eq_true]
  intro x hx
  obtain ⟨b, _, rfl⟩ := List.mem_map.1 hx
  rfl
theorem strs_chunks : ∀ ls : List (List UInt8), chunks 1 ls.length (strs ls) = ls.map fun w => [.str w]
  | [] => rfl
  | w :: ls => by
    show [DV.str w] :: chunks 1 ls.length (strs ls) = _
    rw [strs_chunks ls]; rfl
theorem frozL_ok {l : List DV} (h : l.all froz = true) : frozL l = some l := by
  unfold frozL
  rw [h, cond_true]
theorem le_dec (i n : Nat) : decide ((i : Int) ≤ (n : Int)) = decide (i ≤ n) := by simp
theorem gt_dec (i n : Nat) : decide ((i : Int) > (n : Int)) = decide (n < i) := by simp
theorem wrap_succ' {i : Nat} (h : i ≤ 2 * lim) : IntKind.i64.wrap ((i : Int) + Int.ofNat 1) = ((i + 1 : Nat) : Int) := wrap_eq (by simp) (by unfold lim at *; omega)
abbrev stRW (s : List UInt8) (f i : Int) (n : Nat) (cs : List DV) : DSt := stH 35 [(0, .v (.str s)), (3, .v (.sl 0 0 n n 1)), (4, .v (.int .i64 f)), (5, .v (.int .i64 i))] [] [newBlk cs 9]
theorem take_step {s : List UInt8} {f i : Nat} (hf : f ≤ i) (hi : i < s.length) (h : ∀ c ∈ (s.drop f).take (i - f), c ≠ 32) (hn : s[i] ≠ 32) : ∀ c ∈ (s.drop f).take (i + 1 - f), c ≠ 32 := by
  have : i + 1 - f = (i - f) + 1 := by omega
  rw [this, List.take_add_one]
  intro c hc
  rcases List.mem_append.1 hc with hc | hc
  · exact h c hc
  · rw [List.getElem?_drop, show f + (i - f) = i by omega, List.getElem?_eq_getElem hi] at hc
    simp at hc
    rw [hc]
    exact hn
theorem l_chanceryref05_Words (s : List UInt8) (hs : s.length ≤ lim) : ∀ a : Nat × List (List UInt8) × Nat × Nat, (a.2.1.length = a.1 ∧ a.2.2.1 ≤ a.2.2.2 ∧ a.2.2.2 ≤ s.length + 1 ∧ a.1 ≤ a.2.2.2 ∧ (a.2.2.2 = s.length + 1 → a.2.2.1 = s.length + 1) ∧ ∀ c ∈ (s.drop a.2.2.1).take (a.2.2.2 - a.2.2.1), c ≠ 32) →
    LoopLim (tdF T0 160 none 0) (bodyF P0 T0 (fun _ => LoopLim) (Lt t_chanceryref05_Words) nY [] 160 none 0) (kontF P0 T0 (fun _ => LoopLim) (Lt t_chanceryref05_Words) nY [] 160 0) (stRW s (a.2.2.1 : Int) (a.2.2.2 : Int) a.1 (strs a.2.1)) [] = some (ret (.fz ((a.2.1 ++ words (s.drop a.2.2.1)).map fun w => [.str w]))) := by
  have hc : Cons P0 T0 t_chanceryref05_Words := trivial
  refine loop_ind (Y := nY) (ya := []) (rnd := none) (t := 0) (f := 160) hc.cont (fun a : Nat × List (List UInt8) × Nat × Nat => stRW s (a.2.2.1 : Int) (a.2.2.2 : Int) a.1 (strs a.2.1)) (fun a => ret (.fz ((a.2.1 ++ words (s.drop a.2.2.1)).map fun w => [.str w]))) (fun a => s.length + 1 - a.2.2.2) (fun a => a.2.1.length = a.1 ∧ a.2.2.1 ≤ a.2.2.2 ∧ a.2.2.2 ≤ s.length + 1 ∧ a.1 ≤ a.2.2.2 ∧ (a.2.2.2 = s.length + 1 → a.2.2.1 = s.length + 1) ∧ ∀ c ∈ (s.drop a.2.2.1).take (a.2.2.2 - a.2.2.1), c ≠ 32) ?_
  rintro ⟨n, ls, f, i⟩ ⟨h1, h2, h3, h4, h5, h6⟩ ih
  simp only at h1 h2 h3 h4 h5 h6 ih ⊢
  rw [b_chanceryref05_Words_0, le_dec, gt_dec, len_beq]
  have hlim := hs
  unfold lim at hlim
  rcases Nat.lt_or_ge s.length i with hil | hil
  · -- all is done
    have hie : i = s.length + 1 := by omega
    have hfe := h5 hie
    have hle : ¬ i ≤ s.length := by omega
    simp only [hle, decide_false, cond_false]
    rw [List.drop_eq_nil_of_le (by omega), words_nil, List.append_nil]
    refine Eq.trans ?_ ((x_chanceryref05_Words (fun _ => LoopLim) s f i false n (strs ls)).trans ?_)
    · kernel_rfl
    · have e1 : Nat.ble n n = true := Nat.ble_eq_true_of_le (Nat.le_refl _)
      have e2 : Nat.ble (0 + n * 1) (strs ls).length = true := Nat.ble_eq_true_of_le (by simp [h1])
      have e3 : List.take (n * 1) (List.drop 0 (strs ls)) = strs ls := by rw [List.drop_zero]; exact List.take_of_length_le (by simp [h1])
      simp only [e1, e2, e3, cond_true, Option.bind_some, frozL_ok (strs_froz ls)]
      rw [← h1, strs_chunks]
  · simp only [hil, decide_true, cond_true]
    have hA : Nat.ble ((n + 1) * 16) 140737488355328 = true := Nat.ble_eq_true_of_le (by omega)
    have hB' : Nat.ble (n + 1) 9223372036854775807 = true := Nat.ble_eq_true_of_le (by omega)
    have hC : Nat.ble (n + 1) n = false := ble_false (by omega)
    have hD : Nat.beq (n * 1) (strs ls).length = true := beq_true (by simp [h1])
    have hwi : IntKind.i64.wrap ((i : Int) + Int.ofNat 1) = ((i + 1 : Nat) : Int) := wrap_succ' (by omega)
    -- a word's end
    have fin : ∀ (hk : i - f = (s.drop f).length ∨ (s.drop f)[i - f]? = some 32), words (s.drop f) = (bif Nat.beq (i - f) 0 then [] else [(s.drop f).take (i - f)]) ++ words (s.drop (i + 1)) := fun hk => by
      rw [words_run h6 hk, List.drop_drop]
      congr 3
      omega
    have stop : ∀ c ∈ (s.drop (i + 1)).take (i + 1 - (i + 1)), c ≠ 32 := fun c hc => by simp at hc
    have grow : f < i → words (s.drop f) = [(s.drop f).take (i - f)] ++ words (s.drop (i + 1)) →
        LoopLim (tdF T0 160 none 0) (bodyF P0 T0 (fun _ => LoopLim) (Lt t_chanceryref05_Words) nY [] 160 none 0) (kontF P0 T0 (fun _ => LoopLim) (Lt t_chanceryref05_Words) nY [] 160 0) (stRW s ((i + 1 : Nat) : Int) ((i + 1 : Nat) : Int) (n + 1) (strs ls ++ [.str (List.take (i - f) (List.drop f s))])) [] = some (ret (.fz ((ls ++ words (s.drop f)).map fun w => [.str w]))) := fun hfi hw => by
      have := ih (n + 1, ls ++ [List.take (i - f) (List.drop f s)], i + 1, i + 1) ⟨by simp [h1], Nat.le_refl _, (show i + 1 ≤ s.length + 1 by omega), (show n + 1 ≤ i + 1 by omega), fun hh => hh, stop⟩ (show s.length + 1 - (i + 1) < s.length + 1 - i by omega)
      simp only at this
      rw [hw, ← List.append_assoc, ← this]
      simp [strs]
    have stay : ¬ f < i → words (s.drop f) = words (s.drop (i + 1)) →
        LoopLim (tdF T0 160 none 0) (bodyF P0 T0 (fun _ => LoopLim) (Lt t_chanceryref05_Words) nY [] 160 none 0) (kontF P0 T0 (fun _ => LoopLim) (Lt t_chanceryref05_Words) nY [] 160 0) (stRW s ((i + 1 : Nat) : Int) ((i + 1 : Nat) : Int) n (strs ls)) [] = some (ret (.fz ((ls ++ words (s.drop f)).map fun w => [.str w]))) := fun hfi hw => by
      have := ih (n, ls, i + 1, i + 1) ⟨h1, Nat.le_refl _, (show i + 1 ≤ s.length + 1 by omega), (show n ≤ i + 1 by omega), fun hh => hh, stop⟩ (show s.length + 1 - (i + 1) < s.length + 1 - i by omega)
      simp only at this
      rw [hw, ← this]
    have appf : ∀ w : List UInt8, (strs ls ++ [DV.str w]).all froz = true := fun w => by
      rw [List.all_append, strs_froz]; rfl
    cases hie : (i == s.length) with
    | true =>
      have hie : i = s.length := by simpa using hie
      have hk := fin (.inl (by simp [hie]))
      simp only [cond_true]
      by_cases hfi : f < i
      · simp only [hfi, decide_true, cond_true, upTo_nat hil, upTo_nat h2, Option.bind_some, hA, hB', hC, hD, Bool.and_self, cond_false, hwi]
        rw [show Nat.beq (i - f) 0 = false from Bool.eq_false_iff.2 fun e => by have := Nat.eq_of_beq_eq_true e; omega, cond_false] at hk
        refine leafT (X := ((strs ls ++ [DV.str (List.take (i - f) (List.drop f s))]).all froz && true)) (grow hfi hk) ?_ ?_ ?_ rfl
        · kernel_rfl
        · rw [appf]; rfl
        · kernel_rfl
      · simp only [hfi, decide_false, cond_false, hwi]
        rw [show i - f = 0 by omega] at hk
        refine leafT (X := ((strs ls).all froz && true)) (stay hfi hk) ?_ ?_ ?_ rfl
        · kernel_rfl
        · rw [strs_froz]; rfl
        · kernel_rfl
    | false =>
      have hil2 : i < s.length := by
        have : i ≠ s.length := by simpa using hie
        omega
      simp only [cond_false, idx_nat hil2, Option.bind_some]
      have hgd : s.getD i 0 = s[i] := by simp [List.getD_eq_getElem?_getD, hil2]
      rw [hgd]
      cases h32 : ((s[i].toNat : Int) == Int.ofNat 32) with
      | true =>
        have e32 : s[i] = 32 := by
          have h := eq_of_beq h32
          have h' : s[i].toNat = 32 := by
            have : ((s[i].toNat : Nat) : Int) = ((32 : Nat) : Int) := h
            omega
          exact UInt8.toNat_inj.1 h'
        have hk := fin (.inr (by rw [List.getElem?_drop, show f + (i - f) = i by omega, List.getElem?_eq_getElem hil2, e32]))
        simp only [cond_true]
        by_cases hfi : f < i
        · simp only [hfi, decide_true, cond_true, upTo_nat hil, upTo_nat h2, Option.bind_some, hA, hB', hC, hD, Bool.and_self, cond_false, hwi]
          rw [show Nat.beq (i - f) 0 = false from Bool.eq_false_iff.2 fun e => by have := Nat.eq_of_beq_eq_true e; omega, cond_false] at hk
          refine leafT (X := ((strs ls ++ [DV.str (List.take (i - f) (List.drop f s))]).all froz && true)) (grow hfi hk) ?_ ?_ ?_ rfl
          · kernel_rfl
          · rw [appf]; rfl
          · kernel_rfl
        · simp only [hfi, decide_false, cond_false, hwi]
          rw [show i - f = 0 by omega] at hk
          refine leafT (X := ((strs ls).all froz && true)) (stay hfi hk) ?_ ?_ ?_ rfl
          · kernel_rfl
          · rw [strs_froz]; rfl
          · kernel_rfl
      | false =>
        have n32 : s[i] ≠ 32 := fun e => by rw [e] at h32; cases h32
        simp only [cond_false, hwi]
        have := ih (n, ls, f, i + 1) ⟨h1, (show f ≤ i + 1 by omega), (show i + 1 ≤ s.length + 1 by omega), (show n ≤ i + 1 by omega), fun hh => by simp only at hh; omega, take_step h2 hil2 h6 n32⟩ (show s.length + 1 - (i + 1) < s.length + 1 - i by omega)
        simp only at this
        refine leafT (X := ((strs ls).all froz && true)) this ?_ ?_ ?_ rfl
        · kernel_rfl
        · rw [strs_froz]; rfl
        · kernel_rfl
theorem c_chanceryref05_Words : Con P0 T0 160 S_chanceryref05_Words := con1 fun x s hx => by
  obtain ⟨rfl, hl⟩ := dS_inv hx
  refine Lx.of_in (tab := t_chanceryref05_Words) trivial ?_
  rw [e_chanceryref05_Words]
  have h := l_chanceryref05_Words s hl (0, [], 0, 0) ⟨rfl, Nat.le_refl _, Nat.zero_le _, Nat.le_refl _, fun hh => by simp at hh, fun c hc => by simp at hc⟩
  simp only [List.drop_zero, List.nil_append] at h
  refine headT h ?_
  kernel_rfl
end Go.Dv
end
section
/- Texts as they are compared: the reference's Fold. -/
namespace Go.Dv
open Go.Proofs Go.Dv.S
open Go.Pv (idx upTo)
abbrev strL (ls : List (List UInt8)) : List (List DV) := ls.map fun w => [.str w]
abbrev stRO (l : List (List DV)) (i : Int) (n : Nat) (cs : List DV) : DSt := stH 50 [(3, .v (.fz l)), (4, .v (.sl 0 0 n n 1)), (5, .v (.int .i64 i))] [] [newBlk cs 5]
abbrev stRI (l : List (List DV)) (i j : Int) (n : Nat) (cs : List DV) : DSt := stH 50 [(3, .v (.fz l)), (4, .v (.sl 0 0 n n 1)), (5, .v (.int .i64 i)), (6, .v (.int .i64 j))] [] [newBlk cs 5]
noncomputable abbrev lpO (st : DSt) : Option (DRes × DHeap) := LoopLim (tdF T0 129 none 0) (bodyF P0 T0 (fun _ => LoopLim) (Lt t_chanceryref05_Fold) nY [] 129 none 0) (kontF P0 T0 (fun _ => LoopLim) (Lt t_chanceryref05_Fold) nY [] 129 0) st []
noncomputable abbrev kO : KX (DRes × DHeap) := fun e st' ds' => match e with
  | .normal => LoopLim (tdF T0 129 none 0) (bodyF P0 T0 (fun _ => LoopLim) (Lt t_chanceryref05_Fold) nY [] 129 none 0) (kontF P0 T0 (fun _ => LoopLim) (Lt t_chanceryref05_Fold) nY [] 129 0) (tdF T0 129 none 0 st' ds') ds'
  | e => kontF P0 T0 (fun _ => LoopLim) (Lt t_chanceryref05_Fold) nY [] 129 0 e st' ds'
theorem strL_get {ls : List (List UInt8)} {i : Nat} (h : i < ls.length) : (strL ls)[i]? = some [.str ls[i]] := by simp [strL, h]
theorem strL_len (ls : List (List UInt8)) : (strL ls).length = ls.length := by simp [strL]
theorem l_chanceryref05_Fold_2 (ls : List (List UInt8)) (i : Nat) (hi : i < ls.length) (hls : ls.length ≤ lim) (hw : ls[i].length ≤ lim) (B : List UInt8) (r : DRes × DHeap) (hB : lpO (stRO (strL ls) ((i + 1 : Nat) : Int) B.length (ofBytes B)) = some r) :
    ∀ a : Nat × List UInt8 × Nat, (a.2.1.length = a.1 ∧ a.2.2 ≤ ls[i].length ∧ a.2.1.length + (ls[i].length - a.2.2) ≤ 4 * lim ∧ a.2.1 ++ (ls[i].drop a.2.2).map smallB = B) →
    LoopLim (tdF T0 129 none 2) (bodyF P0 T0 (fun _ => LoopLim) (Lt t_chanceryref05_Fold) nY [] 129 none 2) (kont P0 T0 (fun _ => LoopLim) (Lt t_chanceryref05_Fold) nY [] 129 none 2 (loopOf T0 129 0) kO) (stRI (strL ls) (i : Int) (a.2.2 : Int) a.1 (ofBytes a.2.1)) [] = some r := by
  have hc : Cons P0 T0 t_chanceryref05_Fold := ⟨c_chanceryref05_Words, trivial⟩
  refine loop_ind (Y := nY) (ya := []) (rnd := none) (t := 2) (f := 129) hc.cont (fun a : Nat × List UInt8 × Nat => stRI (strL ls) (i : Int) (a.2.2 : Int) a.1 (ofBytes a.2.1)) (fun _ => r) (fun a => ls[i].length - a.2.2) (fun a => a.2.1.length = a.1 ∧ a.2.2 ≤ ls[i].length ∧ a.2.1.length + (ls[i].length - a.2.2) ≤ 4 * lim ∧ a.2.1 ++ (ls[i].drop a.2.2).map smallB = B) ?_
  rintro ⟨n, b, j⟩ ⟨h1, h2, h3, h4⟩ ih
  simp only at h1 h2 h3 h4 ih ⊢
  rw [b_chanceryref05_Fold_2, strL_len]
  simp only [idx_nat hi, Option.bind_some, strL_get hi, unc, toStr, List.isEmpty_nil, cond_true, lt_dec]
  have h3' := h3
  unfold lim at h3'
  rcases Nat.lt_or_ge j ls[i].length with hj | hj
  · have hA : Nat.ble ((n + 1) * 1) 140737488355328 = true := Nat.ble_eq_true_of_le (by omega)
    have hB' : Nat.ble (n + 1) 9223372036854775807 = true := Nat.ble_eq_true_of_le (by omega)
    have hC : Nat.ble (n + 1) n = false := ble_false (by omega)
    have hD : Nat.beq (n * 1) (ofBytes b).length = true := beq_true (by rw [ofBytes_len, h1]; omega)
    have hgd : ls[i].getD j 0 = ls[i][j] := by simp [List.getD_eq_getElem?_getD, hj]
    have hof : ofBytes b ++ [DV.int IntKind.u8 ((smallB ls[i][j]).toNat : Int)] = ofBytes (b ++ [smallB ls[i][j]]) := by rw [ofBytes_append]; rfl
    have hnx := ih (n + 1, b ++ [smallB ls[i][j]], j + 1) ⟨by simp [h1], (show j + 1 ≤ ls[i].length by omega), (show (b ++ [smallB ls[i][j]]).length + (ls[i].length - (j + 1)) ≤ 4 * lim by simp; omega), by
      rw [← h4, List.drop_eq_getElem_cons hj, List.map_cons, List.append_assoc]; rfl⟩ (show ls[i].length - (j + 1) < ls[i].length - j by omega)
    simp only at hnx
    rw [← hof] at hnx
    simp only [hj, decide_true, cond_true, idx_nat hj, Option.bind_some, hgd, hA, hB', hC, hD, Bool.and_self, cond_false, wrap_succ hj hw]
    have hlt := ls[i][j].toNat_lt
    have hsm := smallB_toNat ls[i][j]
    cases q1 : decide ((ls[i][j].toNat : Int) ≥ 65) with
    | true =>
      cases q2 : decide ((ls[i][j].toNat : Int) ≤ 90) with
      | true =>
        rw [q1, q2] at hsm
        simp only [cond_true, Bool.and_self] at hsm ⊢
        have hwr : IntKind.u8.wrap ((ls[i][j].toNat : Int) + Int.ofNat 32) = ((smallB ls[i][j]).toNat : Int) := by
          rw [hsm]
          have := of_decide_eq_true q2
          simp only [IntKind.wrap, IntKind.bits, IntKind.signed]
          simp
          omega
        rw [hwr]
        refine leafT (X := ((ofBytes b ++ [DV.int IntKind.u8 ((smallB ls[i][j]).toNat : Int)]).all froz && true)) hnx ?_ ?_ ?_ rfl
        · kernel_rfl
        · rw [hof, ofBytes_froz]; rfl
        · kernel_rfl
      | false =>
        rw [q1, q2] at hsm
        simp only [cond_true, cond_false, Bool.and_false] at hsm ⊢
        rw [← hsm]
        refine leafT (X := ((ofBytes b ++ [DV.int IntKind.u8 ((smallB ls[i][j]).toNat : Int)]).all froz && true)) hnx ?_ ?_ ?_ rfl
        · kernel_rfl
        · rw [hof, ofBytes_froz]; rfl
        · kernel_rfl
    | false =>
      rw [q1] at hsm
      simp only [cond_false, Bool.false_and] at hsm ⊢
      rw [← hsm]
      refine leafT (X := ((ofBytes b ++ [DV.int IntKind.u8 ((smallB ls[i][j]).toNat : Int)]).all froz && true)) hnx ?_ ?_ ?_ rfl
      · kernel_rfl
      · rw [hof, ofBytes_froz]; rfl
      · kernel_rfl
  · have hj' : ¬ j < ls[i].length := by omega
    simp only [hj', decide_false, cond_false]
    have hb : b = B := by rw [← h4, List.drop_eq_nil_of_le hj]; simp
    subst hb
    refine Eq.trans (b := LoopLim (tdF T0 129 none 0) (bodyF P0 T0 (fun _ => LoopLim) (Lt t_chanceryref05_Fold) nY [] 129 none 0) (kontF P0 T0 (fun _ => LoopLim) (Lt t_chanceryref05_Fold) nY [] 129 0) (tdF T0 129 none 0 (stRO (strL ls) (IntKind.i64.wrap ((i : Int) + Int.ofNat 1)) n (ofBytes b)) []) []) ?_ ?_
    · kernel_rfl
    · rw [wrap_succ hi hls, ← h1]
      refine leafT (X := ((ofBytes b).all froz && true)) hB ?_ ?_ ?_ rfl
      · kernel_rfl
      · rw [ofBytes_froz]; rfl
      · kernel_rfl
theorem l_chanceryref05_Fold (ls : List (List UInt8)) (hls : ls.length ≤ lim) (hw : ∀ w ∈ ls, w ≠ [] ∧ w.length ≤ lim) : ∀ (m i : Nat) (b : List UInt8), ls.length - i = m → i ≤ ls.length → (i = 0 ↔ b = []) → b.length + ((ls.drop i).map fun w => w.length + 1).sum ≤ 4 * lim →
    lpO (stRO (strL ls) (i : Int) b.length (ofBytes b)) = some (ret (.str (joinW b (ls.drop i)))) := by
  have hc : Cons P0 T0 t_chanceryref05_Fold := ⟨c_chanceryref05_Words, trivial⟩
  intro m
  induction m with
  | zero =>
    intro i b hm hi hb hl
    have hie : i = ls.length := by omega
    refine loop_step hc.cont ?_
    rw [b_chanceryref05_Fold_0, strL_len, lt_dec]
    have hn : ¬ i < ls.length := by omega
    simp only [hn, decide_false, cond_false]
    rw [List.drop_eq_nil_of_le (by omega)]
    refine Eq.trans ?_ ((x_chanceryref05_Fold (fun _ => LoopLim) (strL ls) i ls.length false b.length (ofBytes b)).trans ?_)
    · kernel_rfl
    · have e2 : Nat.ble (0 + b.length * 1) (ofBytes b).length = true := Nat.ble_eq_true_of_le (by simp [ofBytes_len])
      have e3 : List.take (b.length * 1) (List.drop 0 (ofBytes b)) = ofBytes b := by rw [List.drop_zero]; exact List.take_of_length_le (by simp [ofBytes_len])
      simp only [e2, e3, cond_true, Option.bind_some, toBytes_of]
      rfl
  | succ m ih =>
    intro i b hm hi hb hl
    have hil : i < ls.length := by omega
    obtain ⟨hne, hwl⟩ := hw ls[i] (List.getElem_mem hil)
    rw [List.drop_eq_getElem_cons hil] at hl ⊢
    simp only [List.map_cons, List.sum_cons] at hl
    have hl' := hl
    unfold lim at hl'
    refine loop_step hc.cont ?_
    rw [b_chanceryref05_Fold_0, strL_len, lt_dec]
    have hlen : (sep b ++ ls[i].map smallB).length ≤ b.length + (ls[i].length + 1) := by
      cases b with
      | nil => simp [sep]
      | cons c b => simp [sep]; omega
    have hBn : sep b ++ ls[i].map smallB ≠ [] := by
      have : ls[i].map smallB ≠ [] := by simpa using hne
      intro hh
      exact this (List.append_eq_nil_iff.1 hh).2
    have hnx := ih (i + 1) (sep b ++ ls[i].map smallB) (by omega) hil ⟨fun h => by omega, fun h => (hBn h).elim⟩ (by omega)
    have hin := l_chanceryref05_Fold_2 ls i hil hls hwl (sep b ++ ls[i].map smallB) _ hnx
    simp only [hil, decide_true, cond_true]
    rcases Nat.eq_zero_or_pos i with h0 | h0
    · have hbe := hb.1 h0
      subst hbe
      have hd : decide ((i : Int) > 0) = false := by simp [h0]
      simp only [hd, cond_false, ofBytes_froz, Bool.and_self, cond_true]
      have := hin (0, [], 0) ⟨rfl, Nat.zero_le _, by simp only [List.length_nil]; omega, rfl⟩
      refine headT this ?_
      kernel_rfl
    · have hbe : b ≠ [] := fun e => by have := hb.2 e; omega
      have hd : decide ((i : Int) > 0) = true := by simp; omega
      have hA : Nat.ble ((b.length + 1) * 1) 140737488355328 = true := Nat.ble_eq_true_of_le (by omega)
      have hB' : Nat.ble (b.length + 1) 9223372036854775807 = true := Nat.ble_eq_true_of_le (by omega)
      have hC : Nat.ble (b.length + 1) b.length = false := ble_false (by omega)
      have hD : Nat.beq (b.length * 1) (ofBytes b).length = true := beq_true (by rw [ofBytes_len]; omega)
      have hof : ofBytes b ++ List.take 1 (List.drop 0 (splice (repeatCells [DV.int IntKind.u8 0] 1) 0 [DV.int IntKind.u8 32])) = ofBytes (b ++ [32]) := by rw [ofBytes_append]; rfl
      simp only [hd, cond_true, hA, hB', hC, hD, Bool.and_self, cond_false, hof, ofBytes_froz]
      have hsep : sep b = b ++ [32] := by
        cases b with
        | nil => exact (hbe rfl).elim
        | cons c b => rfl
      have := hin (b.length + 1, b ++ [32], 0) ⟨by simp, Nat.zero_le _, by simp; omega, by rw [hsep]; rfl⟩
      refine headT this ?_
      kernel_rfl
theorem c_chanceryref05_Fold : Con P0 T0 129 S_chanceryref05_Fold := con1 fun x s hx => by
  obtain ⟨rfl, hl⟩ := dS_inv hx
  obtain ⟨hw, ht⟩ := words_ne s.length (s := s) (Nat.le_refl _)
  refine Lx.of_in (tab := t_chanceryref05_Fold) ⟨c_chanceryref05_Words, trivial⟩ ?_
  rw [e_chanceryref05_Fold]
  simp only [dS_ok hl, Option.bind_some]
  have hlen : (words s).length ≤ s.length := by
    have key : ∀ l : List (List UInt8), (∀ w ∈ l, w ≠ []) → 2 * l.length ≤ (l.map fun w => w.length + 1).sum := by
      intro l
      induction l with
      | nil => intro _; simp
      | cons w l ih =>
        intro h
        have h1 := ih fun v hv => h v (by simp [hv])
        have h2 := List.length_pos_iff.2 (h w (by simp))
        simp only [List.length_cons, List.map_cons, List.sum_cons]
        omega
    have := key (words s) fun w hm => (hw w hm).1
    omega
  have h := l_chanceryref05_Fold (words s) (by omega) (fun w hm => ⟨(hw w hm).1, Nat.le_trans (hw w hm).2 hl⟩) (words s).length 0 [] (by omega) (by omega) ⟨fun _ => rfl, fun _ => rfl⟩ (by rw [List.drop_zero]; simp only [List.length_nil]; unfold lim at *; omega)
  rw [List.drop_zero] at h
  refine headT h ?_
  kernel_rfl
end Go.Dv
end
section
/- Names, lists of what is revoked, the status of a certificate: contracts. -/
namespace Go.Dv
open Go.Proofs Go.Dv.S
open Go.Pv (idx upTo)
theorem c_text_Same : Con P0 T0 127 S_text_Same := con2 fun x a y b hx hy => by
  obtain ⟨rfl, ha⟩ := dS_inv hx
  obtain ⟨rfl, hb⟩ := dS_inv hy
  refine Lx.of_in (tab := t_text_Same) ⟨c_text_Fold, trivial⟩ ?_
  rw [e_text_Same]
  simp only [dS_ok ha, dS_ok hb, Option.bind_some]
theorem nam_get {n : Name} {i : Nat} (h : i < n.length) : (nam n)[i]? = some [.int .i64 (n[i]).1, .str (n[i]).2] := by
  simp [nam, List.getElem?_map, h]
theorem begins_cons {a b : Name} {i : Nat} (ha : i < a.length) (hb : i < b.length) : begins (a.drop i) (b.drop i) = ((a[i]).1 == (b[i]).1 && fold (a[i]).2 == fold (b[i]).2 && begins (a.drop (i + 1)) (b.drop (i + 1))) := by
  rw [List.drop_eq_getElem_cons ha, List.drop_eq_getElem_cons hb]
  rfl
theorem begins_nil (a : Name) : begins a [] = true := by cases a <;> rfl
theorem begins_short : ∀ (a b : Name), a.length < b.length → begins a b = false
  | [], [], h => by simp at h
  | [], _ :: _, _ => rfl
  | _ :: _, [], h => by simp at h
  | x :: a, y :: b, h => by
    show (_ && begins a b) = false
    rw [begins_short a b (by simpa using h), Bool.and_false]
theorem l_name_Begins (a b : Name) (hab : b.length ≤ a.length) (hal : a.length ≤ lim) (ha : ∀ p ∈ a, p.2.length ≤ lim) (hb : ∀ p ∈ b, p.2.length ≤ lim) : ∀ m i, b.length - i = m → i ≤ b.length →
    LoopLim (tdF T0 86 none 0) (bodyF P0 T0 (fun _ => LoopLim) (Lt t_name_Begins) nY [] 86 none 0) (kontF P0 T0 (fun _ => LoopLim) (Lt t_name_Begins) nY [] 86 0) (stD 40 [(0, .v (.fz (nam a))), (5, .v (.bool true)), (13, .v (.fz (nam b))), (14, .v (.int .i64 b.length)), (15, .v (.int .i64 i))] []) [] = some (ret (.bool (begins (a.drop i) (b.drop i)))) := by
  have hc : Cons P0 T0 t_name_Begins := ⟨c_text_Same, trivial⟩
  intro m
  induction m with
  | zero =>
    intro i hm hi
    have hib : i = b.length := by omega
    subst hib
    refine loop_step hc.cont ?_
    rw [b_name_Begins_0, nam_len, lt_dec]
    simp only [Nat.lt_irrefl, decide_false, cond_false, List.drop_length, begins_nil]
    kernel_rfl
  | succ m ih =>
    intro i hm hi
    have hib : i < b.length := by omega
    have hia : i < a.length := by omega
    have h1 := ha _ (List.getElem_mem hia)
    have h2 := hb _ (List.getElem_mem hib)
    refine loop_step hc.cont ?_
    rw [b_name_Begins_0]
    simp only [nam_len, lt_dec, hib, decide_true, cond_true, idx_nat hib, idx_nat hia, nam_get hib, nam_get hia, unc, toInt, toStr, Option.bind_some, List.isEmpty_nil, dS_ok h1, dS_ok h2]
    rw [begins_cons hia hib]
    cases h1 : (b[i].fst != a[i].fst) with
    | true =>
      have h3 : (a[i].fst == b[i].fst) = false := by
        simp only [bne_iff_ne, ne_eq] at h1
        exact beq_eq_false_iff_ne.2 fun h => h1 h.symm
      rw [h3]
      simp only [cond_true, Bool.false_and]
      show _ = some (ret (.bool false))
      kernel_rfl
    | false =>
      have h3 : (a[i].fst == b[i].fst) = true := by
        simp only [bne_eq_false_iff_eq] at h1
        rw [h1]; exact beq_self_eq_true _
      rw [h3]
      cases h2 : (fold b[i].snd == fold a[i].snd) with
      | false =>
        have h4 : (fold a[i].snd == fold b[i].snd) = false := by
          rw [beq_eq_false_iff_ne] at h2 ⊢
          exact fun h => h2 h.symm
        rw [h4]
        simp only [cond_false, Bool.not_false, cond_true, Bool.true_and, Bool.false_and]
        show _ = some (ret (.bool false))
        kernel_rfl
      | true =>
        have h4 : (fold a[i].snd == fold b[i].snd) = true := by
          rw [beq_iff_eq] at h2 ⊢
          exact h2.symm
        rw [h4]
        simp only [cond_false, Bool.not_true, Bool.true_and]
        rw [wrap_succ hib (by omega)]
        refine leafT (X := true) (ih (i + 1) (by omega) (by omega)) ?_ rfl ?_ rfl
        · kernel_rfl
        · kernel_rfl
theorem c_name_Begins : Con P0 T0 86 S_name_Begins := con2 fun x a y b hx hy => by
  obtain ⟨rfl, hal, ha⟩ := dN_inv hx
  obtain ⟨rfl, hbl, hb⟩ := dN_inv hy
  refine Lx.of_in (tab := t_name_Begins) ⟨c_text_Same, trivial⟩ ?_
  rw [e_name_Begins, nam_len, nam_len, lt_dec]
  cases hq : decide (a.length < b.length) with
  | true =>
    rw [begins_short a b (of_decide_eq_true hq)]
    simp only [cond_true]
  | false =>
    have := of_decide_eq_false hq
    simp only [cond_false]
    have h2 := l_name_Begins a b (by omega) hal ha hb b.length 0 (by omega) (by omega)
    rw [List.drop_zero, List.drop_zero] at h2
    refine headT h2 ?_
    kernel_rfl
theorem c_name_Same : Con P0 T0 31 S_name_Same := con2 fun x a y b hx hy => by
  have hx' := hx
  have hy' := hy
  obtain ⟨rfl, hal, ha⟩ := dN_inv hx
  obtain ⟨rfl, hbl, hb⟩ := dN_inv hy
  refine Lx.of_in (tab := t_name_Same) ⟨c_name_Begins, trivial⟩ ?_
  rw [e_name_Same]
  simp only [hx', hy', Option.bind_some, nam_len, sameN, len_beq]
  cases hq : (a.length == b.length) with
  | true => simp only [cond_true, Bool.true_and]
  | false => simp only [cond_false, Bool.false_and]
theorem ent_get {es : List Entry} {i : Nat} (h : i < es.length) : (es.map ent)[i]? = some [.fz (byt es[i].1), .int .i64 es[i].2.1, .int .i64 es[i].2.2] := by
  simp [List.getElem?_map, h, ent]
theorem dEnt_ok {s : List UInt8} (t u : Int) (h : s.length ≤ lim) : dEnt (.agg [.fz (byt s), .int .i64 t, .int .i64 u]) = some (s, t, u) := by
  show ((unB (byt s)).bind fun s => some (s, t, u)) = _
  rw [unB_ok h]; rfl
theorem l_crl_Find (es : List Entry) (s : List UInt8) (hs : s.length ≤ lim) (hl : es.length ≤ lim) (he : ∀ e ∈ es, e.1.length ≤ lim) : ∀ m i, es.length - i = m → i ≤ es.length →
    LoopLim (tdF T0 32 none 0) (bodyF P0 T0 (fun _ => LoopLim) (Lt t_crl_Find) nY [] 32 none 0) (kontF P0 T0 (fun _ => LoopLim) (Lt t_crl_Find) nY [] 32 0) (stD 23 [(1, .v (.fz (byt s))), (4, .lp 4 0), (9, .v (.fz (es.map ent))), (10, .v (.int .i64 es.length)), (11, .v (.int .i64 i))] [(4, .loc [.nils, .int .i64 0, .int .i64 0] 83)]) [] = some (ret (found (findE (es.drop i) s)).val) := by
  have hc : Cons P0 T0 t_crl_Find := ⟨c_bytes_Equal, c_crl_copied, trivial⟩
  intro m
  induction m with
  | zero =>
    intro i hm hi
    have hib : i = es.length := by omega
    subst hib
    refine loop_step hc.cont ?_
    rw [b_crl_Find_0, lt_dec]
    simp only [Nat.lt_irrefl, decide_false, cond_false, List.drop_length]
    show _ = some (ret (found none).val)
    kernel_rfl
  | succ m ih =>
    intro i hm hi
    have hib : i < es.length := by omega
    have h1 := he _ (List.getElem_mem hib)
    refine loop_step hc.cont ?_
    have hel : (es.map ent).length = es.length := by simp
    rw [b_crl_Find_0]
    simp only [hel, lt_dec, hib, decide_true, cond_true, idx_nat hib, ent_get hib, unc, toInt, toFz, Option.bind_some, List.isEmpty_nil, dB_ok hs, dB_ok h1]
    rw [List.drop_eq_getElem_cons hib]
    show _ = some (ret (found (bif es[i].1 == s then some es[i] else findE (es.drop (i + 1)) s)).val)
    cases h2 : (es[i].1 == s) with
    | true =>
      simp only [cond_true, dEnt_ok _ _ h1, Option.bind_some]
      show _ = some (ret (found (some es[i])).val)
      kernel_rfl
    | false =>
      simp only [cond_false, wrap_succ hib hl]
      refine leafT (X := true) (ih (i + 1) (by omega) (by omega)) ?_ rfl ?_ rfl
      · kernel_rfl
      · kernel_rfl
theorem c_crl_Find : Con P0 T0 32 S_crl_Find where
  nat R xs k := by
    unfold S_crl_Find
    split
    · rw [shapeK_nat, shapeK_nat (R := DRes × DHeap)]
      simp only [Option.bind_assoc, Br.run_eq, Option.bind_some]
    · rfl
  ok xs r h := by
    unfold S_crl_Find at h
    split at h
    · rename_i cs s
      obtain ⟨hty, h⟩ := shapeK_inv h
      obtain ⟨x, hx, h⟩ := bnd' h
      obtain ⟨es, hes, h⟩ := bnd' h
      obtain ⟨s', hs, h⟩ := bnd' h
      rw [Br.run_eq] at h
      cases h
      obtain ⟨m, a, b, u, c, l, rfl⟩ := lst_form hty
      have hxl : x = .fz l := by
        have : some (DV.fz l) = some x := hx
        cases this; rfl
      subst hxl
      obtain ⟨h1, hel, hee⟩ := dE_inv hes
      cases h1
      obtain ⟨rfl, hsl⟩ := dB_inv hs
      refine Lx.of_in (tab := t_crl_Find) ⟨c_bytes_Equal, c_crl_copied, trivial⟩ ?_
      rw [e_crl_Find]
      have h2 := l_crl_Find es s' hsl hel hee es.length 0 (by omega) (by omega)
      rw [List.drop_zero] at h2
      rw [List.length_map]
      refine headT h2 ?_
      kernel_rfl
    · cases h
/-! ### the reference -/
theorem l_chanceryref18_Find (es : List Entry) (s : List UInt8) (hs : s.length ≤ lim) (hl : es.length ≤ lim) (he : ∀ e ∈ es, e.1.length ≤ lim) : ∀ m i, es.length - i = m → i ≤ es.length →
    LoopLim (tdF T0 34 none 0) (bodyF P0 T0 (fun _ => LoopLim) (Lt t_chanceryref18_Find) nY [] 34 none 0) (kontF P0 T0 (fun _ => LoopLim) (Lt t_chanceryref18_Find) nY [] 34 0) (stD 27 [(0, .v (.fz (es.map ent))), (1, .v (.fz (byt s))), (4, .lp 4 0), (6, .v (.int .i64 i))] [(4, .loc [.nils, .int .i64 0, .int .i64 0] 83)]) [] = some (ret (found (findE (es.drop i) s)).val) := by
  have hc : Cons P0 T0 t_chanceryref18_Find := trivial
  intro m
  induction m with
  | zero =>
    intro i hm hi
    have hib : i = es.length := by omega
    subst hib
    refine loop_step hc.cont ?_
    have hel : (es.map ent).length = es.length := by simp
    rw [b_chanceryref18_Find_0, hel, lt_dec]
    simp only [Nat.lt_irrefl, decide_false, cond_false, List.drop_length]
    show _ = some (ret (found none).val)
    kernel_rfl
  | succ m ih =>
    intro i hm hi
    have hib : i < es.length := by omega
    refine loop_step hc.cont ?_
    have hel : (es.map ent).length = es.length := by simp
    rw [b_chanceryref18_Find_0]
    simp only [hel, lt_dec, hib, decide_true, cond_true, idx_nat hib, ent_get hib, unc, toInt, toFz, Option.bind_some, List.isEmpty_nil, byt_all, toBytes_ofBytes]
    rw [List.drop_eq_getElem_cons hib]
    show _ = some (ret (found (bif es[i].1 == s then some es[i] else findE (es.drop (i + 1)) s)).val)
    cases h1 : (es[i].1 == s) with
    | true =>
      simp only [cond_true]
      show _ = some (ret (found (some es[i])).val)
      kernel_rfl
    | false =>
      simp only [cond_false, wrap_succ hib hl]
      refine leafT (X := true) (ih (i + 1) (by omega) (by omega)) ?_ rfl ?_ rfl
      · kernel_rfl
      · kernel_rfl
theorem c_chanceryref18_Find : Con P0 T0 34 S_chanceryref18_Find := cob2 fun x es y s hx hy => by
  obtain ⟨rfl, hel, hee⟩ := dE_inv hx
  obtain ⟨rfl, hsl⟩ := dB_inv hy
  refine Lx.of_in (tab := t_chanceryref18_Find) trivial ?_
  rw [e_chanceryref18_Find]
  have h2 := l_chanceryref18_Find es s hsl hel hee es.length 0 (by omega) (by omega)
  rw [List.drop_zero] at h2
  refine headT h2 ?_
  kernel_rfl
theorem begins_len {a b : Name} (h : begins a b = true) : b.length ≤ a.length := by
  rcases Nat.lt_or_ge a.length b.length with h1 | h1
  · rw [begins_short a b h1] at h; cases h
  · exact h1
theorem begins_symm : ∀ {a b : Name}, a.length = b.length → begins a b = true → begins b a = true
  | [], [], _, _ => rfl
  | [], _ :: _, h, _ => by simp at h
  | _ :: _, [], h, _ => by simp at h
  | (t, v) :: a, (u, w) :: b, h, hb => by
    simp only [begins, Bool.and_eq_true, beq_iff_eq] at hb ⊢
    exact ⟨⟨hb.1.1.symm, hb.1.2.symm⟩, begins_symm (by simpa using h) hb.2⟩
theorem same_both (a b : Name) : (begins a b && begins b a) = sameN a b := by
  unfold sameN
  rw [Bool.eq_iff_iff]
  simp only [Bool.and_eq_true, beq_iff_eq]
  constructor
  · rintro ⟨h1, h2⟩
    have := begins_len h1
    have := begins_len h2
    exact ⟨by omega, h1⟩
  · rintro ⟨h1, h2⟩
    exact ⟨h2, begins_symm h1 h2⟩
theorem l_chanceryref12_Begins (a b : Name) (hbl : b.length ≤ lim) (ha : ∀ p ∈ a, p.2.length ≤ lim) (hb : ∀ p ∈ b, p.2.length ≤ lim) : ∀ m i, b.length - i = m → i ≤ b.length →
    LoopLim (tdF T0 89 none 0) (bodyF P0 T0 (fun _ => LoopLim) (Lt t_chanceryref12_Begins) nY [] 89 none 0) (kontF P0 T0 (fun _ => LoopLim) (Lt t_chanceryref12_Begins) nY [] 89 0) (stD 44 [(0, .v (.fz (nam a))), (1, .v (.fz (nam b))), (5, .v (.int .i64 i))] []) [] = some (ret (.bool (begins (a.drop i) (b.drop i)))) := by
  have hc : Cons P0 T0 t_chanceryref12_Begins := ⟨c_chanceryref05_Fold, trivial⟩
  intro m
  induction m with
  | zero =>
    intro i hm hi
    have hib : i = b.length := by omega
    subst hib
    refine loop_step hc.cont ?_
    rw [b_chanceryref12_Begins_0, nam_len, lt_dec]
    simp only [Nat.lt_irrefl, decide_false, cond_false, List.drop_length, begins_nil]
    kernel_rfl
  | succ m ih =>
    intro i hm hi
    have hib : i < b.length := by omega
    have h02 := hb _ (List.getElem_mem hib)
    refine loop_step hc.cont ?_
    rw [b_chanceryref12_Begins_0]
    simp only [nam_len, lt_dec, ge_dec, hib, decide_true, cond_true]
    rcases Nat.lt_or_ge i a.length with hia | hia
    · have h01 := ha _ (List.getElem_mem hia)
      have hd : decide (a.length ≤ i) = false := by simp; omega
      simp only [hd, cond_false, idx_nat hib, idx_nat hia, nam_get hib, nam_get hia, unc, toInt, toStr, Option.bind_some, cond_true, List.isEmpty_nil, dS_ok h01, dS_ok h02, decide_true]
      rw [begins_cons hia hib]
      cases h1 : (a[i].fst != b[i].fst) with
      | true =>
        have h3 : (a[i].fst == b[i].fst) = false := by
          simp only [bne_iff_ne, ne_eq] at h1
          exact beq_eq_false_iff_ne.2 h1
        rw [h3]
        simp only [cond_true, Bool.false_and]
        show _ = some (ret (.bool false))
        kernel_rfl
      | false =>
        have h3 : (a[i].fst == b[i].fst) = true := by
          simp only [bne_eq_false_iff_eq] at h1
          rw [h1]; exact beq_self_eq_true _
        rw [h3]
        cases h2 : (fold a[i].snd == fold b[i].snd) with
        | false =>
          simp only [cond_false, Bool.not_false, cond_true, Bool.true_and, Bool.false_and, h2]
          show _ = some (ret (.bool false))
          kernel_rfl
        | true =>
          simp only [cond_false, Bool.true_and, Bool.not_true, h2, wrap_succ hib hbl]
          refine leafT (X := true) (ih (i + 1) (by omega) (by omega)) ?_ rfl ?_ rfl
          · kernel_rfl
          · kernel_rfl
    · have hd : decide (a.length ≤ i) = true := by simpa using hia
      simp only [hd, cond_true]
      rw [List.drop_of_length_le hia, List.drop_eq_getElem_cons hib]
      show _ = some (ret (.bool false))
      kernel_rfl
theorem c_chanceryref12_Begins : Con P0 T0 89 S_chanceryref12_Begins := con2 fun x a y b hx hy => by
  obtain ⟨rfl, hal, ha⟩ := dN_inv hx
  obtain ⟨rfl, hbl, hb⟩ := dN_inv hy
  refine Lx.of_in (tab := t_chanceryref12_Begins) ⟨c_chanceryref05_Fold, trivial⟩ ?_
  rw [e_chanceryref12_Begins]
  have h2 := l_chanceryref12_Begins a b hbl ha hb b.length 0 (by omega) (by omega)
  rw [List.drop_zero, List.drop_zero] at h2
  refine headT h2 ?_
  kernel_rfl
theorem c_chanceryref12_Same : Con P0 T0 33 S_chanceryref12_Same := con2 fun x a y b hx hy => by
  have hx' := hx
  have hy' := hy
  obtain ⟨rfl, hal, ha⟩ := dN_inv hx
  obtain ⟨rfl, hbl, hb⟩ := dN_inv hy
  refine Lx.of_in (tab := t_chanceryref12_Same) ⟨c_chanceryref12_Begins, trivial⟩ ?_
  rw [e_chanceryref12_Same, ← same_both]
  simp only [hx', hy', Option.bind_some]
  cases begins a b with
  | true => simp only [cond_true, Bool.true_and]
  | false => simp only [cond_false, Bool.false_and]
/-! ### the status of a certificate -/
theorem of_status {f : FuncId} (h : ∀ s n x y m es a b a' b' c u u' t s' n' m' es', dB (.fz s) = some s' → dN (.fz n) = some n' → dN (.fz m) = some m' → dE (.fz es) = some es' → Lx P0 T0 f [.agg (certD s n a b x u t y), .agg (lstD m a' b' u' c es)] (ret (told n' m' es' s').val)) : Con P0 T0 f S_status_Of where
  nat R xs k := by
    unfold S_status_Of
    split
    · rename_i c l
      rw [shapeK_nat, shapeK_nat (R := DRes × DHeap), Option.bind_assoc]
      congr 1; funext c
      rw [shapeK_nat, shapeK_nat (R := DRes × DHeap), Option.bind_assoc]
      simp only [Option.bind_assoc, Br.run_eq, Option.bind_some]
    · rfl
  ok xs r e := by
    unfold S_status_Of at e
    split at e
    · rename_i c l
      obtain ⟨t1, e⟩ := shapeK_inv e
      obtain ⟨t2, e⟩ := shapeK_inv e
      obtain ⟨x0, q0, e⟩ := bnd' e
      obtain ⟨s', hs, e⟩ := bnd' e
      obtain ⟨x1, q1, e⟩ := bnd' e
      obtain ⟨n', hn, e⟩ := bnd' e
      obtain ⟨x2, q2, e⟩ := bnd' e
      obtain ⟨m', hm, e⟩ := bnd' e
      obtain ⟨x3, q3, e⟩ := bnd' e
      obtain ⟨es', he, e⟩ := bnd' e
      rw [Br.run_eq] at e
      cases e
      obtain ⟨s, n, a, b, x, u, t, y, rfl⟩ := cert_form t1
      obtain ⟨m, a', b', u', c', es, rfl⟩ := lst_form t2
      have q0 : some (DV.fz s) = some x0 := q0
      have q1 : some (DV.fz n) = some x1 := q1
      have q2 : some (DV.fz m) = some x2 := q2
      have q3 : some (DV.fz es) = some x3 := q3
      cases q0; cases q1; cases q2; cases q3
      exact h _ _ _ _ _ _ _ _ _ _ _ _ _ _ _ _ _ _ hs hn hm he
    · cases e
theorem c_status_Of : Con P0 T0 7 S_status_Of := of_status fun s n x y m es a b a' b' c u u' t s' n' m' es' hs hn hm he => by
  refine Lx.of_in (tab := t_status_Of) ⟨c_name_Same, c_crl_Find, trivial⟩ ?_
  rw [e_status_Of]
  simp only [hs, hn, hm, he, Option.bind_some, told]
  cases hq : sameN n' m' with
  | false => simp only [cond_false, cond_true, Bool.not_false]; rfl
  | true =>
    simp only [cond_false, Bool.not_true]
    cases findE es' s' <;> rfl
theorem c_chanceryref20_Of : Con P0 T0 8 S_chanceryref20_Of := of_status fun s n x y m es a b a' b' c u u' t s' n' m' es' hs hn hm he => by
  refine Lx.of_in (tab := t_chanceryref20_Of) ⟨c_chanceryref12_Same, c_chanceryref18_Find, trivial⟩ ?_
  rw [e_chanceryref20_Of]
  simp only [hs, hn, hm, he, Option.bind_some, told]
  cases hq : sameN n' m' with
  | false => simp only [cond_false, cond_true, Bool.not_false]; rfl
  | true =>
    simp only [cond_false, Bool.not_true]
    cases findE es' s' <;> rfl
theorem c_chancerylaw20_names : Con P0 T0 35 S_chancerylaw20_names where
  nat R xs k := by unfold S_chancerylaw20_names; split <;> rfl
  ok xs r h := by
    unfold S_chancerylaw20_names at h
    split at h
    · cases h
      exact Lx.of_in (tab := t_chancerylaw20_names) trivial (e_chancerylaw20_names _)
    · cases h
theorem c_chancerylaw20_works : Con P0 T0 9 S_chancerylaw20_works where
  nat R xs k := by unfold S_chancerylaw20_works S_chancerylaw20_names; split <;> rfl
  ok xs r h := by
    unfold S_chancerylaw20_works S_chancerylaw20_names at h
    split at h
    · cases h
      exact Lx.of_in (tab := t_chancerylaw20_works) ⟨c_status_Of, c_chancerylaw20_names, trivial⟩ (e_chancerylaw20_works _)
    · cases h
/-- THE LAW, over trees. -/
theorem law_StatusOf {s n x y m es : List (List DV)} {a b a' b' c : Int} {u u' : Nat → Int} {t : Bool} {s' : List UInt8} {n' m' : Name} {es' : List Entry} (hs : dB (.fz s) = some s') (hn : dN (.fz n) = some n') (hm : dN (.fz m) = some m') (he : dE (.fz es) = some es') :
    Lx P0 T0 3 [.agg (certD s n a b x u t y), .agg (lstD m a' b' u' c es)] (ret (.bool true)) := by
  refine Lx.of_in (tab := t_chancerylaw20_StatusOf) ⟨c_status_Of, c_chanceryref20_Of, c_chancerylaw20_works, trivial⟩ ?_
  rw [e_chancerylaw20_StatusOf]
  simp only [hs, hn, hm, he, Option.bind_some]
  cases hq : sameN n' m' with
  | false => simp only [cond_false]
  | true =>
    simp only [cond_true]
    cases findE es' s' with
    | none => rfl
    | some e => simp
end Go.Dv
end
section
/- The seat's table is the program's; what arguments come to. -/
namespace Go.Dv
open Go.Proofs Go.Dv.S
instance noPlace : Pv.Glob := ⟨fun _ => none⟩
theorem names_ok : (Try.prog.funcs.toList.all fun fn => !(fn.name == "runtime.NumGoroutine")) = true := by kernel_rfl
theorem name_ok {f : FuncId} {fn : Func} (h : Try.prog.funcs[f]? = some fn) : (fn.name == "runtime.NumGoroutine") = false := by
  have h1 : fn ∈ Try.prog.funcs.toList := by
    obtain ⟨hi, rfl⟩ := Array.getElem?_eq_some_iff.1 h
    exact Array.mem_toList_iff.2 (Array.getElem_mem hi)
  simpa using List.all_eq_true.1 names_ok fn h1
theorem bif_ext {α : Type} {c : Bool} {a e : α} {r : Option α} (h : (bif c then some a else r) = some e) : (c = true ∧ a = e) ∨ r = some e := by
  cases c
  · exact .inr h
  · exact .inl ⟨rfl, Option.some.inj h⟩
theorem ext_inv {f : FuncId} {e : Pv.Xt} (h : Try.ext f = some e) : (f, e) ∈ Try.exts := by
  unfold Try.ext at h
  repeat
    rcases bif_ext h with ⟨h1, rfl⟩ | h
    · cases Nat.eq_of_beq_eq_true h1; simp [Try.exts]
  cases h
theorem xt_ok {f : FuncId} {e : Pv.Xt} (h1 : (Try.prog.funcs[f]?).map (fun fn => fn.body.isNone) = some true) (h2 : (Try.prog.funcs[f]?).map Extern.findNext = some none) (h3 : (Try.prog.funcs[f]?).bind Extern.find = some e.entry) :
    ∃ fn, Try.prog.funcs[f]? = some fn ∧ fn.body.isNone = true ∧ Extern.findNext fn = none ∧ Extern.find fn = some e.entry := by
  obtain ⟨fn, hf, h1⟩ := Option.map_eq_some_iff.1 h1
  rw [hf] at h2 h3
  exact ⟨fn, hf, h1, Option.some.inj h2, h3⟩
theorem exts_ok {f : FuncId} {e : Pv.Xt} (hp : (f, e) ∈ Try.exts) : ∃ fn, Try.prog.funcs[f]? = some fn ∧ fn.body.isNone = true ∧ Extern.findNext fn = none ∧ Extern.find fn = some e.entry := by
  unfold Try.exts at hp
  repeat
    rcases List.mem_cons.1 hp with h | hp
    · cases h
      exact xt_ok (by kernel_rfl) (by kernel_rfl) (by kernel_rfl)
  exact (List.not_mem_nil hp).elim
theorem tabOK : Pv.TabOK P0 Try.T' where
  fn f fn hs hf := ⟨hf, name_ok hf⟩
  spec f s h := by
    have h : (match Try.ext f with
      | some e => some e.spec
      | none => none) = some s := h
    cases hx : Try.ext f with
    | none => rw [hx] at h; cases h
    | some e =>
      rw [hx] at h
      cases h
      obtain ⟨fn, h1, h2, h3, h4⟩ := exts_ok (ext_inv hx)
      exact Pv.Xt.xok e h1 (name_ok h1) h2 h3 h4
theorem tabD : TabD T0 Try.T' where
  fn := rfl
  kill := rfl
  spec f := by
    show (match Try.ext f with
      | some e => some (Xt.val e)
      | none => none).isSome = (match Try.ext f with
      | some e => some e.spec
      | none => none).isSome
    cases Try.ext f <;> rfl
  sound f s s' xs v h h' hv F μ hp ys hg i hvs := by
    have h : (match Try.ext f with
      | some e => some (Xt.val e)
      | none => none) = some s := h
    have h' : (match Try.ext f with
      | some e => some e.spec
      | none => none) = some s' := h'
    cases hx : Try.ext f with
    | none => rw [hx] at h; cases h
    | some e =>
      rw [hx] at h h'
      cases h
      cases h'
      exact Xt.sound e hv i hvs
/-! ### the bulk -/
open Go.Proofs.Ytngphbjigkgeaaa in
theorem bulk_pos {H : Type} (d : DataW H) : 1 ≤ Rows.uptoBulk d := by
  cases d with
  | lit l => cases l <;> simp [Rows.uptoBulk]
  | nil => simp [Rows.uptoBulk]
  | ptr d => simp [Rows.uptoBulk]
  | slice elems spare => simp [Rows.uptoBulk]
  | agg parts => simp [Rows.uptoBulk]
  | iface t d => simp [Rows.uptoBulk]
  | map entries => simp [Rows.uptoBulk]
  | held h => simp [Rows.uptoBulk]
open Go.Proofs.Ytngphbjigkgeaaa in
theorem bulk_part {H : Type} {d : DataW H} {l : List (DataW H)} (h : d ∈ l) : Rows.uptoBulk d ≤ Rows.uptoBulkAll l := by
  induction l with
  | nil => cases h
  | cons x r ih =>
    simp only [Rows.uptoBulkAll]
    cases List.mem_cons.1 h with
    | inl e => subst e; omega
    | inr e => have := ih e; omega
open Go.Proofs.Ytngphbjigkgeaaa in
theorem bulk_len {H : Type} (l : List (DataW H)) : l.length ≤ Rows.uptoBulkAll l := by
  induction l with
  | nil => simp [Rows.uptoBulkAll]
  | cons x r ih => have := bulk_pos x; simp only [Rows.uptoBulkAll, List.length_cons]; omega
open Go.Proofs.Ytngphbjigkgeaaa in
/-- The rows' bulk. -/
def bulk (H : Type) : Bulk H where
  B := Rows.uptoBulk
  len es rest := by have := bulk_len es; simp only [Rows.uptoBulk]; omega
  elem es rest x h := by have := bulk_part h; simp only [Rows.uptoBulk]; omega
  part ps x h := by have := bulk_part h; simp only [Rows.uptoBulk]; omega
  str s := by simp only [Rows.uptoBulk]; omega
open Go.Proofs.Ytngphbjigkgeaaa in
theorem bulk_small {H : Type} {l : List (DataW H)} (hk : Rows.uptoSmall H l = true) {d : DataW H} (h : d ∈ l) : (bulk H).B d ≤ lim := by
  have h1 : Rows.uptoBulkAll l ≤ 1048576 := by simpa [Rows.uptoSmall] using hk
  have h2 := bulk_part h
  show Rows.uptoBulk d ≤ 1099511627776
  omega
end Go.Dv
end
section
/- 'StatusOf': the row. -/
namespace Go.Dv
open Go.Proofs Go.Dv.S
section
variable {H : Type} {K : Bulk H}
theorem rd_attr {x : List DV} {d : DataW H} (r : Tr P0 165 x d) (hb : K.B d ≤ lim) : ∃ p : Int × List UInt8, x = [.int .i64 p.1, .str p.2] ∧ p.2.length ≤ lim := by
  have h1 := r.kinds 8 (ks := [.int .i64, .str]) (by kernel_rfl)
  match x, h1 with
  | [x, y], ⟨⟨n, hx⟩, ⟨s, hy⟩, _⟩ =>
    subst hx hy
    obtain ⟨d', h2, h3⟩ := r.at (K := K) 1 1 9 1 (by kernel_rfl)
    obtain ⟨s', h4, h5⟩ := h2.str' (K := K) (by kernel_rfl)
    have h4 : [DV.str s] = [DV.str s'] := h4
    cases h4
    exact ⟨(n, s), rfl, by show s.length ≤ lim; omega⟩
theorem rd_name {x : List DV} {d : DataW H} (r : Tr P0 24 x d) (hb : K.B d ≤ lim) : ∃ n l, x = [.fz l] ∧ dN (.fz l) = some n := by
  obtain ⟨n, h1, h2, h3⟩ := r.list (K := K) (fun p : Int × List UInt8 => [.int .i64 p.1, .str p.2]) (fun p => p.2.length ≤ lim) (e := 165) (by kernel_rfl) fun x d' hr hd => rd_attr (K := K) hr (by omega)
  exact ⟨n, _, h1, dN_ok (by omega) h3⟩
theorem rd_bytes {x : List DV} {d : DataW H} (r : Tr P0 22 x d) (hb : K.B d ≤ lim) : ∃ s l, x = [.fz l] ∧ dB (.fz l) = some s := by
  obtain ⟨s, h1, h2⟩ := r.bytes (K := K) (e := 5) (by kernel_rfl) (by kernel_rfl)
  exact ⟨s, _, h1, dB_ok (by omega)⟩
theorem rd_entry {x : List DV} {d : DataW H} (r : Tr P0 83 x d) (hb : K.B d ≤ lim) : ∃ e : Entry, x = ent e ∧ e.1.length ≤ lim := by
  have h1 := r.kinds 8 (ks := [.sl, .int .i64, .int .i64]) (by kernel_rfl)
  match x, h1 with
  | [x, y, z], ⟨⟨l, hx⟩, ⟨t, hy⟩, ⟨u, hz⟩, _⟩ =>
    subst hx hy hz
    obtain ⟨d', h2, h3⟩ := r.at (K := K) 0 0 22 1 (by kernel_rfl)
    obtain ⟨s, h4, h5⟩ := h2.bytes (K := K) (e := 5) (by kernel_rfl) (by kernel_rfl)
    have h4 : [DV.fz l] = [DV.fz (byt s)] := h4
    cases h4
    exact ⟨(s, t, u), rfl, by show s.length ≤ lim; omega⟩
theorem rd_entries {x : List DV} {d : DataW H} (r : Tr P0 34 x d) (hb : K.B d ≤ lim) : ∃ es l, x = [.fz l] ∧ dE (.fz l) = some es := by
  obtain ⟨es, h1, h2, h3⟩ := r.list (K := K) ent (fun e => e.1.length ≤ lim) (e := 83) (by kernel_rfl) fun x d' hr hd => rd_entry (K := K) hr (by omega)
  exact ⟨es, _, h1, dE_ok (by omega) h3⟩
theorem rd_cert {x : List DV} {d : DataW H} (r : Tr P0 31 x d) (hb : K.B d ≤ lim) : ∃ s n a b x' u t y s' n', x = certD s n a b x' u t y ∧ dB (.fz s) = some s' ∧ dN (.fz n) = some n' := by
  obtain ⟨s, n, a, b, x', u, t, y, rfl⟩ := cert_form (r.kinds 8 (by kernel_rfl))
  obtain ⟨d1, h1, h2⟩ := r.at (K := K) 0 0 22 1 (by kernel_rfl)
  obtain ⟨s', l1, h3, h4⟩ := rd_bytes (K := K) h1 (by omega)
  have h3 : [DV.fz s] = [DV.fz l1] := h3
  cases h3
  obtain ⟨d2, h5, h6⟩ := r.at (K := K) 1 1 24 1 (by kernel_rfl)
  obtain ⟨n', l2, h7, h8⟩ := rd_name (K := K) h5 (by omega)
  have h7 : [DV.fz n] = [DV.fz l2] := h7
  cases h7
  exact ⟨s, n, a, b, x', u, t, y, s', n', rfl, h4, h8⟩
theorem rd_list {x : List DV} {d : DataW H} (r : Tr P0 36 x d) (hb : K.B d ≤ lim) : ∃ m a b u c es m' es', x = lstD m a b u c es ∧ dN (.fz m) = some m' ∧ dE (.fz es) = some es' := by
  obtain ⟨m, a, b, u, c, es, rfl⟩ := lst_form (r.kinds 8 (by kernel_rfl))
  obtain ⟨d1, h1, h2⟩ := r.at (K := K) 0 0 24 1 (by kernel_rfl)
  obtain ⟨m', l1, h3, h4⟩ := rd_name (K := K) h1 (by omega)
  have h3 : [DV.fz m] = [DV.fz l1] := h3
  cases h3
  obtain ⟨d2, h5, h6⟩ := r.at (K := K) 5 24 34 1 (by kernel_rfl)
  obtain ⟨es', l2, h7, h8⟩ := rd_entries (K := K) h5 (by omega)
  have h7 : [DV.fz es] = [DV.fz l2] := h7
  cases h7
  exact ⟨m, a, b, u, c, es, m', es', rfl, h4, h8⟩
end
end Go.Dv
namespace Go.Proofs.Ytngphbjigkgeaaa.statusOf
open Go.ChangeShapes Go.WideShapes Go.ChangeAt Go.RowKit Go.Dv
theorem own : ownKnob Try.prog.godebug = none := by kernel_rfl
theorem law (H : Type) (ds : List (DataW H)) (hk : Rows.uptoSmall H ds = true) (trees : List DV) (h : ArgsT Try.prog [31, 36] ds trees) : Lx P0 T0 3 trees (S.ret (.bool true)) := by
  obtain ⟨d1, ds, xs1, trees, rfl, rfl, h1, h⟩ := h.cons_inv
  obtain ⟨d2, ds, xs2, trees, rfl, rfl, h2, h⟩ := h.cons_inv
  obtain ⟨rfl, rfl⟩ := h.nil_inv
  obtain ⟨s, n, a, b, x', u, t, y, s', n', rfl, h3, h4⟩ := rd_cert (K := bulk H) h1 (bulk_small hk (by simp))
  obtain ⟨m, a', b', u', c, es, m', es', rfl, h5, h6⟩ := rd_list (K := bulk H) h2 (bulk_small hk (by simp))
  exact law_StatusOf h3 h4 h5 h6
def zeroCert : Value := .agg (#[.slice none 0 0, .slice none 0 0, .int .i64 0, .int .i64 0, .slice none 0 0] ++ Array.replicate 64 (.int .u8 0) ++ #[.bool false, .slice none 0 0])
def zeroList : Value := .agg (#[.slice none 0 0, .int .i64 0, .int .i64 0] ++ Array.replicate 20 (.int .u8 0) ++ #[.int .i64 0, .slice none 0 0])
def readCert (H : Type) : DataW H := .agg [.nil, .nil, .lit (.int .i64 0), .lit (.int .i64 0), .nil, .agg [.agg (List.replicate 32 (.lit (.int .u8 0))), .agg (List.replicate 32 (.lit (.int .u8 0))), .lit (.bool false)], .nil]
def readList (H : Type) : DataW H := .agg [.nil, .lit (.int .i64 0), .lit (.int .i64 0), .agg (List.replicate 20 (.lit (.int .u8 0))), .lit (.int .i64 0), .nil]
set_option maxRecDepth 100000 in
theorem core (H : Type) (enc : TypeId × Value → H) (F : Stop.Interp) (W : World) (base : Nat) (args : Array Value) (ds gs : List (DataW H)) (before : List MemPlace)
    (hval : ∀ (j : Nat) t v, Try.f3.params[j]? = some t → args[j]? = some v → Value.okWide Try.prog W .any base t v)
    (hW : DataW.Whole enc Try.prog Try.f3.params.toList Rows.statusOfSpec.vars false W args.toList ds gs before) (hk : Rows.uptoSmall H (ds ++ gs) = true)
    (hg : ∃ (g : Nat) (cs : Array Value) (e : TypeId) (fr : Nat × Nat), W.heap[g]? = some (.cells cs e fr)) :
    Calls Try.prog 3 args W fun e W' => ∃ v, e = .returned v ∧ Rows.statusOfSpec.post enc Try.prog Try.f3 false true false false W args v W' := by
  have hgs : gs = [] := by
    obtain ⟨p, q, _, hV, _⟩ := hW
    cases gs with
    | nil => rfl
    | cons g gs => exact hV.elim
  subst hgs
  rw [List.append_nil] at hk
  have hp : Try.f3.params.toList = [31, 36] := by rw [Try.params3]
  have two : ∃ d1 d2, ds = [d1, d2] := by
    obtain ⟨p, q, hA, _⟩ := hW
    have hA : DataW.TrodAll enc Try.prog W 0 (fun _ => true) true Try.f3.params.toList args.toList ds p := hA
    rw [hp] at hA
    have h2 := (trodAll_len hA).2
    match ds, h2 with
    | [d1, d2], _ => exact ⟨d1, d2, rfl⟩
  obtain ⟨d1, d2, rfl⟩ := two
  refine law_core (T := T0) (T' := Try.T') (fun _ => rfl) (fun _ => rfl) tabOK tabD (by kernel_rfl) Try.func3 rfl (by kernel_rfl) (tb := 4) (by kernel_rfl) (by kernel_rfl) ?_ ?_ ?_ ?_ (s := Rows.statusOfSpec) rfl hval hW hg rfl rfl rfl fun trees ht => law H _ hk trees (by rw [hp] at ht; exact ht)
  · rw [hp]
    intro t ht
    rcases List.mem_cons.1 ht with rfl | ht
    · kernel_rfl
    rcases List.mem_cons.1 ht with rfl | ht
    · kernel_rfl
    cases ht
  · rw [hp]
    intro t ht
    rcases List.mem_cons.1 ht with rfl | ht
    · exact ⟨by kernel_rfl, of_decide_eq_true (by kernel_rfl)⟩
    rcases List.mem_cons.1 ht with rfl | ht
    · exact ⟨by kernel_rfl, of_decide_eq_true (by kernel_rfl)⟩
    cases ht
  · rw [hp]
    intro t ht
    rcases List.mem_cons.1 ht with rfl | ht
    · exact .inl ⟨_, Try.underlying31⟩
    rcases List.mem_cons.1 ht with rfl | ht
    · exact .inl ⟨_, Try.underlying36⟩
    cases ht
  · rw [hp]
    intro t ht
    rcases List.mem_cons.1 ht with rfl | ht
    · exact Nat.ne_of_beq_eq_false (by kernel_rfl)
    rcases List.mem_cons.1 ht with rfl | ht
    · exact Nat.ne_of_beq_eq_false (by kernel_rfl)
    cases ht
set_option maxRecDepth 100000 in
theorem lifted (os : Os) (started : os.Started) (H : Type) (enc : TypeId × Value → H) (F : Stop.Interp) :
    ReturnsInHanded {} Try.checked os 3 .any ((Rows.OpenSpec.upto Rows.statusOfSpec).pre6 enc Try.prog Try.f3 Rows.statusOfUptoRow.domain false) (((Rows.OpenSpec.upto Rows.statusOfSpec).at F).post enc Try.prog Try.f3 false true false false) := by
  refine law_row (C := Try.checked) (s := Rows.OpenSpec.upto Rows.statusOfSpec) (k := Rows.uptoSmall) rfl own started (by kernel_rfl) Try.func3
    (OpenSpec.witness (enc := enc) (C := Try.checked) (s := Rows.OpenSpec.upto Rows.statusOfSpec) (k := Rows.uptoSmall) rfl false ⟨#[], #[zeroCert, zeroList], []⟩ 8 (by kernel_rfl) (by kernel_rfl) (by kernel_rfl)
      (x := ([readCert H, readList H], [], [])) (by kernel_rfl) rfl (by kernel_rfl)) (by kernel_rfl) (of_decide_eq_true (by kernel_rfl)) ?_
  intro W base args ds gs before hval hW hk hg
  exact core H enc F W base args ds gs before hval hW hk hg
theorem over : Rows.statusOfUptoRow.holds Try.pinned (Rows.OpenSpec.upto Rows.statusOfSpec) :=
  OpenClaim.holds_of_cond 3 Try.f3 rfl rfl rfl rfl rfl rfl rfl ⟨rfl, rfl, rfl, rfl, rfl⟩ rfl rfl rfl rfl rfl (by kernel_rfl) Try.func3 (by kernel_rfl)
    (of_decide_eq_true (by kernel_rfl)) (by unfold Func.isWrapper; first | (rw [if_pos (by decide +kernel)]; kernel_rfl) | (rw [if_neg (by decide +kernel)]; exact ⟨rfl, rfl⟩))
    (fun os started H enc _ F => lifted os started H enc F)
theorem proved : Rows.StatusOfUptoSaid :=
  over
end Go.Proofs.Ytngphbjigkgeaaa.statusOf
end

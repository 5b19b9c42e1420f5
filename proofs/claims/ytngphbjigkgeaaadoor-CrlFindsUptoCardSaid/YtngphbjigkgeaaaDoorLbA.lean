/- The evaluator of the program's form and its soundness against the model; what trees stand for. Parts: Ev, EvRel, EvState, EvMoves, EvStore, EvOps, EvEq, EvOps2, EvOps3, EvOps4, EvOps5. -/
import Derived.Calls
import Derived.Orders
import Derived.Laws.Sem
import Derived.Laws.Cells
import Derived.Laws.CopyRow
import Derived.Laws.World
import Derived.Laws.Tables
import Derived.CallsIn
import Derived.OrdersIn
import Derived.ChangeKeysEq
import Derived.Laws.BytesString
import Derived.Laws.MakeOwn
import Derived.Deep.AppendSrc
set_option linter.unusedVariables false
set_option linter.unusedSimpArgs false
set_option linter.unusedSectionVars false
section
namespace Go.Pv
def isYield : Fn → Bool
 | .yield _ => true
 | _ => false
class Glob where
 ix : Nat → Option Nat
inductive Slot where
 | v (x : Value)
 | lp (d off : Nat)
 | dead
inductive Box where
 | no
 | loc (cells : List Value) (elem : TypeId)
 | prom (id : Nat)
inductive PExit where
 | normal
 | exit (id : Nat)
 | goto (l : Nat)
 | ret
 | panic (v : Value)
structure LoopRec where
 state : LoopState
 pending : Option PExit
 dead : List Bool
 params : List Nat
 assign : Code
 body : Code
 kill : Nat → List Nat
inductive LObj where
 | loop (r : LoopRec)
 | dfr
structure Blk where
 cells : List Value
 elem : TypeId
 row : Bool
 ro : Bool
 live : Bool
 obj : Option LObj
abbrev Heap := List Blk
structure St where
 tmps : List Slot
 boxes : List Box
 heap : Heap
abbrev CallF := FuncId → List Value → Heap → Option (Value × Heap)
structure TI where
 desc : TypeDesc
 size : Nat
 bytes : Nat
 zero : Option Value
def tiOf (P : Program) (t : TypeId) : Option TI :=
 match P.info? t, P.underlying t with
 | some i, some d => some ⟨d, i.size, i.bytes, i.zero⟩
 | _, _ => none
def TI.agg (ti : TI) : Bool := match ti.desc with | .struct _ | .array _ _ => true | _ => false
def toInt (k : IntKind) : Value → Option Int
 | .int k' n => bif decide (k = k') then some n else none
 | _ => none
def toBool : Value → Option Bool
 | .bool b => some b
 | _ => none
def toStr : Value → Option ByteArray
 | .string s => some s
 | _ => none
def toAgg : Value → Option (List Value)
 | .agg cs => some cs.toList
 | _ => none
def toSl : Value → Option (Option Addr × Nat × Nat)
 | .slice a n c => some (a, n, c)
 | _ => none
def toPtr : Value → Option (Option Addr)
 | .pointer a => some a
 | _ => none
def toTup : Value → Option (List Value)
 | .tuple vs => some vs.toList
 | _ => none
def intOfV : Value → Option Int
 | .int _ n => some n
 | _ => none
def oneOf : Value → Option Value
 | .agg _ => none
 | .tuple _ => none
 | x => some x
def typed {R : Type} (P : Program) (t : TypeId) (x : Value) (k : Value → Option R) : Option R :=
 match P.underlying t with
 | some (.int kd) => (toInt kd x).bind fun n => k (.int kd n)
 | some .bool => (toBool x).bind fun b => k (.bool b)
 | some .string => (toStr x).bind fun s => k (.string s)
 | some (.struct _) => (toAgg x).bind fun cs => k (.agg ⟨cs⟩)
 | some (.array _ _) => (toAgg x).bind fun cs => k (.agg ⟨cs⟩)
 | some (.slice _) => (toSl x).bind fun s => k (.slice s.1 s.2.1 s.2.2)
 | some (.pointer _) => (toPtr x).bind fun a => k (.pointer a)
 | some (.tuple _) => (toTup x).bind fun vs => k (.tuple ⟨vs⟩)
 | _ => k x
def plain : Value → Bool
 | .int _ _ | .bool _ | .string _ | .nilFunc | .nilIface | .pointer none => true
 | .slice none n c => n == 0 && c == 0
 | .tuple vs => vs.toList.isEmpty
 | _ => false
def cellsOfV (ti : TI) (x : Value) : Option (List Value) :=
 match ti.agg with
 | true => (toAgg x).bind fun cs => bif Nat.beq cs.length ti.size then some cs else none
 | false => bif Nat.beq ti.size 1 then (oneOf x).bind fun y => some [y] else none
def hcell (h : Heap) (id off : Nat) : Option Value :=
 h[id]?.bind fun b => bif b.live then b.cells[off]? else none
def hcells (h : Heap) (id off n : Nat) : Option (List Value) :=
 h[id]?.bind fun b => bif b.live && Nat.ble (off + n) b.cells.length then some ((b.cells.drop off).take n) else none
def splice (cs : List Value) (off : Nat) (vs : List Value) : List Value := cs.take off ++ vs ++ cs.drop (off + vs.length)
def hstore (h : Heap) (id off : Nat) (vs : List Value) : Option Heap :=
 h[id]?.bind fun b => bif b.live && !b.ro && Nat.ble (off + vs.length) b.cells.length then some (h.set id { b with cells := splice b.cells off vs }) else none
def newBlk (cs : List Value) (e : TypeId) : Blk := ⟨cs, e, true, false, true, none⟩
def addrOf (a : Option Addr) : Option (Nat × Nat) :=
 a.bind fun a => bif a.spot.isNone then some (a.block, a.off) else none
def killLp (d : Nat) : List Slot → List Slot
 | [] => []
 | .lp d' o :: r => (bif Nat.beq d' d then .dead else .lp d' o) :: killLp d r
 | s :: r => s :: killLp d r
def St.newBox (st : St) (d : Nat) (cs : List Value) (t : TypeId) : St :=
 { st with tmps := killLp d st.tmps, boxes := st.boxes.set d (.loc cs t) }
def St.put (st : St) (d : Option Tmp) (s : Slot) : St :=
 match d with
 | some d => { st with tmps := st.tmps.set d s }
 | none => st
def promote (st : St) (d : Nat) : Option (Nat × St) :=
 match st.boxes[d]? with
 | some (.prom id) => some (id, st)
 | some (.loc cs e) => some (st.heap.length, { st with boxes := st.boxes.set d (.prom st.heap.length), heap := st.heap ++ [⟨cs, e, false, false, true, none⟩] })
 | _ => none
def out {R : Type} (st : St) (s : Slot) (k : Value → St → Option R) : Option R :=
 match s with
 | .v x => k x st
 | .lp d off => (promote st d).bind fun r => k (.pointer (some ⟨r.1, off, none⟩)) r.2
 | .dead => none
def outs {R : Type} (st : St) (l : List Slot) (k : List Value → St → Option R) : Option R :=
 match l with
 | [] => k [] st
 | s :: r => out st s fun x st => outs st r fun xs st => k (x :: xs) st
def opd [Glob] (st : St) : Operand → Option Slot
 | .tmp t => st.tmps[t]?
 | .const c => bif plain c then some (.v c) else none
 | .func f => some (.v (.func (.func f) #[] #[]))
 | .global g => (Glob.ix g).bind fun i => some (.v (.pointer (some ⟨i, 0, none⟩)))
def opds [Glob] (st : St) : List Operand → Option (List Slot)
 | [] => some []
 | o :: r => (opd st o).bind fun s => (opds st r).bind fun l => some (s :: l)
def valS : Slot → Option Value
 | .v x => some x
 | _ => none
def cellAt (st : St) : Slot → Option Value
 | .lp d off =>
  match st.boxes[d]? with
  | some (.loc cs _) => cs[off]?
  | some (.prom id) => hcell st.heap id off
  | _ => none
 | .v x => (toPtr x).bind fun a => (addrOf a).bind fun p => hcell st.heap p.1 p.2
 | .dead => none
def cellsAt (st : St) (n : Nat) : Slot → Option (List Value)
 | .lp d off =>
  match st.boxes[d]? with
  | some (.loc cs _) => bif Nat.ble (off + n) cs.length then some ((cs.drop off).take n) else none
  | some (.prom id) => hcells st.heap id off n
  | _ => none
 | .v x => (toPtr x).bind fun a => (addrOf a).bind fun p => hcells st.heap p.1 p.2 n
 | .dead => none
def storeAt (st : St) (vs : List Value) : Slot → Option St
 | .lp d off =>
  match st.boxes[d]? with
  | some (.loc cs e) => bif Nat.ble (off + vs.length) cs.length then some { st with boxes := st.boxes.set d (.loc (splice cs off vs) e) } else none
  | some (.prom id) => (hstore st.heap id off vs).bind fun h => some { st with heap := h }
  | _ => none
 | .v x => (toPtr x).bind fun a => (addrOf a).bind fun p => (hstore st.heap p.1 p.2 vs).bind fun h => some { st with heap := h }
 | .dead => none
def moved (st : St) (n : Nat) : Slot → Option Slot
 | .lp d off =>
  match st.boxes[d]? with
  | some (.loc _ _) => some (.lp d (off + n))
  | some (.prom _) => some (.lp d (off + n))
  | _ => none
 | .v x => (toPtr x).bind fun a => (addrOf a).bind fun p => some (.v (.pointer (some ⟨p.1, p.2 + n, none⟩)))
 | .dead => none
def idx (i : Int) (n : Nat) : Option Nat :=
 match i with
 | .ofNat j => bif Nat.blt j n then some j else none
 | .negSucc _ => none
def upTo (i : Int) (n : Nat) : Option Nat :=
 match i with
 | .ofNat j => bif Nat.ble j n then some j else none
 | .negSucc _ => none
def intBin (op : BinOp) (k : IntKind) (a b : Int) : Option Value :=
 match op with
 | .add => some (.int k (k.wrap (a + b)))
 | .sub => some (.int k (k.wrap (a - b)))
 | .mul => some (.int k (k.wrap (a * b)))
 | .quo => bif b == 0 then none else some (.int k (k.wrap (a.tdiv b)))
 | .rem => bif b == 0 then none else some (.int k (a.tmod b))
 | .and => some (.int k (k.wrap (BitVec.ofInt k.bits a &&& BitVec.ofInt k.bits b).toNat))
 | .or => some (.int k (k.wrap (BitVec.ofInt k.bits a ||| BitVec.ofInt k.bits b).toNat))
 | .xor => some (.int k (k.wrap (BitVec.ofInt k.bits a ^^^ BitVec.ofInt k.bits b).toNat))
 | .andNot => some (.int k (k.wrap (BitVec.ofInt k.bits a &&& ~~~ BitVec.ofInt k.bits b).toNat))
 | .eql => some (.bool (a == b))
 | .neq => some (.bool (a != b))
 | .lss => some (.bool (decide (a < b)))
 | .leq => some (.bool (decide (a ≤ b)))
 | .gtr => some (.bool (decide (a > b)))
 | .geq => some (.bool (decide (a ≥ b)))
 | _ => none
def shiftP (op : BinOp) (k : IntKind) (a b : Int) : Option Value :=
 bif decide (b < 0) then none else
 match op with
 | .shl => some (.int k (k.wrap (a * 2 ^ (min b.toNat k.bits))))
 | .shr => some (.int k (a.fdiv (2 ^ (min b.toNat k.bits))))
 | _ => none
def strBin (op : BinOp) (x y : ByteArray) : Option Value :=
 match op with
 | .add => bif Nat.ble (x.size + y.size) 9223372036854775807 then some (.string (x ++ y)) else none
 | .eql => some (.bool (x.toList == y.toList))
 | .neq => some (.bool (!(x.toList == y.toList)))
 | .lss => some (.bool (Op.bytesLess x.toList y.toList))
 | .leq => some (.bool (Op.bytesLess x.toList y.toList || x.toList == y.toList))
 | .gtr => some (.bool (!(Op.bytesLess x.toList y.toList || x.toList == y.toList)))
 | .geq => some (.bool (!(Op.bytesLess x.toList y.toList)))
 | _ => none
inductive CK where
 | int
 | bool
 | str
def eqCell : CK → Value → Value → Option Bool
 | .int, .int k a, .int k' b => bif decide (k = k') then some (a == b) else none
 | .bool, .bool a, .bool b => some (a == b)
 | .str, .string a, .string b => some (a == b)
 | _, _, _ => none
def eqCells : List CK → List Value → List Value → Option Bool
 | [], [], [] => some true
 | c :: cs, x :: xs, y :: ys => (eqCell c x y).bind fun b => bif b then eqCells cs xs ys else some false
 | _, _, _ => none
def kindsRow (P : Program) (f : TypeId → Option (List CK)) : List Field → Nat → Option (List CK)
 | [], _ => some []
 | g :: r, off => bif Nat.beq g.offset off && g.name != "_" then (f g.type).bind fun a => (kindsRow P f r (off + P.cellsOf g.type)).bind fun b => some (a ++ b) else none
def sized (P : Program) (t : TypeId) (l : List CK) : Option (List CK) := bif (P.info? t).isSome && Nat.beq l.length (P.cellsOf t) then some l else none
def kindsOf (P : Program) : Nat → TypeId → Option (List CK)
 | 0, _ => none
 | d + 1, t =>
  match P.underlying t with
  | some (.int _) => sized P t [.int]
  | some .bool => sized P t [.bool]
  | some .string => sized P t [.str]
  | some (.struct fs) => bif P.stoodInHeld t then none else (kindsRow P (kindsOf P d) fs.toList 0).bind (sized P t)
  | some (.array n e) => (kindsOf P d e).bind fun l => sized P t (List.replicate n l).flatten
  | _ => none
def eqAgg (P : Program) (t : TypeId) (x y : Value) : Option Bool :=
 (kindsOf P 100 t).bind fun ks => (toAgg x).bind fun xs => (toAgg y).bind fun ys => bif P.eqGuardType P.depth t || !(Nat.beq xs.length (P.cellsOf t) && Nat.beq ys.length (P.cellsOf t)) then none else eqCells ks xs ys
def eqFn (x y : Value) : Option Bool :=
 match x, y with
 | .nilFunc, .nilFunc => some true
 | .nilFunc, .func _ _ _ => some false
 | .func _ _ _, .nilFunc => some false
 | _, _ => none
def eqIf (lit : Bool) (x y : Value) : Option Bool :=
 match x, y with
 | .nilIface, .nilIface => bif lit then some true else none
 | .nilIface, .iface _ _ => some false
 | .iface _ _, .nilIface => some false
 | _, _ => none
def eqP (P : Program) (lit : Bool) (t : TypeId) (x y : Value) : Option Bool :=
 match P.underlying t with
 | some .bool => (toBool x).bind fun a => (toBool y).bind fun b => some (a == b)
 | some (.slice _) => (toSl x).bind fun a => (toSl y).bind fun b =>
  match a.1, b.1 with
  | none, b => some b.isNone
  | some _, none => some false
  | some _, some _ => none
 | some (.pointer _) => (toPtr x).bind fun a => (toPtr y).bind fun b =>
  match a, b with
  | none, b => some b.isNone
  | some _, none => some false
  | some _, some _ => none
 | some (.func _ _ _) => eqFn x y
 | some (.interface _) => eqIf lit x y
 | some (.struct _) | some (.array _ _) => eqAgg P t x y
 | _ => none
def isConst : Operand → Bool
 | .const _ => true
 | _ => false
def binP (P : Program) (op : BinOp) (t : TypeId) (lit : Bool) (x y : Value) : Option Value :=
 match op with
 | .shl | .shr => match x, y with | .int k a, .int _ b => shiftP op k a b | _, _ => none
 | _ =>
  match x, y with
  | .int k a, .int k' b => bif decide (k = k') then intBin op k a b else none
  | .string a, .string b => strBin op a b
  | x, y =>
   match op with
   | .eql => (eqP P lit t x y).bind fun b => some (.bool b)
   | .neq => (eqP P lit t x y).bind fun b => some (.bool (!b))
   | _ => none
def unP (op : UnOp) (x : Value) : Option Value :=
 match op, x with
 | .neg, .int k n => some (.int k (k.wrap (0 - n)))
 | .xor, .int k n => some (.int k (k.wrap (BitVec.ofInt k.bits (if k.signed then -1 else k.max) ^^^ BitVec.ofInt k.bits n).toNat))
 | .not, .bool b => some (.bool !b)
 | _, _ => none
def fillP (place : Nat → Option (Nat × TI)) (cs : List Value) : List (Nat × Value) → Option (List Value)
 | [] => some cs
 | p :: r => (place p.1).bind fun q => (cellsOfV q.2 p.2).bind fun vs => bif Nat.ble (q.1 + vs.length) cs.length then fillP place (splice cs q.1 vs) r else none
def fieldTI (P : Program) (fs : List Field) (i : Nat) : Option (Nat × TI) := fs[i]?.bind fun f => (tiOf P f.type).bind fun ti => some (f.offset, ti)
def repeatCells (z : List Value) : Nat → List Value
 | 0 => []
 | n + 1 => z ++ repeatCells z n
def zeroOf (ti : TI) : Option (List Value) := ti.zero.bind fun z => bif (z.cells.toList.all fun v => plain v && v.oneCell') && Nat.beq z.cells.toList.length ti.size then some z.cells.toList else none
def valsAt [Glob] (st : St) : List (Nat × Operand) → Option (List (Nat × Value))
 | [] => some []
 | p :: r => (opd st p.2).bind fun s => (valS s).bind fun x => (valsAt st r).bind fun l => some ((p.1, x) :: l)
def bound (o : Option Slot) (top other : Nat) : Option Nat :=
 match o with
 | none => some other
 | some s => (valS s).bind fun x => (intOfV x).bind fun i => upTo i top
def opdO [Glob] (st : St) : Option Operand → Option (Option Slot)
 | none => some none
 | some o => (opd st o).bind fun s => some (some s)
def toBytes : List Value → Option (List UInt8)
 | [] => some []
 | .int .u8 n :: r => (toBytes r).bind fun l => some (UInt8.ofNat n.toNat :: l)
 | _ :: _ => none
def ofBytes (s : ByteArray) : List Value := s.data.toList.map fun b => .int .u8 b.toNat
def news (h : Heap) (size : Nat) : Value → Option (Nat × List Value)
 | .slice none n _ => bif Nat.beq n 0 then some (0, []) else none
 | .slice (some a) n _ => (addrOf (some a)).bind fun p => (hcells h p.1 p.2 (n * size)).bind fun cs => some (n, cs)
 | .string s => some (s.size, ofBytes s)
 | _ => none
def room : Nat := 140737488355328
def appendP {R : Type} (h : Heap) (e : TypeId) (ti : TI) (a : Option Addr) (len c : Nat) (n : Nat) (cs : List Value) (k : Value → Heap → Option R) : Option R :=
 bif Nat.ble ((len + n) * ti.bytes) room && Nat.ble (len + n) 9223372036854775807 && Nat.ble 1 ti.size then
  match a with
  | none => bif Nat.beq len 0 then (bif Nat.beq n 0 then k (.slice none 0 0) h else k (.slice (some ⟨h.length, 0, none⟩) n n) (h ++ [newBlk cs e])) else none
  | some a => (addrOf (some a)).bind fun p => h[p.1]?.bind fun b =>
   bif b.live && !b.ro && b.row && Nat.beq b.elem e && Nat.beq p.2 0 then
    bif !Nat.beq c len && Nat.ble (len + n) c then (hstore h p.1 (len * ti.size) cs).bind fun h => k (.slice (some ⟨p.1, 0, none⟩) (len + n) c) h
    else bif Nat.beq (len * ti.size) b.cells.length then
     k (.slice (some ⟨h.length, 0, none⟩) (len + n) (len + n)) (h.set p.1 { b with live := false } ++ [newBlk (b.cells ++ cs) e])
    else none
   else none
 else none
def builtinP {R : Type} (P : Program) (b : Builtin) (ts : List TypeId) (xs : List Value) (st : St) (k : Slot → St → Option R) : Option R :=
 match b, ts, xs with
 | .len, [t], [x] => (P.underlying t).bind fun d =>
  match d with
  | .string => (toStr x).bind fun s => k (.v (.int .i64 s.size)) st
  | .slice _ => (toSl x).bind fun s => k (.v (.int .i64 s.2.1)) st
  | .array n _ => k (.v (.int .i64 n)) st
  | _ => none
 | .cap, [t], [x] => (P.underlying t).bind fun d =>
  match d with
  | .slice _ => (toSl x).bind fun s => bif s.1.isNone then k (.v (.int .i64 s.2.2)) st else none
  | _ => none
 | .append, [t, tx], [s, x] => (P.underlying t).bind fun d =>
  match d with
  | .slice e => (tiOf P e).bind fun ti => (toSl s).bind fun s => (zeroOf ti).bind fun z => (P.underlying tx).bind fun d =>
   match d with
   | .int _ => (intOfV x).bind fun m => (upTo m 9223372036854775807).bind fun m =>
    bif s.1.isNone && Nat.ble (m * ti.bytes) room && Nat.ble 1 ti.size then appendP st.heap e ti s.1 s.2.1 s.2.2 m (repeatCells z m) fun v h => k (.v v) { st with heap := h } else none
   | .slice _ => (toSl x).bind fun x => (news st.heap ti.size (.slice x.1 x.2.1 x.2.2)).bind fun q => appendP st.heap e ti s.1 s.2.1 s.2.2 q.1 q.2 fun v h => k (.v v) { st with heap := h }
   | .string => (toStr x).bind fun x => bif Nat.beq ti.size 1 then (news st.heap ti.size (.string x)).bind fun q => appendP st.heap e ti s.1 s.2.1 s.2.2 q.1 q.2 fun v h => k (.v v) { st with heap := h } else none
   | _ => none
  | _ => none
 | .copy, [t, tx], [s, x] => (P.underlying t).bind fun d =>
  match d with
  | .slice e => (tiOf P e).bind fun ti => (toSl s).bind fun s => (toSl x).bind fun x =>
   match s.1, x.1 with
   | some da, some xa => (addrOf (some da)).bind fun p => (addrOf (some xa)).bind fun q =>
    (hcells st.heap q.1 q.2 (Nat.min x.2.1 s.2.1 * ti.size)).bind fun cs => (hstore st.heap p.1 p.2 cs).bind fun h => k (.v (.int .i64 (Nat.min x.2.1 s.2.1 : Nat))) { st with heap := h }
   | _, _ => bif Nat.beq (Nat.min x.2.1 s.2.1) 0 then k (.v (.int .i64 0)) st else none
  | _ => none
 | .min, _, [.int q a, .int q' b] => bif decide (q = q') then k (.v (.int q (if b < a then b else a))) st else none
 | .max, _, [.int q a, .int q' b] => bif decide (q = q') then k (.v (.int q (if b > a then b else a))) st else none
 | _, _, _ => none
def shield (h : Heap) : Heap := h.map fun b => { b with ro := true, obj := none }
def appendQ {R : Type} (h : Heap) (e : TypeId) (ti : TI) (a : Option Addr) (len c : Nat) (n : Nat) (cs : List Value) (k : Value → Heap → Option R) : Option R :=
 bif Nat.ble (n * ti.bytes) room && Nat.ble n 9223372036854775807 && Nat.ble 1 ti.size && Nat.beq len 0 && Nat.beq c 0 then
  match a with
  | none => bif Nat.beq n 0 then k (.slice none 0 0) h else k (.slice (some ⟨h.length, 0, none⟩) n n) (h ++ [newBlk cs e])
  | some a => (addrOf (some a)).bind fun p => h[p.1]?.bind fun b =>
   bif b.live && !b.ro && b.row && Nat.beq b.elem e && Nat.beq p.2 0 then
    bif Nat.beq n 0 then k (.slice (some a) 0 0) h else k (.slice (some ⟨h.length, 0, none⟩) n n) (h ++ [newBlk cs e])
   else none
 else none
def appQ {R : Type} (P : Program) (ts : List TypeId) (xs : List Value) (st : St) (k : Slot → St → Option R) : Option R :=
 match ts, xs with
 | [t, tx], [s, x] => (P.underlying t).bind fun d =>
  match d with
  | .slice e => (tiOf P e).bind fun ti => (toSl s).bind fun s => (zeroOf ti).bind fun z => (P.underlying tx).bind fun d =>
   match d with
   | .slice _ => (toSl x).bind fun x => (news st.heap ti.size (.slice x.1 x.2.1 x.2.2)).bind fun q => appendQ st.heap e ti s.1 s.2.1 s.2.2 q.1 q.2 fun v h => k (.v v) { st with heap := h }
   | .string => (toStr x).bind fun x => bif Nat.beq ti.size 1 then (news st.heap ti.size (.string x)).bind fun q => appendQ st.heap e ti s.1 s.2.1 s.2.2 q.1 q.2 fun v h => k (.v v) { st with heap := h } else none
   | _ => none
  | _ => none
 | _, _ => none
def isApp (prot : Bool) : Builtin → Bool
 | .append => prot
 | _ => false
def callP (C : CallF) (prot : Bool) (f : FuncId) (xs : List Value) (h : Heap) : Option (Value × Heap) :=
 match prot with
 | false => C f xs h
 | true => (C f xs (shield h)).bind fun r => some (r.1, h ++ r.2.drop h.length)
def evalOp [Glob] {R : Type} (P : Program) (C : CallF) (prot : Bool) (o : Oper) (st : St) (k : Slot → St → Option R) : Option R :=
 match o.op with
 | .move x => (opd st x).bind fun s => k s st
 | .assign x => (opd st x).bind fun s => k s st
 | .pick c a b => (opd st c).bind fun s => (valS s).bind fun x => (toBool x).bind fun t =>
   bif t then (opd st a).bind fun s => k s st else (opd st b).bind fun s => k s st
 | .alloc t => o.dst.bind fun d => (tiOf P t).bind fun ti => (zeroOf ti).bind fun z => bif Nat.blt d st.boxes.length then k (.lp d 0) (st.newBox d z t) else none
 | .box t x => o.dst.bind fun d => (tiOf P t).bind fun ti => (opd st x).bind fun s => out st s fun x st => (cellsOfV ti x).bind fun cs =>
   bif Nat.blt d st.boxes.length then k (.lp d 0) (st.newBox d cs t) else none
 | .build t parts => (tiOf P t).bind fun ti => (zeroOf ti).bind fun z => (valsAt st parts.toList).bind fun ps =>
   match ti.desc with
   | .struct fs => bif fs.toList.all fun f => (P.info? f.type).isSome then (fillP (fieldTI P fs.toList) z ps).bind fun cs => k (.v (.agg ⟨cs⟩)) st else none
   | .array _ e => (tiOf P e).bind fun te => (fillP (fun i => some (i * te.size, te)) z ps).bind fun cs => k (.v (.agg ⟨cs⟩)) st
   | _ => none
 | .buildSlice t len parts => (tiOf P t).bind fun ti => (valsAt st parts.toList).bind fun ps =>
   match ti.desc with
   | .slice e => (tiOf P e).bind fun te => (zeroOf te).bind fun z => bif Nat.ble (len * te.size) 16777216 && Nat.ble 1 te.size then
     (fillP (fun i => some (i * te.size, te)) (repeatCells z len) ps).bind fun cs =>
     k (.v (.slice (some ⟨st.heap.length, 0, none⟩) len len)) { st with heap := st.heap ++ [newBlk cs e] } else none
   | _ => none
 | .load t a => (tiOf P t).bind fun ti => (opd st a).bind fun s =>
   match ti.agg with
   | true => (cellsAt st ti.size s).bind fun cs => k (.v (.agg ⟨cs⟩)) st
   | false => (cellAt st s).bind fun x => typed P t x fun x => k (.v x) st
 | .store t a x => (tiOf P t).bind fun ti => (opd st a).bind fun sa => (opd st x).bind fun sx => out st sx fun x st => (cellsOfV ti x).bind fun vs => (storeAt st vs sa).bind fun st => k (.v undef) st
 | .nilCheck x => (opd st x).bind fun s => match s with
   | .lp d off => (moved st 0 (.lp d off)).bind fun s => k s st
   | .v x => (toPtr x).bind fun a => a.bind fun a => k (.v (.pointer (some a))) st
   | .dead => none
 | .binOp op t ox oy _ => (opd st ox).bind fun sx => (opd st oy).bind fun sy => (valS sx).bind fun x => (valS sy).bind fun y => (binP P op t (isConst ox || isConst oy) x y).bind fun r => k (.v r) st
 | .unOp op _ x => (opd st x).bind fun sx => (valS sx).bind fun x => (unP op x).bind fun r => k (.v r) st
 | .convert src dst x => (P.underlying src).bind fun ds => (P.underlying dst).bind fun dd => (opd st x).bind fun sx => (valS sx).bind fun x =>
   match dd with
   | .int kd => (intOfV x).bind fun n => k (.v (.int kd (kd.wrap n))) st
   | .string => match ds with
    | .slice e => (toSl x).bind fun s => bif (match P.underlying e with | some (.int .u8) => true | _ => false) then
      match s.1 with
      | none => k (.v (.string .empty)) st
      | some a => (addrOf (some a)).bind fun p => (hcells st.heap p.1 p.2 s.2.1).bind fun cs => (toBytes cs).bind fun bs => k (.v (.string ⟨⟨bs⟩⟩)) st
     else none
    | .string => (toStr x).bind fun s => k (.v (.string s)) st
    | _ => none
   | .slice e => match ds with
    | .string => (toStr x).bind fun s => bif (match P.underlying e with | some (.int .u8) => true | _ => false) && Nat.beq (P.cellsOf e) 1 && Nat.ble s.size 9223372036854775807 then
      k (.v (.slice (some ⟨st.heap.length, 0, none⟩) s.size s.size)) { st with heap := st.heap ++ [⟨ofBytes s, e, true, true, true, none⟩] } else none
    | _ => none
   | _ => none
 | .sliceToArrayPointer arr x => (P.underlying arr).bind fun d => (opd st x).bind fun sx => (valS sx).bind fun x => (toSl x).bind fun s =>
   match d with
   | .array n _ => bif Nat.ble n s.2.1 && Nat.ble 1 n then k (.v (.pointer s.1)) st else none
   | _ => none
 | .makeInterface t x => (P.underlying t).bind fun d => (opd st x).bind fun sx => out st sx fun x st =>
   match d with
   | .interface _ => none
   | _ => k (.v (.iface t x)) st
 | .makeFunc fn first captured => bif isYield fn then none else (opds st first.toList).bind fun sf => (opds st captured.toList).bind fun sc => outs st sf fun fs st => outs st sc fun cs st => k (.v (.func fn ⟨fs⟩ ⟨cs⟩)) st
 | .makeSlice t l c => (tiOf P t).bind fun ti => (opd st l).bind fun sl => (opd st c).bind fun sc => (valS sl).bind fun l => (valS sc).bind fun c => (intOfV l).bind fun l => (intOfV c).bind fun c =>
   match ti.desc with
   | .slice e => (tiOf P e).bind fun te => (zeroOf te).bind fun z => (upTo l 9223372036854775807).bind fun l => (upTo c 9223372036854775807).bind fun c =>
     bif Nat.beq l c && Nat.ble (c * te.bytes) room then k (.v (.slice (some ⟨st.heap.length, 0, none⟩) l l)) { st with heap := st.heap ++ [newBlk (repeatCells z l) e] } else none
   | _ => none
 | .slice t x lo hi mx => bif mx.isNone || hi.isSome then (P.underlying t).bind fun d => (opd st x).bind fun sx => (opdO st lo).bind fun slo => (opdO st hi).bind fun shi => (opdO st mx).bind fun smx =>
   (match d with
   | .string => (valS sx).bind fun x => (toStr x).bind fun s => match smx with
    | none => (bound shi s.size s.size).bind fun h => (bound slo h 0).bind fun l => k (.v (.string (s.extract l h))) st
    | some _ => none
   | .slice e => (tiOf P e).bind fun te => bif Nat.ble 1 te.size then ((valS sx).bind fun x => (toSl x).bind fun s =>
     (bound smx s.2.2 s.2.2).bind fun m => (bound shi m s.2.1).bind fun h => (bound slo h 0).bind fun l =>
     match s.1 with
     | none => k (.v (.slice none 0 0)) st
     | some a => (addrOf (some a)).bind fun p => k (.v (.slice (some ⟨p.1, p.2 + l * te.size, none⟩) (h - l) (m - l))) st) else none
   | .array n e => bif Nat.ble n 9223372036854775807 then (tiOf P e).bind fun te => (bound smx n n).bind fun m => (bound shi m n).bind fun h => (bound slo h 0).bind fun l =>
     match sx with
     | .lp d off => (promote st d).bind fun r => k (.v (.slice (some ⟨r.1, off + l * te.size, none⟩) (h - l) (m - l))) r.2
     | .v x => (toPtr x).bind fun a => (addrOf a).bind fun p => st.heap[p.1]?.bind fun b => bif b.row || !b.live then none else
       k (.v (.slice (some ⟨p.1, p.2 + l * te.size, none⟩) (h - l) (m - l))) st
     | .dead => none
    else none
   | _ => none) else none
 | .fieldAddr t x f => (P.underlying t).bind fun d => (opd st x).bind fun s =>
   match d with
   | .struct fs => (fieldTI P fs.toList f).bind fun q => bif Nat.beq q.2.size 0 then none else (moved st q.1 s).bind fun s => k s st
   | _ => none
 | .field t x f => (P.underlying t).bind fun d => (opd st x).bind fun s => (valS s).bind fun x => (toAgg x).bind fun cs =>
   match d with
   | .struct fs => (fieldTI P fs.toList f).bind fun q =>
     match q.2.agg with
     | true => bif Nat.ble (q.1 + q.2.size) cs.length then k (.v (.agg ⟨(cs.drop q.1).take q.2.size⟩)) st else none
     | false => cs[q.1]?.bind fun x => typed P o.type x fun x => k (.v x) st
   | _ => none
 | .indexAddr t x i => (P.underlying t).bind fun d => (opd st x).bind fun s => (opd st i).bind fun si => (valS si).bind fun i => (intOfV i).bind fun i =>
   match d with
   | .array n e => (tiOf P e).bind fun te => (idx i n).bind fun j => (moved st (j * te.size) s).bind fun s => k s st
   | .slice e => (tiOf P e).bind fun te => (valS s).bind fun x => (toSl x).bind fun q => (idx i q.2.1).bind fun j => (addrOf q.1).bind fun p => k (.v (.pointer (some ⟨p.1, p.2 + j * te.size, none⟩))) st
   | _ => none
 | .index t x i => (P.underlying t).bind fun d => (opd st x).bind fun s => (opd st i).bind fun si => (valS s).bind fun x => (valS si).bind fun i => (intOfV i).bind fun i =>
   match d with
   | .string => (toStr x).bind fun b => (idx i b.size).bind fun j => k (.v (.int .u8 (b.data.toList.getD j 0).toNat)) st
   | .array n e => (tiOf P e).bind fun te => (toAgg x).bind fun cs => (idx i n).bind fun j =>
     match te.agg with
     | true => bif Nat.ble (j * te.size + te.size) cs.length then k (.v (.agg ⟨(cs.drop (j * te.size)).take te.size⟩)) st else none
     | false => cs[j * te.size]?.bind fun x => typed P o.type x fun x => k (.v x) st
   | _ => none
 | .extract t ix => (opd st t).bind fun s => (valS s).bind fun x => (toTup x).bind fun vs => vs[ix]?.bind fun x => typed P o.type x fun x => k (.v x) st
 | .call c =>
   match c.callee with
   | .value f => (opd st f).bind fun sf => (valS sf).bind fun fv => (opds st c.args.toList).bind fun ss => outs st ss fun xs st =>
     match fv with
     | .func (.func g) first captured => (callP C prot g (first.toList ++ xs ++ captured.toList) st.heap).bind fun r => typed P o.type r.1 fun x => k (.v x) { st with heap := r.2 }
     | _ => none
   | .builtin b => (opds st c.args.toList).bind fun ss => outs st ss fun xs st => match isApp prot b with
     | true => appQ P c.argTypes.toList xs st k
     | false => builtinP P b c.argTypes.toList xs st k
   | .invoke _ _ => none
 | _ => none
def guardK {R : Type} (ops : Array Oper) (o : Oper) (st : St) (run skip : St → Option R) : Option R :=
 match o.guard with
 | none => run st
 | some (j, want) =>
  ((ops[j]?).bind (·.dst)).bind fun g => (st.tmps[g]?).bind fun s => (valS s).bind fun x =>
   match x with
   | .bool b => bif b then
     (match want with
      | true => run { st with tmps := st.tmps.set g (.v (.bool true)) }
      | false => skip { st with tmps := st.tmps.set g (.v (.bool true)) })
    else
     (match want with
      | false => run { st with tmps := st.tmps.set g (.v (.bool false)) }
      | true => skip { st with tmps := st.tmps.set g (.v (.bool false)) })
   | .tuple _ => skip st
   | _ => none
def evalOps [Glob] {R : Type} (P : Program) (C : CallF) (ops : Array Oper) : List Oper → St → (St → Option R) → Option R
 | [], st, k => k st
 | o :: r, st, k =>
  guardK ops o st (fun st => evalOp P C false o st fun s st => evalOps P C ops r (st.put o.dst s) k) (fun st => evalOps P C ops r (st.put o.dst (.v undef)) k)
def maskOf (ms : List Nat) (o : Oper) : Nat := o.after.toList.foldl (fun m e => bif Region.binds .any e then Nat.lor m (Nat.lor (2 ^ e.on) (ms.getD e.on 0)) else m) 0
def masksOf : List Oper → List Nat → List Nat
 | [], ms => ms
 | o :: r, ms => masksOf r (ms ++ [maskOf ms o])
def behind (ms : List Nat) (i j : Nat) : Bool := Nat.testBit (ms.getD i 0) j
def firm (ms : List Nat) (n i : Nat) : Bool := (List.range n).all fun j => bif Nat.blt j i then behind ms i j else Nat.beq j i || behind ms j i
def makes : Op → Bool
 | .alloc _ | .box _ _ => true
 | _ => false
def floats : Op → Bool
 | .move _ | .assign _ | .pick _ _ _ | .alloc _ | .box _ _ | .build _ _ | .buildSlice _ _ _ | .load _ _ | .nilCheck _ | .binOp _ _ _ _ _ | .unOp _ _ _ | .convert _ _ _ | .sliceToArrayPointer _ _ | .makeInterface _ _ | .makeFunc _ _ _ | .makeSlice _ _ _
 | .slice _ _ _ _ _ | .fieldAddr _ _ _ | .field _ _ _ | .indexAddr _ _ _ | .index _ _ _ | .extract _ _ => true
 | .call c => match c.callee with
  | .value _ => true
  | .builtin .len | .builtin .cap | .builtin .min | .builtin .max | .builtin .append => true
  | _ => false
 | _ => false
def mayLp : Op → Bool
 | .move _ | .assign _ | .pick _ _ _ | .load _ _ | .nilCheck _ | .fieldAddr _ _ _ | .indexAddr _ _ _ => true
 | _ => false
def isNo : Option Box → Bool
 | some .no => true
 | _ => false
def lpsOf : List Slot → List Nat
 | [] => []
 | .lp d _ :: r => d :: lpsOf r
 | _ :: r => lpsOf r
def focT (keep : List Nat) : Nat → List Slot → List Slot
 | _, [] => []
 | i, s :: r => (bif keep.elem i then s else .dead) :: focT keep (i + 1) r
def focB (keep : List Nat) : Nat → List Box → List Box
 | _, [] => []
 | i, b :: r => (bif keep.elem i then b else .no) :: focB keep (i + 1) r
def focus (ops : Array Oper) (o : Oper) (st : St) : St := ⟨focT (o.looksAt ops) 0 st.tmps, focB (lpsOf (focT (o.looksAt ops) 0 st.tmps)) 0 st.boxes, st.heap⟩
def dsts (ops : List Oper) : List Nat := ops.filterMap fun o => bif makes o.op then o.dst else none
def killAll : List Nat → St → St
 | [], st => st
 | d :: r, st => killAll r { st with tmps := killLp d (st.tmps.set d .dead), boxes := st.boxes.set d .no }
def isAl (ops : Array Oper) (j d : Nat) : Bool := (ops[j]?).any fun o => makes o.op && o.dst == some d
def lpOK (ops : Array Oper) (ms : List Nat) (i : Nat) : Slot → Bool
 | .lp d _ => (List.range ops.size).all fun j => !isAl ops j d || Nat.beq j i || behind ms i j
 | _ => true
def lpIn (φ : St) : Slot → Bool
 | .lp d _ => match φ.boxes[d]? with
  | some .no => false
  | some _ => true
  | none => false
 | _ => true
def clearLp (ops : Array Oper) (m : Nat) (l : List Slot) : Bool :=
 l.all fun | .lp d _ => (List.range ops.size).all fun j => !isAl ops j d || Nat.blt j m
           | _ => true
def floatOK (o : Oper) (st φ : St) : Bool :=
 floats o.op && (mayLp o.op || (lpsOf φ.tmps).isEmpty) && (!makes o.op || isNo (o.dst.bind (st.boxes[·]?)))
def merge (o : Oper) (s : Slot) (st φ : St) : St where
 tmps := match o.dst with
  | some d => st.tmps.set d s
  | none => st.tmps
 boxes := match makes o.op, o.dst with
  | true, some d => st.boxes.set d (φ.boxes.getD d .no)
  | _, _ => st.boxes
 heap := φ.heap
def pureT (ops : Array Oper) (o : Oper) : Bool := o.guard.isNone && (match o.dst with
 | some d => !(o.looksAt ops).elem d
 | none => false) && match o.op with
 | .move (.tmp _) => true
 | .binOp .add _ (.tmp _) (.tmp _) _ => true
 | .extract (.tmp _) _ => true
 | _ => false
def isStore (o : Oper) : Bool := o.guard.isNone && o.dst.isNone && match o.op with
 | .store _ (.tmp _) (.tmp _) => true
 | _ => false
def semi (ops : Array Oper) (ms : List Nat) (e : Nat) : Bool :=
 match ops[e]? with
 | some o => isStore o && (List.range ops.size).all fun j => Nat.beq j e || bif Nat.blt j e then
   behind ms e j || (match ops[j]? with
    | some p => pureT ops p && (match p.dst with
     | some d => !(o.looksAt ops).elem d
     | none => false)
    | none => false)
   else behind ms j e && (List.range e).all fun l => behind ms e l || behind ms j l
 | none => false
def frm (ops : Array Oper) (ms : List Nat) (i : Nat) : Bool := firm ms ops.size i || semi ops ms i
def pairOK (ops : Array Oper) (ms : List Nat) (i k : Nat) : Bool :=
 match ops[i]?, ops[k]? with
 | some x, some y => (match x.dst with | some d => y.dst != some d && (behind ms k i || !(y.looksAt ops).elem d) | none => true) && (match y.dst with | some d => !(x.looksAt ops).elem d | none => true)
 | _, _ => true
def drawOK (ops : Array Oper) (ms : List Nat) : Bool :=
 (List.range ops.size).all fun k => Nat.blt (ms.getD k 0) (2 ^ k) && (frm ops ms k || (List.range k).all fun i => frm ops ms i || pairOK ops ms i k)
def evalDraw [Glob] {R : Type} (P : Program) (C : CallF) (ops : Array Oper) (ms : List Nat) : Nat → List Oper → St → (St → Option R) → Option R
 | _, [], st, k => k st
 | i, o :: r, st, k =>
  bif frm ops ms i then
   guardK ops o st (fun st => evalOp P C false o st fun s st => bif clearLp ops (i + 1) (st.put o.dst s).tmps then evalDraw P C ops ms (i + 1) r (st.put o.dst s) k else none)
    (fun st => bif clearLp ops (i + 1) (st.put o.dst (.v undef)).tmps then evalDraw P C ops ms (i + 1) r (st.put o.dst (.v undef)) k else none)
  else
   guardK ops o st (fun st => bif floatOK o st (focus ops o st) then evalOp P C true o (focus ops o st) fun s φ => bif lpOK ops ms i s && lpIn φ s then evalDraw P C ops ms (i + 1) r (merge o s st φ) k else none else none)
    (fun st => evalDraw P C ops ms (i + 1) r (st.put o.dst (.v undef)) k)
def slicedIn : List Oper → List Nat
 | [] => []
 | o :: r => match o.op with
  | .slice _ (.tmp t) _ _ _ => t :: slicedIn r
  | _ => slicedIn r
def boxed : Option Box → Bool
 | some (.loc _ _) => true
 | some (.prom _) => true
 | some .no => false
 | none => false
def pre {R : Type} (st : St) (l : List Nat) (k : St → Option R) : Option R :=
 match l with
 | [] => k st
 | t :: l =>
  match st.tmps[t]? with
  | some (.lp d off) => bif boxed st.boxes[d]? then out st (.lp d off) fun x st => pre { st with tmps := st.tmps.set t (.v x) } l k else pre st l k
  | _ => pre st l k
def evalRegion [Glob] {R : Type} (P : Program) (C : CallF) (draw : Bool) (ops : Array Oper) (st : St) (k : St → Option R) : Option R :=
 match draw with
 | false => evalOps P C ops ops.toList st k
 | true => pre st (slicedIn ops.toList) fun st => bif drawOK ops (masksOf ops.toList []) && P.follows .mixedOrders && clearLp ops 0 (killAll (dsts ops.toList) st).tmps then evalDraw P C ops (masksOf ops.toList []) 0 ops.toList (killAll (dsts ops.toList) st) k else none
def killTmps (l : List Nat) (st : St) : St :=
 match l with
 | [] => st
 | d :: r => killTmps r { st with tmps := st.tmps.set d .dead, boxes := st.boxes.set d .no }
end Go.Pv
end
section
namespace Go.Pv
variable [Glob]
structure RB where
 b : Nat
 base : Nat
 csz : Nat
 unit : Option Nat
abbrev Rho := List (Option RB)
def Rho.at (ρ : Rho) (id : Nat) (rb : RB) : Prop := ρ[id]? = some (some rb)
 mutual
inductive VR (ρ : Rho) : Value → Value → Prop where
 | int (k : IntKind) (n : Int) : VR ρ (.int k n) (.int k n)
 | bool (b : Bool) : VR ρ (.bool b) (.bool b)
 | string (s : ByteArray) : VR ρ (.string s) (.string s)
 | nilFunc : VR ρ .nilFunc .nilFunc
 | nilIface : VR ρ .nilIface .nilIface
 | nilPtr : VR ρ (.pointer none) (.pointer none)
 | ptr (id off : Nat) (rb : RB) (h : ρ.at id rb) : VR ρ (.pointer (some ⟨id, off, none⟩)) (.pointer (some ⟨rb.b, rb.base + off, none⟩))
 | nilSlice : VR ρ (.slice none 0 0) (.slice none 0 0)
 | slice (id off n c c' : Nat) (rb : RB) (h : ρ.at id rb) (hn : n ≤ c) (hc : c ≤ c') (hm : c' ≤ 9223372036854775807) (hu : off = 0 → ∀ u, rb.unit = some u → c' * u ≤ rb.csz ∧ (c = 0 → 0 < u → c' = 0)) :
   VR ρ (.slice (some ⟨id, off, none⟩) n c) (.slice (some ⟨rb.b, rb.base + off, none⟩) n c')
 | empty (id off : Nat) (A : Addr) (rb : RB) (h : ρ.at id rb) : VR ρ (.slice (some ⟨id, off, none⟩) 0 0) (.slice (some A) 0 0)
 | func (fn : Fn) (hf : isYield fn = false) (xs ys zs ws : List Value) (h : VRs ρ xs ys) (h' : VRs ρ zs ws) : VR ρ (.func fn ⟨xs⟩ ⟨zs⟩) (.func fn ⟨ys⟩ ⟨ws⟩)
 | yield (id : Nat) (rb : RB) (h : ρ.at id rb) : VR ρ (.func (.yield id) ⟨[]⟩ ⟨[]⟩) (.func (.yield rb.b) ⟨[]⟩ ⟨[]⟩)
 | iface (t : TypeId) (x y : Value) (h : VR ρ x y) : VR ρ (.iface t x) (.iface t y)
 | agg (xs ys : List Value) (h : VRs ρ xs ys) (h1 : ∀ x ∈ xs, x.oneCell' = true) : VR ρ (.agg ⟨xs⟩) (.agg ⟨ys⟩)
 | tuple (xs ys : List Value) (h : VRs ρ xs ys) : VR ρ (.tuple ⟨xs⟩) (.tuple ⟨ys⟩)
inductive VRs (ρ : Rho) : List Value → List Value → Prop where
 | nil : VRs ρ [] []
 | cons (x y : Value) (xs ys : List Value) (h : VR ρ x y) (t : VRs ρ xs ys) : VRs ρ (x :: xs) (y :: ys)
end
def Rho.le (ρ ρ' : Rho) : Prop := ∀ id rb, ρ.at id rb → ρ'.at id rb
theorem Rho.le.refl (ρ : Rho) : ρ.le ρ := fun _ _ h => h
theorem Rho.le.trans {ρ ρ' ρ'' : Rho} (h : ρ.le ρ') (h' : ρ'.le ρ'') : ρ.le ρ'' := fun i r x => h' i r (h i r x)
theorem Rho.le.snoc (ρ : Rho) (l : Rho) : ρ.le (ρ ++ l) := fun id rb h => by
 unfold Rho.at at *
 rw [List.getElem?_append_left (by
  rcases Nat.lt_or_ge id ρ.length with h' | h'
  ·exact h'
  ·rw [List.getElem?_eq_none h'] at h; cases h)]
 exact h
theorem VR.mono {ρ ρ' : Rho} (hle : ρ.le ρ') {x y : Value} (h : VR ρ x y) : VR ρ' x y := by
 refine VR.rec (motive_1 := fun x y _ => VR ρ' x y) (motive_2 := fun xs ys _ => VRs ρ' xs ys) ?_ ?_ ?_ ?_ ?_ ?_ ?_ ?_ ?_ ?_ ?_ ?_ ?_ ?_ ?_ ?_ ?_ h
 ·exact fun k n => .int k n
 ·exact fun b => .bool b
 ·exact fun s => .string s
 ·exact .nilFunc
 ·exact .nilIface
 ·exact .nilPtr
 ·exact fun id off rb h => .ptr id off rb (hle _ _ h)
 ·exact .nilSlice
 ·exact fun id off n c c' rb h hn hc hm hu => .slice id off n c c' rb (hle _ _ h) hn hc hm hu
 ·exact fun id off A rb h => .empty id off A rb (hle _ _ h)
 ·exact fun fn hf xs ys zs ws _ _ h h' => .func fn hf xs ys zs ws h h'
 ·exact fun id rb h => .yield id rb (hle _ _ h)
 ·exact fun t x y _ h => .iface t x y h
 ·exact fun xs ys _ h1 h => .agg xs ys h h1
 ·exact fun xs ys _ h => .tuple xs ys h
 ·exact .nil
 ·exact fun x y xs ys _ _ h t => .cons x y xs ys h t
theorem VRs.mono {ρ ρ' : Rho} (hle : ρ.le ρ') : ∀ {xs ys : List Value}, VRs ρ xs ys → VRs ρ' xs ys
 | _, _, .nil => .nil
 | _, _, .cons x y xs ys h t => .cons x y xs ys (h.mono hle) (t.mono hle)
theorem VRs.length {ρ : Rho} : ∀ {xs ys : List Value}, VRs ρ xs ys → xs.length = ys.length
 | _, _, .nil => rfl
 | _, _, .cons _ _ _ _ _ t => by simp [t.length]
theorem VRs.get {ρ : Rho} : ∀ {xs ys : List Value}, VRs ρ xs ys → ∀ {i : Nat} {x : Value}, xs[i]? = some x → ∃ y, ys[i]? = some y ∧ VR ρ x y
 | _, _, .nil, i, x, h => by simp at h
 | _, _, .cons x y xs ys h t, 0, z, e => by
  simp only [List.getElem?_cons_zero, Option.some.injEq] at e ⊢
  exact ⟨y, rfl, e ▸ h⟩
 | _, _, .cons x y xs ys h t, i + 1, z, e => by
  simp only [List.getElem?_cons_succ] at e ⊢
  exact t.get e
theorem VRs.append {ρ : Rho} : ∀ {xs ys zs ws : List Value}, VRs ρ xs ys → VRs ρ zs ws → VRs ρ (xs ++ zs) (ys ++ ws)
 | _, _, _, _, .nil, h => h
 | _, _, _, _, .cons x y xs ys h t, h' => .cons x y _ _ h (t.append h')
theorem VRs.take {ρ : Rho} : ∀ {xs ys : List Value}, VRs ρ xs ys → ∀ n, VRs ρ (xs.take n) (ys.take n)
 | _, _, .nil, n => by simp; exact .nil
 | _, _, .cons x y xs ys h t, 0 => .nil
 | _, _, .cons x y xs ys h t, n + 1 => .cons x y _ _ h (t.take n)
theorem VRs.drop {ρ : Rho} : ∀ {xs ys : List Value}, VRs ρ xs ys → ∀ n, VRs ρ (xs.drop n) (ys.drop n)
 | _, _, .nil, n => by simp; exact .nil
 | _, _, .cons x y xs ys h t, 0 => .cons x y xs ys h t
 | _, _, .cons x y xs ys h t, n + 1 => t.drop n
theorem VRs.splice {ρ : Rho} {xs ys us vs : List Value} (h : VRs ρ xs ys) (h' : VRs ρ us vs) (n : Nat) : VRs ρ (splice xs n us) (splice ys n vs) := by
 unfold Pv.splice
 rw [← h'.length]
 exact ((h.take n).append h').append (h.drop _)
theorem VRs.of_get {ρ : Rho} : ∀ {xs ys : List Value}, xs.length = ys.length → (∀ (i : Nat) (x : Value), xs[i]? = some x → ∃ y, ys[i]? = some y ∧ VR ρ x y) → VRs ρ xs ys
 | [], [], _, _ => .nil
 | [], _ :: _, h, _ => by simp at h
 | _ :: _, [], h, _ => by simp at h
 | x :: xs, y :: ys, h, hg => by
  obtain ⟨y', e, hx⟩ := hg 0 x rfl
  simp only [List.getElem?_cons_zero, Option.some.injEq] at e
  subst e
  exact .cons x y xs ys hx (VRs.of_get (by simpa using h) fun i z hz => by simpa using hg (i + 1) z (by simpa using hz))
theorem VR.plain_self {ρ : Rho} {x : Value} (h : plain x = true) : VR ρ x x := by
 cases x with
 | int k n => exact .int k n
 | bool b => exact .bool b
 | string s => exact .string s
 | nilFunc => exact .nilFunc
 | nilIface => exact .nilIface
 | pointer a =>
  cases a with
  | none => exact .nilPtr
  | some a => simp [plain] at h
 | slice a n c =>
  cases a with
  | none =>
   simp only [plain, Bool.and_eq_true, beq_iff_eq] at h
   obtain ⟨rfl, rfl⟩ := h
   exact .nilSlice
  | some a => simp [plain] at h
 | tuple vs =>
  obtain ⟨vs⟩ := vs
  cases vs with
  | nil => exact .tuple _ _ .nil
  | cons _ _ => simp [plain] at h
 | _ => simp [plain] at h
section
variable {ρ : Rho} {x y : Value}
theorem VR.toInt {k : IntKind} {n : Int} (h : VR ρ x y) (e : toInt k x = some n) : x = .int k n ∧ y = .int k n := by
 cases h <;> try (simp [Pv.toInt] at e; done)
 rename_i k' m
 by_cases hk : k = k'
 ·subst hk
  simp [Pv.toInt] at e
  subst e
  exact ⟨rfl, rfl⟩
 ·simp [Pv.toInt, hk] at e
theorem VR.toBool {b : Bool} (h : VR ρ x y) (e : toBool x = some b) : x = .bool b ∧ y = .bool b := by
 cases h <;> simp [Pv.toBool] at e
 subst e; exact ⟨rfl, rfl⟩
theorem VR.toStr {s : ByteArray} (h : VR ρ x y) (e : toStr x = some s) : x = .string s ∧ y = .string s := by
 cases h <;> simp [Pv.toStr] at e
 subst e; exact ⟨rfl, rfl⟩
theorem VR.toAgg {cs : List Value} (h : VR ρ x y) (e : toAgg x = some cs) : x = .agg ⟨cs⟩ ∧ ∃ cs', y = .agg ⟨cs'⟩ ∧ VRs ρ cs cs' ∧ ∀ x ∈ cs, x.oneCell' = true := by
 cases h <;> simp [Pv.toAgg] at e
 rename_i xs ys hh h1
 subst e; exact ⟨rfl, ys, rfl, hh, h1⟩
theorem VR.toTup {cs : List Value} (h : VR ρ x y) (e : toTup x = some cs) : x = .tuple ⟨cs⟩ ∧ ∃ cs', y = .tuple ⟨cs'⟩ ∧ VRs ρ cs cs' := by
 cases h <;> simp [Pv.toTup] at e
 rename_i xs ys hh
 subst e; exact ⟨rfl, ys, rfl, hh⟩
theorem VR.intOfV {n : Int} (h : VR ρ x y) (e : intOfV x = some n) : ∃ k, x = .int k n ∧ y = .int k n := by
 cases h <;> simp [Pv.intOfV] at e
 subst e; exact ⟨_, rfl, rfl⟩
theorem VR.toSl {s : Option Addr × Nat × Nat} (h : VR ρ x y) (e : toSl x = some s) : x = .slice s.1 s.2.1 s.2.2 := by
 cases h <;> simp [Pv.toSl] at e <;> subst e <;> rfl
theorem VR.toPtr {a : Option Addr} (h : VR ρ x y) (e : toPtr x = some a) : x = .pointer a := by
 cases h <;> simp [Pv.toPtr] at e <;> subst e <;> rfl
theorem toPtr_eq {a : Option Addr} (e : Pv.toPtr x = some a) : x = .pointer a := by
 cases x <;> simp [Pv.toPtr] at e; subst e; rfl
theorem toSl_eq {s : Option Addr × Nat × Nat} (e : Pv.toSl x = some s) : x = .slice s.1 s.2.1 s.2.2 := by
 cases x <;> simp [Pv.toSl] at e; subst e; rfl
theorem oneOf_eq {z : Value} (e : Pv.oneOf x = some z) : z = x ∧ x.oneCell' = true := by
 cases x <;> simp [Pv.oneOf] at e <;> subst e <;> simp [Value.oneCell']
theorem VR.oneCell' (h : VR ρ x y) : x.oneCell' = y.oneCell' := by cases h <;> rfl
end
theorem addrOf_eq {a : Option Addr} {p : Nat × Nat} (e : addrOf a = some p) : a = some ⟨p.1, p.2, none⟩ := by
 cases a with
 | none => simp [addrOf] at e
 | some a =>
  obtain ⟨b, o, s⟩ := a
  cases s <;> simp [addrOf] at e
  subst e; rfl
theorem bif_some {R : Type} {b : Bool} {x : Option R} {r : R} (h : (bif b then x else none) = some r) : b = true ∧ x = some r := by
 cases b <;> simp at h
 exact ⟨rfl, h⟩
theorem bif_none {R : Type} {b : Bool} {x : Option R} {r : R} (h : (bif b then none else x) = some r) : b = false ∧ x = some r := by
 cases b <;> simp at h
 exact ⟨rfl, h⟩
theorem typed_some {R : Type} {P : Program} {t : TypeId} {x : Value} {k : Value → Option R} {r : R} (h : typed P t x k = some r) : k x = some r := by
 unfold typed at h
 split at h
 ·obtain ⟨n, e, h⟩ := Option.bind_eq_some_iff.1 h
  cases x <;> try (simp [toInt] at e; done)
  rename_i kd _ _ k' m
  by_cases hk : kd = k'
  ·subst hk
   simp [toInt] at e
   subst e; exact h
  ·simp [toInt, hk] at e
 ·obtain ⟨n, e, h⟩ := Option.bind_eq_some_iff.1 h
  cases x <;> simp [toBool] at e
  subst e; exact h
 ·obtain ⟨n, e, h⟩ := Option.bind_eq_some_iff.1 h
  cases x <;> simp [toStr] at e
  subst e; exact h
 ·obtain ⟨n, e, h⟩ := Option.bind_eq_some_iff.1 h
  cases x <;> simp [toAgg] at e
  subst e; exact h
 ·obtain ⟨n, e, h⟩ := Option.bind_eq_some_iff.1 h
  cases x <;> simp [toAgg] at e
  subst e; exact h
 ·obtain ⟨n, e, h⟩ := Option.bind_eq_some_iff.1 h
  cases x <;> simp [toSl] at e
  subst e; exact h
 ·obtain ⟨n, e, h⟩ := Option.bind_eq_some_iff.1 h
  cases x <;> simp [toPtr] at e
  subst e; exact h
 ·obtain ⟨n, e, h⟩ := Option.bind_eq_some_iff.1 h
  cases x <;> simp [toTup] at e
  subst e; exact h
 ·exact h
end Go.Pv
end
section
namespace Go.Pv
variable [Glob]
def Rho.ext (ρ ρ' : Rho) : Prop := ∃ l, ρ' = ρ ++ l
theorem Rho.ext.refl (ρ : Rho) : ρ.ext ρ := ⟨[], by simp⟩
theorem Rho.ext.trans {a b c : Rho} : a.ext b → b.ext c → a.ext c
 | ⟨l, e⟩, ⟨m, e'⟩ => ⟨l ++ m, by rw [e', e, List.append_assoc]⟩
theorem Rho.ext.le {ρ ρ' : Rho} : ρ.ext ρ' → ρ.le ρ'
 | ⟨l, e⟩ => e ▸ Rho.le.snoc ρ l
structure Env where
 w0 : World
 A0 : Nat → Prop
 h0 : Heap
 ρ0 : Rho
 ro : Option Nat
 ds : List Deferred
structure Fr (E : Env) (w : World) : Prop where
 os : w.os = E.w0.os
 tape : w.tape = E.w0.tape
 output : w.output = E.w0.output
 size : E.w0.heap.size ≤ w.heap.size
 block : ∀ b, b < E.w0.heap.size → ¬ E.A0 b → w.heap[b]? = E.w0.heap[b]?
def CellOK (ρ : Rho) (cs : Array Value) (base : Nat) (c : List Value) : Prop :=
 ∀ (i : Nat) (x : Value), c[i]? = some x → x.oneCell' = true ∧ ∃ y, cs[base + i]? = some y ∧ VR ρ x y
def BlkR (P : Program) (ρ : Rho) (b : Blk) (rb : RB) (w : World) : Prop :=
 ∃ cs e fr, w.heap[rb.b]? = some (.cells cs e fr) ∧ cs.size = rb.csz ∧ CellOK ρ cs rb.base b.cells ∧
  (b.ro = false → fr = (0, 0) ∧ rb.base = 0 ∧ e = b.elem ∧ (b.row = true → rb.unit = some (P.cellsOf b.elem))) ∧ (b.row = false → rb.unit = none)
def jumpOf : PExit → Option Code
 | .ret => some .ret
 | .exit i => some (.exit i)
 | .goto l => some (.goto l)
 | _ => none
def ObjR (ρ : Rho) (cs : List Value) : LObj → Obj → Prop
 | .dfr, o => o = .deferred (some []) ∧ cs = []
 | .loop r, o => ∃ (fn : FuncId) (ys : List Value) (d : Nat), o = .loop { state := r.state, pending := r.pending.bind jumpOf, fn := fn, tmps := ⟨ys⟩, params := ⟨r.params⟩, assign := r.assign, body := r.body, defers := d } ∧
   (∀ e, r.pending = some e → (jumpOf e).isSome = true) ∧ cs.length = ys.length ∧ ∀ (t : Nat) x, cs[t]? = some x → (r.dead[t]? = some true ∧ x = undef) ∨ ∃ y, ys[t]? = some y ∧ VR ρ x y
structure ORel (ρ : Rho) (h : Heap) (w : World) : Prop where
 obj : ∀ (id : Nat) b rb o, h[id]? = some b → ρ.at id rb → b.obj = some o → b.live = false ∧ ∃ x, w.heap[rb.b]? = some x ∧ ObjR ρ b.cells o x
 sep : ∀ (i j : Nat) bi bj ri rj oi oj, i ≠ j → h[i]? = some bi → h[j]? = some bj → ρ.at i ri → ρ.at j rj → bi.obj = some oi → bj.obj = some oj → ri.b ≠ rj.b
def GOK (ρ : Rho) : Prop := ∀ g i, Glob.ix g = some i → ∃ rb, ρ.at i rb ∧ rb.b = g ∧ rb.base = 0
structure HRel (P : Program) (ρ : Rho) (h : Heap) (w : World) : Prop where
 len : ρ.length = h.length
 blk : ∀ id b rb, h[id]? = some b → ρ.at id rb → b.live = true → BlkR P ρ b rb w
 sep : ∀ i j bi bj ri rj, i ≠ j → h[i]? = some bi → h[j]? = some bj → ρ.at i ri → ρ.at j rj → bi.live = true → bj.live = true → bi.ro = false → ri.b ≠ rj.b
 o : ORel ρ h w
structure BRel (ρ : Rho) (β : List (Option Nat)) (bx : List Box) (h : Heap) (w : World) : Prop where
 len : β.length = bx.length
 loc : ∀ (d : Nat) cs e, bx[d]? = some (.loc cs e) → ∃ b ys, β[d]? = some (some b) ∧ w.heap[b]? = some (.cells ⟨ys⟩ e (0, 0)) ∧ VRs ρ cs ys ∧ ∀ x ∈ cs, x.oneCell' = true
 sepH : ∀ (d : Nat) cs e b id bl rb, bx[d]? = some (.loc cs e) → β[d]? = some (some b) → h[id]? = some bl → ρ.at id rb → bl.live = true → rb.b ≠ b
 sepB : ∀ (d d' : Nat) cs e cs' e' b b', d ≠ d' → bx[d]? = some (.loc cs e) → bx[d']? = some (.loc cs' e') → β[d]? = some (some b) → β[d']? = some (some b') → b ≠ b'
def SlotR (ρ : Rho) (β : List (Option Nat)) (bx : List Box) : Slot → Value → Prop
 | .v x, y => VR ρ x y
 | .dead, _ => True
 | .lp d off, y => ∀ B, bx[d]? = some B → match B with
  | .loc _ _ => ∃ b, β[d]? = some (some b) ∧ y = .pointer (some ⟨b, off, none⟩)
  | .prom id => ∃ rb, ρ.at id rb ∧ rb.unit = none ∧ y = .pointer (some ⟨rb.b, rb.base + off, none⟩)
  | .no => True
def TRel (ρ : Rho) (β : List (Option Nat)) (bx : List Box) (ts : List Slot) (a : Act) : Prop :=
 ts.length = a.tmps.size ∧ ∀ (t : Nat) s, ts[t]? = some s → ∃ y, a.tmps[t]? = some y ∧ SlotR ρ β bx s y
structure WRel (E : Env) (ρ : Rho) (β : List (Option Nat)) (st : St) : Prop where
 wh : ∀ id bl rb, st.heap[id]? = some bl → ρ.at id rb → bl.live = true → bl.ro = false → E.A0 rb.b ∨ E.w0.heap.size ≤ rb.b
 wb : ∀ (d : Nat) cs e b, st.boxes[d]? = some (.loc cs e) → β[d]? = some (some b) → E.A0 b ∨ E.w0.heap.size ≤ b
 wn : ∀ id rb, E.h0.length ≤ id → ρ.at id rb → E.A0 rb.b ∨ E.w0.heap.size ≤ rb.b
 len : E.h0.length ≤ st.heap.length
 liv : ∀ id bl, id < E.h0.length → st.heap[id]? = some bl → bl.live = true → ∃ b0, E.h0[id]? = some b0 ∧ b0.live = true
 wo : ∀ id bl rb, st.heap[id]? = some bl → ρ.at id rb → bl.obj.isSome = true → E.A0 rb.b ∨ E.w0.heap.size ≤ rb.b
structure Rel (P : Program) (E : Env) (ρ : Rho) (β : List (Option Nat)) (st : St) (a : Act) (w : World) : Prop where
 h : HRel P ρ st.heap w
 b : BRel ρ β st.boxes st.heap w
 t : TRel ρ β st.boxes st.tmps a
 f : Fr E w
 n : WRel E ρ β st
 d : a.defers = E.ds
 bl : st.boxes.length = st.tmps.length
 e : E.ρ0.ext ρ
 g : GOK E.ρ0
theorem Rho.at_lt {ρ : Rho} {id : Nat} {rb : RB} (h : ρ.at id rb) : id < ρ.length := by
 rcases Nat.lt_or_ge id ρ.length with h' | h'
 ·exact h'
 ·unfold Rho.at at h; rw [List.getElem?_eq_none h'] at h; cases h
theorem Rho.at_snoc {ρ l : Rho} {id : Nat} {rb : RB} (h : (ρ ++ l : Rho).at id rb) (hid : id < ρ.length) : ρ.at id rb := by
 unfold Rho.at at *
 rwa [List.getElem?_append_left hid] at h
theorem Rho.at_new {ρ : Rho} {x rb : RB} (h : (ρ ++ [some x] : Rho).at ρ.length rb) : rb = x := by
 unfold Rho.at at h
 simp at h
 exact h.symm
theorem Rho.at_new' (ρ : Rho) (x : RB) : (ρ ++ [some x] : Rho).at ρ.length x := by simp [Rho.at]
theorem Rho.at_uniq {ρ : Rho} {id : Nat} {a b : RB} (h : ρ.at id a) (h' : ρ.at id b) : a = b := by
 unfold Rho.at at *
 rw [h] at h'
 exact Option.some.inj (Option.some.inj h')
theorem get_lt {α : Type} {l : List α} {i : Nat} {x : α} (h : l[i]? = some x) : i < l.length := by
 rcases Nat.lt_or_ge i l.length with h' | h'
 ·exact h'
 ·rw [List.getElem?_eq_none h'] at h; cases h
theorem aget_lt {α : Type} {l : Array α} {i : Nat} {x : α} (h : l[i]? = some x) : i < l.size := by
 rcases Nat.lt_or_ge i l.size with h' | h'
 ·exact h'
 ·rw [Array.getElem?_eq_none h'] at h; cases h
theorem get_snoc {α : Type} {l : List α} {y x : α} {i : Nat} (h : (l ++ [y])[i]? = some x) : (i < l.length ∧ l[i]? = some x) ∨ (i = l.length ∧ x = y) := by
 have := get_lt h
 simp at this
 rcases Nat.lt_or_ge i l.length with h' | h'
 ·exact .inl ⟨h', by rwa [List.getElem?_append_left h'] at h⟩
 ·have : i = l.length := by omega
  subst this
  simp at h
  exact .inr ⟨rfl, h.symm⟩
theorem GOK.mono {ρ ρ' : Rho} (h : GOK ρ) (hle : ρ.le ρ') : GOK ρ' := fun g i hi => let ⟨rb, h1, h2⟩ := h g i hi; ⟨rb, hle _ _ h1, h2⟩
theorem ObjR.mono {ρ ρ' : Rho} (hle : ρ.le ρ') {cs : List Value} {o : LObj} {x : Obj} (h : ObjR ρ cs o x) : ObjR ρ' cs o x := by
 cases o with
 | dfr => exact h
 | loop r =>
  obtain ⟨fn, ys, d, h1, h2, h3, h4⟩ := h
  exact ⟨fn, ys, d, h1, h2, h3, fun t s hs => (h4 t s hs).imp id fun ⟨y, hy, hr⟩ => ⟨y, hy, hr.mono hle⟩⟩
theorem ObjR.noCells {ρ : Rho} {cs : List Value} {o : LObj} {x : Obj} (h : ObjR ρ cs o x) : ∀ cs e fr, x ≠ .cells cs e fr := by
 intro cs e fr hx
 subst hx
 cases o with
 | dfr => cases h.1
 | loop r =>
  obtain ⟨_, _, _, h1, _⟩ := h
  cases h1
theorem ORel.of {ρ ρ' : Rho} {h h' : Heap} {w w' : World} (r : ORel ρ h w) (hle : ρ.le ρ')
  (hh : ∀ (id : Nat) b' rb o, h'[id]? = some b' → ρ'.at id rb → b'.obj = some o → (∃ b, h[id]? = some b ∧ b.obj = some o ∧ b.cells = b'.cells ∧ (b.live = false → b'.live = false)) ∧ ρ.at id rb)
  (hw : ∀ (id : Nat) b rb o x, h[id]? = some b → ρ.at id rb → b.obj = some o → w.heap[rb.b]? = some x → ObjR ρ b.cells o x → w'.heap[rb.b]? = some x) : ORel ρ' h' w' where
 obj := fun id b' rb o h1 h2 h3 => by
  obtain ⟨⟨b, hb, ho, hcs, hlv⟩, hr⟩ := hh id b' rb o h1 h2 h3
  obtain ⟨hl, x, hx, hox⟩ := r.obj id b rb o hb hr ho
  exact ⟨hlv hl, x, hw id b rb o x hb hr ho hx hox, hcs ▸ hox.mono hle⟩
 sep := fun i j bi bj ri rj oi oj hij h1 h2 h3 h4 h5 h6 => by
  obtain ⟨⟨b, hb, ho, _⟩, hr⟩ := hh i bi ri oi h1 h3 h5
  obtain ⟨⟨c, hc, ho2, _⟩, hr2⟩ := hh j bj rj oj h2 h4 h6
  exact r.sep i j b c ri rj oi oj hij hb hc hr hr2 ho ho2
theorem ORel.world {ρ : Rho} {h : Heap} {w w' : World} (r : ORel ρ h w) (hw : ∀ (b : Nat) (x : Obj), w.heap[b]? = some x → (∀ cs e fr, x ≠ .cells cs e fr) → w'.heap[b]? = some x) : ORel ρ h w' :=
 r.of (Rho.le.refl ρ) (fun id b rb o h1 h2 h3 => ⟨⟨b, h1, h3, rfl, fun hh => hh⟩, h2⟩) fun id b rb o x _ _ _ h4 h5 => hw _ _ h4 h5.noCells
theorem BlkR.lt {P : Program} {ρ : Rho} {b : Blk} {rb : RB} {w : World} (h : BlkR P ρ b rb w) : rb.b < w.heap.size := by
 obtain ⟨cs, e, fr, h, _⟩ := h
 exact aget_lt h
theorem CellOK.mono {ρ ρ' : Rho} (hle : ρ.le ρ') {cs : Array Value} {n : Nat} {c : List Value} (h : CellOK ρ cs n c) : CellOK ρ' cs n c := fun i x hx =>
 let ⟨h1, y, hy, hv⟩ := h i x hx
 ⟨h1, y, hy, hv.mono hle⟩
theorem BlkR.same {P : Program} {ρ ρ' : Rho} (hle : ρ.le ρ') {b : Blk} {rb : RB} {w w' : World} (h : BlkR P ρ b rb w) (hw : w'.heap[rb.b]? = w.heap[rb.b]?) : BlkR P ρ' b rb w' := by
 obtain ⟨cs, e, fr, hc, hs, hk, hr⟩ := h
 exact ⟨cs, e, fr, hw.trans hc, hs, hk.mono hle, hr⟩
section
variable {P : Program} {E : Env} {ρ : Rho} {β : List (Option Nat)} {st : St} {a : Act} {w w' : World}
theorem HRel.same (h : HRel P ρ st.heap w) (hw : ∀ id b rb, st.heap[id]? = some b → ρ.at id rb → b.live = true → w'.heap[rb.b]? = w.heap[rb.b]?) (hw2 : ∀ (b : Nat) (x : Obj), w.heap[b]? = some x → (∀ cs e fr, x ≠ .cells cs e fr) → w'.heap[b]? = some x) : HRel P ρ st.heap w' :=
 ⟨h.len, fun id b rb h1 h2 h3 => (h.blk id b rb h1 h2 h3).same (Rho.le.refl ρ) (hw id b rb h1 h2 h3), h.sep, h.o.world hw2⟩
theorem Rel.grown (h : Rel P E ρ β st a w) (ho : w'.os = w.os) (ht : w'.tape = w.tape) (hp : w'.output = w.output) (hs : w.heap.size ≤ w'.heap.size) (hb : ∀ b, b < w.heap.size → w'.heap[b]? = w.heap[b]?) : Rel P E ρ β st a w' where
 h := h.h.same (fun id b rb h1 h2 h3 => hb _ (h.h.blk id b rb h1 h2 h3).lt) fun b x hx _ => (hb b (aget_lt hx)).trans hx
 b := ⟨h.b.len, fun d cs e hd => by
   obtain ⟨b, ys, h1, h2, h3⟩ := h.b.loc d cs e hd
   exact ⟨b, ys, h1, (hb _ (aget_lt h2)).trans h2, h3⟩, h.b.sepH, h.b.sepB⟩
 t := h.t
 f := ⟨ho.trans h.f.os, ht.trans h.f.tape, hp.trans h.f.output, Nat.le_trans h.f.size hs, fun b h1 h2 => (hb b (Nat.lt_of_lt_of_le h1 h.f.size)).trans (h.f.block b h1 h2)⟩
 n := h.n
 d := h.d
 bl := h.bl
 e := h.e
 g := h.g
theorem Rel.drew (h : Rel P E ρ β st a w) : Rel P E ρ β st a w.drew := h.grown rfl rfl rfl (Nat.le_refl _) fun _ _ => rfl
theorem alloc_block (w : World) (o : Obj) (b : Nat) (h : b < w.heap.size) : (w.alloc o).heap[b]? = w.heap[b]? := by
 simp only [World.alloc, Array.getElem?_push]
 have : b ≠ w.heap.size := by omega
 simp [this]
theorem alloc_new (w : World) (o : Obj) : (w.alloc o).heap[w.heap.size]? = some o := by
 simp only [World.alloc, Array.getElem?_push]
 simp
theorem Rel.alloc (h : Rel P E ρ β st a w) (o : Obj) : Rel P E ρ β st a (w.alloc o) :=
 h.grown rfl rfl rfl (by simp) fun b hb => alloc_block w o b hb
theorem SlotR.mono {ρ' : Rho} (hle : ρ.le ρ') {bx : List Box} {s : Slot} {y : Value} (h : SlotR ρ β bx s y) : SlotR ρ' β bx s y := by
 cases s with
 | v x => exact VR.mono hle h
 | dead => trivial
 | lp d off =>
  intro B hB
  have := h B hB
  cases B with
  | no => trivial
  | loc cs e => exact this
  | prom id => obtain ⟨rb, h1, h2, h3⟩ := this; exact ⟨rb, hle _ _ h1, h2, h3⟩
theorem TRel.put {bx : List Box} {ts : List Slot} (h : TRel ρ β bx ts a) (d : Option Tmp) {s : Slot} {y : Value} (hs : SlotR ρ β bx s y) : TRel ρ β bx (match d with | some d => ts.set d s | none => ts) (a.put d y) := by
 cases d with
 | none => exact h
 | some d =>
  refine ⟨by simp [Act.put, h.1], fun t s' ht => ?_⟩
  simp only [Act.put]
  rw [List.getElem?_set] at ht
  by_cases e : d = t
  ·subst e
   have hlt : d < ts.length := by
    rcases Nat.lt_or_ge d ts.length with h' | h'
    ·exact h'
    ·simp [Nat.not_lt.2 h'] at ht
   simp [hlt] at ht
   subst ht
   have hlt' : d < a.tmps.size := h.1 ▸ hlt
   exact ⟨y, by simp [hlt'], hs⟩
  ·rw [if_neg e] at ht
   obtain ⟨z, hz, hr⟩ := h.2 t s' ht
   exact ⟨z, by rw [Array.getElem?_setIfInBounds_ne e]; exact hz, hr⟩
theorem Act.put_defers' (a : Act) (d : Option Tmp) (v : Value) : (a.put d v).defers = a.defers := by cases d <;> rfl
theorem Rel.put (h : Rel P E ρ β st a w) (d : Option Tmp) {s : Slot} {y : Value} (hs : SlotR ρ β st.boxes s y) : Rel P E ρ β (st.put d s) (a.put d y) w := by
 cases d with
 | none => exact h
 | some d =>
  exact ⟨h.h, h.b, h.t.put (some d) hs, h.f, ⟨h.n.wh, h.n.wb, h.n.wn, h.n.len, h.n.liv, h.n.wo⟩, by rw [Act.put_defers']; exact h.d, by simp [St.put, h.bl], h.e, h.g⟩
theorem opd_rel (h : Rel P E ρ β st a w) {x : Operand} {s : Slot} (e : opd st x = some s) : SlotR ρ β st.boxes s (a.eval x) := by
 cases x with
 | tmp t =>
  obtain ⟨y, hy, hr⟩ := h.t.2 t s e
  have : a.eval (.tmp t) = y := by simp [Act.eval, hy]
  rw [this]; exact hr
 | const c =>
  simp only [opd] at e
  obtain ⟨hp, e⟩ := bif_some e
  cases e
  exact VR.plain_self hp
 | global g =>
  simp only [opd] at e
  obtain ⟨i, hi, e⟩ := Option.bind_eq_some_iff.1 e
  cases e
  obtain ⟨rb, h1, h2, h3⟩ := h.g g i hi
  have := VR.ptr (ρ := ρ) i 0 rb (h.e.le _ _ h1)
  rw [h2, h3] at this
  exact this
 | func f =>
  simp only [opd, Option.some.injEq] at e
  subst e
  exact VR.func _ rfl _ _ _ _ .nil .nil
theorem valS_eq {s : Slot} {x : Value} (e : valS s = some x) : s = .v x := by
 cases s <;> simp [valS] at e
 subst e; rfl
theorem opd_val (h : Rel P E ρ β st a w) {x : Operand} {s : Slot} {v : Value} (e : opd st x = some s) (e' : valS s = some v) : VR ρ v (a.eval x) := by
 have := opd_rel h e
 rw [valS_eq e'] at this
 exact this
theorem cells_at {cs : Array Value} {n : Nat} {c : List Value} (h : CellOK ρ cs n c) (off k : Nat) (hk : off + k ≤ c.length) :
  ∃ ys, ys.length = k ∧ VRs ρ ((c.drop off).take k) ys ∧ (∀ x ∈ (c.drop off).take k, x.oneCell' = true) ∧ ∀ (j : Nat) y, ys[j]? = some y → cs[n + off + j]? = some y := by
 induction k with
 | zero => exact ⟨[], rfl, by simp; exact .nil, by simp, by simp⟩
 | succ k ih =>
  obtain ⟨ys, hl, hv, h1, hc⟩ := ih (by omega)
  have hlt : off + k < c.length := by omega
  obtain ⟨ho, y, hy, hr⟩ := h (off + k) c[off + k] (List.getElem?_eq_getElem hlt)
  have e : (c.drop off).take (k + 1) = (c.drop off).take k ++ [c[off + k]] := by
   rw [List.take_succ_eq_append_getElem (by simp; omega)]
   simp
  refine ⟨ys ++ [y], by simp [hl], ?_, ?_, ?_⟩
  ·rw [e]; exact hv.append (.cons _ _ _ _ hr .nil)
  ·rw [e]
   intro x hx
   rcases List.mem_append.1 hx with hx | hx
   ·exact h1 x hx
   ·simp at hx; subst hx; exact ho
  ·intro j z hj
   rcases get_snoc hj with ⟨hlt, hz⟩ | ⟨rfl, rfl⟩
   ·exact hc j z hz
   ·rw [hl, show n + off + k = n + (off + k) by omega]; exact hy
theorem hcell_rel (h : HRel P ρ st.heap w) {id off : Nat} {rb : RB} {x : Value} (hr : ρ.at id rb) (e : hcell st.heap id off = some x) : x.oneCell' = true ∧ ∃ y, w.cell? ⟨rb.b, rb.base + off, none⟩ = some y ∧ VR ρ x y := by
 unfold hcell at e
 obtain ⟨b, hb, e⟩ := Option.bind_eq_some_iff.1 e
 obtain ⟨hl, e⟩ := bif_some e
 obtain ⟨cs, el, fr, hc, _, hk, _⟩ := h.blk id b rb hb hr hl
 obtain ⟨h1, y, hy, hv⟩ := hk off x e
 exact ⟨h1, y, by simp [World.cell?, hc, hy], hv⟩
theorem hcells_rel (h : HRel P ρ st.heap w) {id off n : Nat} {rb : RB} {xs : List Value} (hr : ρ.at id rb) (e : hcells st.heap id off n = some xs) :
  ∃ ys, ys.length = n ∧ VRs ρ xs ys ∧ (∀ x ∈ xs, x.oneCell' = true) ∧ ∀ (j : Nat) y, ys[j]? = some y → w.cell? ((⟨rb.b, rb.base + off, none⟩ : Addr).add j) = some y := by
 unfold hcells at e
 obtain ⟨b, hb, e⟩ := Option.bind_eq_some_iff.1 e
 obtain ⟨hl, e⟩ := bif_some e
 cases e
 obtain ⟨hlive, hle⟩ := Bool.and_eq_true_iff.1 hl
 obtain ⟨cs, el, fr, hc, _, hk, _⟩ := h.blk id b rb hb hr hlive
 obtain ⟨ys, hlen, hv, h1, hcell⟩ := cells_at hk off n (Nat.le_of_ble_eq_true hle)
 refine ⟨ys, hlen, hv, h1, fun j y hy => ?_⟩
 have := hcell j y hy
 have e : (⟨rb.b, rb.base + off, none⟩ : Addr).add j = ⟨rb.b, rb.base + off + j, none⟩ := by unfold Addr.add; split <;> simp_all
 rw [e]
 simp [World.cell?, hc, this]
theorem add_mk (b o j : Nat) : (⟨b, o, none⟩ : Addr).add j = ⟨b, o + j, none⟩ := by unfold Addr.add; split <;> simp_all
theorem cellAt_rel (h : Rel P E ρ β st a w) {s : Slot} {y x : Value} (hs : SlotR ρ β st.boxes s y) (e : cellAt st s = some x) :
  x.oneCell' = true ∧ ∃ A z, y = .pointer (some A) ∧ w.cell? A = some z ∧ VR ρ x z := by
 cases s with
 | dead => simp [cellAt] at e
 | v u =>
  simp only [cellAt] at e
  obtain ⟨p, hp, e⟩ := Option.bind_eq_some_iff.1 e
  obtain ⟨q, hq, e⟩ := Option.bind_eq_some_iff.1 e
  have hu := toPtr_eq hp
  rw [addrOf_eq hq] at hu
  subst hu
  cases hs with
  | ptr id off rb hr =>
   obtain ⟨h1, z, hz, hv⟩ := hcell_rel h.h hr e
   exact ⟨h1, _, z, rfl, hz, hv⟩
 | lp d off =>
  simp only [cellAt] at e
  split at e
  ·rename_i cs el hB
   obtain ⟨b, hb, hy⟩ := hs _ hB
   obtain ⟨b', ys, hb', hc, hv, h1⟩ := h.b.loc d cs el hB
   rw [hb] at hb'
   cases hb'
   obtain ⟨z, hz, hr⟩ := hv.get e
   refine ⟨h1 x (List.mem_of_getElem? e), _, z, hy, ?_, hr⟩
   simp [World.cell?, hc, hz]
  ·rename_i id hB
   obtain ⟨rb, hr, _, hy⟩ := hs _ hB
   obtain ⟨h1, z, hz, hv⟩ := hcell_rel h.h hr e
   exact ⟨h1, _, z, hy, hz, hv⟩
  ·cases e
theorem cellsAt_rel (h : Rel P E ρ β st a w) {s : Slot} {y : Value} {n : Nat} {xs : List Value} (hs : SlotR ρ β st.boxes s y) (e : cellsAt st n s = some xs) :
  (∀ x ∈ xs, x.oneCell' = true) ∧ ∃ A ys, y = .pointer (some A) ∧ ys.length = n ∧ VRs ρ xs ys ∧ ∀ (j : Nat) z, ys[j]? = some z → w.cell? (A.add j) = some z := by
 cases s with
 | dead => simp [cellsAt] at e
 | v u =>
  simp only [cellsAt] at e
  obtain ⟨p, hp, e⟩ := Option.bind_eq_some_iff.1 e
  obtain ⟨q, hq, e⟩ := Option.bind_eq_some_iff.1 e
  have hu := toPtr_eq hp
  rw [addrOf_eq hq] at hu
  subst hu
  cases hs with
  | ptr id off rb hr =>
   obtain ⟨ys, hl, hv, h1, hc⟩ := hcells_rel h.h hr e
   exact ⟨h1, _, ys, rfl, hl, hv, hc⟩
 | lp d off =>
  simp only [cellsAt] at e
  split at e
  ·rename_i cs el hB
   obtain ⟨b, hb, hy⟩ := hs _ hB
   obtain ⟨b', ys, hb', hc, hv, h1⟩ := h.b.loc d cs el hB
   rw [hb] at hb'
   cases hb'
   obtain ⟨hle, e⟩ := bif_some e
   cases e
   have hle := Nat.le_of_ble_eq_true hle
   have hlen := hv.length
   refine ⟨fun x hx => h1 x (List.mem_of_mem_drop (List.mem_of_mem_take hx)), _, (ys.drop off).take n, hy, by simp; omega, (hv.drop off).take n, fun j z hz => ?_⟩
   rw [add_mk]
   have hj : j < n := by have := get_lt hz; simp at this; omega
   rw [List.getElem?_take_of_lt hj, List.getElem?_drop] at hz
   simp [World.cell?, hc, hz]
  ·rename_i id hB
   obtain ⟨rb, hr, _, hy⟩ := hs _ hB
   obtain ⟨ys, hl, hv, h1, hc⟩ := hcells_rel h.h hr e
   exact ⟨h1, _, ys, hy, hl, hv, hc⟩
  ·cases e
end
end Go.Pv
end
section
namespace Go.Pv
variable [Glob]
section
variable {P : Program} {E : Env} {ρ : Rho} {β : List (Option Nat)} {st : St} {a : Act} {w w' : World}
theorem killLp_length (d : Nat) : ∀ l : List Slot, (killLp d l).length = l.length
 | [] => rfl
 | .v _ :: r => by simp [killLp, killLp_length d r]
 | .dead :: r => by simp [killLp, killLp_length d r]
 | .lp _ _ :: r => by simp [killLp, killLp_length d r]
theorem killLp_get (d : Nat) : ∀ (l : List Slot) (t : Nat) (s : Slot), (killLp d l)[t]? = some s → s = .dead ∨ (l[t]? = some s ∧ ∀ off, s ≠ .lp d off)
 | [], t, s, h => by simp [killLp] at h
 | x :: r, 0, s, h => by
  cases x with
  | v x => simp [killLp] at h; subst h; exact .inr ⟨rfl, by simp⟩
  | dead => simp [killLp] at h; subst h; exact .inl rfl
  | lp d' o =>
   simp [killLp] at h
   by_cases e : d' = d
   ·simp [e] at h; exact .inl h.symm
   ·have : Nat.beq d' d = false := Bool.eq_false_iff.2 (fun hh => e (Nat.eq_of_beq_eq_true hh))
    simp [this] at h
    subst h
    exact .inr ⟨rfl, fun off hh => by cases hh; exact e rfl⟩
 | x :: r, t + 1, s, h => by
  have h' : (killLp d r)[t]? = some s := by cases x <;> simpa [killLp] using h
  rcases killLp_get d r t s h' with h | ⟨h, h1⟩
  ·exact .inl h
  ·exact .inr ⟨by simpa using h, h1⟩
theorem set_get {α : Type} {l : List α} {d i : Nat} {x y : α} (h : (l.set d y)[i]? = some x) : (i = d ∧ x = y ∧ d < l.length) ∨ (i ≠ d ∧ l[i]? = some x) := by
 rw [List.getElem?_set] at h
 by_cases e : d = i
 ·subst e
  rw [if_pos rfl] at h
  by_cases hl : d < l.length
  ·simp [hl] at h; exact .inl ⟨rfl, h.symm, hl⟩
  ·simp [hl] at h
 ·rw [if_neg e] at h
  exact .inr ⟨Ne.symm e, h⟩
theorem set_same {α : Type} {l : List α} {d : Nat} {y : α} (h : d < l.length) : (l.set d y)[d]? = some y := by simp [h]
theorem set_ne {α : Type} {l : List α} {d i : Nat} {y : α} (h : i ≠ d) : (l.set d y)[i]? = l[i]? := by rw [List.getElem?_set, if_neg (Ne.symm h)]
theorem Rel.newBox (h : Rel P E ρ β st a w) {d : Nat} (hd : d < st.boxes.length) {cs ys : List Value} (t : TypeId) (hv : VRs ρ cs ys) (h1 : ∀ x ∈ cs, x.oneCell' = true) :
  Rel P E ρ (β.set d (some w.heap.size)) (st.newBox d cs t) a (w.alloc (.cells ⟨ys⟩ t)) ∧
   SlotR ρ (β.set d (some w.heap.size)) (st.newBox d cs t).boxes (.lp d 0) (.pointer (some ⟨w.heap.size, 0, none⟩)) := by
 have h' := h.alloc (.cells ⟨ys⟩ t)
 have hdβ : d < β.length := by rw [h.b.len]; exact hd
 constructor
 ·refine ⟨h'.h, ⟨by simp [St.newBox, h.b.len], ?_, ?_, ?_⟩, ⟨by simp [St.newBox, killLp_length, h.t.1], ?_⟩, h'.f, ⟨h.n.wh, ?_, h.n.wn, h.n.len, h.n.liv, h.n.wo⟩, h.d, by simp [St.newBox, killLp_length, h.bl], h.e, h.g⟩
  ·intro i ds e hi
   rcases set_get hi with ⟨rfl, he, _⟩ | ⟨hne, hi⟩
   ·cases he
    exact ⟨_, ys, set_same hdβ, alloc_new w _, hv, h1⟩
   ·obtain ⟨b, zs, hb, hc, hz⟩ := h'.b.loc i ds e hi
    exact ⟨b, zs, by rw [set_ne hne]; exact hb, hc, hz⟩
  ·intro i ds e b id bl rb hi hb hh hr hl
   rcases set_get hi with ⟨rfl, he, _⟩ | ⟨hne, hi⟩
   ·rw [set_same hdβ] at hb
    cases hb
    have := (h.h.blk id bl rb hh hr hl).lt
    omega
   ·rw [set_ne hne] at hb
    exact h.b.sepH i ds e b id bl rb hi hb hh hr hl
  ·intro i j ds e ds' e' b b' hij hi hj hb hb'
   rcases set_get hi with ⟨e1, he, _⟩ | ⟨hne, hi2⟩
   ·rcases set_get hj with ⟨e2, _, _⟩ | ⟨hne', hj2⟩
    ·exact absurd (e1.trans e2.symm) hij
    ·rw [e1, set_same hdβ] at hb
     cases hb
     rw [set_ne hne'] at hb'
     obtain ⟨b2, zs, hb2, hc, _⟩ := h.b.loc j ds' e' hj2
     rw [hb'] at hb2
     cases hb2
     have := aget_lt hc
     omega
   ·rcases set_get hj with ⟨e2, _, _⟩ | ⟨hne', hj2⟩
    ·rw [e2, set_same hdβ] at hb'
     cases hb'
     rw [set_ne hne] at hb
     obtain ⟨b2, zs, hb2, hc, _⟩ := h.b.loc i ds e hi2
     rw [hb] at hb2
     cases hb2
     have := aget_lt hc
     omega
    ·rw [set_ne hne] at hb
     rw [set_ne hne'] at hb'
     exact h.b.sepB i j ds e ds' e' b b' hij hi2 hj2 hb hb'
  ·intro t' s hs
   rcases killLp_get d st.tmps t' s hs with rfl | ⟨hs, hne⟩
   ·obtain ⟨y, hy⟩ : ∃ y, a.tmps[t']? = some y := by
     have := get_lt hs
     simp only [St.newBox, killLp_length] at this
     rw [h.t.1] at this
     exact ⟨_, Array.getElem?_eq_getElem this⟩
    exact ⟨y, hy, trivial⟩
   ·obtain ⟨y, hy, hr⟩ := h.t.2 t' s hs
    refine ⟨y, hy, ?_⟩
    cases s with
    | v x => exact hr
    | dead => trivial
    | lp d' off =>
     have hdd : d' ≠ d := fun e => hne off (by rw [e])
     intro B hB
     simp only [St.newBox] at hB
     rw [set_ne hdd] at hB
     have := hr B hB
     cases B with
     | no => trivial
     | prom id => exact this
     | loc c e =>
      obtain ⟨b, hb, hy⟩ := this
      exact ⟨b, by rw [set_ne hdd]; exact hb, hy⟩
  ·intro i ds e b hi hb
   rcases set_get hi with ⟨rfl, he, _⟩ | ⟨hne, hi⟩
   ·rw [set_same hdβ] at hb
    cases hb
    exact .inr h.f.size
   ·rw [set_ne hne] at hb
    exact h.n.wb i ds e b hi hb
 ·intro B hB
  simp only [St.newBox] at hB
  rw [set_same hd] at hB
  cases hB
  exact ⟨_, set_same hdβ, rfl⟩
theorem TRel.mono {ρ' : Rho} (hle : ρ.le ρ') {bx : List Box} {ts : List Slot} (h : TRel ρ β bx ts a) : TRel ρ' β bx ts a :=
 ⟨h.1, fun t s hs => let ⟨y, hy, hr⟩ := h.2 t s hs; ⟨y, hy, hr.mono hle⟩⟩
theorem ORel.push {h : Heap} (r : ORel ρ h w) (hlen : ρ.length = h.length) {bl : Blk} (hbl : bl.obj = none) (l : List (Option RB)) (hl : l.length = 1) : ORel (ρ ++ l : Rho) (h ++ [bl]) w :=
 r.of (Rho.le.snoc ρ l) (fun id b rb o h1 h2 h3 => by
  rcases get_snoc h1 with ⟨hlt, h1⟩ | ⟨rfl, rfl⟩
  ·exact ⟨⟨b, h1, h3, rfl, fun hh => hh⟩, Rho.at_snoc h2 (by omega)⟩
  ·rw [hbl] at h3; cases h3) fun _ _ _ _ _ _ _ _ h4 _ => h4
theorem Rel.push (h : Rel P E ρ β st a w) (bl : Blk) (cs : Array Value) (hk : CellOK ρ cs 0 bl.cells) (hrow : bl.row = true) (hobj : bl.obj = none) (fr : Nat × Nat) (hfr : bl.ro = false → fr = (0, 0)) :
  Rel P E (ρ ++ [some ⟨w.heap.size, 0, cs.size, bif bl.ro then none else some (P.cellsOf bl.elem)⟩]) β { st with heap := st.heap ++ [bl] } a (w.alloc (.cells cs bl.elem fr)) := by
 have h' := h.alloc (.cells cs bl.elem fr)
 have hle : ρ.le (ρ ++ [some ⟨w.heap.size, 0, cs.size, bif bl.ro then none else some (P.cellsOf bl.elem)⟩]) := Rho.le.snoc ρ _
 have hlen := h.h.len
 have hold : ∀ id b rb, (st.heap ++ [bl])[id]? = some b → (ρ ++ [some ⟨w.heap.size, 0, cs.size, bif bl.ro then none else some (P.cellsOf bl.elem)⟩] : Rho).at id rb →
   (st.heap[id]? = some b ∧ ρ.at id rb) ∨ (id = st.heap.length ∧ b = bl ∧ rb = ⟨w.heap.size, 0, cs.size, bif bl.ro then none else some (P.cellsOf bl.elem)⟩) := by
  intro id b rb hb hr
  rcases get_snoc hb with ⟨hlt, hb⟩ | ⟨rfl, rfl⟩
  ·exact .inl ⟨hb, Rho.at_snoc hr (by omega)⟩
  ·rw [← hlen] at hr
   exact .inr ⟨rfl, rfl, Rho.at_new hr⟩
 refine ⟨⟨by simp [hlen], ?_, ?_, h'.h.o.push hlen hobj _ rfl⟩, ⟨h'.b.len, ?_, ?_, h'.b.sepB⟩, h'.t.mono hle, h'.f, ⟨?_, h.n.wb, ?_, by have := h.n.len; simp; omega, ?_, ?_⟩, h.d, h.bl, h.e.trans ⟨_, rfl⟩, h.g⟩
 ·intro id b rb hb hr hl
  rcases hold id b rb hb hr with ⟨hb, hr⟩ | ⟨rfl, rfl, rfl⟩
  ·exact (h'.h.blk id b rb hb hr hl).same hle rfl
  ·exact ⟨cs, b.elem, fr, alloc_new w _, rfl, hk.mono hle, fun hro => ⟨hfr hro, rfl, rfl, fun _ => by rw [hro]; rfl⟩, fun hh => by rw [hrow] at hh; cases hh⟩
 ·intro i j bi bj ri rj hij hi hj hri hrj hli hlj hro'
  rcases hold i bi ri hi hri with ⟨hi2, hri2⟩ | ⟨e1, e2, e3⟩
  ·rcases hold j bj rj hj hrj with ⟨hj2, hrj2⟩ | ⟨e1, e2, e3⟩
   ·exact h.h.sep i j bi bj ri rj hij hi2 hj2 hri2 hrj2 hli hlj hro'
   ·have := (h.h.blk i bi ri hi2 hri2 hli).lt
    rw [e3]
    simp only; omega
  ·rcases hold j bj rj hj hrj with ⟨hj2, hrj2⟩ | ⟨e4, e5, e6⟩
   ·have := (h.h.blk j bj rj hj2 hrj2 hlj).lt
    rw [e3]
    simp only; omega
   ·exact absurd (e1.trans e4.symm) hij
 ·intro d c e hd
  obtain ⟨b, ys, hb, hc, hv, h1⟩ := h'.b.loc d c e hd
  exact ⟨b, ys, hb, hc, hv.mono hle, h1⟩
 ·intro d c e b id b2 rb hd hb hh hr hl
  rcases hold id b2 rb hh hr with ⟨hh, hr⟩ | ⟨rfl, rfl, rfl⟩
  ·exact h.b.sepH d c e b id b2 rb hd hb hh hr hl
  ·obtain ⟨b', ys, hb', hc, _⟩ := h.b.loc d c e hd
   rw [hb] at hb'
   cases hb'
   have := aget_lt hc
   simp only; omega
 ·intro id b rb hb hr hl hro'
  rcases hold id b rb hb hr with ⟨hb, hr⟩ | ⟨rfl, rfl, rfl⟩
  ·exact h.n.wh id b rb hb hr hl hro'
  ·exact .inr h.f.size
 ·intro id rb hid hr
  by_cases hlt : id < ρ.length
  ·exact h.n.wn id rb hid (Rho.at_snoc hr hlt)
  ·have hl := Rho.at_lt hr
   simp at hl
   have : id = ρ.length := by omega
   subst this
   rw [Rho.at_new hr]
   exact .inr h.f.size
 ·intro id b hid hb hl
  rcases get_snoc hb with ⟨hlt, hb⟩ | ⟨rfl, rfl⟩
  ·exact h.n.liv id b hid hb hl
  ·have := h.n.len
   omega
 ·intro id b rb hb hr ho
  rcases hold id b rb hb hr with ⟨hb, hr⟩ | ⟨rfl, rfl, rfl⟩
  ·exact h.n.wo id b rb hb hr ho
  ·exact .inr h.f.size
theorem CellOK.of_vrs {cs ys : List Value} (hv : VRs ρ cs ys) (h1 : ∀ x ∈ cs, x.oneCell' = true) : CellOK ρ ⟨ys⟩ 0 cs := fun i x hx => by
 obtain ⟨y, hy, hr⟩ := hv.get hx
 exact ⟨h1 x (List.mem_of_getElem? hx), y, by simpa using hy, hr⟩
theorem Rel.promote (h : Rel P E ρ β st a w) {d id : Nat} {st' : St} (e : promote st d = some (id, st')) :
  ∃ ρ', ρ.ext ρ' ∧ Rel P E ρ' β st' a w ∧ (∀ (off : Nat) (y : Value), SlotR ρ β st.boxes (.lp d off) y → ∃ rb, ρ'.at id rb ∧ rb.unit = none ∧ y = .pointer (some ⟨rb.b, rb.base + off, none⟩)) ∧
   (∀ s y, SlotR ρ β st.boxes s y → SlotR ρ' β st'.boxes s y) ∧ st'.boxes.length = st.boxes.length := by
 unfold Pv.promote at e
 split at e
 ·rename_i id' hB
  cases e
  exact ⟨ρ, .refl ρ, h, fun off y hy => hy _ hB, fun _ _ hs => hs, rfl⟩
 ·rename_i cs el hB
  cases e
  obtain ⟨b, ys, hb, hc, hv, h1⟩ := h.b.loc d cs el hB
  have hd : d < st.boxes.length := get_lt hB
  have hlen := h.h.len
  have hle : ρ.le (ρ ++ [some ⟨b, 0, ys.length, none⟩]) := Rho.le.snoc ρ _
  have hold : ∀ id b2 rb, (st.heap ++ [⟨cs, el, false, false, true, none⟩])[id]? = some b2 → (ρ ++ [some ⟨b, 0, ys.length, none⟩] : Rho).at id rb →
    (st.heap[id]? = some b2 ∧ ρ.at id rb) ∨ (id = st.heap.length ∧ b2 = ⟨cs, el, false, false, true, none⟩ ∧ rb = ⟨b, 0, ys.length, none⟩) := by
   intro id b2 rb hb2 hr
   rcases get_snoc hb2 with ⟨hlt, hb2⟩ | ⟨rfl, rfl⟩
   ·exact .inl ⟨hb2, Rho.at_snoc hr (by omega)⟩
   ·rw [← hlen] at hr
    exact .inr ⟨rfl, rfl, Rho.at_new hr⟩
  have hbs : ∀ (i : Nat) c e, (st.boxes.set d (.prom st.heap.length))[i]? = some (.loc c e) → i ≠ d ∧ st.boxes[i]? = some (.loc c e) := by
   intro i c e hi
   rcases set_get hi with ⟨rfl, he, _⟩ | ⟨hne, hi⟩
   ·cases he
   ·exact ⟨hne, hi⟩
  have hslot : ∀ s y, SlotR ρ β st.boxes s y → SlotR (ρ ++ [some ⟨b, 0, ys.length, none⟩]) β (st.boxes.set d (.prom st.heap.length)) s y := by
   intro s y hs
   cases s with
   | v x => exact VR.mono hle hs
   | dead => trivial
   | lp d' off =>
    intro B hB'
    rcases set_get hB' with ⟨rfl, rfl, _⟩ | ⟨hne, hB'⟩
    ·obtain ⟨b', hb', hy⟩ := hs _ hB
     rw [hb] at hb'
     cases hb'
     exact ⟨⟨b, 0, ys.length, none⟩, hlen ▸ Rho.at_new' ρ _, rfl, by simp [hy]⟩
    ·have := hs B hB'
     cases B with
     | no => trivial
     | loc c e => exact this
     | prom id => obtain ⟨rb, h1, h2, h3⟩ := this; exact ⟨rb, hle _ _ h1, h2, h3⟩
  refine ⟨ρ ++ [some ⟨b, 0, ys.length, none⟩], ⟨_, rfl⟩, ⟨⟨by simp [hlen], ?_, ?_, h.h.o.push hlen rfl _ rfl⟩, ⟨by simp [h.b.len], ?_, ?_, ?_⟩, ⟨h.t.1, fun t s hs => ?_⟩, h.f, ⟨?_, ?_, ?_, by have := h.n.len; simp; omega, ?_, ?_⟩, h.d, by simp [h.bl], h.e.trans ⟨_, rfl⟩, h.g⟩, ?_⟩
  ·intro id b2 rb hb2 hr hl
   rcases hold id b2 rb hb2 hr with ⟨hb2, hr⟩ | ⟨rfl, rfl, rfl⟩
   ·exact (h.h.blk id b2 rb hb2 hr hl).same hle rfl
   ·exact ⟨⟨ys⟩, el, (0, 0), hc, rfl, (CellOK.of_vrs hv h1).mono hle, fun _ => ⟨rfl, rfl, rfl, fun hh => by cases hh⟩, fun _ => rfl⟩
  ·intro i j bi bj ri rj hij hi hj hri hrj hli hlj hro'
   rcases hold i bi ri hi hri with ⟨hi2, hri2⟩ | ⟨e1, e2, e3⟩
   ·rcases hold j bj rj hj hrj with ⟨hj2, hrj2⟩ | ⟨e1, e2, e3⟩
    ·exact h.h.sep i j bi bj ri rj hij hi2 hj2 hri2 hrj2 hli hlj hro'
    ·rw [e3]; exact h.b.sepH d cs el b i bi ri hB hb hi2 hri2 hli
   ·rcases hold j bj rj hj hrj with ⟨hj2, hrj2⟩ | ⟨e4, e5, e6⟩
    ·rw [e3]; exact (h.b.sepH d cs el b j bj rj hB hb hj2 hrj2 hlj).symm
    ·exact absurd (e1.trans e4.symm) hij
  ·intro i c e hi
   obtain ⟨_, hi⟩ := hbs i c e hi
   obtain ⟨b', zs, hb', hc', hv', h1'⟩ := h.b.loc i c e hi
   exact ⟨b', zs, hb', hc', hv'.mono hle, h1'⟩
  ·intro i c e b' id b2 rb hi hb' hh hr hl
   obtain ⟨hne, hi⟩ := hbs i c e hi
   rcases hold id b2 rb hh hr with ⟨hh, hr⟩ | ⟨rfl, rfl, rfl⟩
   ·exact h.b.sepH i c e b' id b2 rb hi hb' hh hr hl
   ·exact h.b.sepB d i cs el c e b b' (Ne.symm hne) hB hi hb hb'
  ·intro i j c e c' e' b1 b2 hij hi hj hb1 hb2
   exact h.b.sepB i j c e c' e' b1 b2 hij (hbs i c e hi).2 (hbs j c' e' hj).2 hb1 hb2
  ·obtain ⟨y, hy, hr⟩ := h.t.2 t s hs
   exact ⟨y, hy, hslot s y hr⟩
  ·intro id b2 rb hb2 hr hl hro'
   rcases hold id b2 rb hb2 hr with ⟨hb2, hr⟩ | ⟨rfl, rfl, rfl⟩
   ·exact h.n.wh id b2 rb hb2 hr hl hro'
   ·exact h.n.wb d cs el b hB hb
  ·intro i c e b' hi hb'
   exact h.n.wb i c e b' (hbs i c e hi).2 hb'
  ·intro id rb hid hr
   by_cases hlt : id < ρ.length
   ·exact h.n.wn id rb hid (Rho.at_snoc hr hlt)
   ·have hl := Rho.at_lt hr
    simp at hl
    have : id = ρ.length := by omega
    subst this
    rw [Rho.at_new hr]
    exact h.n.wb d cs el b hB hb
  ·intro id b2 hid hb2 hl
   rcases get_snoc hb2 with ⟨hlt, hb2⟩ | ⟨rfl, rfl⟩
   ·exact h.n.liv id b2 hid hb2 hl
   ·have := h.n.len
    omega
  ·intro id b2 rb hb2 hr ho
   rcases hold id b2 rb hb2 hr with ⟨hb2, hr⟩ | ⟨rfl, rfl, rfl⟩
   ·exact h.n.wo id b2 rb hb2 hr ho
   ·cases ho
  ·refine ⟨fun off y hy => ?_, hslot, by simp⟩
   obtain ⟨b', hb', rfl⟩ := hy _ hB
   rw [hb] at hb'
   cases hb'
   exact ⟨⟨b, 0, ys.length, none⟩, hlen ▸ Rho.at_new' ρ _, rfl, by simp⟩
 ·cases e
theorem out_rel {R : Type} (h : Rel P E ρ β st a w) {s : Slot} {y : Value} (hs : SlotR ρ β st.boxes s y) {k : Value → St → Option R} {r : R} (e : out st s k = some r) :
  ∃ ρ' x st', ρ.ext ρ' ∧ Rel P E ρ' β st' a w ∧ VR ρ' x y ∧ k x st' = some r ∧ st'.boxes.length = st.boxes.length ∧ (∀ s y, SlotR ρ β st.boxes s y → SlotR ρ' β st'.boxes s y) := by
 cases s with
 | dead => simp [out] at e
 | v x => exact ⟨ρ, x, st, .refl ρ, h, hs, e, rfl, fun _ _ h => h⟩
 | lp d off =>
  simp only [out] at e
  obtain ⟨⟨id, st'⟩, hp, e⟩ := Option.bind_eq_some_iff.1 e
  obtain ⟨ρ', hx, h', hv, hsl, hlen⟩ := h.promote hp
  obtain ⟨rb, hr, _, rfl⟩ := hv off y hs
  exact ⟨ρ', _, st', hx, h', .ptr _ _ _ hr, e, hlen, hsl⟩
end
end Go.Pv
end
section
namespace Go.Pv
variable [Glob]
section
variable {P : Program} {E : Env} {ρ : Rho} {β : List (Option Nat)} {st : St} {a : Act} {w w' : World}
theorem splice_get {vs c : List Value} {off i : Nat} {x : Value} (hle : off + vs.length ≤ c.length) (h : (splice c off vs)[i]? = some x) :
  (off ≤ i ∧ i < off + vs.length ∧ vs[i - off]? = some x) ∨ ((i < off ∨ off + vs.length ≤ i) ∧ c[i]? = some x) := by
 unfold splice at h
 by_cases h1 : i < off
 ·right
  refine ⟨.inl h1, ?_⟩
  rw [List.append_assoc, List.getElem?_append_left (by simp; omega), List.getElem?_take_of_lt h1] at h
  exact h
 ·by_cases h2 : i < off + vs.length
  ·left
   refine ⟨by omega, h2, ?_⟩
   rw [List.append_assoc, List.getElem?_append_right (by simp; omega), List.getElem?_append_left (by simp; omega)] at h
   simp at h
   rwa [Nat.min_eq_left (by omega)] at h
  ·right
   refine ⟨.inr (by omega), ?_⟩
   rw [List.getElem?_append_right (by simp; omega), List.getElem?_drop] at h
   simp at h
   rw [show off + vs.length + (i - (min off c.length + vs.length)) = i by omega] at h
   exact h
theorem splice_length {vs c : List Value} {off : Nat} (hle : off + vs.length ≤ c.length) : (splice c off vs).length = c.length := by
 simp [splice]; omega
theorem CellOK.le {cs : Array Value} {c : List Value} (h : CellOK ρ cs 0 c) : c.length ≤ cs.size := by
 rcases Nat.eq_zero_or_pos c.length with h0 | h0
 ·omega
 ·obtain ⟨_, y, hy, _⟩ := h (c.length - 1) c[c.length - 1] (List.getElem?_eq_getElem (by omega))
  have := aget_lt hy
  omega
theorem CellOK.splice {cs : Array Value} {c vs ws : List Value} {off : Nat} (h : CellOK ρ cs 0 c) (hv : VRs ρ vs ws) (h1 : ∀ x ∈ vs, x.oneCell' = true) (hle : off + vs.length ≤ c.length) :
  CellOK ρ (cs.toList.take off ++ ws ++ cs.toList.drop (off + ws.length)).toArray 0 (Pv.splice c off vs) := by
 have hl := h.le
 have hvl := hv.length
 intro i x hx
 rcases splice_get hle hx with ⟨h2, h3, hx⟩ | ⟨h2, hx⟩
 ·obtain ⟨y, hy, hr⟩ := hv.get hx
  refine ⟨h1 x (List.mem_of_getElem? hx), y, ?_, hr⟩
  simp only [Nat.zero_add, List.getElem?_toArray]
  rw [List.append_assoc, List.getElem?_append_right (by simp; omega), List.getElem?_append_left (by simp; omega)]
  simp
  rwa [Nat.min_eq_left (by omega)]
 ·obtain ⟨ho, y, hy, hr⟩ := h i x hx
  refine ⟨ho, y, ?_, hr⟩
  simp only [Nat.zero_add, List.getElem?_toArray] at hy ⊢
  rcases h2 with h2 | h2
  ·rw [List.append_assoc, List.getElem?_append_left (by simp; omega), List.getElem?_take_of_lt h2]
   simpa using hy
  ·rw [List.getElem?_append_right (by simp; omega), List.getElem?_drop]
   simp
   rw [show off + ws.length + (i - (min off cs.size + ws.length)) = i by omega]
   exact hy
theorem Rel.wrote (h : Rel P E ρ β st a w) {g : Nat} {new : Array Value} {heap : Heap} {boxes : List Box} (hg : g < w.heap.size)
  (hA : E.A0 g ∨ E.w0.heap.size ≤ g)
  (hhl : heap.length = st.heap.length) (hbl : boxes.length = st.boxes.length)
  (hh : ∀ (id : Nat) b rb, heap[id]? = some b → ρ.at id rb → b.live = true → ∃ b0, st.heap[id]? = some b0 ∧ b0.live = true ∧ b0.ro = b.ro ∧ (rb.b ≠ g ∧ b0 = b ∨ rb.b = g ∧ BlkR P ρ b rb (w.setRow g new)))
  (hb : ∀ (d : Nat) c e, boxes[d]? = some (.loc c e) → ∃ c0, st.boxes[d]? = some (.loc c0 e) ∧ (∀ b, β[d]? = some (some b) → (b ≠ g ∧ c0 = c) ∨ (b = g ∧ ∃ ys, (w.setRow g new).heap[g]? = some (.cells ⟨ys⟩ e (0, 0)) ∧ VRs ρ c ys ∧ ∀ x ∈ c, x.oneCell' = true)))
  (hlv : ∀ (id : Nat) b, heap[id]? = some b → b.live = true → ∃ b0, st.heap[id]? = some b0 ∧ b0.live = true)
  (hp : ∀ (d : Nat) B, boxes[d]? = some B → match B with | .loc _ _ => True | B => st.boxes[d]? = some B)
  (hob : ∀ (id : Nat) (b : Blk) o rb, heap[id]? = some b → ρ.at id rb → b.obj = some o → ∃ b0, st.heap[id]? = some b0 ∧ b0.obj = some o ∧ b0.cells = b.cells ∧ (b0.live = false → b.live = false)) (hgc : ∃ cs e fr, w.heap[g]? = some (.cells cs e fr)) :
  Rel P E ρ β { st with heap := heap, boxes := boxes } a (w.setRow g new) := by
 have hother : ∀ k, k ≠ g → (w.setRow g new).heap[k]? = w.heap[k]? := fun k hk => setRow_other w g k new hk
 have hwd : ∀ (b : Nat) (x : Obj), w.heap[b]? = some x → (∀ cs e fr, x ≠ .cells cs e fr) → (w.setRow g new).heap[b]? = some x := by
  intro b x hx hn
  rw [hother b ?_]
  ·exact hx
  ·rintro rfl
   obtain ⟨cs, e, fr, hc⟩ := hgc
   rw [hc] at hx
   cases hx
   exact hn _ _ _ rfl
 refine ⟨⟨by rw [h.h.len, hhl], ?_, ?_, h.h.o.of (Rho.le.refl ρ) (fun id b rb o h1 h2 h3 => ⟨hob id b o rb h1 h2 h3, h2⟩) fun id b rb o x _ _ _ h4 h5 => hwd _ _ h4 h5.noCells⟩, ⟨by rw [h.b.len, hbl], ?_, ?_, ?_⟩, ⟨h.t.1, fun t s hs => ?_⟩, ⟨h.f.os, h.f.tape, h.f.output, by simpa using h.f.size, fun b h1 h2 => ?_⟩, ⟨?_, ?_, h.n.wn, by rw [hhl]; exact h.n.len, ?_, fun id bl rb h1 h2 h3 => ?_⟩, h.d, by rw [hbl]; exact h.bl, h.e, h.g⟩
 ·intro id b rb hb2 hr hl
  obtain ⟨b0, h0, hl0, hro, hc⟩ := hh id b rb hb2 hr hl
  rcases hc with ⟨hne, rfl⟩ | ⟨rfl, hc⟩
  ·exact (h.h.blk id b0 rb h0 hr hl0).same (Rho.le.refl ρ) (hother _ hne)
  ·exact hc
 ·intro i j bi bj ri rj hij hi hj hri hrj hli hlj hro
  obtain ⟨b0, h0, hl0, hro0, _⟩ := hh i bi ri hi hri hli
  obtain ⟨b1, h1, hl1, _, _⟩ := hh j bj rj hj hrj hlj
  exact h.h.sep i j b0 b1 ri rj hij h0 h1 hri hrj hl0 hl1 (hro0.trans hro)
 ·intro d c e hd
  obtain ⟨c0, hd0, hc⟩ := hb d c e hd
  obtain ⟨b, ys, hb2, hcell, hv, h1⟩ := h.b.loc d c0 e hd0
  rcases hc b hb2 with ⟨hne, rfl⟩ | ⟨rfl, zs, hz, hv', h1'⟩
  ·exact ⟨b, ys, hb2, (hother _ hne).trans hcell, hv, h1⟩
  ·exact ⟨b, zs, hb2, hz, hv', h1'⟩
 ·intro d c e b id bl rb hd hb2 hh2 hr hl
  obtain ⟨c0, hd0, _⟩ := hb d c e hd
  obtain ⟨b0, h0, hl0, _, _⟩ := hh id bl rb hh2 hr hl
  exact h.b.sepH d c0 e b id b0 rb hd0 hb2 h0 hr hl0
 ·intro d d' c e c' e' b b' hne hd hd' hb2 hb2'
  obtain ⟨c0, hd0, _⟩ := hb d c e hd
  obtain ⟨c1, hd1, _⟩ := hb d' c' e' hd'
  exact h.b.sepB d d' c0 e c1 e' b b' hne hd0 hd1 hb2 hb2'
 ·obtain ⟨y, hy, hr⟩ := h.t.2 t s hs
  refine ⟨y, hy, ?_⟩
  cases s with
  | v x => exact hr
  | dead => trivial
  | lp d off =>
   intro B hB
   have := hp d B hB
   cases B with
   | no => trivial
   | prom id => exact hr _ this
   | loc c e =>
    obtain ⟨c0, hd0, _⟩ := hb d c e hB
    exact hr _ hd0
 ·have hne : b ≠ g := by
   rintro rfl
   rcases hA with hA | hA
   ·exact h2 hA
   ·omega
  exact (hother _ hne).trans (h.f.block b h1 h2)
 ·intro id bl rb hh2 hr hl hro
  obtain ⟨b0, h0, hl0, hro0, _⟩ := hh id bl rb hh2 hr hl
  exact h.n.wh id b0 rb h0 hr hl0 (hro0.trans hro)
 ·intro d c e b hd hb2
  obtain ⟨c0, hd0, _⟩ := hb d c e hd
  exact h.n.wb d c0 e b hd0 hb2
 ·intro id bl hid hh2 hl
  obtain ⟨b0, h0, hl0⟩ := hlv id bl hh2 hl
  exact h.n.liv id b0 hid h0 hl0
 ·cases ho : bl.obj with
  | none => rw [ho] at h3; cases h3
  | some o =>
   obtain ⟨b0, h0, ho0, _⟩ := hob id bl o rb h1 h2 ho
   exact h.n.wo id b0 rb h0 h2 (by rw [ho0]; rfl)
theorem hstore_eq {h h' : Heap} {id off : Nat} {vs : List Value} (e : hstore h id off vs = some h') :
  ∃ b, h[id]? = some b ∧ b.live = true ∧ b.ro = false ∧ off + vs.length ≤ b.cells.length ∧ h' = h.set id { b with cells := splice b.cells off vs } := by
 unfold hstore at e
 obtain ⟨b, hb, e⟩ := Option.bind_eq_some_iff.1 e
 obtain ⟨hc, e⟩ := bif_some e
 simp only [Bool.and_eq_true, Bool.not_eq_true'] at hc
 cases e
 exact ⟨b, hb, hc.1.1, hc.1.2, Nat.le_of_ble_eq_true hc.2, rfl⟩
theorem Rel.hstore (h : Rel P E ρ β st a w) {id off : Nat} {vs ws : List Value} {rb : RB} {h' : Heap} (hr : ρ.at id rb) (hv : VRs ρ vs ws) (h1 : ∀ x ∈ vs, x.oneCell' = true) (e : Pv.hstore st.heap id off vs = some h') :
  ∃ w', rb.base = 0 ∧ (storeCells ⟨rb.b, off, none⟩ ws 0).run P w = .ok () w' ∧ Rel P E ρ β { st with heap := h' } a w' := by
 obtain ⟨b, hb, hl, hro, hle, rfl⟩ := hstore_eq e
 obtain ⟨cs, el, fr, hc, hs, hk, hx, hx2⟩ := h.h.blk id b rb hb hr hl
 obtain ⟨rfl, h0, rfl, hu⟩ := hx hro
 rw [h0] at hk
 have hcl := hk.le
 have hvl := hv.length
 have h1' : ∀ v ∈ ws, v.oneCell' = true := by
  intro v hvm
  obtain ⟨i, hi⟩ := List.getElem?_of_mem hvm
  have hlt := get_lt hi
  obtain ⟨y, hy, hr'⟩ := hv.get (List.getElem?_eq_getElem (by omega : i < vs.length))
  rw [hi] at hy
  cases hy
  rw [← hr'.oneCell']
  exact h1 _ (List.getElem_mem _)
 have hrun := run_storeCells_at P rb.b off b.elem ws 0 cs w hc (by omega) h1'
 simp only [Nat.add_zero] at hrun
 refine ⟨_, h0, hrun, ?_⟩
 have hw := h.n.wh id b rb hb hr hl hro
 refine h.wrote (boxes := st.boxes) (aget_lt hc) hw (by simp) rfl ?_ ?_ ?_ ?_ ?_ ⟨_, _, _, hc⟩
 ·intro i b' rb' hi hr' hl'
  rcases set_get hi with ⟨rfl, rfl, _⟩ | ⟨hne, hi⟩
  ·have : rb' = rb := Rho.at_uniq hr' hr
   subst this
   refine ⟨b, hb, hl, rfl, .inr ⟨rfl, ?_⟩⟩
   refine ⟨_, b.elem, (0, 0), setRow_heap w rb'.b cs _ b.elem (0, 0) hc, ?_, ?_, fun _ => ⟨rfl, h0, rfl, hu⟩, hx2⟩
   ·simp
    omega
   ·rw [h0]
    exact hk.splice hv h1 hle
  ·exact ⟨b', hi, hl', rfl, .inl ⟨(h.h.sep id i b b' rb rb' (Ne.symm hne) hb hi hr hr' hl hl' hro).symm, rfl⟩⟩
 ·intro d c e hd
  refine ⟨c, hd, fun b2 hb2 => .inl ⟨(h.b.sepH d c e b2 id b rb hd hb2 hb hr hl).symm, rfl⟩⟩
 ·intro i b' hi hl'
  rcases set_get hi with ⟨rfl, rfl, _⟩ | ⟨hne, hi⟩
  ·exact ⟨b, hb, hl⟩
  ·exact ⟨b', hi, hl'⟩
 ·intro d B hB
  cases B <;> first | trivial | exact hB
 ·intro i b' o rb' hi hr' ho
  rcases set_get hi with ⟨rfl, rfl, _⟩ | ⟨hne, hi⟩
  ·have := (h.h.o.obj i b rb' o hb hr' ho).1
   rw [hl] at this; cases this
  ·exact ⟨b', hi, ho, rfl, fun hh => hh⟩
theorem storeAt_rel (h : Rel P E ρ β st a w) {s : Slot} {y : Value} {vs ws : List Value} {st' : St} (hs : SlotR ρ β st.boxes s y) (hv : VRs ρ vs ws) (h1 : ∀ x ∈ vs, x.oneCell' = true) (e : storeAt st vs s = some st') :
  ∃ A w', y = .pointer (some A) ∧ (storeCells A ws 0).run P w = .ok () w' ∧ Rel P E ρ β st' a w' := by
 have hheap : ∀ {id off : Nat} {rb : RB}, ρ.at id rb → (Pv.hstore st.heap id off vs).bind (fun h => some { st with heap := h }) = some st' →
   ∃ A w', Value.pointer (some ⟨rb.b, rb.base + off, none⟩) = .pointer (some A) ∧ (storeCells A ws 0).run P w = .ok () w' ∧ Rel P E ρ β st' a w' := by
  intro id off rb hr e
  obtain ⟨h', he, e⟩ := Option.bind_eq_some_iff.1 e
  cases e
  obtain ⟨w', h0, hrun, hrel⟩ := h.hstore hr hv h1 he
  exact ⟨_, w', rfl, by rw [h0, Nat.zero_add]; exact hrun, hrel⟩
 cases s with
 | dead => simp [storeAt] at e
 | v u =>
  simp only [storeAt] at e
  obtain ⟨p, hp, e⟩ := Option.bind_eq_some_iff.1 e
  obtain ⟨q, hq, e⟩ := Option.bind_eq_some_iff.1 e
  have hu := toPtr_eq hp
  rw [addrOf_eq hq] at hu
  subst hu
  cases hs with
  | ptr id off rb hr => exact hheap hr e
 | lp d off =>
  simp only [storeAt] at e
  split at e
  ·rename_i c el hB
   obtain ⟨hle, e⟩ := bif_some e
   cases e
   have hle := Nat.le_of_ble_eq_true hle
   obtain ⟨b, hb, rfl⟩ := hs _ hB
   obtain ⟨b', ys, hb', hc, hv', h1'⟩ := h.b.loc d c el hB
   rw [hb] at hb'
   cases hb'
   have hd : d < st.boxes.length := get_lt hB
   have hyl := hv'.length
   have hvl := hv.length
   have hone : ∀ v ∈ ws, v.oneCell' = true := by
    intro v hvm
    obtain ⟨i, hi⟩ := List.getElem?_of_mem hvm
    have hlt := get_lt hi
    obtain ⟨y, hy, hr'⟩ := hv.get (List.getElem?_eq_getElem (by omega : i < vs.length))
    rw [hi] at hy
    cases hy
    rw [← hr'.oneCell']
    exact h1 _ (List.getElem_mem _)
   have hrun := run_storeCells_at P b off el ws 0 ⟨ys⟩ w hc (by simp; omega) hone
   simp only [Nat.add_zero] at hrun
   refine ⟨_, _, rfl, hrun, ?_⟩
   refine h.wrote (heap := st.heap) (aget_lt hc) (h.n.wb d c el b hB hb) rfl (by simp) ?_ ?_ (fun i b hi hl => ⟨b, hi, hl⟩) ?_ (fun i b o _ hi _ ho => ⟨b, hi, ho, rfl, fun hh => hh⟩) ⟨_, _, _, hc⟩
   ·intro i b' rb' hi hr' hl'
    exact ⟨b', hi, hl', rfl, .inl ⟨h.b.sepH d c el b i b' rb' hB hb hi hr' hl', rfl⟩⟩
   ·intro i ci ei hi
    rcases set_get hi with ⟨rfl, he, _⟩ | ⟨hne, hi⟩
    ·cases he
     refine ⟨c, hB, fun b2 hb2 => .inr ?_⟩
     rw [hb] at hb2
     cases hb2
     refine ⟨rfl, _, setRow_heap w b ⟨ys⟩ _ el (0, 0) hc, hv'.splice hv off, ?_⟩
     intro x hx
     unfold splice at hx
     rcases List.mem_append.1 hx with hx | hx
     ·rcases List.mem_append.1 hx with hx | hx
      ·exact h1' x (List.mem_of_mem_take hx)
      ·exact h1 x hx
     ·exact h1' x (List.mem_of_mem_drop hx)
    ·exact ⟨ci, hi, fun b2 hb2 => .inl ⟨h.b.sepB i d ci ei c el b2 b hne hi hB hb2 hb, rfl⟩⟩
   ·intro i B hB'
    rcases set_get hB' with ⟨rfl, rfl, _⟩ | ⟨hne, hB'⟩
    ·trivial
    ·cases B <;> first | trivial | exact hB'
  ·rename_i id hB
   obtain ⟨rb, hr, _, rfl⟩ := hs _ hB
   exact hheap hr e
  ·cases e
theorem Rel.kill (h : Rel P E ρ β st a w) (d : Nat) : Rel P E ρ β { st with tmps := st.tmps.set d .dead, boxes := st.boxes.set d .no } a w := by
 have hbs : ∀ (i : Nat) c e, (st.boxes.set d .no)[i]? = some (.loc c e) → st.boxes[i]? = some (.loc c e) := by
  intro i c e hi
  rcases set_get hi with ⟨_, he, _⟩ | ⟨_, hi⟩
  ·cases he
  ·exact hi
 refine ⟨h.h, ⟨by simp [h.b.len], fun i c e hi => h.b.loc i c e (hbs i c e hi), fun i c e b id bl rb hi => h.b.sepH i c e b id bl rb (hbs i c e hi), fun i j c e c' e' b b' hij hi hj => h.b.sepB i j c e c' e' b b' hij (hbs i c e hi) (hbs j c' e' hj)⟩,
  ⟨by simp [h.t.1], fun t s hs => ?_⟩, h.f, ⟨h.n.wh, fun i c e b hi => h.n.wb i c e b (hbs i c e hi), h.n.wn, h.n.len, h.n.liv, h.n.wo⟩, h.d, by simp [h.bl], h.e, h.g⟩
 rcases set_get hs with ⟨rfl, rfl, hlt⟩ | ⟨hne, hs⟩
 ·rw [h.t.1] at hlt
  exact ⟨_, Array.getElem?_eq_getElem hlt, trivial⟩
 ·obtain ⟨y, hy, hr⟩ := h.t.2 t s hs
  refine ⟨y, hy, ?_⟩
  cases s with
  | v x => exact hr
  | dead => trivial
  | lp d' off =>
   intro B hB
   rcases set_get hB with ⟨rfl, rfl, _⟩ | ⟨hne, hB⟩
   ·trivial
   ·exact hr B hB
theorem Rel.killTmps (l : List Nat) : ∀ {st : St}, Rel P E ρ β st a w → Rel P E ρ β (Pv.killTmps l st) a w := by
 induction l with
 | nil => exact fun h => h
 | cons d r ih => exact fun h => ih (h.kill d)
end
end Go.Pv
end
section
namespace Go.Pv
variable [Glob]
def Writable (ρ : Rho) (h : Heap) (b : Nat) : Prop := ∃ id bl rb, h[id]? = some bl ∧ ρ.at id rb ∧ ((bl.live = true ∧ bl.ro = false) ∨ bl.obj.isSome = true) ∧ rb.b = b
structure Left (P : Program) (ρ : Rho) (h : Heap) (w : World) (r : Value × Heap) (y : Value) (ρ' : Rho) (w' : World) : Prop where
 ext : ρ.ext ρ'
 hr : HRel P ρ' r.2 w'
 v : VR ρ' r.1 y
 f : Fr ⟨w, Writable ρ h, h, ρ, none, []⟩ w'
 n : WRel ⟨w, Writable ρ h, h, ρ, none, []⟩ ρ' [] ⟨[], [], r.2⟩
def fen (ro : Option Nat) : Fence := { Fence.wide with round := ro }
def _root_.Go.Oper.wpR (P : Program) (ro : Option Nat) (o : Oper) (a : Act) (w : World) (next : Act → World → Prop) (Q : Exit → Act → World → Prop) : Prop := o.wpIn (fen ro) 0 P a w next Q
def Gives (P : Program) (f : FuncId) (ys : List Value) (w : World) (R : Value → World → Prop) : Prop :=
 ∀ (ro : Option Nat) (o : Oper) (a : Act) (next : Act → World → Prop) (Q : Exit → Act → World → Prop), (∀ y w', R y w' → next (a.put o.dst y) w') → o.uponIn (fen ro) 0 P a next Q ((callFunc f ⟨ys⟩).run P w)
def CallOK (P : Program) (C : CallF) : Prop := ∀ f xs h r, C f xs h = some r → ∀ ρ w ys, GOK ρ → HRel P ρ h w → VRs ρ xs ys →
 Gives P f ys w fun y w' => ∃ ρ', Left P ρ h w r y ρ' w'
section
variable {P : Program} {E : Env} {ρ : Rho} {β : List (Option Nat)} {st : St} {a : Act} {w : World} {Q : Exit → Act → World → Prop} {next : Act → World → Prop} {o : Oper}
theorem noDefer_of {ρ' : Operand → Value} {x : Next} {w' : World} (h : (execOp ρ' o).run P w = .ok x w') (hx : ∀ d, x ≠ .defer d) : ∀ c, o.op ≠ .defer c := by
 intro c hc
 simp only [execOp, hc, Sem.run_bind] at h
 generalize Sem.run P (resolve ρ' c o.type) w = r at h
 cases r with
 | ok d w2 =>
  simp only [Result.andThen_ok, Sem.run_pure] at h
  cases h
  exact hx d rfl
 | halt e w2 => cases h
theorem wp_value {ro : Option Nat} {v : Value} {w' : World} (h : (execOp a.eval o).run P w = .ok (.value v) w') (hn : next (a.put o.dst v) w') : o.wpR P ro a w next Q := by
 refine ⟨fun _ _ => trivial, ?_⟩
 rw [Oper.semAt_eq _ _ _ (noDefer_of h (by simp)), h]; exact hn
theorem wp_skip' {ro : Option Nat} {w' : World} (h : (execOp a.eval o).run P w = .ok .skip w') (hn : next (a.put o.dst undef) w') : o.wpR P ro a w next Q := by
 refine ⟨fun _ _ => trivial, ?_⟩
 rw [Oper.semAt_eq _ _ _ (noDefer_of h (by simp)), h]; exact hn
theorem tiOf_eq {t : TypeId} {ti : TI} (h : tiOf P t = some ti) : ∃ i, P.info? t = some i ∧ P.underlying t = some ti.desc ∧ ti.size = i.size ∧ ti.bytes = i.bytes ∧ ti.zero = i.zero := by
 unfold tiOf at h
 split at h
 ·rename_i i d hi hd
  cases h
  exact ⟨i, hi, hd, rfl, rfl, rfl⟩
 ·cases h
theorem r_underlying {t : TypeId} {d : TypeDesc} (h : P.underlying t = some d) (w : World) : (underlying t).run P w = .ok d w := by simp [underlying, h]
theorem r_typeInfo {t : TypeId} {i : TypeInfo} (h : P.info? t = some i) (w : World) : (typeInfo t).run P w = .ok i w := by simp [typeInfo, h]
theorem r_sizeOf {t : TypeId} {i : TypeInfo} (h : P.info? t = some i) (w : World) : (sizeOf t).run P w = .ok i.size w := by simp [sizeOf, r_typeInfo h]
theorem r_isAgg {t : TypeId} {ti : TI} (h : tiOf P t = some ti) (w : World) : (isAgg t).run P w = .ok ti.agg w := by
 obtain ⟨i, _, hu, _⟩ := tiOf_eq h
 obtain ⟨d, _, _, _⟩ := ti
 simp only at hu
 cases d <;> simp [isAgg, r_underlying hu, TI.agg]
theorem cellsOf_eq {t : TypeId} {ti : TI} (h : tiOf P t = some ti) : P.cellsOf t = ti.size := by
 obtain ⟨i, hi, _, hs, _⟩ := tiOf_eq h
 simp [Program.cellsOf, hi, hs]
theorem zeroOf_eq {ti : TI} {zs : List Value} (h : zeroOf ti = some zs) : ∃ z, ti.zero = some z ∧ zs = z.cells.toList ∧ (∀ v ∈ z.cells.toList, plain v = true ∧ v.oneCell' = true) ∧ z.cells.toList.length = ti.size := by
 unfold zeroOf at h
 obtain ⟨z, hz, h⟩ := Option.bind_eq_some_iff.1 h
 obtain ⟨hp, h⟩ := bif_some h
 cases h
 obtain ⟨hp, hl⟩ := Bool.and_eq_true_iff.1 hp
 refine ⟨z, hz, rfl, fun v hv => ?_, Nat.eq_of_beq_eq_true hl⟩
 have := List.all_eq_true.1 hp v hv
 simpa using this
theorem plain_vrs {zs : List Value} (h : ∀ v ∈ zs, plain v = true) : VRs ρ zs zs := VRs.of_get rfl fun i x hx => ⟨x, hx, VR.plain_self (h x (List.mem_of_getElem? hx))⟩
def Done (P : Program) (E : Env) (β : List (Option Nat)) (st' : St) (o : Oper) (s' : Slot) (a' : Act) (w' : World) : Prop := ∃ ρ' β', Rel P E ρ' β' (st'.put o.dst s') a' w' ∧ ∀ d, (makes o.op = true → o.dst ≠ some d) → β'[d]? = β[d]?
theorem done_value {st' : St} {s' : Slot} {v : Value} {w' : World} {ρ' : Rho} (h : (execOp a.eval o).run P w = .ok (.value v) w') (hr : Rel P E ρ' β st' a w') (hs : SlotR ρ' β st'.boxes s' v) :
  o.wpR P E.ro a w (Done P E β st' o s') Q := wp_value h ⟨ρ', β, hr.put o.dst hs, fun _ _ => rfl⟩
theorem done_box {st' : St} {s' : Slot} {v : Value} {w' : World} {ρ' : Rho} {d : Nat} {b : Option Nat} (hm : makes o.op = true) (hd : o.dst = some d) (h : (execOp a.eval o).run P w = .ok (.value v) w') (hr : Rel P E ρ' (β.set d b) st' a w') (hs : SlotR ρ' (β.set d b) st'.boxes s' v) :
  o.wpR P E.ro a w (Done P E β st' o s') Q := wp_value h ⟨ρ', β.set d b, hr.put o.dst hs, fun d' hd' => by
   have : d ≠ d' := fun e => hd' hm (by rw [hd, e])
   rw [List.getElem?_set_ne this]⟩
theorem done_skip {st' : St} {w' : World} {ρ' : Rho} (h : (execOp a.eval o).run P w = .ok .skip w') (hr : Rel P E ρ' β st' a w') :
  o.wpR P E.ro a w (Done P E β st' o (.v undef)) Q := wp_skip' h ⟨ρ', β, hr.put o.dst (.tuple _ _ .nil), fun _ _ => rfl⟩
theorem cellsOfV_rel {ti : TI} {x y : Value} {cs : List Value} (h : VR ρ x y) (e : cellsOfV ti x = some cs) : ∃ ys, y.cells = ⟨ys⟩ ∧ VRs ρ cs ys ∧ (∀ z ∈ cs, z.oneCell' = true) ∧ cs.length = ti.size := by
 unfold cellsOfV at e
 split at e
 ·obtain ⟨l, hl, e⟩ := Option.bind_eq_some_iff.1 e
  obtain ⟨hs, e⟩ := bif_some e
  cases e
  obtain ⟨_, ys, rfl, hv, h1⟩ := h.toAgg hl
  exact ⟨ys, rfl, hv, h1, Nat.eq_of_beq_eq_true hs⟩
 ·obtain ⟨hs, e⟩ := bif_some e
  obtain ⟨z, hz, e⟩ := Option.bind_eq_some_iff.1 e
  cases e
  obtain ⟨rfl, h1⟩ := oneOf_eq hz
  have h2 : y.oneCell' = true := by rw [← h.oneCell']; exact h1
  have : y.cells = ⟨[y]⟩ := by cases y <;> first | rfl | simp [Value.oneCell'] at h2
  exact ⟨[y], this, .cons _ _ _ _ h .nil, by simpa using h1, (Nat.eq_of_beq_eq_true hs).symm ▸ rfl⟩
theorem run_loadVar_one {t : TypeId} {ti : TI} (ht : tiOf P t = some ti) (hg : ti.agg = false) {A : Addr} {z : Value} (hc : w.cell? A = some z) : (loadVar t A).run P w = .ok z w := by
 simp [loadVar, r_isAgg ht, hg, hc]
theorem run_loadVar_agg {t : TypeId} {ti : TI} (ht : tiOf P t = some ti) (hg : ti.agg = true) {A : Addr} {ys : List Value} (hl : ys.length = ti.size) (hc : ∀ (j : Nat) z, ys[j]? = some z → w.cell? (A.add j) = some z) : (loadVar t A).run P w = .ok (.agg ⟨ys⟩) w := by
 obtain ⟨i, hi, _, hs, _⟩ := tiOf_eq ht
 have := run_loadCells_list (P := P) w A ys hc
 rw [hl, hs] at this
 simp [loadVar, r_isAgg ht, hg, r_sizeOf hi, this]
theorem run_storeVar_of {t : TypeId} {ti : TI} (ht : tiOf P t = some ti) {A : Addr} {y : Value} {ys : List Value} {w' : World} (hy : y.cells = ⟨ys⟩) (hl : ys.length = ti.size) (hc : (storeCells A ys 0).run P w = .ok () w') : (storeVar t A y).run P w = .ok () w' := by
 obtain ⟨i, hi, _, hs, _⟩ := tiOf_eq ht
 simp [storeVar, r_sizeOf hi, hy, hl, hs, hc]
theorem op_move (h : Rel P E ρ β st a w) {x : Operand} (ho : o.op = .move x ∨ o.op = .assign x) {s : Slot} (e : opd st x = some s) : o.wpR P E.ro a w (Done P E β st o s) Q := by
 refine done_value (v := a.eval x) ?_ h (opd_rel h e)
 rcases ho with ho | ho <;> simp [execOp, ho]
theorem op_pick (h : Rel P E ρ β st a w) {c x y : Operand} (ho : o.op = .pick c x y) {sc s : Slot} {v : Value} {t : Bool} (e : opd st c = some sc) (e1 : valS sc = some v) (e2 : toBool v = some t)
  (e3 : opd st (if t then x else y) = some s) : o.wpR P E.ro a w (Done P E β st o s) Q := by
 have hc := (opd_val h e e1).toBool e2
 refine done_value (v := a.eval (if t then x else y)) ?_ h (opd_rel h e3)
 cases t <;> simp [execOp, ho, asBool, hc.2]
theorem op_load_one (h : Rel P E ρ β st a w) {t : TypeId} {x : Operand} (ho : o.op = .load t x) {ti : TI} (ht : tiOf P t = some ti) (hg : ti.agg = false) {s : Slot} (e : opd st x = some s) {v : Value} (e1 : cellAt st s = some v) : o.wpR P E.ro a w (Done P E β st o (.v v)) Q := by
 obtain ⟨_, A, z, hA, hc, hv⟩ := cellAt_rel h (opd_rel h e) e1
 refine done_value (v := z) ?_ h hv
 simp [execOp, ho, Instr.loadAt, Instr.sureAddr, hA, run_loadVar_one ht hg hc]
theorem op_load_agg (h : Rel P E ρ β st a w) {t : TypeId} {x : Operand} (ho : o.op = .load t x) {ti : TI} (ht : tiOf P t = some ti) (hg : ti.agg = true) {s : Slot} (e : opd st x = some s) {xs : List Value} (e1 : cellsAt st ti.size s = some xs) : o.wpR P E.ro a w (Done P E β st o (.v (.agg ⟨xs⟩))) Q := by
 obtain ⟨h1, A, ys, hA, hl, hv, hc⟩ := cellsAt_rel h (opd_rel h e) e1
 refine done_value (v := .agg ⟨ys⟩) ?_ h (.agg _ _ hv h1)
 simp [execOp, ho, Instr.loadAt, Instr.sureAddr, hA, run_loadVar_agg ht hg hl hc]
theorem op_store (h : Rel P E ρ β st a w) {t : TypeId} {x y : Operand} (ho : o.op = .store t x y) {ti : TI} (ht : tiOf P t = some ti) {sa sx : Slot} (e : opd st x = some sa) (e1 : opd st y = some sx) {R : Type} {k : Slot → St → Option R} {r : R}
  (e2 : (out st sx fun x st => (cellsOfV ti x).bind fun vs => (storeAt st vs sa).bind fun st => k (.v undef) st) = some r) : ∃ st', k (.v undef) st' = some r ∧ o.wpR P E.ro a w (Done P E β st' o (.v undef)) Q := by
 obtain ⟨ρ', v, st1, hx, h1, hv, e3, _, hsl⟩ := out_rel h (opd_rel h e1) e2
 obtain ⟨cs, hcs, e3⟩ := Option.bind_eq_some_iff.1 e3
 obtain ⟨st2, hst, e3⟩ := Option.bind_eq_some_iff.1 e3
 obtain ⟨ys, hy, hvs, hone, hlen⟩ := cellsOfV_rel hv hcs
 obtain ⟨A, w', hA, hrun, hr⟩ := storeAt_rel h1 (hsl _ _ (opd_rel h e)) hvs hone hst
 refine ⟨st2, e3, done_skip ?_ hr⟩
 have := run_storeVar_of ht hy (by rw [← hvs.length]; exact hlen) hrun
 simp [execOp, ho, Instr.storeAt, Instr.sureAddr, hA, this]
theorem op_alloc (h : Rel P E ρ β st a w) {t : TypeId} (ho : o.op = .alloc t) {ti : TI} (ht : tiOf P t = some ti) {zs : List Value} (hzs : zeroOf ti = some zs) {d : Nat} (hdst : o.dst = some d) (hd : d < st.boxes.length) :
  o.wpR P E.ro a w (Done P E β (st.newBox d zs t) o (.lp d 0)) Q := by
 obtain ⟨i, hi, _, _, _, hz'⟩ := tiOf_eq ht
 obtain ⟨z, hz, rfl, hp, _⟩ := zeroOf_eq hzs
 have hv : VRs ρ z.cells.toList z.cells.toList := VRs.of_get rfl fun i x hx => ⟨x, hx, VR.plain_self (hp x (List.mem_of_getElem? hx)).1⟩
 obtain ⟨hr, hs⟩ := h.newBox hd t hv (fun x hx => (hp x hx).2)
 refine done_box (by simp [makes, ho]) hdst (v := .pointer (some ⟨w.heap.size, 0, none⟩)) ?_ hr hs
 have hzz : (zeroValue t).run P w = .ok z w := by simp [zeroValue, r_typeInfo hi, ← hz', hz]
 simp [execOp, ho, Instr.alloc, hzz, newVar, newRow]
theorem op_box (h : Rel P E ρ β st a w) {t : TypeId} {x : Operand} (ho : o.op = .box t x) {ti : TI} {s : Slot} (e : opd st x = some s) {d : Nat} (hdst : o.dst = some d) {R : Type} {k : Slot → St → Option R} {r : R}
  (e2 : (out st s fun x st => (cellsOfV ti x).bind fun cs => bif Nat.blt d st.boxes.length then k (.lp d 0) (st.newBox d cs t) else none) = some r) : ∃ st', k (.lp d 0) st' = some r ∧ o.wpR P E.ro a w (Done P E β st' o (.lp d 0)) Q := by
 obtain ⟨ρ', v, st1, hx, h1, hv, e3, _, hsl⟩ := out_rel h (opd_rel h e) e2
 obtain ⟨cs, hcs, e3⟩ := Option.bind_eq_some_iff.1 e3
 obtain ⟨hd, e3⟩ := bif_some e3
 obtain ⟨ys, hy, hvs, hone, hlen⟩ := cellsOfV_rel hv hcs
 obtain ⟨hr, hs⟩ := h1.newBox (Nat.le_of_ble_eq_true hd) t hvs hone
 refine ⟨_, e3, done_box (by simp [makes, ho]) hdst (v := .pointer (some ⟨w.heap.size, 0, none⟩)) ?_ hr hs⟩
 simp [execOp, ho, Instr.box, newVar, newRow, hy]
theorem op_extract (h : Rel P E ρ β st a w) {x : Operand} {ix : Nat} (ho : o.op = .extract x ix) {s : Slot} {v : Value} {vs : List Value} {u : Value} (e : opd st x = some s) (e1 : valS s = some v) (e2 : toTup v = some vs) (e3 : vs[ix]? = some u) : o.wpR P E.ro a w (Done P E β st o (.v u)) Q := by
 obtain ⟨_, ys, hy, hv⟩ := (opd_val h e e1).toTup e2
 obtain ⟨z, hz, hr⟩ := hv.get e3
 refine done_value (v := z) ?_ h hr
 simp [execOp, ho, Instr.extract, hy, hz]
end
end Go.Pv
end
section
namespace Go.Pv
variable [Glob]
section
variable {P : Program} {w : World}
theorem eqCells_append : ∀ {ka kc : List CK} {a c b d : List Value}, ka.length = a.length → ka.length = b.length → eqCells (ka ++ kc) (a ++ c) (b ++ d) = (eqCells ka a b).bind fun t => bif t then eqCells kc c d else some false
 | [], kc, [], c, [], d, _, _ => by simp [eqCells]
 | [], _, [], _, _ :: _, _, _, h => by simp at h
 | [], _, _ :: _, _, _, _, h, _ => by simp at h
 | _ :: _, _, [], _, _, _, h, _ => by simp at h
 | _ :: _, _, _ :: _, _, [], _, _, h => by simp at h
 | k :: ka, kc, x :: a, c, y :: b, d, h, h' => by
  have ih := eqCells_append (ka := ka) (kc := kc) (a := a) (c := c) (b := b) (d := d) (by simpa using h) (by simpa using h')
  simp only [List.cons_append, eqCells, ih]
  cases eqCell k x y with
  | none => rfl
  | some t => cases t <;> simp
theorem run_part {t : TypeId} {ti : TI} (ht : tiOf P t = some ti) (h1 : ti.agg = false → ti.size = 1) {xs : List Value} {off : Nat} (hle : off + ti.size ≤ xs.length) (ho : ∀ x ∈ xs, x.oneCell' = true) :
  ∃ u, (part t ⟨xs⟩ off).run P w = .ok u w ∧ u.cells = ⟨(xs.drop off).take ti.size⟩ ∧ ((∃ c, u = .agg c) ↔ ti.agg = true) := by
 obtain ⟨i, hi, _, hs, _⟩ := tiOf_eq ht
 cases hg : ti.agg with
 | true =>
  refine ⟨.agg ⟨(xs.drop off).take ti.size⟩, ?_, rfl, by simp⟩
  simp only [part, Sem.run_bind, r_isAgg ht, hg, Result.andThen_ok, if_true, r_sizeOf hi, Sem.run_pure, ← hs]
  congr 2
  simp [List.extract_eq_take_drop]
 | false =>
  have h1 := h1 hg
  have hlt : off < xs.length := by omega
  have hx := ho xs[off] (List.getElem_mem hlt)
  refine ⟨xs[off], ?_, ?_, ?_⟩
  ·simp only [part, Sem.run_bind, r_isAgg ht, hg, Result.andThen_ok, Bool.false_eq_true, if_false]
   simp [hlt]
  ·rw [h1, List.take_one, List.head?_drop, List.getElem?_eq_getElem hlt]
   generalize xs[off] = z at hx
   cases z <;> first | rfl | simp [Value.oneCell'] at hx
  ·generalize xs[off] = z at hx
   cases z <;> simp [Value.oneCell'] at hx ⊢
theorem sized_eq {t : TypeId} {l ks : List CK} (h : sized P t l = some ks) : ks = l ∧ l.length = P.cellsOf t ∧ (P.info? t).isSome = true := by
 obtain ⟨h1, h2⟩ := bif_some h
 cases h2
 simp only [Bool.and_eq_true] at h1
 exact ⟨rfl, Nat.eq_of_beq_eq_true h1.2, h1.1⟩
theorem flat_ti {d : Nat} {t : TypeId} {ks : List CK} (h : kindsOf P d t = some ks) : ks.length = P.cellsOf t ∧ ∃ ti, tiOf P t = some ti ∧ P.cellsOf t = ti.size ∧ (ti.agg = false → ti.size = 1) := by
 cases d with
 | zero => cases h
 | succ d =>
  simp only [kindsOf] at h
  have key : ∀ {desc}, P.underlying t = some desc → (P.info? t).isSome = true → ∃ ti, tiOf P t = some ti ∧ P.cellsOf t = ti.size ∧ ti.desc = desc := by
   intro desc hu hi
   obtain ⟨i, hi⟩ := Option.isSome_iff_exists.1 hi
   exact ⟨⟨desc, i.size, i.bytes, i.zero⟩, by simp [tiOf, hi, hu], by simp [Program.cellsOf, hi], rfl⟩
  split at h
  ·rename_i k hu
   obtain ⟨rfl, hl, hi⟩ := sized_eq h
   obtain ⟨ti, h1, h2, h3⟩ := key hu hi
   exact ⟨hl, ti, h1, h2, fun _ => by rw [← h2, ← hl]; rfl⟩
  ·rename_i hu
   obtain ⟨rfl, hl, hi⟩ := sized_eq h
   obtain ⟨ti, h1, h2, h3⟩ := key hu hi
   exact ⟨hl, ti, h1, h2, fun _ => by rw [← h2, ← hl]; rfl⟩
  ·rename_i hu
   obtain ⟨rfl, hl, hi⟩ := sized_eq h
   obtain ⟨ti, h1, h2, h3⟩ := key hu hi
   exact ⟨hl, ti, h1, h2, fun _ => by rw [← h2, ← hl]; rfl⟩
  ·rename_i fs hu
   obtain ⟨_, h⟩ := bif_none h
   obtain ⟨l, _, h⟩ := Option.bind_eq_some_iff.1 h
   obtain ⟨rfl, hl, hi⟩ := sized_eq h
   obtain ⟨ti, h1, h2, h3⟩ := key hu hi
   exact ⟨hl, ti, h1, h2, fun hg => by simp [TI.agg, h3] at hg⟩
  ·rename_i n e hu
   obtain ⟨l, _, h⟩ := Option.bind_eq_some_iff.1 h
   obtain ⟨rfl, hl, hi⟩ := sized_eq h
   obtain ⟨ti, h1, h2, h3⟩ := key hu hi
   exact ⟨hl, ti, h1, h2, fun hg => by simp [TI.agg, h3] at hg⟩
  ·cases h
theorem cells_one {u : Value} {x : Value} {xs : List Value} (h : u.cells = ⟨x :: xs⟩) (hn : ¬ ∃ c, u = .agg c) : u = x ∧ xs = [] := by
 cases u <;> first | (exact absurd ⟨_, rfl⟩ hn) | (simp [Value.cells] at h; obtain ⟨h1, h2⟩ := h; exact ⟨h1, h2⟩)
theorem eq_flat : ∀ (d : Nat) (t : TypeId) (ks : List CK), kindsOf P d t = some ks → ∀ (k : Nat) (u v : Value) (xs ys : List Value) (b : Bool), xs.length = P.cellsOf t → ys.length = P.cellsOf t → u.cells = ⟨xs⟩ → v.cells = ⟨ys⟩ →
  (∀ ti, tiOf P t = some ti → ((∃ c, u = .agg c) ↔ ti.agg = true)) → (∀ ti, tiOf P t = some ti → ((∃ c, v = .agg c) ↔ ti.agg = true)) → (∀ x ∈ xs, x.oneCell' = true) → (∀ x ∈ ys, x.oneCell' = true) → eqCells ks xs ys = some b → (Op.equalIn (d + k) t u v).run P w = .ok b w := by
 intro d
 induction d with
 | zero => intro t ks h; cases h
 | succ d ih =>
  intro t ks h k u v xs ys b hx hy hu hv hau hav ho1 ho2 e
  obtain ⟨hkl, ti, hti, hsz, h1s⟩ := flat_ti h
  have hau := hau ti hti
  have hav := hav ti hti
  rw [show d + 1 + k = (d + k) + 1 by omega]
  -- one part
  have part1 : ∀ (t' : TypeId) (ks' : List CK), kindsOf P d t' = some ks' → ∀ (off : Nat), off + P.cellsOf t' ≤ xs.length → ∀ (b' : Bool), eqCells ks' ((xs.drop off).take (P.cellsOf t')) ((ys.drop off).take (P.cellsOf t')) = some b' →
    ∃ p q, (part t' ⟨xs⟩ off).run P w = .ok p w ∧ (part t' ⟨ys⟩ off).run P w = .ok q w ∧ (Op.equalIn (d + k) t' p q).run P w = .ok b' w := by
   intro t' ks' h' off hle b' e'
   obtain ⟨_, tj, htj, hsz', h1'⟩ := flat_ti h'
   rw [hsz'] at hle e'
   obtain ⟨p, hp, hpc, hpa⟩ := run_part (w := w) htj h1' (xs := xs) hle ho1
   obtain ⟨q, hq, hqc, hqa⟩ := run_part (w := w) htj h1' (xs := ys) (off := off) (by omega) ho2
   refine ⟨p, q, hp, hq, ih t' ks' h' k p q ((xs.drop off).take tj.size) ((ys.drop off).take tj.size) b' (by simp; omega) (by simp; omega) hpc hqc (fun ti' ht' => ?_) (fun ti' ht' => ?_) (fun x hx => ho1 x (List.mem_of_mem_drop (List.mem_of_mem_take hx))) (fun x hx => ho2 x (List.mem_of_mem_drop (List.mem_of_mem_take hx))) e'⟩
   ·rw [htj] at ht'; cases ht'; exact hpa
   ·rw [htj] at ht'; cases ht'; exact hqa
  have split1 : ∀ (ka kc : List CK) (off : Nat) (b' : Bool), off + ka.length ≤ xs.length → eqCells (ka ++ kc) (xs.drop off) (ys.drop off) = some b' → ∃ c, eqCells ka ((xs.drop off).take ka.length) ((ys.drop off).take ka.length) = some c ∧ (c = false → b' = false) ∧ (c = true → eqCells kc (xs.drop (off + ka.length)) (ys.drop (off + ka.length)) = some b') := by
   intro ka kc off b' hle e'
   have h3 := eqCells_append (ka := ka) (kc := kc) (a := (xs.drop off).take ka.length) (c := (xs.drop off).drop ka.length) (b := (ys.drop off).take ka.length) (d := (ys.drop off).drop ka.length) (by simp; omega) (by simp; omega)
   rw [List.take_append_drop, List.take_append_drop, e'] at h3
   cases hc : eqCells ka ((xs.drop off).take ka.length) ((ys.drop off).take ka.length) with
   | none => rw [hc] at h3; cases h3
   | some c =>
    rw [hc] at h3
    refine ⟨c, rfl, fun hh => ?_, fun hh => ?_⟩
    ·subst hh; simpa using h3
    ·subst hh
     simp only [Option.bind_some, cond_true, List.drop_drop] at h3
     exact h3.symm
  have scalar : ∀ {c : CK}, ks = [c] → ti.agg = false → eqCell c u v = some b := by
   rintro c rfl hg
   have hl := h1s hg
   rw [hsz, hl] at hx hy
   match xs, ys, hx, hy with
   | [x], [y], _, _ =>
    obtain ⟨rfl, _⟩ := cells_one hu (fun hh => by rw [hau.1 hh] at hg; cases hg)
    obtain ⟨rfl, _⟩ := cells_one hv (fun hh => by rw [hav.1 hh] at hg; cases hg)
    simp only [eqCells] at e
    cases hc : eqCell c u v with
    | none => rw [hc] at e; cases e
    | some c => rw [hc] at e; cases c <;> simpa using e
  have hdesc : P.underlying t = some ti.desc := by obtain ⟨_, _, h3, _⟩ := tiOf_eq hti; exact h3
  obtain ⟨desc, size, bytes, zero⟩ := ti
  simp only at hdesc hsz
  simp only [kindsOf, hdesc] at h
  cases desc with
  | int kd =>
   obtain ⟨rfl, _, _⟩ := sized_eq h
   have he := scalar rfl rfl
   cases u <;> cases v <;> simp only [eqCell] at he <;> try (cases he; done)
   have hk := (bif_some he).1
   have he2 := (bif_some he).2
   clear he
   simp at hk
   subst hk
   simp only [Option.some.injEq] at he2
   subst he2
   exact run_equalIn_int w (d + k) t _ _ _ _ hdesc
  | bool =>
   obtain ⟨rfl, _, _⟩ := sized_eq h
   have he := scalar rfl rfl
   cases u <;> cases v <;> simp only [eqCell] at he <;> try (cases he; done)
   cases he
   exact run_equalIn_bool' w (d + k) t _ _ hdesc
  | string =>
   obtain ⟨rfl, _, _⟩ := sized_eq h
   have he := scalar rfl rfl
   cases u <;> cases v <;> simp only [eqCell] at he <;> try (cases he; done)
   cases he
   simp [Op.equalIn, r_underlying hdesc]
  | struct fs =>
   obtain ⟨hst, h⟩ := bif_none h
   obtain ⟨l, hrow, h⟩ := Option.bind_eq_some_iff.1 h
   obtain ⟨rfl, _, _⟩ := sized_eq h
   obtain ⟨cu, rfl⟩ := hau.2 rfl
   obtain ⟨cv, rfl⟩ := hav.2 rfl
   simp only [Value.cells] at hu hv
   subst hu; subst hv
   have hfo : P.fieldsOf t = fs := by simp [Program.fieldsOf, hdesc]
   rw [run_equalIn_struct w (d + k) t _ _ (by rw [hfo]; exact hdesc) hst, hfo]
   have key : ∀ (l : List Field) (ks : List CK) (off : Nat) (b' : Bool), kindsRow P (kindsOf P d) l off = some ks → off + ks.length = xs.length → eqCells ks (xs.drop off) (ys.drop off) = some b' → (Op.eqFields (d + k) ⟨xs⟩ ⟨ys⟩ l).run P w = .ok b' w := by
    intro l
    induction l with
    | nil =>
     intro ks off b' h1 h2 e'
     cases h1
     have : off = xs.length := by simpa using h2
     subst this
     rw [List.drop_length, hx, ← hy, List.drop_length] at e'
     cases e'
     simp [Op.eqFields]
    | cons f l ihl =>
     intro ks off b' h1 h2 e'
     simp only [kindsRow] at h1
     obtain ⟨h3, h4⟩ := bif_some h1
     simp only [Bool.and_eq_true] at h3
     have h5 : f.offset = off := Nat.eq_of_beq_eq_true h3.1
     have hne : f.name ≠ "_" := by simpa using h3.2
     obtain ⟨ka, hka, h6⟩ := Option.bind_eq_some_iff.1 h4
     obtain ⟨kc, hkc, h7⟩ := Option.bind_eq_some_iff.1 h6
     cases h7
     have hlen := (flat_ti hka).1
     simp only [List.length_append] at h2
     obtain ⟨c, hc, hcf, hct⟩ := split1 ka kc off b' (by omega) e'
     rw [hlen] at hc hct h2
     obtain ⟨p, q, hp, hq, hr⟩ := part1 f.type ka hka off (by omega) c hc
     simp only [Op.eqFields, if_pos hne, h5, Sem.run_bind, hp, hq, hr, Result.andThen_ok]
     cases c with
     | false => simp [hcf rfl]
     | true => simpa using ihl kc (off + P.cellsOf f.type) b' hkc (by omega) (hct rfl)
   exact key fs.toList _ 0 b hrow (by omega) (by simpa using e)
  | array n el =>
   obtain ⟨l, hel, h⟩ := Option.bind_eq_some_iff.1 h
   obtain ⟨rfl, _, _⟩ := sized_eq h
   obtain ⟨cu, rfl⟩ := hau.2 rfl
   obtain ⟨cv, rfl⟩ := hav.2 rfl
   simp only [Value.cells] at hu hv
   subst hu; subst hv
   obtain ⟨hlen, tj, htj, hsz', h1'⟩ := flat_ti hel
   obtain ⟨i, hi, _⟩ := tiOf_eq htj
   rw [run_equalIn_array w (d + k) _ _ hdesc hi]
   have key : ∀ (m j : Nat) (b' : Bool), j * P.cellsOf el + (List.replicate m l).flatten.length = xs.length → eqCells (List.replicate m l).flatten (xs.drop (j * P.cellsOf el)) (ys.drop (j * P.cellsOf el)) = some b' → (Op.eqItems (d + k) el (P.cellsOf el) ⟨xs⟩ ⟨ys⟩ (List.range' j m)).run P w = .ok b' w := by
    intro m
    induction m with
    | zero =>
     intro j b' h1 e'
     simp only [List.replicate_zero, List.flatten_nil, List.length_nil, Nat.add_zero] at h1 e'
     rw [h1, List.drop_length, hx, ← hy, List.drop_length] at e'
     cases e'
     simp [Op.eqItems]
    | succ m ihm =>
     intro j b' h1 e'
     rw [List.replicate_succ, List.flatten_cons] at h1 e'
     simp only [List.length_append] at h1
     obtain ⟨c, hc, hcf, hct⟩ := split1 l _ (j * P.cellsOf el) b' (by omega) e'
     rw [hlen] at hc hct h1
     obtain ⟨p, q, hp, hq, hr⟩ := part1 el l hel (j * P.cellsOf el) (by omega) c hc
     rw [List.range'_succ]
     simp only [Op.eqItems, Sem.run_bind, hp, hq, hr, Result.andThen_ok]
     cases c with
     | false => simp [hcf rfl]
     | true =>
      have := ihm (j + 1) b' (by rw [Nat.succ_mul]; omega) (by rw [Nat.succ_mul]; exact hct rfl)
      simpa using this
   rw [List.range_eq_range']
   exact key n 0 b (by omega) (by simpa using e)
  | _ => cases h
end
end Go.Pv
end
section
namespace Go.Pv
variable [Glob]
section
variable {P : Program} {E : Env} {ρ : Rho} {β : List (Option Nat)} {st : St} {a : Act} {w : World} {Q : Exit → Act → World → Prop} {next : Act → World → Prop} {o : Oper}
theorem eqGuard_none (op : BinOp) (t : TypeId) (x y : Operand) (u v : Value) (h : (∀ b, u ≠ .agg b) ∧ u ≠ .nilIface) : (eqGuard op t x y u v).run P w = .ok () w := by
 unfold eqGuard
 cases op <;> simp
 all_goals
  cases u <;> simp at h ⊢
theorem equalIn_bool (d : Nat) {t : TypeId} (ht : P.underlying t = some .bool) (x y : Bool) : (Op.equalIn (d + 1) t (.bool x) (.bool y)).run P w = .ok (x == y) w := by
 simp [Op.equalIn, r_underlying ht]
theorem equal_bool {t : TypeId} (ht : P.underlying t = some .bool) (x y : Bool) : (Op.equal t (.bool x) (.bool y)).run P w = .ok (x == y) w := equalIn_bool 9999 ht x y
theorem equalIn_slice (d : Nat) {t e : TypeId} (ht : P.underlying t = some (.slice e)) (A B : Option Addr) (n c n' c' : Nat) (h : A = none ∨ B = none) :
  (Op.equalIn (d + 1) t (.slice A n c) (.slice B n' c')).run P w = .ok (A.isNone && B.isNone) w := by
 rcases A with _ | A <;> rcases B with _ | B <;> simp [Op.equalIn, r_underlying ht] at h ⊢
theorem equal_slice {t e : TypeId} (ht : P.underlying t = some (.slice e)) (A B : Option Addr) (n c n' c' : Nat) (h : A = none ∨ B = none) :
  (Op.equal t (.slice A n c) (.slice B n' c')).run P w = .ok (A.isNone && B.isNone) w := equalIn_slice 9999 ht A B n c n' c' h
theorem equalIn_ptr (d : Nat) {t e : TypeId} (ht : P.underlying t = some (.pointer e)) (A B : Option Addr) (h : A = none ∨ B = none) : (Op.equalIn (d + 1) t (.pointer A) (.pointer B)).run P w = .ok (A.isNone && B.isNone) w := by
 rcases A with _ | A <;> rcases B with _ | B <;> simp [Op.equalIn, r_underlying ht] at h ⊢
theorem equalIn_func (d : Nat) {t : TypeId} {ps rs : Array TypeId} {va : Bool} (ht : P.underlying t = some (.func ps rs va)) (f : Fn) (xs ys : Array Value) :
  (Op.equalIn (d + 1) t .nilFunc .nilFunc).run P w = .ok true w ∧ (Op.equalIn (d + 1) t .nilFunc (.func f xs ys)).run P w = .ok false w ∧ (Op.equalIn (d + 1) t (.func f xs ys) .nilFunc).run P w = .ok false w := by
 refine ⟨?_, ?_, ?_⟩ <;> simp [Op.equalIn, r_underlying ht]
theorem equalIn_iface (d : Nat) {t : TypeId} {ms : Array (String × TypeId)} (ht : P.underlying t = some (.interface ms)) (i : TypeId) (v : Value) :
  (Op.equalIn (d + 1) t .nilIface .nilIface).run P w = .ok true w ∧ (Op.equalIn (d + 1) t .nilIface (.iface i v)).run P w = .ok false w ∧ (Op.equalIn (d + 1) t (.iface i v) .nilIface).run P w = .ok false w := by
 refine ⟨?_, ?_, ?_⟩ <;> simp [Op.equalIn, r_underlying ht]
theorem intBin_run {op : BinOp} {k : IntKind} {x y : Int} {v : Value} (h : intBin op k x y = some v) (t : TypeId) (hs : op ≠ .shl ∧ op ≠ .shr) : (binOp op t (.int k x) (.int k y)).run P w = .ok v w := by
 cases op <;> simp [intBin] at h <;> (try (simp at hs; done))
 all_goals first
  | (subst h; simp [binOp, Op.intArith, Op.intBits, Op.intCmp]; done)
  | (cases hy : (y == 0) <;> simp [hy] at h
     subst h
     have hy' : ¬ y = 0 := by simpa using hy
     simp [binOp, Op.intDiv, hy'])
theorem strBin_run {op : BinOp} {x y : ByteArray} {v : Value} (h : strBin op x y = some v) (t : TypeId) : (binOp op t (.string x) (.string y)).run P w = .ok v w := by
 cases op <;> simp [strBin] at h
 case add =>
  obtain ⟨hb, h⟩ := bif_some h
  cases h
  have hb := Nat.le_of_ble_eq_true hb
  have hk : ¬ (((x.size + y.size : Nat) : Int) > IntKind.i64.max) := by
   have : IntKind.i64.max = 9223372036854775807 := by decide
   rw [this]
   omega
  simp only [binOp, Op.stringOp, if_neg hk, Sem.run_pure]
 all_goals
  subst h
  simp [binOp, Op.stringOp]
theorem eqCell_rel {c : CK} {x y x' y' : Value} {b : Bool} (hx : VR ρ x x') (hy : VR ρ y y') (e : eqCell c x y = some b) : eqCell c x' y' = some b := by
 unfold eqCell at e
 split at e
 ·cases hx; cases hy; exact e
 ·cases hx; cases hy; exact e
 ·cases hx; cases hy; exact e
 ·cases e
theorem eqCells_rel {b : Bool} : ∀ {ks : List CK} {xs ys xs' ys' : List Value}, VRs ρ xs xs' → VRs ρ ys ys' → eqCells ks xs ys = some b → eqCells ks xs' ys' = some b
 | [], _, _, _, _, .nil, .nil, e => e
 | c :: ks, _, _, _, _, .cons x x' xs xs' hx tx, .cons y y' ys ys' hy ty, e => by
  simp only [eqCells] at e ⊢
  obtain ⟨t, ht, e1⟩ := Option.bind_eq_some_iff.1 e
  rw [eqCell_rel hx hy ht, Option.bind_some]
  cases t with
  | true => exact eqCells_rel tx ty e1
  | false => exact e1
 | [], _, _, _, _, .cons _ _ _ _ _ _, _, e => by simp [eqCells] at e
 | [], _, _, _, _, .nil, .cons _ _ _ _ _ _, e => by simp [eqCells] at e
 | _ :: _, _, _, _, _, .nil, _, e => by simp [eqCells] at e
 | _ :: _, _, _, _, _, .cons _ _ _ _ _ _, .nil, e => by simp [eqCells] at e
theorem VRs.one {xs ys : List Value} (h : VRs ρ xs ys) (h1 : ∀ x ∈ xs, x.oneCell' = true) : ∀ y ∈ ys, y.oneCell' = true := by
 intro y hy
 obtain ⟨i, hi⟩ := List.getElem?_of_mem hy
 have hlt := get_lt hi
 rw [← h.length] at hlt
 obtain ⟨y', hy', hr⟩ := h.get (List.getElem?_eq_getElem hlt)
 rw [hi] at hy'
 cases hy'
 rw [← hr.oneCell']
 exact h1 _ (List.getElem_mem _)
theorem eqAgg_run {t : TypeId} (ht : (∃ fs, P.underlying t = some (.struct fs)) ∨ ∃ n e, P.underlying t = some (.array n e)) {u v ax ay : Value} {x y : Operand} (hu : VR ρ u ax) (hv : VR ρ v ay) {bb : Bool} (hb : eqAgg P t u v = some bb) :
  (∀ op, op = .eql ∨ op = .neq → (eqGuard op t x y ax ay).run P w = .ok () w) ∧ (Op.equal t ax ay).run P w = .ok bb w ∧ (∀ op, op = .eql ∨ op = .neq → binOp op t ax ay = (match op with | .eql => do pure (.bool (← Op.equal t ax ay)) | _ => do pure (.bool (!(← Op.equal t ax ay))))) := by
 unfold eqAgg at hb
 obtain ⟨ks, hks, h1⟩ := Option.bind_eq_some_iff.1 hb
 obtain ⟨xs, hxs, h2⟩ := Option.bind_eq_some_iff.1 h1
 obtain ⟨ys, hys, h3⟩ := Option.bind_eq_some_iff.1 h2
 obtain ⟨hc, h4⟩ := bif_none h3
 simp only [Bool.or_eq_false_iff, Bool.not_eq_false', Bool.and_eq_true] at hc
 obtain ⟨hg, hl1, hl2⟩ := hc
 have hl1 := Nat.eq_of_beq_eq_true hl1
 have hl2 := Nat.eq_of_beq_eq_true hl2
 obtain ⟨_, xs', rfl, hvx, ho1⟩ := hu.toAgg hxs
 obtain ⟨_, ys', rfl, hvy, ho2⟩ := hv.toAgg hys
 have hagg : ∀ (cs : Array Value) (ti : TI), tiOf P t = some ti → ((∃ c, Value.agg cs = .agg c) ↔ ti.agg = true) := fun cs ti hti => by
  refine ⟨fun _ => ?_, fun _ => ⟨cs, rfl⟩⟩
  obtain ⟨_, _, hd, _⟩ := tiOf_eq hti
  obtain ⟨desc, _, _, _⟩ := ti
  simp only at hd
  rcases ht with ⟨fs, ht⟩ | ⟨n, e, ht⟩ <;> rw [ht] at hd <;> cases hd <;> rfl
 refine ⟨fun op _ => run_eqGuard_agg w op t x y _ _ hg, ?_, by rintro op (rfl | rfl) <;> rfl⟩
 exact eq_flat 100 t ks hks 9900 _ _ xs' ys' bb (by rw [← hvx.length]; exact hl1) (by rw [← hvy.length]; exact hl2) rfl rfl (hagg _) (hagg _) (hvx.one ho1) (hvy.one ho2) (eqCells_rel hvx hvy h4)
theorem eqP_run {t : TypeId} {lit : Bool} {u v ax ay : Value} {x y : Operand} (hu : VR ρ u ax) (hv : VR ρ v ay) (hlit : lit = true → (isConst x || isConst y) = true) {bb : Bool} (hb : eqP P lit t u v = some bb) :
  (∀ op, op = .eql ∨ op = .neq → (eqGuard op t x y ax ay).run P w = .ok () w) ∧ (Op.equal t ax ay).run P w = .ok bb w ∧ (∀ op, op = .eql ∨ op = .neq → binOp op t ax ay = (match op with | .eql => do pure (.bool (← Op.equal t ax ay)) | _ => do pure (.bool (!(← Op.equal t ax ay))))) := by
 unfold eqP at hb
 split at hb
 ·rename_i ht
  obtain ⟨p, hp, hb⟩ := Option.bind_eq_some_iff.1 hb
  obtain ⟨q, hq, hb⟩ := Option.bind_eq_some_iff.1 hb
  cases hb
  obtain ⟨_, rfl⟩ := hu.toBool hp
  obtain ⟨_, rfl⟩ := hv.toBool hq
  exact ⟨fun op _ => eqGuard_none _ _ _ _ _ _ ⟨by simp, by simp⟩, equal_bool ht _ _, by rintro op (rfl | rfl) <;> rfl⟩
 ·rename_i e' ht
  obtain ⟨p, hp, hb2⟩ := Option.bind_eq_some_iff.1 hb
  obtain ⟨q, hq, hb3⟩ := Option.bind_eq_some_iff.1 hb2
  clear hb hb2
  have h1 := toSl_eq hp
  have h2 := toSl_eq hq
  obtain ⟨p1, p2, p3⟩ := p
  obtain ⟨q1, q2, q3⟩ := q
  simp only at h1 h2 hb3
  clear hp hq
  subst h1; subst h2
  have g : ∀ (n c : Nat) (A : Option Addr), (∀ b, Value.slice A n c ≠ .agg b) ∧ Value.slice A n c ≠ .nilIface := fun _ _ _ => ⟨by simp, by simp⟩
  split at hb3
  ·cases hb3
   cases hu
   cases hv with
   | nilSlice => exact ⟨fun op _ => eqGuard_none _ _ _ _ _ _ (g _ _ _), by rw [equal_slice ht _ _ _ _ _ _ (.inl rfl)]; rfl, by rintro op (rfl | rfl) <;> rfl⟩
   | slice => exact ⟨fun op _ => eqGuard_none _ _ _ _ _ _ (g _ _ _), by rw [equal_slice ht _ _ _ _ _ _ (.inl rfl)]; rfl, by rintro op (rfl | rfl) <;> rfl⟩
   | empty => exact ⟨fun op _ => eqGuard_none _ _ _ _ _ _ (g _ _ _), by rw [equal_slice ht _ _ _ _ _ _ (.inl rfl)]; rfl, by rintro op (rfl | rfl) <;> rfl⟩
  ·cases hb3
   cases hv
   cases hu with
   | slice => exact ⟨fun op _ => eqGuard_none _ _ _ _ _ _ (g _ _ _), by rw [equal_slice ht _ _ _ _ _ _ (.inr rfl)]; rfl, by rintro op (rfl | rfl) <;> rfl⟩
   | empty => exact ⟨fun op _ => eqGuard_none _ _ _ _ _ _ (g _ _ _), by rw [equal_slice ht _ _ _ _ _ _ (.inr rfl)]; rfl, by rintro op (rfl | rfl) <;> rfl⟩
  ·cases hb3
 ·rename_i e' ht
  obtain ⟨p, hp, hb2⟩ := Option.bind_eq_some_iff.1 hb
  obtain ⟨q, hq, hb3⟩ := Option.bind_eq_some_iff.1 hb2
  clear hb hb2
  have h1 := toPtr_eq hp
  have h2 := toPtr_eq hq
  clear hp hq
  subst h1; subst h2
  have g : ∀ (A : Option Addr), (∀ b, Value.pointer A ≠ .agg b) ∧ Value.pointer A ≠ .nilIface := fun _ => ⟨by simp, by simp⟩
  have eqn : ∀ A B : Option Addr, A = none ∨ B = none → (Op.equal t (.pointer A) (.pointer B)).run P w = .ok (A.isNone && B.isNone) w := fun A B hAB => equalIn_ptr 9999 ht A B hAB
  split at hb3
  ·cases hb3
   cases hu
   cases hv with
   | nilPtr => exact ⟨fun op _ => eqGuard_none _ _ _ _ _ _ (g _), by rw [eqn _ _ (.inl rfl)]; rfl, by rintro op (rfl | rfl) <;> rfl⟩
   | ptr => exact ⟨fun op _ => eqGuard_none _ _ _ _ _ _ (g _), by rw [eqn _ _ (.inl rfl)]; rfl, by rintro op (rfl | rfl) <;> rfl⟩
  ·cases hb3
   cases hv
   cases hu with
   | ptr => exact ⟨fun op _ => eqGuard_none _ _ _ _ _ _ (g _), by rw [eqn _ _ (.inr rfl)]; rfl, by rintro op (rfl | rfl) <;> rfl⟩
  ·cases hb3
 ·rename_i ps rs va ht
  have hg : ∀ {A B : Value}, (∀ b, A ≠ .agg b) ∧ A ≠ .nilIface → ∀ op, op = BinOp.eql ∨ op = .neq → (eqGuard op t x y A B).run P w = .ok () w := fun hA op _ => eqGuard_none _ _ _ _ _ _ hA
  unfold eqFn at hb
  split at hb
  ·cases hb; cases hu; cases hv
   exact ⟨hg ⟨by simp, by simp⟩, (equalIn_func 9999 ht default #[] #[]).1, by rintro op (rfl | rfl) <;> rfl⟩
  ·cases hb; cases hu
   cases hv <;> exact ⟨hg ⟨by simp, by simp⟩, (equalIn_func 9999 ht _ _ _).2.1, by rintro op (rfl | rfl) <;> rfl⟩
  ·cases hb; cases hv
   cases hu <;> exact ⟨hg ⟨by simp, by simp⟩, (equalIn_func 9999 ht _ _ _).2.2, by rintro op (rfl | rfl) <;> rfl⟩
  ·cases hb
 ·rename_i ms ht
  have hg2 : ∀ (i : TypeId) (v : Value) (op : BinOp), (eqGuard op t x y .nilIface (.iface i v)).run P w = .ok () w := fun i v op => by cases op <;> simp [eqGuard]
  unfold eqIf at hb
  split at hb
  ·obtain ⟨hl, hb2⟩ := bif_some hb
   cases hb2
   cases hu
   cases hv
   refine ⟨fun op _ => ?_, (equalIn_iface 9999 ht 0 undef).1, by rintro op (rfl | rfl) <;> rfl⟩
   have := hlit hl
   cases x <;> cases y <;> simp [isConst] at this <;> cases op <;> simp [eqGuard]
  ·cases hb
   cases hu
   cases hv
   exact ⟨fun op _ => hg2 _ _ op, (equalIn_iface 9999 ht _ _).2.1, by rintro op (rfl | rfl) <;> rfl⟩
  ·cases hb
   cases hu
   cases hv
   exact ⟨fun op _ => eqGuard_none _ _ _ _ _ _ ⟨by simp, by simp⟩, (equalIn_iface 9999 ht _ _).2.2, by rintro op (rfl | rfl) <;> rfl⟩
  ·cases hb
 ·rename_i fs ht
  exact eqAgg_run (.inl ⟨_, ht⟩) hu hv hb
 ·rename_i n e ht
  exact eqAgg_run (.inr ⟨_, _, ht⟩) hu hv hb
 ·cases hb
theorem binOp_run (h : Rel P E ρ β st a w) {op : BinOp} {t ty : TypeId} {x y : Operand} (ho : o.op = .binOp op t x y ty) {sx sy : Slot} {u v r : Value} (e : opd st x = some sx) (e1 : opd st y = some sy) (e2 : valS sx = some u) (e3 : valS sy = some v) (e4 : binP P op t (isConst x || isConst y) u v = some r) :
  ∃ r', (execOp a.eval o).run P w = .ok (.value r') w ∧ VR ρ r r' := by
 have hu := opd_val h e e2
 have hv := opd_val h e1 e3
 have key : ∃ r', (do eqGuard op t x y (a.eval x) (a.eval y); binOp op t (a.eval x) (a.eval y) : Sem Value).run P w = .ok r' w ∧ VR ρ r r' := by
  unfold binP at e4
  split at e4
  ·rename_i hop
   split at e4
   ·rename_i k p k' q
    generalize hx : a.eval x = ax at *
    generalize hy : a.eval y = ay at *
    cases hu; cases hv
    unfold shiftP at e4
    obtain ⟨hq, e5⟩ := bif_none e4
    have hq' : ¬ q < 0 := by simpa using hq
    simp at e5
    subst e5
    exact ⟨_, by simp [eqGuard, binOp, Op.shift, hq'], .int _ _⟩
   ·cases e4
  ·rename_i hop
   split at e4
   ·rename_i k p k' q
    generalize hx : a.eval x = ax at *
    generalize hy : a.eval y = ay at *
    cases hu; cases hv
    unfold shiftP at e4
    obtain ⟨hq, e5⟩ := bif_none e4
    have hq' : ¬ q < 0 := by simpa using hq
    simp at e5
    subst e5
    exact ⟨_, by simp [eqGuard, binOp, Op.shift, hq'], .int _ _⟩
   ·cases e4
  ·rename_i h1 h2
   split at e4
   ·rename_i k p k' q
    obtain ⟨hk, e5⟩ := bif_some e4
    clear e4
    simp at hk
    subst hk
    have e4 := e5
    clear e5
    have hr := intBin_run (P := P) (w := w) e4 t ⟨h1, h2⟩
    generalize hx : a.eval x = ax at *
    generalize hy : a.eval y = ay at *
    cases hu; cases hv
    refine ⟨r, by rw [Sem.run_bind, eqGuard_none _ _ _ _ _ _ ⟨by simp, by simp⟩]; exact hr, ?_⟩
    cases op <;> simp [intBin] at e4 <;> first
     | (subst e4; first | exact .int _ _ | exact .bool _)
     | (obtain ⟨_, rfl⟩ := e4; exact .int _ _)
     | (cases hq : (q == 0) <;> simp [hq] at e4; subst e4; exact .int _ _)
   ·rename_i p q
    have hr := strBin_run (P := P) (w := w) e4 t
    generalize hx : a.eval x = ax at *
    generalize hy : a.eval y = ay at *
    cases hu; cases hv
    refine ⟨r, by rw [Sem.run_bind, eqGuard_none _ _ _ _ _ _ ⟨by simp, by simp⟩]; exact hr, ?_⟩
    cases op <;> simp [strBin] at e4 <;> first
     | (subst e4; first | exact .string _ | exact .bool _)
     | (obtain ⟨_, e4⟩ := bif_some e4; cases e4; exact .string _)
   ·rename_i hn1 hn2
    have hq := fun bb hb => eqP_run (P := P) (w := w) (t := t) (x := x) (y := y) hu hv (fun hh => hh) (bb := bb) hb
    split at e4
    ·obtain ⟨bb, hb, e4⟩ := Option.bind_eq_some_iff.1 e4
     cases e4
     obtain ⟨h3, h5, h6⟩ := hq bb hb
     refine ⟨.bool bb, ?_, .bool _⟩
     rw [Sem.run_bind, h3 .eql (.inl rfl), Result.andThen_ok, h6 .eql (.inl rfl)]
     simp [h5]
    ·obtain ⟨bb, hb, e4⟩ := Option.bind_eq_some_iff.1 e4
     cases e4
     obtain ⟨h3, h5, h6⟩ := hq bb hb
     refine ⟨.bool (!bb), ?_, .bool _⟩
     rw [Sem.run_bind, h3 .neq (.inr rfl), Result.andThen_ok, h6 .neq (.inr rfl)]
     simp [h5]
    ·cases e4
 obtain ⟨r', hr, hvr⟩ := key
 refine ⟨r', ?_, hvr⟩
 simp only [execOp, ho, Sem.run_bind] at hr ⊢
 rw [hr]; rfl
theorem op_binOp (h : Rel P E ρ β st a w) {op : BinOp} {t ty : TypeId} {x y : Operand} (ho : o.op = .binOp op t x y ty) {sx sy : Slot} {u v r : Value} (e : opd st x = some sx) (e1 : opd st y = some sy) (e2 : valS sx = some u) (e3 : valS sy = some v) (e4 : binP P op t (isConst x || isConst y) u v = some r) :
  o.wpR P E.ro a w (Done P E β st o (.v r)) Q := by
 obtain ⟨r', hr, hvr⟩ := binOp_run h ho e e1 e2 e3 e4
 exact done_value (v := r') hr h hvr
theorem op_unOp (h : Rel P E ρ β st a w) {op : UnOp} {t : TypeId} {x : Operand} (ho : o.op = .unOp op t x) {sx : Slot} {u r : Value} (e : opd st x = some sx) (e2 : valS sx = some u) (e4 : unP op u = some r) :
  o.wpR P E.ro a w (Done P E β st o (.v r)) Q := by
 have hu := opd_val h e e2
 unfold unP at e4
 split at e4
 ·cases e4
  generalize hx : a.eval x = ax at *
  cases hu
  exact done_value (v := _) (by simp [execOp, ho, hx, Op.unary, Op.intArith]) h (.int _ _)
 ·cases e4
  generalize hx : a.eval x = ax at *
  cases hu
  exact done_value (v := _) (by simp [execOp, ho, hx, Op.unary, Op.intBits]) h (.int _ _)
 ·cases e4
  generalize hx : a.eval x = ax at *
  cases hu
  exact done_value (v := _) (by simp [execOp, ho, hx, Op.unary]) h (.bool _)
 ·cases e4
theorem moved_rel {s s' : Slot} {y : Value} {n : Nat} (hs : SlotR ρ β st.boxes s y) (e : moved st n s = some s') : ∃ A, y = .pointer (some A) ∧ A.spot = none ∧ SlotR ρ β st.boxes s' (.pointer (some (A.add n))) := by
 cases s with
 | dead => simp [moved] at e
 | v u =>
  simp only [moved] at e
  obtain ⟨p, hp, e⟩ := Option.bind_eq_some_iff.1 e
  obtain ⟨q, hq, e⟩ := Option.bind_eq_some_iff.1 e
  cases e
  have hu := toPtr_eq hp
  rw [addrOf_eq hq] at hu
  subst hu
  cases hs with
  | ptr id off rb hr =>
   refine ⟨_, rfl, rfl, ?_⟩
   rw [add_mk]
   have := VR.ptr (ρ := ρ) q.1 (q.2 + n) rb hr
   rwa [← Nat.add_assoc] at this
 | lp d off =>
  simp only [moved] at e
  split at e
  ·rename_i c el hB
   cases e
   obtain ⟨b, hb, rfl⟩ := hs _ hB
   refine ⟨_, rfl, rfl, fun B hB' => ?_⟩
   rw [hB] at hB'
   cases hB'
   exact ⟨b, hb, by rw [add_mk]⟩
  ·rename_i id hB
   cases e
   obtain ⟨rb, hr, hu, rfl⟩ := hs _ hB
   refine ⟨_, rfl, rfl, fun B hB' => ?_⟩
   rw [hB] at hB'
   cases hB'
   exact ⟨rb, hr, hu, by rw [add_mk, Nat.add_assoc]⟩
  ·cases e
end
end Go.Pv
end
section
namespace Go.Pv
variable [Glob]
section
variable {P : Program} {E : Env} {ρ : Rho} {β : List (Option Nat)} {st : St} {a : Act} {w : World} {Q : Exit → Act → World → Prop} {next : Act → World → Prop} {o : Oper}
theorem fieldTI_eq {fs : List Field} {i : Nat} {q : Nat × TI} (h : fieldTI P fs i = some q) : ∃ f, fs[i]? = some f ∧ tiOf P f.type = some q.2 ∧ q.1 = f.offset := by
 unfold fieldTI at h
 obtain ⟨f, hf, h⟩ := Option.bind_eq_some_iff.1 h
 obtain ⟨ti, ht, h⟩ := Option.bind_eq_some_iff.1 h
 cases h
 exact ⟨f, hf, ht, rfl⟩
theorem idx_eq {i : Int} {n j : Nat} (h : idx i n = some j) : i = j ∧ j < n := by
 cases i with
 | ofNat m =>
  obtain ⟨hb, h⟩ := bif_some h
  cases h
  exact ⟨rfl, Nat.le_of_ble_eq_true hb⟩
 | negSucc m => cases h
theorem upTo_eq {i : Int} {n j : Nat} (h : upTo i n = some j) : i = j ∧ j ≤ n := by
 cases i with
 | ofNat m =>
  obtain ⟨hb, h⟩ := bif_some h
  cases h
  exact ⟨rfl, Nat.le_of_ble_eq_true hb⟩
 | negSucc m => cases h
theorem beq_false {a b : Nat} (h : Nat.beq a b = false) : a ≠ b := by
 intro e
 subst e
 rw [Nat.beq_refl] at h
 cases h
theorem op_fieldAddr (h : Rel P E ρ β st a w) {t : TypeId} {x : Operand} {f : Nat} (ho : o.op = .fieldAddr t x f) {fs : Array Field} (ht : P.underlying t = some (.struct fs)) {s s' : Slot} {q : Nat × TI} (e : opd st x = some s)
  (e1 : fieldTI P fs.toList f = some q) (e2 : Nat.beq q.2.size 0 = false) (e3 : moved st q.1 s = some s') : o.wpR P E.ro a w (Done P E β st o s') Q := by
 obtain ⟨fd, hf, hti, hq⟩ := fieldTI_eq e1
 obtain ⟨i, hi, _, hsz, _⟩ := tiOf_eq hti
 obtain ⟨A, hA, hsp, hs⟩ := moved_rel (opd_rel h e) e3
 have hf' : fs[f]? = some fd := by simpa using hf
 have hne : ¬ i.size = 0 := by rw [← hsz]; exact beq_false e2
 refine done_value (v := .pointer (some (A.add q.1))) ?_ h hs
 simp [execOp, ho, Instr.fieldAt, r_underlying ht, hf', Instr.sureAddr, hA, fieldPlace, r_sizeOf hi, hne, hq]
theorem op_indexAddr_array (h : Rel P E ρ β st a w) {t e' : TypeId} {x ix : Operand} (ho : o.op = .indexAddr t x ix) {n : Nat} (ht : P.underlying t = some (.array n e')) {te : TI} (hte : tiOf P e' = some te) {s si s' : Slot} {v : Value} {i : Int} {j : Nat} (e : opd st x = some s) (e1 : opd st ix = some si) (e2 : valS si = some v) (e3 : intOfV v = some i)
  (e4 : idx i n = some j) (e5 : moved st (j * te.size) s = some s') : o.wpR P E.ro a w (Done P E β st o s') Q := by
 obtain ⟨ii, hii, _, hsz, _⟩ := tiOf_eq hte
 obtain ⟨k, _, hi⟩ := (opd_val h e1 e2).intOfV e3
 obtain ⟨rfl, hj⟩ := idx_eq e4
 obtain ⟨A, hA, hsp, hs⟩ := moved_rel (opd_rel h e) e5
 refine done_value (v := .pointer (some (A.add (j * te.size)))) ?_ h hs
 have h1 : (0 : Int) ≤ (j : Int) := by omega
 have h2 : (j : Int) < (n : Int) := by omega
 simp [execOp, ho, Instr.indexAt, hi, asIntOf, r_underlying ht, Instr.sureAddr, hA, h1, r_sizeOf hii, hsz]
 intro hge; omega
theorem op_indexAddr_slice (h : Rel P E ρ β st a w) {t e' : TypeId} {x ix : Operand} (ho : o.op = .indexAddr t x ix) (ht : P.underlying t = some (.slice e')) {te : TI} (hte : tiOf P e' = some te) {s si : Slot} {v u : Value} {i : Int} {j : Nat} {q : Option Addr × Nat × Nat} {p : Nat × Nat} (e : opd st x = some s) (e0 : valS s = some u) (e1 : opd st ix = some si) (e2 : valS si = some v) (e3 : intOfV v = some i) (e4 : toSl u = some q)
  (e5 : idx i q.2.1 = some j) (e6 : addrOf q.1 = some p) : o.wpR P E.ro a w (Done P E β st o (.v (.pointer (some ⟨p.1, p.2 + j * te.size, none⟩)))) Q := by
 obtain ⟨ii, hii, _, hsz, _⟩ := tiOf_eq hte
 obtain ⟨k, _, hi⟩ := (opd_val h e1 e2).intOfV e3
 obtain ⟨rfl, hj⟩ := idx_eq e5
 have hu := opd_val h e e0
 have hq := toSl_eq e4
 obtain ⟨q1, q2, q3⟩ := q
 simp only at hq hj e6
 rw [addrOf_eq e6] at hq
 subst hq
 have h1 : (0 : Int) ≤ (j : Int) := by omega
 have h2 : (j : Int) < (q2 : Int) := by omega
 generalize hx : a.eval x = ax at *
 cases hu with
 | slice id off n c c' rb hr hn hc hm hu =>
  refine done_value (v := .pointer (some (Addr.add ⟨rb.b, rb.base + p.2, none⟩ (j * te.size)))) ?_ h ?_
  ·simp [execOp, ho, Instr.indexAt, hi, hx, asIntOf, r_underlying ht, h1, r_sizeOf hii, hsz]
   intro hge; omega
  ·rw [add_mk, Nat.add_assoc]
   exact .ptr _ _ _ hr
 | empty => omega
theorem part_one {t : TypeId} {ti : TI} (ht : tiOf P t = some ti) (hg : ti.agg = false) {ys : List Value} {off : Nat} {z : Value} (hz : ys[off]? = some z) : (part t ⟨ys⟩ off).run P w = .ok z w := by
 simp [part, r_isAgg ht, hg, hz]
theorem part_agg {t : TypeId} {ti : TI} (ht : tiOf P t = some ti) (hg : ti.agg = true) (ys : List Value) (off : Nat) : (part t ⟨ys⟩ off).run P w = .ok (.agg ⟨(ys.drop off).take ti.size⟩) w := by
 obtain ⟨i, hi, _, hsz, _⟩ := tiOf_eq ht
 simp only [part, Sem.run_bind, r_isAgg ht, hg, Result.andThen_ok, if_true, r_sizeOf hi, Sem.run_pure, hsz]
 congr 2
 apply Array.ext'
 simp [Array.toList_extract, List.extract_eq_take_drop]
theorem op_field_one (h : Rel P E ρ β st a w) {t : TypeId} {x : Operand} {f : Nat} (ho : o.op = .field t x f) {fs : Array Field} (ht : P.underlying t = some (.struct fs)) {s : Slot} {u z : Value} {cs : List Value} {q : Nat × TI} (e : opd st x = some s) (e1 : valS s = some u) (e2 : toAgg u = some cs) (e3 : fieldTI P fs.toList f = some q) (hg : q.2.agg = false) (e4 : cs[q.1]? = some z) :
  o.wpR P E.ro a w (Done P E β st o (.v z)) Q := by
 obtain ⟨fd, hf, hti, hq⟩ := fieldTI_eq e3
 obtain ⟨_, ys, hy, hv, _⟩ := (opd_val h e e1).toAgg e2
 obtain ⟨y, hyy, hr⟩ := hv.get e4
 have hf' : fs[f]? = some fd := by simpa using hf
 refine done_value (v := y) ?_ h hr
 have := part_one (w := w) hti hg (by rw [← hq]; exact hyy : ys[fd.offset]? = some y)
 simp [execOp, ho, Instr.field, r_underlying ht, hf', hy, asAgg, this]
theorem op_field_agg (h : Rel P E ρ β st a w) {t : TypeId} {x : Operand} {f : Nat} (ho : o.op = .field t x f) {fs : Array Field} (ht : P.underlying t = some (.struct fs)) {s : Slot} {u : Value} {cs : List Value} {q : Nat × TI} (e : opd st x = some s) (e1 : valS s = some u) (e2 : toAgg u = some cs) (e3 : fieldTI P fs.toList f = some q) (hg : q.2.agg = true) :
  o.wpR P E.ro a w (Done P E β st o (.v (.agg ⟨(cs.drop q.1).take q.2.size⟩))) Q := by
 obtain ⟨fd, hf, hti, hq⟩ := fieldTI_eq e3
 obtain ⟨_, ys, hy, hv, h1⟩ := (opd_val h e e1).toAgg e2
 have hf' : fs[f]? = some fd := by simpa using hf
 refine done_value (v := .agg ⟨(ys.drop q.1).take q.2.size⟩) ?_ h (.agg _ _ ((hv.drop _).take _) fun x hx => h1 x (List.mem_of_mem_drop (List.mem_of_mem_take hx)))
 have := part_agg (w := w) hti hg ys fd.offset
 simp [execOp, ho, Instr.field, r_underlying ht, hf', hy, asAgg, this, hq]
theorem op_index_string (h : Rel P E ρ β st a w) {t : TypeId} {x ix : Operand} (ho : o.op = .index t x ix) (ht : P.underlying t = some .string) {s si : Slot} {u v : Value} {i : Int} {b : ByteArray} {j : Nat} (e : opd st x = some s) (e1 : opd st ix = some si) (e2 : valS s = some u) (e3 : valS si = some v) (e4 : intOfV v = some i) (e5 : toStr u = some b) (e6 : idx i b.size = some j) :
  o.wpR P E.ro a w (Done P E β st o (.v (.int .u8 (b.data.toList.getD j 0).toNat))) Q := by
 obtain ⟨k, _, hi⟩ := (opd_val h e1 e3).intOfV e4
 obtain ⟨_, hb⟩ := (opd_val h e e2).toStr e5
 obtain ⟨rfl, hj⟩ := idx_eq e6
 refine done_value (v := .int .u8 (b.data.toList.getD j 0).toNat) ?_ h (.int _ _)
 have hg : b[j]? = some (b.data.toList.getD j 0) := by
  have : b[j]? = some b[j] := getElem?_pos b j hj
  rw [this]
  congr 1
  have h2 : j < b.data.toList.length := by simpa using hj
  simp [List.getD, List.getElem?_eq_getElem h2]
  rfl
 simp [execOp, ho, Instr.index, hi, hb, asIntOf, r_underlying ht, hg]
theorem op_index_one (h : Rel P E ρ β st a w) {t e' : TypeId} {x ix : Operand} (ho : o.op = .index t x ix) {n : Nat} (ht : P.underlying t = some (.array n e')) {te : TI} (hte : tiOf P e' = some te) (hg : te.agg = false) {s si : Slot} {u v z : Value} {i : Int} {cs : List Value} {j : Nat} (e : opd st x = some s) (e1 : opd st ix = some si) (e2 : valS s = some u) (e3 : valS si = some v) (e4 : intOfV v = some i) (e5 : toAgg u = some cs) (e6 : idx i n = some j) (e7 : cs[j * te.size]? = some z) :
  o.wpR P E.ro a w (Done P E β st o (.v z)) Q := by
 obtain ⟨ii, hii, _, hsz, _⟩ := tiOf_eq hte
 obtain ⟨k, _, hi⟩ := (opd_val h e1 e3).intOfV e4
 obtain ⟨_, ys, hy, hv, _⟩ := (opd_val h e e2).toAgg e5
 obtain ⟨rfl, hj⟩ := idx_eq e6
 obtain ⟨y, hyy, hr⟩ := hv.get e7
 have h1 : (0 : Int) ≤ (j : Int) := by omega
 have h2 : (j : Int) < (n : Int) := by omega
 have := part_one (w := w) hte hg hyy
 rw [hsz] at this
 refine done_value (v := y) ?_ h hr
 simp [execOp, ho, Instr.index, hi, hy, asIntOf, r_underlying ht, h1, r_sizeOf hii, this]
 intro hge; omega
theorem op_index_agg (h : Rel P E ρ β st a w) {t e' : TypeId} {x ix : Operand} (ho : o.op = .index t x ix) {n : Nat} (ht : P.underlying t = some (.array n e')) {te : TI} (hte : tiOf P e' = some te) (hg : te.agg = true) {s si : Slot} {u v : Value} {i : Int} {cs : List Value} {j : Nat} (e : opd st x = some s) (e1 : opd st ix = some si) (e2 : valS s = some u) (e3 : valS si = some v) (e4 : intOfV v = some i) (e5 : toAgg u = some cs) (e6 : idx i n = some j) :
  o.wpR P E.ro a w (Done P E β st o (.v (.agg ⟨(cs.drop (j * te.size)).take te.size⟩))) Q := by
 obtain ⟨ii, hii, _, hsz, _⟩ := tiOf_eq hte
 obtain ⟨k, _, hi⟩ := (opd_val h e1 e3).intOfV e4
 obtain ⟨_, ys, hy, hv, hone⟩ := (opd_val h e e2).toAgg e5
 obtain ⟨rfl, hj⟩ := idx_eq e6
 have h1 : (0 : Int) ≤ (j : Int) := by omega
 have h2 : (j : Int) < (n : Int) := by omega
 have := part_agg (w := w) hte hg ys (j * te.size)
 rw [hsz] at this
 refine done_value (v := .agg ⟨(ys.drop (j * te.size)).take te.size⟩) ?_ h (.agg _ _ ((hv.drop _).take _) fun x hx => hone x (List.mem_of_mem_drop (List.mem_of_mem_take hx)))
 simp [execOp, ho, Instr.index, hi, hy, asIntOf, r_underlying ht, h1, r_sizeOf hii, this, hsz]
 intro hge; omega
theorem sliceBound_run {x : Value} {k : IntKind} {i : Int} {n j : Nat} (hx : x = .int k i) (h : upTo i n = some j) (c : BoundsCode) : (Instr.sliceBound x n c).run P w = .ok j w := by
 obtain ⟨rfl, hj⟩ := upTo_eq h
 have h1 : (0 : Int) ≤ (j : Int) := by omega
 have h2 : (j : Int) ≤ (n : Int) := by omega
 simp [Instr.sliceBound, hx, asIntOf, h1, h2]
theorem bound_rel (h : Rel P E ρ β st a w) {x : Operand} {s : Slot} {top other j : Nat} (e : opd st x = some s) (e1 : bound (some s) top other = some j) : ∃ k i, a.eval x = .int k i ∧ upTo i top = some j := by
 simp only [bound] at e1
 obtain ⟨u, hu, e1⟩ := Option.bind_eq_some_iff.1 e1
 obtain ⟨i, hi, e1⟩ := Option.bind_eq_some_iff.1 e1
 obtain ⟨k, _, hy⟩ := (opd_val h e hu).intOfV hi
 exact ⟨k, i, hy, e1⟩
theorem upTo_more {i : Int} {n n' j : Nat} (h : upTo i n = some j) (hn : n ≤ n') : upTo i n' = some j := by
 obtain ⟨rfl, hj⟩ := upTo_eq h
 show (bif Nat.ble j n' then some j else none) = some j
 rw [Nat.ble_eq_true_of_le (Nat.le_trans hj hn)]
 rfl
theorem sliceBounds_run (h : Rel P E ρ β st a w) {lo hi mx : Option Operand} {slo shi smx : Option Slot} {len c c' l hh m : Nat} (isSlice : Bool) (hc : c ≤ c') (hlc : len ≤ c) (e1 : opdO st lo = some slo) (e2 : opdO st hi = some shi) (e3 : opdO st mx = some smx)
  (b1 : bound smx c c = some m) (b2 : bound shi m len = some hh) (b3 : bound slo hh 0 = some l) (hmx : mx.isSome = true → hi.isSome = true) :
  ∃ m', (Instr.sliceBounds isSlice len c' (lo.map a.eval) (hi.map a.eval) (mx.map a.eval)).run P w = .ok (l, hh, m') w ∧ m ≤ m' ∧ m' ≤ c' ∧ l ≤ hh ∧ hh ≤ m ∧ m ≤ c ∧ (m' = m ∨ (m = c ∧ m' = c')) := by
 have hopd : ∀ {x : Option Operand} {s : Option Slot}, opdO st x = some s → (x = none ∧ s = none) ∨ ∃ y z, x = some y ∧ s = some z ∧ opd st y = some z := by
  intro x s e
  cases x with
  | none => simp [opdO] at e; exact .inl ⟨rfl, e.symm⟩
  | some y =>
   simp only [opdO] at e
   obtain ⟨z, hz, e⟩ := Option.bind_eq_some_iff.1 e
   cases e
   exact .inr ⟨y, z, rfl, rfl, hz⟩
 rcases hopd e3 with ⟨rfl, rfl⟩ | ⟨y3, z3, rfl, rfl, o3⟩
 ·simp [bound] at b1
  subst b1
  rcases hopd e2 with ⟨rfl, rfl⟩ | ⟨y2, z2, rfl, rfl, o2⟩
  ·simp [bound] at b2
   subst b2
   rcases hopd e1 with ⟨rfl, rfl⟩ | ⟨y1, z1, rfl, rfl, o1⟩
   ·simp [bound] at b3
    subst b3
    exact ⟨c', by simp [Instr.sliceBounds], hc, Nat.le_refl _, by omega, hlc, Nat.le_refl _, .inr ⟨rfl, rfl⟩⟩
   ·obtain ⟨k, i, hy, hu⟩ := bound_rel h o1 b3
    have := (upTo_eq hu).2
    exact ⟨c', by simp [Instr.sliceBounds, sliceBound_run hy hu], hc, Nat.le_refl _, this, hlc, Nat.le_refl _, .inr ⟨rfl, rfl⟩⟩
  ·obtain ⟨k2, i2, hy2, hu2⟩ := bound_rel h o2 b2
   have h2 := (upTo_eq hu2).2
   rcases hopd e1 with ⟨rfl, rfl⟩ | ⟨y1, z1, rfl, rfl, o1⟩
   ·simp [bound] at b3
    subst b3
    exact ⟨c', by simp [Instr.sliceBounds, sliceBound_run hy2 (upTo_more hu2 hc)], hc, Nat.le_refl _, by omega, h2, Nat.le_refl _, .inr ⟨rfl, rfl⟩⟩
   ·obtain ⟨k, i, hy, hu⟩ := bound_rel h o1 b3
    have := (upTo_eq hu).2
    exact ⟨c', by simp [Instr.sliceBounds, sliceBound_run hy hu, sliceBound_run hy2 (upTo_more hu2 hc)], hc, Nat.le_refl _, this, h2, Nat.le_refl _, .inr ⟨rfl, rfl⟩⟩
 ·obtain ⟨k3, i3, hy3, hu3⟩ := bound_rel h o3 b1
  have h3 := (upTo_eq hu3).2
  rcases hopd e2 with ⟨rfl, rfl⟩ | ⟨y2, z2, rfl, rfl, o2⟩
  ·simp at hmx
  ·obtain ⟨k2, i2, hy2, hu2⟩ := bound_rel h o2 b2
   have h2 := (upTo_eq hu2).2
   rcases hopd e1 with ⟨rfl, rfl⟩ | ⟨y1, z1, rfl, rfl, o1⟩
   ·simp [bound] at b3
    subst b3
    exact ⟨m, by simp [Instr.sliceBounds, sliceBound_run hy2 hu2, sliceBound_run hy3 (upTo_more hu3 hc)], Nat.le_refl _, by omega, by omega, h2, h3, .inl rfl⟩
   ·obtain ⟨k, i, hy, hu⟩ := bound_rel h o1 b3
    have := (upTo_eq hu).2
    exact ⟨m, by simp [Instr.sliceBounds, sliceBound_run hy hu, sliceBound_run hy2 hu2, sliceBound_run hy3 (upTo_more hu3 hc)], Nat.le_refl _, by omega, this, h2, h3, .inl rfl⟩
end
end Go.Pv
end
section
namespace Go.Pv
variable [Glob]
inductive SlotRs (ρ : Rho) (β : List (Option Nat)) (bx : List Box) : List Slot → List Value → Prop where
 | nil : SlotRs ρ β bx [] []
 | cons (s : Slot) (y : Value) (ss : List Slot) (ys : List Value) (h : SlotR ρ β bx s y) (t : SlotRs ρ β bx ss ys) : SlotRs ρ β bx (s :: ss) (y :: ys)
section
variable {P : Program} {E : Env} {ρ : Rho} {β : List (Option Nat)} {st : St} {a : Act} {w : World} {Q : Exit → Act → World → Prop} {next : Act → World → Prop} {o : Oper}
theorem op_slice_string (h : Rel P E ρ β st a w) {t : TypeId} {x : Operand} {lo hi : Option Operand} (ho : o.op = .slice t x lo hi none) (ht : P.underlying t = some .string) {s : Slot} {u : Value} {b : ByteArray} {slo shi : Option Slot} {hh l : Nat} (e : opd st x = some s) (e1 : valS s = some u) (e2 : toStr u = some b)
  (e3 : opdO st lo = some slo) (e4 : opdO st hi = some shi) (b1 : bound shi b.size b.size = some hh) (b2 : bound slo hh 0 = some l) : o.wpR P E.ro a w (Done P E β st o (.v (.string (b.extract l hh)))) Q := by
 obtain ⟨_, hb⟩ := (opd_val h e e1).toStr e2
 obtain ⟨m', hr, _⟩ := sliceBounds_run h (mx := none) (smx := none) (m := b.size) false (Nat.le_refl b.size) (Nat.le_refl _) e3 e4 rfl rfl b1 b2 (by simp)
 refine done_value (v := .string (b.extract l hh)) ?_ h (.string _)
 simp only [Option.map_none] at hr
 simp [execOp, ho, Instr.sliceAt, r_underlying ht, Instr.slice, hb, hr]
theorem op_slice_slice (h : Rel P E ρ β st a w) {t e' : TypeId} {x : Operand} {lo hi mx : Option Operand} (ho : o.op = .slice t x lo hi mx) (ht : P.underlying t = some (.slice e')) {te : TI} (hte : tiOf P e' = some te) {s : Slot} {u : Value} {q : Option Addr × Nat × Nat} {slo shi smx : Option Slot} {m hh l : Nat} (e : opd st x = some s) (e1 : valS s = some u) (e2 : toSl u = some q)
  (e3 : opdO st lo = some slo) (e4 : opdO st hi = some shi) (e5 : opdO st mx = some smx) (b0 : bound smx q.2.2 q.2.2 = some m) (b1 : bound shi m q.2.1 = some hh) (b2 : bound slo hh 0 = some l) (hmx : mx.isSome = true → hi.isSome = true) {r : Value}
  (hts : 1 ≤ te.size) (er : (q.1 = none ∧ r = .slice none 0 0) ∨ ∃ ad p, q.1 = some ad ∧ addrOf (some ad) = some p ∧ r = .slice (some ⟨p.1, p.2 + l * te.size, none⟩) (hh - l) (m - l)) : o.wpR P E.ro a w (Done P E β st o (.v r)) Q := by
 have hu := opd_val h e e1
 have hq := toSl_eq e2
 obtain ⟨ii, hii, _, hsz, _⟩ := tiOf_eq hte
 obtain ⟨q1, q2, q3⟩ := q
 simp only at hq b0 b1 er
 subst hq
 generalize hx : a.eval x = ax at *
 have run : ∀ (A : Option Addr) (c' m' : Nat), ax = .slice A q2 c' → (Instr.sliceBounds true q2 c' (lo.map a.eval) (hi.map a.eval) (mx.map a.eval)).run P w = .ok (l, hh, m') w →
   (execOp a.eval o).run P w = .ok (.value (.slice (if m' = l then A else A.map (·.add (l * te.size))) (hh - l) (m' - l))) w := by
  intro A c' m' hA hr
  simp [execOp, ho, Instr.sliceAt, r_underlying ht, Instr.slice, hx, hA, hr, r_sizeOf hii, hsz]
 cases hu with
 | nilSlice =>
  obtain ⟨m', hr, h1, h2, h3, h4, h5, h6⟩ := sliceBounds_run h true (Nat.le_refl 0) (Nat.le_refl 0) e3 e4 e5 b0 b1 b2 hmx
  rcases er with ⟨_, rfl⟩ | ⟨_, _, hc, _⟩
  ·refine done_value (run none 0 m' rfl hr) h ?_
   have e6 : hh - l = 0 := by omega
   have e7 : m' - l = 0 := by omega
   rw [e6, e7]
   split <;> exact .nilSlice
  ·cases hc
 | slice id off n c c' rb hr' hn hc hm hu =>
  obtain ⟨m', hr, h1, h2, h3, h4, h5, h6⟩ := sliceBounds_run h true hc hn e3 e4 e5 b0 b1 b2 hmx
  rcases er with ⟨hc', _⟩ | ⟨ad, p, ha, hp, rfl⟩
  ·cases hc'
  ·cases ha
   have := addrOf_eq hp
   cases this
   refine done_value (run _ c' m' rfl hr) h ?_
   by_cases hml : m' = l
   ·rw [if_pos hml]
    have e6 : hh - l = 0 := by omega
    have e7 : m' - l = 0 := by omega
    have e8 : m - l = 0 := by omega
    rw [e6, e7, e8]
    exact .empty _ _ _ rb hr'
   ·rw [if_neg hml]
    simp only [Option.map_some, add_mk, Nat.add_assoc]
    refine .slice _ _ _ _ _ rb hr' (by omega) (by omega) (by omega) fun h0 u hu' => ?_
    have hl0 : l = 0 := by
     rcases Nat.eq_zero_or_pos l with hl | hl
     ·exact hl
     ·have := Nat.mul_le_mul hl hts
      omega
    obtain ⟨this, hz⟩ := hu (by omega) u hu'
    refine ⟨Nat.le_trans (Nat.mul_le_mul_right u (by omega)) this, fun h01 h02 => ?_⟩
    rcases h6 with h6 | ⟨h6, h7⟩
    ·omega
    ·have := hz (by omega) h02
     omega
 | empty id off A rb hr' =>
  obtain ⟨m', hr, h1, h2, h3, h4, h5, h6⟩ := sliceBounds_run h true (Nat.le_refl 0) (Nat.le_refl 0) e3 e4 e5 b0 b1 b2 hmx
  rcases er with ⟨hc', _⟩ | ⟨ad, p, ha, hp, rfl⟩
  ·cases hc'
  ·cases ha
   have := addrOf_eq hp
   cases this
   refine done_value (run _ 0 m' rfl hr) h ?_
   have e6 : hh - l = 0 := by omega
   have e7 : m' - l = 0 := by omega
   have e8 : m - l = 0 := by omega
   rw [e6, e7, e8, if_pos (by omega)]
   exact .empty _ _ _ rb hr'
theorem op_slice_array (h : Rel P E ρ β st a w) {t e' : TypeId} {n : Nat} {x : Operand} {lo hi mx : Option Operand} (ho : o.op = .slice t x lo hi mx) (ht : P.underlying t = some (.array n e')) (hn63 : n ≤ 9223372036854775807) {te : TI} (hte : tiOf P e' = some te) {slo shi smx : Option Slot} {m hh l : Nat}
  (e3 : opdO st lo = some slo) (e4 : opdO st hi = some shi) (e5 : opdO st mx = some smx) (b0 : bound smx n n = some m) (b1 : bound shi m n = some hh) (b2 : bound slo hh 0 = some l) (hmx : mx.isSome = true → hi.isSome = true)
  {ρ' : Rho} {st' : St} (h' : Rel P E ρ' β st' a w) {id off : Nat} {rb : RB} (hr : ρ'.at id rb) (hu : rb.unit = none) (hA : a.eval x = .pointer (some ⟨rb.b, rb.base + off, none⟩)) :
  o.wpR P E.ro a w (Done P E β st' o (.v (.slice (some ⟨id, off + l * te.size, none⟩) (hh - l) (m - l)))) Q := by
 obtain ⟨ii, hii, _, hsz, _⟩ := tiOf_eq hte
 obtain ⟨m', hrun, h1, h2, h3, h4, h5, _⟩ := sliceBounds_run h false (Nat.le_refl n) (Nat.le_refl n) e3 e4 e5 b0 b1 b2 hmx
 refine done_value (v := .slice (some (if m' = l then ⟨rb.b, rb.base + off, none⟩ else (⟨rb.b, rb.base + off, none⟩ : Addr).add (l * te.size))) (hh - l) (m' - l)) ?_ h' ?_
 ·simp [execOp, ho, Instr.sliceAt, r_underlying ht, Instr.sureAddr, hA, hrun, r_sizeOf hii, hsz]
 ·by_cases hml : m' = l
  ·rw [if_pos hml]
   have e6 : hh - l = 0 := by omega
   have e7 : m' - l = 0 := by omega
   have e8 : m - l = 0 := by omega
   rw [e6, e7, e8]
   exact .empty _ _ _ rb hr
  ·rw [if_neg hml, add_mk, Nat.add_assoc]
   exact .slice _ _ _ _ _ rb hr (by omega) (by omega) (by omega) fun _ u hu' => by rw [hu] at hu'; cases hu'
theorem op_makeInterface (h : Rel P E ρ β st a w) {t : TypeId} {x : Operand} (ho : o.op = .makeInterface t x) {d : TypeDesc} (ht : P.underlying t = some d) (hd : ∀ ms, d ≠ .interface ms) {s : Slot} (e : opd st x = some s) {R : Type} {k : Slot → St → Option R} {r : R}
  (e2 : (out st s fun x st => k (.v (.iface t x)) st) = some r) : ∃ x st', k (.v (.iface t x)) st' = some r ∧ o.wpR P E.ro a w (Done P E β st' o (.v (.iface t x))) Q := by
 obtain ⟨ρ', v, st1, hx, h1, hv, e3, _, hsl⟩ := out_rel h (opd_rel h e) e2
 refine ⟨v, st1, e3, done_value (v := .iface t (a.eval x)) ?_ h1 (.iface _ _ _ hv)⟩
 simp only [execOp, ho, Instr.makeInterface, Sem.run_bind, r_underlying ht, Result.andThen_ok]
 cases d <;> first | rfl | exact absurd rfl (hd _)
theorem SlotRs.mono {ρ' : Rho} {bx bx' : List Box} (hsl : ∀ s y, SlotR ρ β bx s y → SlotR ρ' β bx' s y) : ∀ {ss : List Slot} {ys : List Value}, SlotRs ρ β bx ss ys → SlotRs ρ' β bx' ss ys
 | _, _, .nil => .nil
 | _, _, .cons s y ss ys h t => .cons s y ss ys (hsl _ _ h) (SlotRs.mono hsl t)
theorem opds_rel (h : Rel P E ρ β st a w) : ∀ {l : List Operand} {ss : List Slot}, opds st l = some ss → SlotRs ρ β st.boxes ss (l.map a.eval)
 | [], ss, e => by
  cases e
  exact .nil
 | x :: r, ss, e => by
  simp only [opds] at e
  obtain ⟨s, hs, e⟩ := Option.bind_eq_some_iff.1 e
  obtain ⟨l, hl, e⟩ := Option.bind_eq_some_iff.1 e
  cases e
  exact .cons _ _ _ _ (opd_rel h hs) (opds_rel h hl)
theorem outs_rel {R : Type} : ∀ {ss : List Slot} {ys : List Value} {ρ : Rho} {st : St} (h : Rel P E ρ β st a w) (hs : SlotRs ρ β st.boxes ss ys) {k : List Value → St → Option R} {r : R} (e : outs st ss k = some r),
  ∃ ρ' xs st', ρ.ext ρ' ∧ Rel P E ρ' β st' a w ∧ VRs ρ' xs ys ∧ k xs st' = some r ∧ (∀ s y, SlotR ρ β st.boxes s y → SlotR ρ' β st'.boxes s y)
 | [], ys, ρ, st, h, hs, k, r, e => by
  cases hs
  exact ⟨ρ, [], st, .refl ρ, h, .nil, e, fun _ _ h => h⟩
 | s :: ss, _, ρ, st, h, .cons _ y _ ys hs ht, k, r, e => by
  obtain ⟨ρ1, x, st1, hx1, h1, hv, e1, _, hsl⟩ := out_rel h hs e
  have ht' : SlotRs ρ1 β st1.boxes ss ys := ht.mono hsl
  obtain ⟨ρ2, xs, st2, hx2, h2, hvs, e2, hsl2⟩ := outs_rel h1 ht' e1
  exact ⟨ρ2, x :: xs, st2, hx1.trans hx2, h2, .cons _ _ _ _ (hv.mono hx2.le) hvs, e2, fun s y hh => hsl2 s y (hsl s y hh)⟩
theorem op_makeFunc (h : Rel P E ρ β st a w) {fn : Fn} {first captured : Array Operand} (ho : o.op = .makeFunc fn first captured) (hy : isYield fn = false) {sf sc : List Slot} (e : opds st first.toList = some sf) (e1 : opds st captured.toList = some sc) {R : Type} {k : Slot → St → Option R} {r : R}
  (e2 : (outs st sf fun fs st => outs st sc fun cs st => k (.v (.func fn ⟨fs⟩ ⟨cs⟩)) st) = some r) : ∃ fs cs st', k (.v (.func fn ⟨fs⟩ ⟨cs⟩)) st' = some r ∧ o.wpR P E.ro a w (Done P E β st' o (.v (.func fn ⟨fs⟩ ⟨cs⟩))) Q := by
 obtain ⟨ρ1, fs, st1, hx1, h1, hv1, e3, hsl⟩ := outs_rel h (opds_rel h e) e2
 have h2 : SlotRs ρ1 β st1.boxes sc (captured.toList.map a.eval) := (opds_rel h e1).mono hsl
 obtain ⟨ρ2, cs, st2, hx2, h3, hv2, e4, _⟩ := outs_rel h1 h2 e3
 refine ⟨fs, cs, st2, e4, done_value (v := .func fn ⟨first.toList.map a.eval⟩ ⟨captured.toList.map a.eval⟩) ?_ h3 (.func _ hy _ _ _ _ (hv1.mono hx2.le) hv2)⟩
 simp [execOp, ho, Instr.makeFunc]
 constructor <;> exact Array.ext' (by simp)
theorem op_nilCheck (h : Rel P E ρ β st a w) {x : Operand} (ho : o.op = .nilCheck x) {s : Slot} (e : opd st x = some s) {A : Addr} (hA : a.eval x = .pointer (some A)) {s' : Slot} (hs : SlotR ρ β st.boxes s' (.pointer (some A))) : o.wpR P E.ro a w (Done P E β st o s') Q := by
 refine done_value (v := .pointer (some A)) ?_ h hs
 simp [execOp, ho, hA]
theorem op_toArray (h : Rel P E ρ β st a w) {t e' : TypeId} {n : Nat} {x : Operand} (ho : o.op = .sliceToArrayPointer t x) (ht : P.underlying t = some (.array n e')) {s : Slot} {u : Value} {q : Option Addr × Nat × Nat} (e : opd st x = some s) (e1 : valS s = some u) (e2 : toSl u = some q) (hn : n ≤ q.2.1) (h0 : 1 ≤ n) :
  o.wpR P E.ro a w (Done P E β st o (.v (.pointer q.1))) Q := by
 have hu := opd_val h e e1
 have hq := toSl_eq e2
 obtain ⟨q1, q2, q3⟩ := q
 simp only at hq hn
 subst hq
 generalize hx : a.eval x = ax at *
 have run : ∀ (A : Option Addr) (c' : Nat), ax = .slice A q2 c' → (execOp a.eval o).run P w = .ok (.value (.pointer A)) w := by
  intro A c' hA
  have : ¬ q2 < n := by omega
  simp [execOp, ho, Instr.arrayAt, r_underlying ht, hx, hA, this]
 cases hu with
 | nilSlice => omega
 | slice id off n c c' rb hr' hn hc hm hu => exact done_value (run _ c' rfl) h (.ptr _ _ _ hr')
 | empty => omega
theorem op_convert_int (h : Rel P E ρ β st a w) {src dst : TypeId} {x : Operand} (ho : o.op = .convert src dst x) {ds : TypeDesc} {kd : IntKind} (hs : P.underlying src = some ds) (hd : P.underlying dst = some (.int kd)) {s : Slot} {u : Value} {n : Int} (e : opd st x = some s) (e1 : valS s = some u) (e2 : intOfV u = some n) :
  o.wpR P E.ro a w (Done P E β st o (.v (.int kd (kd.wrap n)))) Q := by
 obtain ⟨k, _, hy⟩ := (opd_val h e e1).intOfV e2
 refine done_value (v := .int kd (kd.wrap n)) ?_ h (.int _ _)
 simp [execOp, ho, convert, r_underlying hs, r_underlying hd, hy, Conv.intToInt]
theorem op_convert_str (h : Rel P E ρ β st a w) {src dst : TypeId} {x : Operand} (ho : o.op = .convert src dst x) (hs : P.underlying src = some .string) (hd : P.underlying dst = some .string) {s : Slot} {u : Value} {b : ByteArray} (e : opd st x = some s) (e1 : valS s = some u) (e2 : toStr u = some b) :
  o.wpR P E.ro a w (Done P E β st o (.v (.string b))) Q := by
 obtain ⟨_, hy⟩ := (opd_val h e e1).toStr e2
 refine done_value (v := .string b) ?_ h (.string _)
 simp [execOp, ho, convert, r_underlying hs, r_underlying hd, hy]
theorem toBytes_eq : ∀ {cs : List Value} {bs : List UInt8}, toBytes cs = some bs → ∃ ns : List Int, cs = ns.map (Value.int .u8) ∧ bs = ns.map fun n => UInt8.ofNat n.toNat
 | [], bs, e => by cases e; exact ⟨[], rfl, rfl⟩
 | c :: r, bs, e => by
  cases c with
  | int k n =>
   cases k <;> try (simp [toBytes] at e; done)
   simp only [toBytes] at e
   obtain ⟨l, hl, e⟩ := Option.bind_eq_some_iff.1 e
   cases e
   obtain ⟨ns, rfl, rfl⟩ := toBytes_eq hl
   exact ⟨n :: ns, rfl, rfl⟩
  | _ => simp [toBytes] at e
theorem VRs.ints : ∀ {ns : List Int} {ys : List Value}, VRs ρ (ns.map (Value.int .u8)) ys → ys = ns.map (Value.int .u8)
 | [], _, .nil => rfl
 | n :: ns, _, .cons _ _ _ _ h t => by
  cases h
  rw [VRs.ints t]; rfl
theorem foldl_push : ∀ (ns : List Int) (b : ByteArray), ns.foldl (fun r n => r.push (UInt8.ofNat n.toNat)) b = ⟨b.data ++ (ns.map fun n => UInt8.ofNat n.toNat).toArray⟩
 | [], b => by simp
 | n :: ns, b => by
  rw [List.foldl_cons, foldl_push ns]
  simp [ByteArray.push]
theorem op_convert_bytes (h : Rel P E ρ β st a w) {src dst e' : TypeId} {x : Operand} (ho : o.op = .convert src dst x) (hs : P.underlying src = some (.slice e')) (hd : P.underlying dst = some .string) (he : P.underlying e' = some (.int .u8)) {s : Slot} {u : Value} {q : Option Addr × Nat × Nat} (e : opd st x = some s) (e1 : valS s = some u) (e2 : toSl u = some q) {bs : List UInt8}
  (e3 : (q.1 = none ∧ bs = []) ∨ ∃ ad p cs, q.1 = some ad ∧ addrOf (some ad) = some p ∧ hcells st.heap p.1 p.2 q.2.1 = some cs ∧ toBytes cs = some bs) : o.wpR P E.ro a w (Done P E β st o (.v (.string ⟨⟨bs⟩⟩))) Q := by
 have hu := opd_val h e e1
 have hq := toSl_eq e2
 obtain ⟨q1, q2, q3⟩ := q
 simp only at hq e3
 subst hq
 generalize hx : a.eval x = ax at *
 have run : ∀ (A : Option Addr) (c' : Nat), ax = .slice A q2 c' → (Conv.bytesToString (.slice A q2 c')).run P w = .ok (.string ⟨⟨bs⟩⟩) w → (execOp a.eval o).run P w = .ok (.value (.string ⟨⟨bs⟩⟩)) w := by
  intro A c' hA hr
  simp [execOp, ho, convert, r_underlying hs, r_underlying hd, r_underlying he, hx, hA, hr]
 cases hu with
 | nilSlice =>
  rcases e3 with ⟨_, rfl⟩ | ⟨_, _, _, hc, _⟩
  ·exact done_value (run none 0 rfl (by simp [Conv.bytesToString]; rfl)) h (.string _)
  ·cases hc
 | slice id off n c c' rb hr' hn hc hm hu =>
  rcases e3 with ⟨hc, _⟩ | ⟨ad, p, cs, ha, hp, hcs, hb⟩
  ·cases hc
  ·cases ha
   cases addrOf_eq hp
   obtain ⟨ys, hl, hv, h1, hcell⟩ := hcells_rel h.h hr' hcs
   obtain ⟨ns, rfl, rfl⟩ := toBytes_eq hb
   obtain rfl := VRs.ints hv
   refine done_value (run _ c' rfl ?_) h (.string _)
   have hload := run_loadCells_list (P := P) w _ _ hcell
   rw [hl] at hload
   rw [run_bytesToString w _ q2 c' ns hload, foldl_push]
   simp [ByteArray.empty, ByteArray.emptyWithCapacity]
   rfl
 | empty id off A rb hr' =>
  rcases e3 with ⟨hc, _⟩ | ⟨ad, p, cs, ha, hp, hcs, hb⟩
  ·cases hc
  ·cases ha
   cases addrOf_eq hp
   obtain ⟨ys, hl, hv, h1, hcell⟩ := hcells_rel h.h hr' hcs
   have : cs = [] := List.eq_nil_of_length_eq_zero (by rw [hv.length]; exact hl)
   subst this
   cases hb
   exact done_value (run _ 0 rfl (by simp [Conv.bytesToString, loadCells, loadCellsFrom]; rfl)) h (.string _)
end
end Go.Pv
end
section
namespace Go.Pv
variable [Glob]
theorem fold_set : ∀ (vs : List Value) (k off : Nat) (cs : Array Value), off + k + vs.length ≤ cs.size →
  ((vs.zipIdx k).foldl (fun (cs : Array Value) (p : Value × Nat) => cs.setIfInBounds (off + p.2) p.1) cs).toList = splice cs.toList (off + k) vs
 | [], k, off, cs, h => by simp [splice]
 | v :: vs, k, off, cs, h => by
  simp only [List.zipIdx_cons, List.foldl_cons]
  simp only [List.length_cons] at h
  rw [fold_set vs (k + 1) off _ (by simp; omega)]
  unfold splice
  simp only [Array.toList_setIfInBounds]
  apply List.ext_getElem?
  intro i
  have hl : cs.toList.length = cs.size := by simp
  by_cases h1 : i < off + k
  ·rw [List.append_assoc, List.getElem?_append_left (by simp; omega), List.getElem?_take_of_lt (by omega), List.getElem?_set_ne (by omega), List.append_assoc, List.getElem?_append_left (by simp; omega), List.getElem?_take_of_lt h1]
  ·by_cases h2 : i = off + k
   ·subst h2
    rw [List.append_assoc, List.getElem?_append_left (by simp; omega), List.getElem?_take_of_lt (by omega), List.getElem?_set_self (by simp; omega), List.append_assoc, List.getElem?_append_right (by simp; omega), List.cons_append]
    simp
    rw [Nat.min_eq_left (by omega)]
    simp
   ·by_cases h3 : i < off + k + 1 + vs.length
    ·rw [List.append_assoc, List.getElem?_append_right (by simp; omega), List.getElem?_append_left (by simp; omega), List.append_assoc, List.getElem?_append_right (by simp; omega), List.getElem?_append_left (by simp; omega)]
     simp only [List.length_take, List.length_set, hl]
     rw [Nat.min_eq_left (by omega), Nat.min_eq_left (by omega), show i - (off + k) = i - (off + (k + 1)) + 1 by omega, List.getElem?_cons_succ]
    ·rw [List.getElem?_append_right (by simp; omega), List.getElem?_drop, List.getElem?_append_right (by simp; omega), List.getElem?_drop]
     simp only [List.length_append, List.length_take, List.length_set, hl, List.length_cons]
     rw [Nat.min_eq_left (by omega), Nat.min_eq_left (by omega), List.getElem?_set_ne (by omega)]
     congr 1
     omega
theorem fill_fold (v : Value) (ys : List Value) (hy : v.cells = ⟨ys⟩) (off : Nat) (cs : Array Value) (h : off + ys.length ≤ cs.size) :
  v.cells.zipIdx.foldl (fun cs (c, j) => cs.setIfInBounds (off + j) c) cs = ⟨splice cs.toList off ys⟩ := by
 apply Array.ext'
 rw [hy, ← Array.foldl_toList, Array.toList_zipIdx]
 exact fold_set ys 0 off cs (by simpa using h)
section
variable {P : Program} {E : Env} {ρ : Rho} {β : List (Option Nat)} {st : St} {a : Act} {w : World} {Q : Exit → Act → World → Prop} {next : Act → World → Prop} {o : Oper}
inductive PartsR (ρ : Rho) : List (Nat × Value) → List (Nat × Value) → Prop where
 | nil : PartsR ρ [] []
 | cons (i : Nat) (x y : Value) (xs ys : List (Nat × Value)) (h : VR ρ x y) (t : PartsR ρ xs ys) : PartsR ρ ((i, x) :: xs) ((i, y) :: ys)
theorem splice_one {c vs : List Value} {off : Nat} (h : ∀ x ∈ c, x.oneCell' = true) (h' : ∀ x ∈ vs, x.oneCell' = true) : ∀ x ∈ splice c off vs, x.oneCell' = true := by
 intro x hx
 unfold splice at hx
 rcases List.mem_append.1 hx with hx | hx
 ·rcases List.mem_append.1 hx with hx | hx
  ·exact h x (List.mem_of_mem_take hx)
  ·exact h' x hx
 ·exact h x (List.mem_of_mem_drop hx)
theorem fill_rel {place : Nat → Option (Nat × TI)} {pl : Nat → Option (Nat × Nat)} (hp : ∀ i q, place i = some q → pl i = some (q.1, q.2.size)) :
  ∀ {ps qs : List (Nat × Value)}, PartsR ρ ps qs → ∀ {cs cs' ys : List Value}, fillP place cs ps = some cs' → VRs ρ cs ys → (∀ x ∈ cs, x.oneCell' = true) →
   ∃ ys', Instr.fill pl ⟨ys⟩ qs = some ⟨ys'⟩ ∧ VRs ρ cs' ys' ∧ (∀ x ∈ cs', x.oneCell' = true) ∧ cs'.length = cs.length
 | _, _, .nil, cs, cs', ys, e, hv, h1 => by
  cases e
  exact ⟨ys, rfl, hv, h1, rfl⟩
 | _, _, .cons i x y ps qs h t, cs, cs', ys, e, hv, h1 => by
  simp only [fillP] at e
  obtain ⟨q, hq, e⟩ := Option.bind_eq_some_iff.1 e
  obtain ⟨vs, hvs, e⟩ := Option.bind_eq_some_iff.1 e
  obtain ⟨hle, e⟩ := bif_some e
  have hle := Nat.le_of_ble_eq_true hle
  obtain ⟨zs, hz, hvz, hone, hlen⟩ := cellsOfV_rel h hvs
  have hzl := hvz.length
  have hyl := hv.length
  obtain ⟨ys', hf, hv', h1', hl'⟩ := fill_rel hp t e (hv.splice hvz q.1) (splice_one h1 hone)
  refine ⟨ys', ?_, hv', h1', hl'.trans (splice_length hle)⟩
  have hg : ¬ (zs.length ≠ q.2.size || q.1 + zs.length > ys.length) = true := by
   simp; omega
  simp only [Instr.fill, hp i q hq, hz, List.size_toArray]
  have hsz : (⟨zs⟩ : Array Value).size = zs.length := rfl
  have hsy : (⟨ys⟩ : Array Value).size = ys.length := rfl
  rw [if_neg hg]
  have := fill_fold y zs hz q.1 ⟨ys⟩ (by rw [hsy]; omega)
  rw [hz] at this
  rw [this]
  exact hf
theorem valsAt_rel (h : Rel P E ρ β st a w) : ∀ {ps : List (Nat × Operand)} {xs : List (Nat × Value)}, valsAt st ps = some xs → PartsR ρ xs (ps.map fun p => (p.1, a.eval p.2))
 | [], xs, e => by cases e; exact .nil
 | p :: r, xs, e => by
  simp only [valsAt] at e
  obtain ⟨s, hs, e⟩ := Option.bind_eq_some_iff.1 e
  obtain ⟨x, hx, e⟩ := Option.bind_eq_some_iff.1 e
  obtain ⟨l, hl, e⟩ := Option.bind_eq_some_iff.1 e
  cases e
  exact .cons _ _ _ _ _ (opd_val h hs hx) (valsAt_rel h hl)
theorem mapM_places {fs : Array Field} (pl : Array (Nat × Nat)) : (∃ ys : List (Nat × Nat), (fs.mapM fun f => do pure (f.offset, ← sizeOf f.type) : Sem (Array (Nat × Nat))).run P w = .ok ⟨ys⟩ w ∧ ∀ i q, fieldTI P fs.toList i = some q → ys[i]? = some (q.1, q.2.size)) ∨ ∃ f ∈ fs.toList, P.info? f.type = none := by
 obtain ⟨fs⟩ := fs
 simp only [List.mapM_toArray]
 have key : ∀ fs : List Field, (∃ ys : List (Nat × Nat), (fs.mapM fun f => do pure (f.offset, ← sizeOf f.type) : Sem (List (Nat × Nat))).run P w = .ok ys w ∧ ∀ i q, fieldTI P fs i = some q → ys[i]? = some (q.1, q.2.size)) ∨ ∃ f ∈ fs, P.info? f.type = none := by
  intro fs
  induction fs with
  | nil => exact .inl ⟨[], by simp, fun i q h => by simp [fieldTI] at h⟩
  | cons f fs ih =>
   cases hf : P.info? f.type with
   | none => exact .inr ⟨f, by simp, hf⟩
   | some info =>
    rcases ih with ⟨ys, hr, hy⟩ | ⟨g, hg, hn⟩
    ·refine .inl ⟨(f.offset, info.size) :: ys, ?_, ?_⟩
     ·simp only [List.mapM_cons, Sem.run_bind, r_sizeOf hf, Result.andThen_ok, Sem.run_pure, hr]
     ·intro i q h
      cases i with
      | zero =>
       obtain ⟨f', h1, h2, h3⟩ := fieldTI_eq h
       simp at h1
       subst h1
       obtain ⟨ii, hii, _, hs, _⟩ := tiOf_eq h2
       rw [hf] at hii
       cases hii
       simp [h3, hs]
      | succ i =>
       simp only [List.getElem?_cons_succ]
       exact hy i q (by simpa [fieldTI] using h)
    ·exact .inr ⟨g, by simp [hg], hn⟩
 rcases key fs with ⟨ys, hr, hy⟩ | ⟨f, hf, hn⟩
 ·exact .inl ⟨ys, by rw [Sem.run_map, hr]; rfl, hy⟩
 ·exact .inr ⟨f, hf, hn⟩
theorem op_build_array (h : Rel P E ρ β st a w) {t e' : TypeId} {n : Nat} {parts : Array (Nat × Operand)} (ho : o.op = .build t parts) {ti te : TI} (ht : tiOf P t = some ti) (hd : ti.desc = .array n e') (hte : tiOf P e' = some te) {z cs : List Value} (hz : zeroOf ti = some z) {ps : List (Nat × Value)} (hps : valsAt st parts.toList = some ps)
  (hf : fillP (fun i => some (i * te.size, te)) z ps = some cs) : o.wpR P E.ro a w (Done P E β st o (.v (.agg ⟨cs⟩))) Q := by
 obtain ⟨i, hi, hu, _, _, hz'⟩ := tiOf_eq ht
 obtain ⟨ii, hii, _, hsz, _⟩ := tiOf_eq hte
 obtain ⟨zv, hzv, rfl, hpl, hzl⟩ := zeroOf_eq hz
 have hq := valsAt_rel h hps
 obtain ⟨ys', hfill, hv, h1, _⟩ := fill_rel (pl := fun i => some (i * te.size, te.size)) (fun i q hq => by cases hq; rfl) hq hf (plain_vrs fun v hv => (hpl v hv).1) (fun v hv => (hpl v hv).2)
 have hzz : (zeroValue t).run P w = .ok zv w := by simp [zeroValue, r_typeInfo hi, ← hz', hzv]
 refine done_value (v := .agg ⟨ys'⟩) ?_ h (.agg _ _ hv h1)
 rw [hd] at hu
 have hfill' : Instr.fill (fun i => some (i * ii.size, ii.size)) zv.cells (parts.toList.map fun p => (p.1, a.eval p.2)) = some ⟨ys'⟩ := by rw [← hsz]; exact hfill
 simp [execOp, ho, Instr.build, hzz, r_underlying hu, r_sizeOf hii, hfill']
theorem op_build_struct (h : Rel P E ρ β st a w) {t : TypeId} {fs : Array Field} {parts : Array (Nat × Operand)} (ho : o.op = .build t parts) {ti : TI} (ht : tiOf P t = some ti) (hd : ti.desc = .struct fs) (hall : (fs.toList.all fun f => (P.info? f.type).isSome) = true) {z cs : List Value} (hz : zeroOf ti = some z) {ps : List (Nat × Value)} (hps : valsAt st parts.toList = some ps)
  (hf : fillP (fieldTI P fs.toList) z ps = some cs) : o.wpR P E.ro a w (Done P E β st o (.v (.agg ⟨cs⟩))) Q := by
 obtain ⟨i, hi, hu, _, _, hz'⟩ := tiOf_eq ht
 obtain ⟨zv, hzv, rfl, hpl, hzl⟩ := zeroOf_eq hz
 have hq := valsAt_rel h hps
 rcases mapM_places (P := P) (w := w) (fs := fs) #[] with ⟨pl, hpr, hpl2⟩ | ⟨f, hf1, hf2⟩
 ·obtain ⟨ys', hfill, hv, h1, _⟩ := fill_rel (pl := fun i => pl[i]?) hpl2 hq hf (plain_vrs fun v hv => (hpl v hv).1) (fun v hv => (hpl v hv).2)
  have hzz : (zeroValue t).run P w = .ok zv w := by simp [zeroValue, r_typeInfo hi, ← hz', hzv]
  refine done_value (v := .agg ⟨ys'⟩) ?_ h (.agg _ _ hv h1)
  rw [hd] at hu
  have hfill' : Instr.fill (fun i => (⟨pl⟩ : Array (Nat × Nat))[i]?) zv.cells (parts.toList.map fun p => (p.1, a.eval p.2)) = some ⟨ys'⟩ := by simpa using hfill
  simp only [execOp, ho, Instr.build, Sem.run_bind, hzz, Result.andThen_ok, r_underlying hu, hpr, Array.toList_map, hfill']
  rfl
 ·have := List.all_eq_true.1 hall f hf1
  rw [hf2] at this
  cases this
theorem repeat_get : ∀ (z : List Value) (n i : Nat), z ≠ [] → (repeatCells z n)[i]? = if i < n * z.length then z[i % z.length]? else none
 | z, 0, i, hz => by simp [repeatCells]
 | z, n + 1, i, hz => by
  have hp : 0 < z.length := List.length_pos_iff.2 hz
  simp only [repeatCells]
  by_cases h : i < z.length
  ·rw [List.getElem?_append_left h, Nat.mod_eq_of_lt h, if_pos (by rw [Nat.succ_mul]; omega)]
  ·rw [List.getElem?_append_right (by omega), repeat_get z n _ hz]
   have e : (i - z.length) % z.length = i % z.length := by
    conv => rhs; rw [show i = (i - z.length) + z.length by omega]
    simp
   rw [e, Nat.succ_mul]
   by_cases h2 : i - z.length < n * z.length
   ·rw [if_pos h2, if_pos (by omega)]
   ·rw [if_neg h2, if_neg (by omega)]
theorem repeat_one {z : List Value} (h : ∀ v ∈ z, plain v = true ∧ v.oneCell' = true) : ∀ n, ∀ v ∈ repeatCells z n, plain v = true ∧ v.oneCell' = true
 | 0, v, hv => by simp [repeatCells] at hv
 | n + 1, v, hv => by
  simp only [repeatCells, List.mem_append] at hv
  rcases hv with hv | hv
  ·exact h v hv
  ·exact repeat_one h n v hv
theorem repeat_length (z : List Value) : ∀ n, (repeatCells z n).length = n * z.length
 | 0 => by simp [repeatCells]
 | n + 1 => by simp [repeatCells, repeat_length z n, Nat.succ_mul]; omega
theorem made_eq (z : Array Value) (n : Nat) (hz : z.toList ≠ []) : (Array.range (n * z.size)).map (fun i => z[i % z.size]!) = ⟨repeatCells z.toList n⟩ := by
 apply Array.ext'
 apply List.ext_getElem?
 intro i
 rw [show (⟨repeatCells z.toList n⟩ : Array Value).toList = repeatCells z.toList n from rfl, repeat_get _ _ _ hz]
 simp only [Array.toList_map, Array.toList_range, List.getElem?_map, Array.length_toList]
 by_cases h : i < n * z.size
 ·have hp : 0 < z.size := by
   rcases Nat.eq_zero_or_pos z.size with h0 | h0
   ·rw [h0] at h; omega
   ·exact h0
  have hlt : i % z.size < z.size := Nat.mod_lt _ hp
  simp [h, List.getElem?_range, hlt]
 ·simp [h]
theorem op_buildSlice (h : Rel P E ρ β st a w) {t e' : TypeId} {len : Nat} {parts : Array (Nat × Operand)} (ho : o.op = .buildSlice t len parts) {ti te : TI} (ht : tiOf P t = some ti) (hd : ti.desc = .slice e') (hte : tiOf P e' = some te) {z cs : List Value} (hz : zeroOf te = some z) (hz1 : 1 ≤ te.size) {ps : List (Nat × Value)} (hps : valsAt st parts.toList = some ps)
  (hroom : len * te.size ≤ 16777216) (hf : fillP (fun i => some (i * te.size, te)) (repeatCells z len) ps = some cs) :
  o.wpR P E.ro a w (Done P E β { st with heap := st.heap ++ [newBlk cs e'] } o (.v (.slice (some ⟨st.heap.length, 0, none⟩) len len))) Q := by
 obtain ⟨i, hi, hu, _, _, _⟩ := tiOf_eq ht
 obtain ⟨ii, hii, _, hsz, _, hz'⟩ := tiOf_eq hte
 obtain ⟨zv, hzv, rfl, hpl, hzl⟩ := zeroOf_eq hz
 have hq := valsAt_rel h hps
 have hrp := repeat_one hpl len
 obtain ⟨ys', hfill, hv, h1, hl⟩ := fill_rel (pl := fun i => some (i * te.size, te.size)) (fun i q hq => by cases hq; rfl) hq hf (plain_vrs fun v hv => (hrp v hv).1) (fun v hv => (hrp v hv).2)
 have hzs : zv.cells.size = ii.size := by rw [← hsz, ← hzl]; simp
 rw [hd] at hu
 have hne : zv.cells.toList ≠ [] := by
  intro e
  rw [e] at hzl
  simp at hzl
  omega
 have hfill' : Instr.fill (fun i => some (i * ii.size, ii.size)) ⟨repeatCells zv.cells.toList len⟩ (parts.toList.map fun p => (p.1, a.eval p.2)) = some ⟨ys'⟩ := by rw [← hsz]; exact hfill
 have hr := h.push (newBlk cs e') ⟨ys'⟩ (CellOK.of_vrs hv h1) rfl rfl (0, 0) (fun _ => rfl)
 have hyl : ys'.length = len * te.size := by rw [← hv.length, hl, repeat_length, hzl]
 have hlen63 : len ≤ 9223372036854775807 := by
  have : len * 1 ≤ len * te.size := Nat.mul_le_mul_left len hz1
  omega
 refine done_value (v := .slice (some ⟨w.heap.size, 0, none⟩) len len) ?_ hr ?_
 ·have hrm : ¬ (16777216 < len * ii.size) := by rw [← hsz]; omega
  have hz0 : (zeroValue e').run P w = .ok zv w := by simp [zeroValue, r_typeInfo hii, ← hz', hzv]
  have hmade := made_eq zv.cells len hne
  rw [hzs] at hmade
  by_cases hl0 : len * ii.size = 0
  ·have hlz : len = 0 := by
    rcases Nat.mul_eq_zero.1 hl0 with h0 | h0
    ·exact h0
    ·rw [← hsz] at h0; omega
   subst hlz
   simp only [repeatCells] at hfill'
   simp [execOp, ho, Instr.buildSlice, r_underlying hu, r_sizeOf hii, newRow, hfill', Array.range_zero']
   rfl
  ·simp [execOp, ho, Instr.buildSlice, r_underlying hu, r_sizeOf hii, hrm, hl0, hz0, newRow, hzs, hmade, hfill']
   rfl
 ·have hat := Rho.at_new' ρ ⟨w.heap.size, 0, (⟨ys'⟩ : Array Value).size, some (P.cellsOf (newBlk cs e').elem)⟩
  rw [h.h.len] at hat
  refine .slice st.heap.length 0 len len len _ hat (Nat.le_refl _) (Nat.le_refl _) hlen63 fun _ u hu' => ⟨?_, fun h0 _ => h0⟩
  cases hu'
  have : P.cellsOf (newBlk cs e').elem = te.size := cellsOf_eq hte
  rw [this]
  simp [hyl]
end
end Go.Pv
end

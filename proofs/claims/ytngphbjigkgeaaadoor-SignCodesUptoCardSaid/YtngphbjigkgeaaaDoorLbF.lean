/- The evaluator of the program's form and its soundness against the model; what trees stand for. Parts: DvLim, DvLim2, DvRun, DvKt, EvOpen, EvRow, DvRow, DvTr, DvRd, DvLaw, EvExt, DvSx. -/
import GoSem.ClaimChange
import Derived.Below
import Derived.ProofKit
import Derived.JoinedCond
import Derived.OpenShut
import Derived.Lib.BytesEntry
import Derived.Test.YtngphbjigkgeaaaDoorLbE
set_option linter.unusedVariables false
set_option linter.unusedSimpArgs false
set_option linter.unusedSectionVars false
section
namespace Go.Dv
open Go.Pv (TI tiOf idx upTo fieldTI CK kindsOf LoopRec PExit isConst room isYield bif_some bif_none masksOf behind firm makes floats mayLp dsts isAl drawOK isRecover still)
def Lim {R : Type} (a : Option R) (f : Nat → Option R) : Prop := ∀ r, a = some r → ∃ N, ∀ n, N ≤ n → f n = some r
section
variable {R S : Type}
theorem Lim.const (a : Option R) : Lim a fun _ => a := fun r h => ⟨0, fun _ _ => h⟩
theorem Lim.none (f : Nat → Option R) : Lim none f := fun r h => by cases h
theorem Lim.bind {a : Option S} {f : Nat → Option S} {k : S → Option R} {g : Nat → S → Option R} (ha : Lim a f) (hk : ∀ x, Lim (k x) fun n => g n x) : Lim (a.bind k) fun n => (f n).bind (g n) := fun r h => by
 obtain ⟨x, h1, h2⟩ := Option.bind_eq_some_iff.1 h
 obtain ⟨N, h3⟩ := ha x h1
 obtain ⟨M, h4⟩ := hk x r h2
 exact ⟨max N M, fun n hn => by
  dsimp only
  rw [h3 n (Nat.le_trans (Nat.le_max_left N M) hn), Option.bind_some]
  exact h4 n (Nat.le_trans (Nat.le_max_right N M) hn)⟩
theorem Lim.cbind {a : Option S} {k : S → Option R} {g : Nat → S → Option R} (hk : ∀ x, Lim (k x) fun n => g n x) : Lim (a.bind k) fun n => a.bind (g n) := Lim.bind (.const a) hk
theorem Lim.cnd {c : Bool} {a b : Option R} {f g : Nat → Option R} (ha : Lim a f) (hb : Lim b g) : Lim (bif c then a else b) fun n => bif c then f n else g n := by
 cases c
 ·exact hb
 ·exact ha
theorem Lim.amb {a b : Option R} {f g : Nat → Option R} (ha : Lim a f) (hb : Lim b g) : Lim (Dv.amb a b) fun n => Dv.amb (f n) (g n) := fun r h => by
 obtain ⟨h1, h2⟩ := amb_some h
 obtain ⟨N, h3⟩ := ha r h1
 obtain ⟨M, h4⟩ := hb r h2
 exact ⟨max N M, fun n hn => by
  dsimp only
  rw [h3 n (Nat.le_trans (Nat.le_max_left N M) hn), h4 n (Nat.le_trans (Nat.le_max_right N M) hn), amb_self]⟩
end
def LimC (C : CallF) (D : Nat → CallF) : Prop := ∀ (R : Type) g xs h (k : DV × DHeap → Option R) (kn : Nat → DV × DHeap → Option R), (∀ r, Lim (k r) fun n => kn n r) → Lim (C R g xs h k) fun n => D n R g xs h (kn n)
def LimX (X : CallX) (D : Nat → CallX) : Prop := ∀ (R : Type) g xs h (k : DRes × DHeap → Option R) (kn : Nat → DRes × DHeap → Option R), (∀ r, Lim (k r) fun n => kn n r) → Lim (X R g xs h k) fun n => D n R g xs h (kn n)
def LimD (X : CallD) (D : Nat → CallD) : Prop := ∀ g xs h, Lim (X g xs h) fun n => D n g xs h
theorem LimD.lift {X : CallD} {D : Nat → CallD} (h : LimD X D) : LimX (liftX X) fun n => liftX (D n) := fun R g xs hp k kn hk => Lim.bind (h _ _ _) hk
section
variable [DGlob] {P : Program} {R : Type} {k : DSlot → DSt → Option R} {kn : Nat → DSlot → DSt → Option R}
theorem typed_lim {t : TypeId} {x : DV} {k : DV → Option R} {g : Nat → DV → Option R} (hk : ∀ x, Lim (k x) fun n => g n x) : Lim (typed P t x k) fun n => typed P t x (g n) := by
 unfold typed
 split <;> first | exact Lim.cbind fun _ => hk _ | exact Lim.cnd (hk _) (.none _) | exact hk _
theorem out_lim {st : DSt} {s : DSlot} {k : DV → DSt → Option R} {g : Nat → DV → DSt → Option R} (hk : ∀ x st, Lim (k x st) fun n => g n x st) : Lim (out st s k) fun n => out st s (g n) := by
 unfold out
 cases s with
 | v x => exact hk _ _
 | lp d off => exact Lim.cbind fun _ => hk _ _
 | dead => exact .none _
theorem outs_lim : ∀ {l : List DSlot} {st : DSt} {k : List DV → DSt → Option R} {g : Nat → List DV → DSt → Option R}, (∀ x st, Lim (k x st) fun n => g n x st) → Lim (outs st l k) fun n => outs st l (g n)
 | [], st, k, g, hk => hk _ _
 | s :: l, st, k, g, hk => by
  simp only [outs]
  exact out_lim fun x st => outs_lim fun xs st => hk _ _
theorem isNil_lim {x : DV} {k : Bool → Option R} {g : Nat → Bool → Option R} (hk : ∀ x, Lim (k x) fun n => g n x) : Lim (isNil x k) fun n => isNil x (g n) := by
 unfold isNil
 cases x with
 | nils => exact hk _
 | sl id off n c sz => cases n with
  | zero => exact .amb (hk _) (hk _)
  | succ n => exact hk _
 | fz xs => cases xs with
  | nil => exact .amb (hk _) (hk _)
  | cons x xs => exact hk _
 | _ => exact .none _
theorem eqK_lim {lit : Bool} {t : TypeId} {x y : DV} {k : Bool → Option R} {g : Nat → Bool → Option R} (hk : ∀ x, Lim (k x) fun n => g n x) : Lim (eqK P lit t x y k) fun n => eqK P lit t x y (g n) := by
 unfold eqK
 cases P.underlying t with
 | none => exact .none _
 | some d =>
  cases d with
  | bool => exact Lim.cbind fun _ => Lim.cbind fun _ => hk _
  | slice e => cases y <;> first | exact isNil_lim hk | exact .none _
  | pointer e => cases x <;> cases y <;> first | exact hk _ | exact .none _
  | func a b c => cases x <;> cases y <;> first | exact hk _ | exact .none _
  | interface m => cases x <;> cases y <;> first | exact hk _ | exact .none _ | exact Lim.cnd (hk _) (.none _)
  | struct fs => exact Lim.cbind fun _ => Lim.cbind fun _ => Lim.cbind fun _ => Lim.cnd (.none _) (Lim.cbind fun _ => hk _)
  | array n e => exact Lim.cbind fun _ => Lim.cbind fun _ => Lim.cbind fun _ => Lim.cnd (.none _) (Lim.cbind fun _ => hk _)
  | _ => exact .none _
theorem binK_lim {op : BinOp} {lit : Bool} {t : TypeId} {x y : DV} {k : DV → Option R} {g : Nat → DV → Option R} (hk : ∀ x, Lim (k x) fun n => g n x) : Lim (binK P op t lit x y k) fun n => binK P op t lit x y (g n) := by
 have sh : ∀ op, Lim (match (generalizing := false) x, y with | .int kd a, .int _ b => shiftK op kd a b k | _, _ => none) fun n => (match (generalizing := false) x, y with | .int kd a, .int _ b => shiftK op kd a b (g n) | _, _ => none) := fun op => by
  cases x <;> cases y <;> first | exact .none _ | (simp only [shiftK_eq]; exact Lim.cbind fun _ => hk _)
 have pl : ∀ op, Lim (match (generalizing := false) x, y with
  | .int kd a, .int kd' b => bif decide (kd = kd') then intBinK op kd a b k else none
  | .str a, .str b => strBinK op a b k
  | x, y =>
   match op with
   | .eql => eqK P lit t x y fun b => k (.bool b)
   | .neq => eqK P lit t x y fun b => k (.bool (!b))
   | _ => none) fun n => (match (generalizing := false) x, y with
  | .int kd a, .int kd' b => bif decide (kd = kd') then intBinK op kd a b (g n) else none
  | .str a, .str b => strBinK op a b (g n)
  | x, y =>
   match op with
   | .eql => eqK P lit t x y fun b => g n (.bool b)
   | .neq => eqK P lit t x y fun b => g n (.bool (!b))
   | _ => none) := fun op => by
  have other : Lim (match op with
   | .eql => eqK P lit t x y fun b => k (.bool b)
   | .neq => eqK P lit t x y fun b => k (.bool (!b))
   | _ => none) fun n => (match op with
   | .eql => eqK P lit t x y fun b => g n (.bool b)
   | .neq => eqK P lit t x y fun b => g n (.bool (!b))
   | _ => none) := by cases op <;> first | exact .none _ | exact eqK_lim fun _ => hk _
  cases x <;> cases y <;> first | exact other | (simp only [intBinK_eq]; exact Lim.cnd (Lim.cbind fun _ => hk _) (.none _)) | (simp only [strBinK_eq]; exact Lim.cbind fun _ => hk _)
 unfold binK
 cases op <;> first | exact sh _ | exact pl _
theorem dstoreK_lim {h : DHeap} {id off : Nat} {vs : List DV} {k : DHeap → Option R} {g : Nat → DHeap → Option R} (hk : ∀ h, Lim (k h) fun n => g n h) : Lim (dstoreK h id off vs k) fun n => dstoreK h id off vs (g n) := by
 unfold dstoreK
 exact Lim.cbind fun _ => Lim.cnd (hk _) (.none _)
theorem appendP_lim {h : DHeap} {e : TypeId} {ti : TI} {s : DV} {m : Nat} {cs : List DV} {k : DV → DHeap → Option R} {g : Nat → DV → DHeap → Option R} (hk : ∀ x h, Lim (k x h) fun n => g n x h) : Lim (appendP h e ti s m cs k) fun n => appendP h e ti s m cs (g n) := by
 unfold appendP
 cases s with
 | nils => exact Lim.cnd (hk _ _) (.none _)
 | sl id off n c sz => exact Lim.cnd (Lim.cbind fun _ => Lim.cnd (Lim.cnd (dstoreK_lim fun _ => hk _ _) (Lim.cnd (hk _ _) (.none _))) (.none _)) (.none _)
 | _ => exact .none _
theorem builtinP_lim {b : Builtin} {ts : List TypeId} {xs : List DV} {st : DSt} (hk : ∀ y st, Lim (k y st) fun n => kn n y st) : Lim (builtinP P b ts xs st k) fun n => builtinP P b ts xs st (kn n) := by
 unfold builtinP
 split
 ·refine Lim.cbind fun d => ?_
  cases d <;> first | exact .none _ | exact hk _ _ | exact Lim.cbind fun _ => hk _ _
 ·rename_i t x
  refine Lim.cbind fun d => ?_
  cases d <;> first | exact .none _ | (cases x <;> first | exact .none _ | exact hk _ _)
 ·rename_i t tx s x
  refine Lim.cbind fun d => ?_
  cases d <;> first | exact .none _ | skip
  refine Lim.cbind fun ti => Lim.cbind fun z => Lim.cbind fun d => ?_
  cases d <;> first | exact .none _ | skip
  ·refine Lim.cbind fun m => Lim.cbind fun m => ?_
   cases s <;> first | exact .none _ | exact Lim.cnd (appendP_lim fun _ _ => hk _ _) (.none _)
  ·exact Lim.cbind fun _ => Lim.cnd (Lim.cbind fun _ => appendP_lim fun _ _ => hk _ _) (.none _)
  ·exact Lim.cnd (Lim.cbind fun _ => appendP_lim fun _ _ => hk _ _) (.none _)
 ·rename_i t tx s x
  refine Lim.cbind fun d => ?_
  cases d <;> first | exact .none _ | skip
  refine Lim.cbind fun ti => Lim.cnd (Lim.cbind fun q => ?_) (.none _)
  cases s <;> first | exact .none _ | exact hk _ _ | exact dstoreK_lim fun _ => hk _ _
 ·exact Lim.cnd (hk _ _) (.none _)
 ·exact Lim.cnd (hk _ _) (.none _)
 ·exact .none _
theorem shapeK_lim : ∀ (ks : List SK) {x : List DV} {k : List DV → Option R} {g : Nat → List DV → Option R}, (∀ x, Lim (k x) fun n => g n x) → Lim (shapeK ks x k) fun n => shapeK ks x (g n)
 | [], x, k, g, hk => by simp only [shapeK]; exact Lim.cnd (hk _) (.none _)
 | .int kd :: ks, x, k, g, hk => by simp only [shapeK]; exact Lim.cbind fun _ => Lim.cbind fun _ => shapeK_lim ks fun _ => hk _
 | .bool :: ks, x, k, g, hk => by simp only [shapeK]; exact Lim.cbind fun _ => Lim.cbind fun _ => shapeK_lim ks fun _ => hk _
 | .str :: ks, x, k, g, hk => by simp only [shapeK]; exact Lim.cbind fun _ => Lim.cbind fun _ => shapeK_lim ks fun _ => hk _
 | .sl :: ks, x, k, g, hk => by simp only [shapeK]; exact Lim.cbind fun _ => Lim.cbind fun _ => shapeK_lim ks fun _ => hk _
 | .any :: ks, x, k, g, hk => by simp only [shapeK]; exact Lim.cbind fun _ => shapeK_lim ks fun _ => hk _
theorem evalOp_lim {C : CallF} {D : Nat → CallF} (hC : LimC C D) {o : Oper} {st : DSt} (hk : ∀ y st, Lim (k y st) fun n => kn n y st) : Lim (evalOp P C o st k) fun n => evalOp P (D n) o st (kn n) := by
 cases ho : o.op with
 | move x => simp only [evalOp, ho]; exact Lim.cbind fun _ => hk _ _
 | assign x => simp only [evalOp, ho]; exact Lim.cbind fun _ => hk _ _
 | pick c a b => simp only [evalOp, ho]; exact Lim.cbind fun _ => Lim.cbind fun _ => Lim.cbind fun _ => Lim.cnd (Lim.cbind fun _ => hk _ _) (Lim.cbind fun _ => hk _ _)
 | alloc t => simp only [evalOp, ho]; exact Lim.cbind fun _ => Lim.cbind fun _ => Lim.cbind fun _ => Lim.cnd (hk _ _) (.none _)
 | box t x => simp only [evalOp, ho]; exact Lim.cbind fun _ => Lim.cbind fun _ => Lim.cbind fun _ => out_lim fun _ _ => Lim.cbind fun _ => Lim.cnd (hk _ _) (.none _)
 | build t ps =>
  simp only [evalOp, ho]
  refine Lim.cbind fun ti => Lim.cbind fun _ => Lim.cbind fun _ => ?_
  cases ti.desc <;> first | exact .none _ | exact Lim.cnd (Lim.cbind fun _ => hk _ _) (.none _) | exact Lim.cbind fun _ => Lim.cbind fun _ => hk _ _
 | buildSlice t n ps =>
  simp only [evalOp, ho]
  refine Lim.cbind fun ti => Lim.cbind fun _ => ?_
  cases ti.desc <;> first | exact .none _ | exact Lim.cbind fun _ => Lim.cbind fun _ => Lim.cnd (Lim.cbind fun _ => hk _ _) (.none _)
 | load t a =>
  simp only [evalOp, ho, cellsK_eq]
  refine Lim.cbind fun ti => Lim.cbind fun _ => ?_
  cases ti.agg <;> first | exact Lim.cbind fun _ => typed_lim fun _ => hk _ _ | exact Lim.cbind fun _ => hk _ _
 | store t a x => simp only [evalOp, ho, cellsOfVK_eq, storeK_eq]; exact Lim.cbind fun _ => Lim.cbind fun _ => Lim.cbind fun _ => out_lim fun _ _ => Lim.cbind fun _ => Lim.cbind fun _ => hk _ _
 | nilCheck x =>
  simp only [evalOp, ho]
  refine Lim.cbind fun s => ?_
  cases s with
  | lp d off => exact Lim.cbind fun _ => hk _ _
  | v x => cases x <;> first | exact .none _ | exact hk _ _
  | dead => exact .none _
 | binOp op t x y w => simp only [evalOp, ho]; exact Lim.cbind fun _ => Lim.cbind fun _ => Lim.cbind fun _ => Lim.cbind fun _ => binK_lim fun _ => hk _ _
 | unOp op t x => simp only [evalOp, ho]; exact Lim.cbind fun _ => Lim.cbind fun _ => Lim.cbind fun _ => hk _ _
 | convert a b x =>
  simp only [evalOp, ho]
  refine Lim.cbind fun ds => Lim.cbind fun dd => Lim.cbind fun _ => Lim.cbind fun _ => ?_
  cases dd <;> first | exact .none _ | exact Lim.cbind fun _ => hk _ _ | skip
  ·cases ds <;> first | exact .none _ | exact Lim.cbind fun _ => hk _ _ | exact Lim.cnd (Lim.cbind fun _ => Lim.cbind fun _ => hk _ _) (.none _)
  ·cases ds <;> first | exact .none _ | exact Lim.cbind fun _ => Lim.cnd (hk _ _) (.none _)
 | sliceToArrayPointer a x =>
  simp only [evalOp, ho]
  refine Lim.cbind fun d => Lim.cbind fun _ => Lim.cbind fun x => ?_
  cases d <;> first | exact .none _ | (cases x <;> first | exact .none _ | exact Lim.cnd (hk _ _) (.none _))
 | makeInterface t x =>
  simp only [evalOp, ho]
  refine Lim.cbind fun d => Lim.cbind fun _ => out_lim fun _ _ => ?_
  cases d <;> first | exact .none _ | exact hk _ _
 | makeFunc f a b =>
  cases f <;> simp only [evalOp, ho] <;> first | exact .none _ | exact Lim.cbind fun _ => Lim.cbind fun _ => outs_lim fun _ _ => outs_lim fun _ _ => hk _ _
 | makeSlice t l c =>
  simp only [evalOp, ho]
  refine Lim.cbind fun ti => Lim.cbind fun _ => Lim.cbind fun _ => Lim.cbind fun _ => Lim.cbind fun _ => Lim.cbind fun _ => Lim.cbind fun _ => ?_
  cases ti.desc <;> first | exact .none _ | exact Lim.cbind fun _ => Lim.cbind fun _ => Lim.cbind fun _ => Lim.cbind fun _ => Lim.cnd (hk _ _) (.none _)
 | slice t x l h m =>
  simp only [evalOp, ho]
  refine Lim.cnd (Lim.cbind fun d => Lim.cbind fun s => Lim.cbind fun _ => Lim.cbind fun _ => Lim.cbind fun smx => ?_) (.none _)
  cases d <;> first | exact .none _ | skip
  ·refine Lim.cbind fun _ => Lim.cbind fun _ => ?_
   cases smx <;> first | exact .none _ | exact Lim.cbind fun _ => Lim.cbind fun _ => hk _ _
  ·refine Lim.cbind fun _ => Lim.cnd (Lim.cbind fun x => ?_) (.none _)
   cases x <;> first | exact .none _ | exact Lim.cbind fun _ => Lim.cbind fun _ => Lim.cbind fun _ => hk _ _ | exact Lim.cbind fun _ => Lim.cbind fun _ => Lim.cbind fun _ => Lim.cnd (hk _ _) (.none _)
  ·refine Lim.cnd (Lim.cbind fun _ => Lim.cbind fun _ => Lim.cbind fun _ => Lim.cbind fun _ => ?_) (.none _)
   cases s with
   | lp d off => exact Lim.cbind fun _ => hk _ _
   | v x => cases x <;> first | exact .none _ | exact Lim.cbind fun _ => Lim.cnd (.none _) (hk _ _) | exact Lim.cnd (.none _) (hk _ _)
   | dead => exact .none _
 | fieldAddr t x f =>
  simp only [evalOp, ho]
  refine Lim.cbind fun d => Lim.cbind fun _ => ?_
  cases d <;> first | exact .none _ | exact Lim.cbind fun _ => Lim.cnd (.none _) (Lim.cbind fun _ => hk _ _)
 | field t x f =>
  simp only [evalOp, ho]
  refine Lim.cbind fun d => Lim.cbind fun _ => Lim.cbind fun _ => Lim.cbind fun _ => ?_
  cases d <;> first | exact .none _ | skip
  refine Lim.cbind fun q => ?_
  cases q.2.agg <;> first | exact Lim.cbind fun _ => typed_lim fun _ => hk _ _ | exact Lim.cnd (hk _ _) (.none _)
 | indexAddr t x i =>
  simp only [evalOp, ho]
  refine Lim.cbind fun d => Lim.cbind fun _ => Lim.cbind fun _ => Lim.cbind fun _ => Lim.cbind fun _ => ?_
  cases d <;> first | exact .none _ | exact Lim.cbind fun _ => Lim.cbind fun _ => Lim.cbind fun _ => hk _ _ | skip
  refine Lim.cbind fun _ => Lim.cbind fun x => ?_
  cases x <;> first | exact .none _ | exact Lim.cbind fun _ => hk _ _ | exact Lim.cbind fun _ => Lim.cbind fun _ => Lim.cbind fun _ => Lim.cnd (shapeK_lim _ fun _ => hk _ _) (.none _)
 | index t x i =>
  simp only [evalOp, ho]
  refine Lim.cbind fun d => Lim.cbind fun _ => Lim.cbind fun _ => Lim.cbind fun _ => Lim.cbind fun _ => Lim.cbind fun _ => ?_
  cases d <;> first | exact .none _ | exact Lim.cbind fun _ => Lim.cbind fun _ => hk _ _ | skip
  refine Lim.cbind fun te => Lim.cbind fun _ => Lim.cbind fun _ => ?_
  cases te.agg <;> first | exact Lim.cbind fun _ => typed_lim fun _ => hk _ _ | exact Lim.cnd (hk _ _) (.none _)
 | extract t i => simp only [evalOp, ho]; exact Lim.cbind fun _ => Lim.cbind fun _ => Lim.cbind fun _ => Lim.cbind fun _ => typed_lim fun _ => hk _ _
 | call c =>
  obtain ⟨callee, args, ts⟩ := c
  cases callee with
  | value f =>
   simp only [evalOp, ho]
   refine Lim.cbind fun _ => Lim.cbind fun fv => Lim.cbind fun _ => outs_lim fun _ _ => ?_
   cases fv <;> first | exact .none _ | exact hC _ _ _ _ _ _ fun _ => typed_lim fun _ => hk _ _
  | builtin b => simp only [evalOp, ho]; exact Lim.cbind fun _ => outs_lim fun _ _ => builtinP_lim hk
  | invoke _ _ => simp only [evalOp, ho]; exact .none _
 | _ => simp only [evalOp, ho]; exact .none _
theorem appQ_lim {ts : List TypeId} {xs : List DV} {st : DSt} (hk : ∀ y st, Lim (k y st) fun n => kn n y st) : Lim (appQ P ts xs st k) fun n => appQ P ts xs st (kn n) := by
 unfold appQ
 split
 ·rename_i t tx s x
  refine Lim.cbind fun d => ?_
  cases d <;> first | exact .none _ | skip
  refine Lim.cbind fun ti => Lim.cbind fun z => Lim.cbind fun d => ?_
  cases d <;> first | exact .none _ | skip
  refine Lim.cnd (Lim.cbind fun q => ?_) (.none _)
  unfold appendQ
  cases s <;> first | exact .none _ | exact Lim.cnd (Lim.cbind fun _ => Lim.cnd (Lim.cnd (hk _ _) (hk _ _)) (.none _)) (.none _)
 ·exact .none _
theorem evalOpF_lim {C : CallF} {D : Nat → CallF} (hC : LimC C D) {o : Oper} {st : DSt} (hk : ∀ y st, Lim (k y st) fun n => kn n y st) : Lim (evalOpF P C o st k) fun n => evalOpF P (D n) o st (kn n) := by
 unfold evalOpF
 split
 ·exact Lim.cbind fun _ => outs_lim fun _ _ => appQ_lim hk
 ·exact evalOp_lim hC hk
theorem guardK_lim {ops : Array Oper} {o : Oper} {st : DSt} {run skip : DSt → Option R} {rn sn : Nat → DSt → Option R} (h1 : ∀ st, Lim (run st) fun n => rn n st) (h2 : ∀ st, Lim (skip st) fun n => sn n st) : Lim (guardK ops o st run skip) fun n => guardK ops o st (rn n) (sn n) := by
 unfold guardK
 cases o.guard with
 | none => exact h1 _
 | some p =>
  refine Lim.cbind fun _ => Lim.cbind fun _ => Lim.cbind fun x => ?_
  cases x <;> first | exact .none _ | exact h2 _ | skip
  rename_i b
  refine Lim.cnd ?_ ?_
  ·cases p.2 <;> first | exact h1 _ | exact h2 _
  ·cases p.2 <;> first | exact h1 _ | exact h2 _
end
end Go.Dv
end
section
namespace Go.Dv
open Go.Pv (TI tiOf idx upTo fieldTI CK kindsOf LoopRec PExit isConst room isYield bif_some bif_none masksOf behind firm makes floats mayLp dsts isAl drawOK isRecover still)
section
variable [DGlob] {P : Program} {R : Type}
theorem evalDraw_lim {C Cp : CallF} {D Dp : Nat → CallF} (hC : LimC C D) (hCp : LimC Cp Dp) {ops : Array Oper} {ms : List Nat} {k : DSt → Option R} {kn : Nat → DSt → Option R} (hk : ∀ st, Lim (k st) fun n => kn n st) : ∀ (l : List Oper) (i : Nat) (st : DSt), Lim (evalDraw P C Cp ops ms i l st k) fun n => evalDraw P (D n) (Dp n) ops ms i l st (kn n)
 | [], i, st => hk st
 | o :: l, i, st => by
  simp only [evalDraw]
  refine Lim.cnd (guardK_lim (fun st => evalOp_lim hC fun y st => Lim.cnd (evalDraw_lim hC hCp hk l _ _) (.none _)) fun st => Lim.cnd (evalDraw_lim hC hCp hk l _ _) (.none _)) (guardK_lim (fun st => Lim.cnd (evalOpF_lim hCp fun y st => Lim.cnd (evalDraw_lim hC hCp hk l _ _) (.none _)) (.none _)) fun st => evalDraw_lim hC hCp hk l _ _)
theorem pre_lim {k : DSt → Option R} {kn : Nat → DSt → Option R} (hk : ∀ st, Lim (k st) fun n => kn n st) : ∀ (l : List Nat) (st : DSt), Lim (pre st l k) fun n => pre st l (kn n)
 | [], st => hk st
 | t :: l, st => by
  unfold pre
  split
  ·exact Lim.cnd (out_lim fun _ _ => pre_lim hk l _) (pre_lim hk l _)
  ·exact pre_lim hk l _
theorem evalDrawn_lim {C Cp : CallF} {D Dp : Nat → CallF} (hC : LimC C D) (hCp : LimC Cp Dp) {ops : Array Oper} {st : DSt} {k : DSt → Option R} {kn : Nat → DSt → Option R} (hk : ∀ st, Lim (k st) fun n => kn n st) : Lim (evalDrawn P C Cp ops st k) fun n => evalDrawn P (D n) (Dp n) ops st (kn n) :=
 pre_lim (fun st => Lim.cnd (evalDraw_lim hC hCp hk _ _ _) (.none _)) _ _
theorem retOnly_lim {X : CallX} {Xn : Nat → CallX} (hX : LimX X Xn) : LimC (retOnly X) fun n => retOnly (Xn n) := fun R g xs h k kn hk => by
 unfold retOnly
 refine hX _ _ _ _ _ _ fun r => ?_
 cases r.1 <;> first | exact .none _ | exact hk _
abbrev KX (R : Type) := DExit → DSt → List DItem → Option R
theorem afterCall_lim {o : Oper} {st : DSt} {ds : List DItem} {k : DSlot → DSt → List DItem → Option R} {kp : DV → DSt → List DItem → Option R} {kn : Nat → DSlot → DSt → List DItem → Option R} {kpn : Nat → DV → DSt → List DItem → Option R} (hk : ∀ y st ds, Lim (k y st ds) fun n => kn n y st ds) (hp : ∀ y st ds, Lim (kp y st ds) fun n => kpn n y st ds) (r : DRes × DHeap) :
  Lim (afterCall P o st ds k kp r) fun n => afterCall P o st ds (kn n) (kpn n) r := by
 unfold afterCall
 cases r.1 with
 | ret v => exact typed_lim fun _ => hk _ _ _
 | pan v => exact hp _ _ _
theorem evalOpX_lim {X : CallX} {Xn : Nat → CallX} (hX : LimX X Xn) {ya : List Nat} {rnd : Option Nat} {o : Oper} {st : DSt} {ds : List DItem} {k : DSlot → DSt → List DItem → Option R} {kp : DV → DSt → List DItem → Option R} {kn : Nat → DSlot → DSt → List DItem → Option R} {kpn : Nat → DV → DSt → List DItem → Option R} (hk : ∀ y st ds, Lim (k y st ds) fun n => kn n y st ds) (hp : ∀ y st ds, Lim (kp y st ds) fun n => kpn n y st ds) :
  Lim (evalOpX P X ya rnd o st ds k kp) fun n => evalOpX P (Xn n) ya rnd o st ds (kn n) (kpn n) := by
 unfold evalOpX
 split
 ·refine Lim.cbind fun _ => Lim.cbind fun fv => Lim.cbind fun _ => outs_lim fun _ _ => ?_
  split <;> first | exact hX _ _ _ _ _ _ fun r => afterCall_lim hk hp r | exact Lim.cnd (hX _ _ _ _ _ _ fun r => afterCall_lim hk hp r) (.none _) | exact .none _
 ·refine Lim.cbind fun _ => Lim.cbind fun v => ?_
  cases v <;> first | exact .none _ | exact hp _ _ _
 ·cases rnd with
  | some l => exact .none _
  | none =>
   refine Lim.cbind fun _ => Lim.cbind fun fv => Lim.cbind fun _ => outs_lim fun _ _ => ?_
   cases fv <;> first | exact .none _ | exact hk _ _ _
 ·exact evalOp_lim (retOnly_lim hX) fun _ _ => hk _ _ _
theorem evalOpsX_lim {X : CallX} {Xn : Nat → CallX} (hX : LimX X Xn) {ya : List Nat} {rnd : Option Nat} {ops : Array Oper} {k : KX R} {kn : Nat → KX R} (hk : ∀ e st ds, Lim (k e st ds) fun n => kn n e st ds) : ∀ (l : List Oper) (st : DSt) (ds : List DItem), Lim (evalOpsX P X ya rnd ops l st ds k) fun n => evalOpsX P (Xn n) ya rnd ops l st ds (kn n)
 | [], st, ds => hk _ _ _
 | o :: l, st, ds => by
  simp only [evalOpsX]
  exact guardK_lim (fun st => evalOpX_lim hX (fun _ _ _ => evalOpsX_lim hX hk l _ _) fun _ _ _ => hk _ _ _) fun st => evalOpsX_lim hX hk l _ _
theorem settle_lim : ∀ {l : List DSlot} {st : DSt} {k : List DV → List Bool → DSt → Option R} {kn : Nat → List DV → List Bool → DSt → Option R}, (∀ a b st, Lim (k a b st) fun n => kn n a b st) → Lim (settle st l k) fun n => settle st l (kn n)
 | [], st, k, kn, hk => hk _ _ _
 | .dead :: l, st, k, kn, hk => by simp only [settle]; exact settle_lim fun _ _ _ => hk _ _ _
 | .v x :: l, st, k, kn, hk => by simp only [settle]; exact settle_lim fun _ _ _ => hk _ _ _
 | .lp d off :: l, st, k, kn, hk => by
  simp only [settle]
  split
  ·exact settle_lim fun _ _ _ => hk _ _ _
  ·exact out_lim fun _ _ => settle_lim fun _ _ _ => hk _ _ _
theorem endLoop_lim {l : Nat} {st : DSt} {ds : List DItem} {k : KX R} {kn : Nat → KX R} (hk : ∀ e st ds, Lim (k e st ds) fun n => kn n e st ds) : Lim (endLoop l st ds k) fun n => endLoop l st ds (kn n) := by
 unfold endLoop
 refine Lim.cbind fun q => Lim.cnd (.none _) ?_
 split
 ·exact hk _ _ _
 ·exact Lim.cbind fun _ => hk _ _ _
theorem evalRange_lim {X : CallX} {Xn : Nat → CallX} (hX : LimX X Xn) {T : DTab} {K : Nat → List Nat} {rnd : Option Nat} {g : Operand} {ps : Array Tmp} {a b : Code} {st : DSt} {ds : List DItem} {k : KX R} {kn : Nat → KX R} (hk : ∀ e st ds, Lim (k e st ds) fun n => kn n e st ds) :
  Lim (evalRange P X T K rnd g ps a b st ds k) fun n => evalRange P (Xn n) T K rnd g ps a b st ds (kn n) := by
 unfold evalRange
 refine Lim.cbind fun _ => Lim.cbind fun gv => settle_lim fun _ _ _ => ?_
 split
 ·refine Lim.cbind fun _ => Lim.cnd ?_ (.none _)
  cases rnd with
  | none =>
   refine hX _ _ _ _ _ _ fun r => ?_
   cases r.1 <;> first | exact endLoop_lim hk | exact hk _ _ _
  | some l =>
   refine Lim.cbind fun _ => hX _ _ _ _ _ _ fun r => ?_
   cases r.1 <;> first | exact endLoop_lim hk | exact hk _ _ _
 ·exact .none _
abbrev FX (R : Type) := DSt → List DItem → KX R → Option R
def LimF (f : FX R) (fn : Nat → FX R) : Prop := ∀ st ds (k : KX R) (kn : Nat → KX R), (∀ e st ds, Lim (k e st ds) fun n => kn n e st ds) → Lim (f st ds k) fun n => fn n st ds (kn n)
def LimL (Lp : LoopC R) (Ln : Nat → LoopC R) : Prop := ∀ td (f : FX R) (fn : Nat → FX R) (k : KX R) (kn : Nat → KX R) st ds, LimF f fn → (∀ e st ds, Lim (k e st ds) fun n => kn n e st ds) → Lim (Lp td f k st ds) fun n => Ln n td (fn n) (kn n) st ds
noncomputable def LoopLim {R : Type} : LoopC R := fun td f k st ds => open Classical in if h : ∃ r m, loopK td f k m st ds = some r then some (Classical.choose h) else none
theorem loopK_lim {td : DSt → List DItem → DSt} {f : FX R} {fn : Nat → FX R} (hf : LimF f fn) {k : KX R} {kn : Nat → KX R} (hk : ∀ e st ds, Lim (k e st ds) fun n => kn n e st ds) : ∀ (m : Nat) (q : Nat → Nat), (∀ n, m ≤ q n) → ∀ st ds, Lim (loopK td f k m st ds) fun n => loopK td (fn n) (kn n) (q n) st ds
 | 0, q, hq, st, ds => .none _
 | m + 1, q, hq, st, ds => by
  have hq' : ∀ n, q n = (q n - 1) + 1 := fun n => by have := hq n; omega
  have h : Lim (loopK td f k (m + 1) st ds) fun n => loopK td (fn n) (kn n) ((q n - 1) + 1) st ds := by
   simp only [loopK]
   refine hf _ _ _ _ fun e st ds => ?_
   cases e <;> first | exact hk _ _ _ | exact loopK_lim hf hk m _ (fun n => by have := hq n; omega) _ _
  intro r hr
  obtain ⟨N, hN⟩ := h r hr
  exact ⟨N, fun n hn => by dsimp only; rw [hq' n]; exact hN n hn⟩
theorem loopLim_lim : LimL (LoopLim (R := R)) fun n td f k st ds => loopK td f k n st ds := by
 intro kill f fn k kn st ds hf hk r hr
 unfold LoopLim at hr
 split at hr
 ·rename_i h
  cases hr
  obtain ⟨m, hm⟩ := Classical.choose_spec h
  obtain ⟨N, hN⟩ := loopK_lim hf hk m (fun n => max n m) (fun n => Nat.le_max_right n m) st ds _ hm
  refine ⟨max N m, fun n hn => ?_⟩
  have := hN n (Nat.le_trans (Nat.le_max_left N m) hn)
  dsimp only at this
  rw [Nat.max_eq_left (Nat.le_trans (Nat.le_max_right N m) hn)] at this
  exact this
 ·cases hr
theorem LoopLim_of {td : DSt → List DItem → DSt} {f : FX R} (hf : LimF f fun _ => f) {k : KX R} {st : DSt} {ds : List DItem} {m : Nat} {r : R} (h : loopK td f k m st ds = some r) : LoopLim td f k st ds = some r := by
 have hex : ∃ r m, loopK td f k m st ds = some r := ⟨r, m, h⟩
 unfold LoopLim
 rw [dif_pos hex]
 obtain ⟨m', hm'⟩ := Classical.choose_spec hex
 have hk : ∀ e st ds, Lim (k e st ds) fun _ => k e st ds := fun e st ds => .const _
 obtain ⟨N, hN⟩ := loopK_lim hf hk m (fun n => max n m) (fun n => Nat.le_max_right n m) st ds _ h
 obtain ⟨N', hN'⟩ := loopK_lim hf hk m' (fun n => max n m') (fun n => Nat.le_max_right n m') st ds _ hm'
 have h1 := hN (max (max N N') (max m m')) (by omega)
 have h2 := hN' (max (max N N') (max m m')) (by omega)
 dsimp only at h1 h2
 rw [Nat.max_eq_left (by omega)] at h1 h2
 rw [h1] at h2
 exact h2.symm
theorem LoopLim_step {td : DSt → List DItem → DSt} {f : FX R} (hf : LimF f fun _ => f) {k : KX R} {st : DSt} {ds : List DItem} {r : R} (h : (f st ds fun e st' ds' => match e with
  | .normal => LoopLim td f k (td st' ds') ds'
  | e => k e st' ds') = some r) : LoopLim td f k st ds = some r := by
 have hk : ∀ e st ds, Lim (k e st ds) fun _ => k e st ds := fun e st ds => .const _
 have h1 := hf st ds (fun e st' ds' => match e with
  | .normal => LoopLim td f k (td st' ds') ds'
  | e => k e st' ds') (fun n e st' ds' => match e with
  | .normal => loopK td f k n (td st' ds') ds'
  | e => k e st' ds') (fun e st' ds' => by
   cases e <;> first | exact .const _ | exact loopLim_lim td f (fun _ => f) k (fun _ => k) _ _ hf hk) r h
 obtain ⟨N, hN⟩ := h1
 exact LoopLim_of hf (m := N + 1) (hN N (Nat.le_refl N))
theorem evalK_lim' {X Y : CallX} {Xn Yn : Nat → CallX} {Cp : CallF} {Cn : Nat → CallF} (hX : LimX X Xn) (hY : LimX Y Yn) (hC : LimC Cp Cn) {T : DTab} {K : Nat → List Nat} {W : TidyF} {ya : List Nat} {Lp : LoopC R} {Ln : Nat → LoopC R} {rnd : Option Nat}
  (hL : ∀ td (b : Code) (k : KX R) (kn : Nat → KX R) st ds, LimF (fun st ds k => evalK P X Y Cp T K W ya Lp rnd 0 b st ds k) (fun n st ds k => evalK P (Xn n) (Yn n) (Cn n) T K W ya (Ln n) rnd 0 b st ds k) → (∀ e st ds, Lim (k e st ds) fun n => kn n e st ds) →
   Lim (Lp td (fun st ds k => evalK P X Y Cp T K W ya Lp rnd 0 b st ds k) k st ds) fun n => Ln n td (fun st ds k => evalK P (Xn n) (Yn n) (Cn n) T K W ya (Ln n) rnd 0 b st ds k) (kn n) st ds) :
  ∀ (c : Code) (id : Nat) (st : DSt) (ds : List DItem) {k : KX R} {kn : Nat → KX R}, (∀ e st ds, Lim (k e st ds) fun n => kn n e st ds) → Lim (evalK P X Y Cp T K W ya Lp rnd id c st ds k) fun n => evalK P (Xn n) (Yn n) (Cn n) T K W ya (Ln n) rnd id c st ds (kn n) := by
 intro c
 induction c with
 | skip => intro id st ds k kn hk; exact hk _ _ _
 | region i ops draw =>
  intro id st ds k kn hk
  cases draw with
  | false => exact evalOpsX_lim hX hk _ _ _
  | true => exact evalDrawn_lim (retOnly_lim hX) hC fun st => hk _ _ _
 | seq a b iha ihb =>
  intro id st ds k kn hk
  simp only [evalK]
  refine iha _ _ _ fun e st ds => ?_
  cases e <;> first | exact hk _ _ _ | exact ihb _ _ _ hk
 | cond c a b iha ihb =>
  intro id st ds k kn hk
  simp only [evalK]
  exact Lim.cbind fun _ => Lim.cbind fun _ => Lim.cbind fun _ => Lim.cnd (iha _ _ _ hk) (ihb _ _ _ hk)
 | block i b ih =>
  intro id st ds k kn hk
  simp only [evalK]
  refine ih _ _ _ fun e st ds => ?_
  cases e <;> first | exact hk _ _ _ | exact Lim.cnd (hk _ _ _) (hk _ _ _)
 | scope b ih =>
  intro id st ds k kn hk
  simp only [evalK]
  refine ih _ _ _ fun e st ds => ?_
  cases e <;> first | exact hk _ _ _ | exact .none _
 | loop b ih =>
  intro id st ds k kn hk
  simp only [evalK]
  exact hL _ _ _ _ _ _ (fun st ds k kn hk => ih _ _ _ hk) hk
 | rangeFunc g ps a b iha ihb =>
  intro id st ds k kn hk
  simp only [evalK]
  exact evalRange_lim hY hk
 | exit i => intro id st ds k kn hk; exact hk _ _ _
 | label i => intro id st ds k kn hk; exact hk _ _ _
 | ret => intro id st ds k kn hk; exact hk _ _ _
 | _ => intro id st ds k kn hk; simp only [evalK]; exact .none _
theorem evalK_lim {X Y : CallX} {Xn Yn : Nat → CallX} {Cp : CallF} {Cn : Nat → CallF} (hX : LimX X Xn) (hY : LimX Y Yn) (hC : LimC Cp Cn) {T : DTab} {K : Nat → List Nat} {W : TidyF} {ya : List Nat} {Lp : LoopC R} {Ln : Nat → LoopC R} (hL : LimL Lp Ln) {rnd : Option Nat} (c : Code) (id : Nat) (st : DSt) (ds : List DItem) {k : KX R} {kn : Nat → KX R} (hk : ∀ e st ds, Lim (k e st ds) fun n => kn n e st ds) :
  Lim (evalK P X Y Cp T K W ya Lp rnd id c st ds k) fun n => evalK P (Xn n) (Yn n) (Cn n) T K W ya (Ln n) rnd id c st ds (kn n) :=
 evalK_lim' hX hY hC (fun kill b k kn st ds hf hk => hL _ _ _ _ _ _ _ hf hk) c id st ds hk
theorem evalK_cont {X Y : CallX} {Cp : CallF} (hX : LimX X fun _ => X) (hY : LimX Y fun _ => Y) (hC : LimC Cp fun _ => Cp) {T : DTab} {K : Nat → List Nat} {W : TidyF} {ya : List Nat} {rnd : Option Nat} (c : Code) (id : Nat) : LimF (fun st ds k => evalK P X Y Cp T K W ya (LoopLim (R := R)) rnd id c st ds k) fun _ st ds k => evalK P X Y Cp T K W ya (LoopLim (R := R)) rnd id c st ds k := fun st ds k kn hk =>
 evalK_lim' hX hY hC (fun kill b k kn st ds hf hk r hr => by
  unfold LoopLim at hr
  split at hr
  ·rename_i h
   cases hr
   obtain ⟨m, hm⟩ := Classical.choose_spec h
   obtain ⟨M, hM⟩ := loopK_lim hf hk m (fun _ => m) (fun n => Nat.le_refl m) st ds _ hm
   exact ⟨M, fun n hn => LoopLim_of hf (hM n hn)⟩
  ·cases hr) c id st ds hk
theorem resultsP_lim : ∀ (l : List ResultVar) (st : DSt) {k : List DV → DSt → Option R} {kn : Nat → List DV → DSt → Option R}, (∀ a st, Lim (k a st) fun n => kn n a st) → Lim (resultsP P st l k) fun n => resultsP P st l (kn n)
 | [], st, k, kn, hk => hk _ _
 | .tmp t :: l, st, k, kn, hk => by simp only [resultsP]; exact Lim.cbind fun _ => out_lim fun _ _ => resultsP_lim l _ fun _ _ => hk _ _
 | .cell a t :: l, st, k, kn, hk => by
  simp only [resultsP, cellsK_eq]
  refine Lim.cbind fun ti => Lim.cbind fun _ => ?_
  cases ti.agg <;> exact Lim.cbind fun _ => resultsP_lim l _ fun _ _ => hk _ _
theorem evalOpsS_lim {X : CallX} {Xn : Nat → CallX} (hX : LimX X Xn) {ops : Array Oper} {k : DMode → DSt → Option R} {kn : Nat → DMode → DSt → Option R} (hk : ∀ e st, Lim (k e st) fun n => kn n e st) : ∀ (l : List Oper) (m : DMode) (st : DSt), Lim (evalOpsS P X ops l m st k) fun n => evalOpsS P (Xn n) ops l m st (kn n)
 | [], m, st => hk _ _
 | o :: l, m, st => by
  simp only [evalOpsS]
  refine guardK_lim (fun st => ?_) fun st => evalOpsS_lim hX hk l _ _
  cases isRecover o with
  | true =>
   dsimp only
   cases m with
   | ret => exact evalOpsS_lim hX hk l _ _
   | pan v b => cases b <;> exact evalOpsS_lim hX hk l _ _
  | false => exact Lim.cnd (evalOp_lim (retOnly_lim hX) fun _ _ => evalOpsS_lim hX hk l _ _) (.none _)
theorem evalS_lim {X Y : CallX} {Xn Yn : Nat → CallX} {Cp : CallF} {Cn : Nat → CallF} (hX : LimX X Xn) (hY : LimX Y Yn) (hC : LimC Cp Cn) {T : DTab} {K : Nat → List Nat} {Lp : LoopC R} {Ln : Nat → LoopC R} (hL : LimL Lp Ln) :
  ∀ (c : Code) (m : DMode) (st : DSt) {k : DExit → DMode → DSt → Option R} {kn : Nat → DExit → DMode → DSt → Option R}, (∀ e m st, Lim (k e m st) fun n => kn n e m st) → Lim (evalS P X Y Cp T K Lp c m st k) fun n => evalS P (Xn n) (Yn n) (Cn n) T K (Ln n) c m st (kn n) := by
 intro c
 have plain : ∀ (c : Code) (m : DMode) (st : DSt) {k : DExit → DMode → DSt → Option R} {kn : Nat → DExit → DMode → DSt → Option R}, (∀ e m st, Lim (k e m st) fun n => kn n e m st) → Lim (evalK P X Y Cp T K noTidy [] Lp none 0 c st [] fun e st ds => match ds with
   | [] => k e m st
   | _ => none) fun n => evalK P (Xn n) (Yn n) (Cn n) T K noTidy [] (Ln n) none 0 c st [] fun e st ds => match ds with
   | [] => kn n e m st
   | _ => none := fun c m st k kn hk => evalK_lim hX hY hC hL c 0 st [] fun e st ds => by
  cases ds <;> first | exact .none _ | exact hk _ _ _
 induction c with
 | seq a b iha ihb =>
  intro m st k kn hk
  simp only [evalS]
  refine iha _ _ fun e m st => ?_
  cases e <;> first | exact hk _ _ _ | exact ihb _ _ hk
 | cond c a b iha ihb =>
  intro m st k kn hk
  simp only [evalS]
  exact Lim.cbind fun _ => Lim.cbind fun _ => Lim.cbind fun _ => Lim.cnd (iha _ _ hk) (ihb _ _ hk)
 | region i ops draw =>
  intro m st k kn hk
  simp only [evalS]
  exact Lim.cnd (evalOpsS_lim hX (fun _ _ => hk _ _ _) _ _ _) (plain _ _ _ hk)
 | _ => intro m st k kn hk; simp only [evalS]; exact plain _ _ _ hk
theorem evalD_lim {X Y : CallX} {Xn Yn : Nat → CallX} {Cp : CallF} {Cn : Nat → CallF} (hX : LimX X Xn) (hY : LimX Y Yn) (hC : LimC Cp Cn) {T : DTab} {Lp : LoopC (DMode × DHeap)} {Ln : Nat → LoopC (DMode × DHeap)} (hL : LimL Lp Ln) (g : FuncId) (xs : List DV) (m : DMode) (h : DHeap) :
  Lim (evalD P X Y Cp T Lp g xs m h) fun n => evalD P (Xn n) (Yn n) (Cn n) T (Ln n) g xs m h := by
 unfold evalD
 refine Lim.cnd (.none _) (Lim.cbind fun fn => Lim.cbind fun c => evalS_lim hX hY hC hL _ _ _ fun e m st => ?_)
 cases e <;> first | exact .none _ | exact resultsP_lim _ _ fun _ _ => .const _
theorem leaveX_lim {D : FuncId → List DV → DMode → DHeap → Option (DMode × DHeap)} {Dn : Nat → FuncId → List DV → DMode → DHeap → Option (DMode × DHeap)} (hD : ∀ g xs m h, Lim (D g xs m h) fun n => Dn n g xs m h) {fn : Func} {k : DRes × DHeap → Option R} {kn : Nat → DRes × DHeap → Option R} (hk : ∀ r, Lim (k r) fun n => kn n r) : ∀ (ds : List DItem) (m : DMode) (st : DSt), Lim (leaveX P D fn ds m st k) fun n => leaveX P (Dn n) fn ds m st (kn n)
 | [], m, st => by
  simp only [leaveX]
  cases m with
  | ret => exact resultsP_lim _ _ fun _ _ => hk _
  | pan v b => cases b <;> first | exact hk _ | exact .none _
 | .mark id :: r, m, st => by
  simp only [leaveX]
  refine Lim.cbind fun b => ?_
  split
  ·exact leaveX_lim hD hk r _ _
  ·exact .none _
 | .call g xs :: r, m, st => by
  simp only [leaveX]
  exact Lim.bind (hD _ _ _ _) fun q => leaveX_lim hD hk r _ _
theorem evalBody_lim {X Y : CallX} {Xn Yn : Nat → CallX} {Cp : CallF} {Cn : Nat → CallF} (hX : LimX X Xn) (hY : LimX Y Yn) (hC : LimC Cp Cn) {T : DTab} {K : Nat → List Nat} {W : TidyF} {Lp : (R : Type) → LoopC R} {Ln : Nat → (R : Type) → LoopC R} (hL : ∀ R, LimL (Lp R) fun n => Ln n R) {fn : Func} {xs : List DV} {h : DHeap} {k : DRes × DHeap → Option R} {kn : Nat → DRes × DHeap → Option R} (hk : ∀ r, Lim (k r) fun n => kn n r) :
  Lim (evalBody P X Y Cp T K W Lp fn xs h k) fun n => evalBody P (Xn n) (Yn n) (Cn n) T K W (Ln n) fn xs h (kn n) := by
 unfold evalBody
 refine Lim.cbind fun c => evalK_lim hX hY hC (hL _) _ _ _ _ fun e st ds => ?_
 cases e <;> first | exact .none _ | exact leaveX_lim (fun g xs m h => evalD_lim hX hY hC (hL _) g xs m h) hk _ _ _
theorem evalRound_lim {X Y : CallX} {Xn Yn : Nat → CallX} {Cp : CallF} {Cn : Nat → CallF} (hX : LimX X Xn) (hY : LimX Y Yn) (hC : LimC Cp Cn) {T : DTab} {Lp : (R : Type) → LoopC R} {Ln : Nat → (R : Type) → LoopC R} (hL : ∀ R, LimL (Lp R) fun n => Ln n R) {l : Nat} {xs : List DV} {h : DHeap} :
  Lim (evalRound P X Y Cp T Lp l xs h) fun n => evalRound P (Xn n) (Yn n) (Cn n) T (Ln n) l xs h := by
 unfold evalRound
 refine Lim.cbind fun q => Lim.cnd (evalK_lim hX hY hC (hL _) _ _ _ _ fun e st ds => ?_) (.none _)
 split
 ·refine Lim.cbind fun q' => Lim.cnd (evalK_lim hX hY hC (hL _) _ _ _ _ fun e st ds => ?_) (.none _)
  split <;> exact .const _
 ·exact .none _
def LimLo (L : Local) (Ln : Nat → Local) : Prop := ∀ (R : Type) f xs (k : DRes × DHeap → Option R) (kn : Nat → DRes × DHeap → Option R), (∀ r, Lim (k r) fun n => kn n r) → Lim (L R f xs k) fun n => Ln n R f xs (kn n)
theorem callLocal_lim {R : Type} {T : DTab} {L : Local} {Ln : Nat → Local} (hL : LimLo L Ln) (f : FuncId) (xs : List DV) (h : DHeap) {k : DRes × DHeap → Option R} {kn : Nat → DRes × DHeap → Option R} (hk : ∀ r, Lim (k r) fun n => kn n r) : Lim (callLocal T L f xs h k) fun n => callLocal T (Ln n) f xs h (kn n) := by
 unfold callLocal
 refine Lim.cbind fun q => hL _ _ _ _ _ fun r => ?_
 cases r.1 <;> first | exact hk _ | exact Lim.cbind fun _ => hk _
theorem callX_lim {T : DTab} {L : Local} {Ln : Nat → Local} (hL : LimLo L Ln) {X : CallD} {Xn : Nat → CallD} (hX : LimD X Xn) : LimX (callX T L X) fun n => callX T (Ln n) (Xn n) := fun R t xs h k kn hk => by
 cases t with
 | fn f => exact Lim.cnd (callLocal_lim hL _ _ _ hk) (Lim.cnd (Lim.bind (hX _ _ _) hk) (.none _))
 | yield l => exact Lim.bind (hX _ _ _) hk
theorem callQ_lim {T : DTab} {L : Local} {Ln : Nat → Local} (hL : LimLo L Ln) : LimC (callQ T L) fun n => callQ T (Ln n) := fun R f xs h k kn hk => by
 unfold callQ
 refine Lim.cnd (Lim.cbind fun q => Lim.cnd (hL _ _ _ _ _ fun r => ?_) (.none _)) (.none _)
 cases r.1 <;> first | exact .none _ | exact Lim.cbind fun _ => hk _
theorem stepX_lim {T : DTab} {Lp : (R : Type) → LoopC R} {Ln : Nat → (R : Type) → LoopC R} (hP : ∀ R, LimL (Lp R) fun n => Ln n R) {L : Local} {Lon : Nat → Local} (hL : LimLo L Lon) {Y : CallD} {Yn : Nat → CallD} (hY : LimD Y Yn) : LimX (stepX P T Lp L Y) fun n => stepX P T (Ln n) (Lon n) (Yn n) := fun R t xs h k kn hk => by
 cases t with
 | yield l => exact Lim.bind (evalRound_lim (callX_lim hL hY) hY.lift (callQ_lim hL) hP) hk
 | fn f =>
  simp only [stepX]
  cases T.spec f with
  | some s =>
   cases h with
   | nil => exact Lim.cbind fun _ => hk _
   | cons a l => exact .none _
  | none => exact Lim.cbind fun fn => evalBody_lim (callX_lim hL hY) hY.lift (callQ_lim hL) hP hk
theorem LimX.direct {X : CallX} {Xn : Nat → CallX} (h : LimX X Xn) : LimD (direct X) fun n => direct (Xn n) := fun t xs hp => h _ _ _ _ _ _ fun _ => .const _
def Lx (P : Program) (T : DTab) (f : FuncId) (xs : List DV) (r : DRes × DHeap) : Prop := ∃ N, ∀ n, N ≤ n → stepL T (evalY P T n) f xs = some r
def LOK (P : Program) (T : DTab) (L : Local) : Prop := ∀ (R : Type) f xs (k : DRes × DHeap → Option R) r, L R f xs k = some r → ∃ v, Lx P T f xs v ∧ k v = some r
theorem LOK.lim {T : DTab} {L : Local} (hL : LOK P T L) : LimLo L fun n => liftL (stepL T (evalY P T n)) := fun R f xs k kn hk r hr => by
 obtain ⟨v, ⟨N, hN⟩, h2⟩ := hL R f xs k r hr
 obtain ⟨M, hM⟩ := hk v r h2
 refine ⟨max N M, fun n hn => ?_⟩
 simp only [liftL]
 rw [hN n (by omega), Option.bind_some]
 exact hM n (by omega)
end
end Go.Dv
end
section
namespace Go.Dv
open Go.Pv (LoopRec PExit)
abbrev LpT := (R : Type) → LoopC R
section
variable [DGlob] (P : Program) (T : DTab) (Lp : LpT) (L : Local)
noncomputable def run (Y : CallD) (f : FuncId) (xs : List DV) : Option (DRes × DHeap) := stepX P T Lp L Y _ (.fn f) xs [] (finish (T.own f))
noncomputable def runR (Y : CallD) (t : Tgt) (xs : List DV) (h : DHeap) : Option (DRes × DHeap) := stepX P T Lp L Y _ t xs h some
def nY : CallD := fun _ _ _ => none
def wOf (f : FuncId) (rnd : Option Nat) : TidyF := match rnd with
 | none => tidy (T.vec f) 0
 | some l => tidy (fun _ => some []) (l + 1)
def tdF (f : FuncId) (rnd : Option Nat) (id : Nat) : DSt → List DItem → DSt := fun st ds => wOf T f rnd id (killTmps (T.kill f id) st) ds
noncomputable def ev {R : Type} (Y : CallD) (ya : List Nat) (f : FuncId) (rnd : Option Nat) (id : Nat) (c : Code) (st : DSt) (ds : List DItem) (k : KX R) : Option R :=
 evalK P (callX T L Y) (liftX Y) (callQ T L) T (T.kill f) (wOf T f rnd) ya (Lp R) rnd id c st ds k
def bodyOf (f : FuncId) : Code := ((T.fn f).bind fun fn => fn.body).getD .skip
def loopIn (t : Nat) : Nat → Code → Option Code
 | _, .seq a b => match loopIn t 0 a with
  | some c => some c
  | none => loopIn t 0 b
 | _, .cond _ a b => match loopIn t 0 a with
  | some c => some c
  | none => loopIn t 0 b
 | _, .block i b => loopIn t i b
 | _, .scope b => loopIn t 0 b
 | id, .loop b => bif Nat.beq id t then some b else loopIn t 0 b
 | _, .rangeFunc _ _ _ b => loopIn t 0 b
 | _, _ => none
def loopOf (f : FuncId) (t : Nat) : Code := (loopIn t 0 (bodyOf T f)).getD .skip
noncomputable def bodyF {R : Type} (Y : CallD) (ya : List Nat) (f : FuncId) (rnd : Option Nat) (t : Nat) : FX R := fun st ds k => ev P T Lp L Y ya f rnd 0 (loopOf T f t) st ds k
noncomputable def kontIn {R : Type} (Y : CallD) (ya : List Nat) (f : FuncId) (rnd : Option Nat) (t : Nat) : Nat → Code → KX R → Option (KX R)
 | _, .seq a b, k => match kontIn Y ya f rnd t 0 a (fun e st ds => match e with
   | .normal => ev P T Lp L Y ya f rnd 0 b st ds k
   | e => k e st ds) with
  | some c => some c
  | none => kontIn Y ya f rnd t 0 b k
 | _, .cond _ a b, k => match kontIn Y ya f rnd t 0 a k with
  | some c => some c
  | none => kontIn Y ya f rnd t 0 b k
 | _, .block i b, k => kontIn Y ya f rnd t i b (fun e st ds => match e with
   | .exit j => bif Nat.beq j i then k .normal st ds else k (.exit j) st ds
   | e => k e st ds)
 | _, .scope b, k => kontIn Y ya f rnd t 0 b (fun e st ds => match e with
   | .goto _ => none
   | e => k e st ds)
 | id, .loop b, k => bif Nat.beq id t then some k else kontIn Y ya f rnd t 0 b (fun e st' ds' => match e with
   | .normal => Lp R (tdF T f rnd id) (fun st ds k => ev P T Lp L Y ya f rnd 0 b st ds k) k (tdF T f rnd id st' ds') ds'
   | e => k e st' ds')
 | _, _, _ => none
def noK {R : Type} : KX R := fun _ _ _ => none
noncomputable def kont {R : Type} (Y : CallD) (ya : List Nat) (f : FuncId) (rnd : Option Nat) (t : Nat) (c : Code) (k : KX R) : KX R := (kontIn P T Lp L Y ya f rnd t 0 c k).getD noK
noncomputable def endK (Y : CallD) (f : FuncId) : KX (DRes × DHeap) := fun e st ds =>
 match T.fn f with
 | none => none
 | some fn => match e with
  | .normal | .ret => leaveX P (evalD P (callX T L Y) (liftX Y) (callQ T L) T (Lp _)) fn ds .ret st (finish (T.own f))
  | .panic v => leaveX P (evalD P (callX T L Y) (liftX Y) (callQ T L) T (Lp _)) fn ds (.pan v false) st (finish (T.own f))
  | _ => none
noncomputable def kontF (Y : CallD) (ya : List Nat) (f : FuncId) (t : Nat) : KX (DRes × DHeap) := kont P T Lp L Y ya f none t (bodyOf T f) (endK P T Lp L Y f)
end
section
variable [DGlob] {P : Program} {T : DTab} {L : Local}
def ContL (L : Local) : Prop := LimLo L fun _ => L
theorem bodyF_cont (hL : ContL L) {R : Type} (Y : CallD) (ya : List Nat) (f : FuncId) (rnd : Option Nat) (t : Nat) : LimF (bodyF (R := R) P T (fun _ => LoopLim) L Y ya f rnd t) fun _ => bodyF P T (fun _ => LoopLim) L Y ya f rnd t :=
 evalK_cont (callX_lim hL fun _ _ _ => .const _) (LimD.lift fun _ _ _ => .const _) (callQ_lim hL) _ _
theorem loop_step (hL : ContL L) {R : Type} {Y : CallD} {ya : List Nat} {f : FuncId} {rnd : Option Nat} {t : Nat} {td : DSt → List DItem → DSt} {k : KX R} {st : DSt} {ds : List DItem} {r : R} (h : bodyF P T (fun _ => LoopLim) L Y ya f rnd t st ds (fun e st' ds' => match e with
  | .normal => LoopLim td (bodyF P T (fun _ => LoopLim) L Y ya f rnd t) k (td st' ds') ds'
  | e => k e st' ds') = some r) : LoopLim td (bodyF P T (fun _ => LoopLim) L Y ya f rnd t) k st ds = some r :=
 LoopLim_step (bodyF_cont hL Y ya f rnd t) h
def LxR (P : Program) (T : DTab) (t : Tgt) (xs : List DV) (h : DHeap) (r : DRes × DHeap) : Prop := ∃ N, ∀ n, N ≤ n → direct (evalY P T n) t xs h = some r
def YOK (P : Program) (T : DTab) (Y : CallD) : Prop := ∀ t xs h r, Y t xs h = some r → LxR P T t xs h r
theorem nY_ok : YOK P T nY := fun _ _ _ _ h => by cases h
noncomputable def yinf (P : Program) (T : DTab) : CallD := fun t xs h => open Classical in if hh : ∃ r, LxR P T t xs h r then some hh.choose else none
theorem yinf_ok : YOK P T (yinf P T) := fun t xs h r e => by
 unfold yinf at e
 split at e
 ·rename_i hh
  cases e
  exact hh.choose_spec
 ·cases e
theorem LxR.det {t : Tgt} {xs : List DV} {h : DHeap} {r r' : DRes × DHeap} (a : LxR P T t xs h r) (b : LxR P T t xs h r') : r = r' := by
 obtain ⟨N, hN⟩ := a
 obtain ⟨M, hM⟩ := b
 have h1 := hN (max N M) (Nat.le_max_left N M)
 rw [hM (max N M) (Nat.le_max_right N M)] at h1
 cases h1
 rfl
theorem yinf_eq {t : Tgt} {xs : List DV} {h : DHeap} {r : DRes × DHeap} (a : LxR P T t xs h r) : yinf P T t xs h = some r := by
 have hh : ∃ r, LxR P T t xs h r := ⟨r, a⟩
 unfold yinf
 rw [dif_pos hh]
 exact congrArg some (hh.choose_spec.det a)
theorem step_lim (hL : LOK P T L) {Y : CallD} (hY : YOK P T Y) : LimX (stepX P T (fun _ => LoopLim) L Y) fun n => evalY P T n := fun R t xs h k kn hk r hr => by
 have h1 : LimX (stepX P T (fun _ => LoopLim) L Y) fun n => stepX P T (fun _ td f k st ds => loopK td f k n st ds) (liftL (stepL T (evalY P T n))) (direct (evalY P T n)) :=
  stepX_lim (fun R => loopLim_lim) hL.lim fun t xs h r e => hY t xs h r e
 obtain ⟨N, hN⟩ := h1 R t xs h k (fun n => kn (n + 1)) (fun r r' hr' => by
  obtain ⟨M, hM⟩ := hk r r' hr'
  exact ⟨M, fun n hn => hM (n + 1) (by omega)⟩) r hr
 refine ⟨N + 1, fun n hn => ?_⟩
 obtain ⟨m, rfl⟩ : ∃ m, n = m + 1 := ⟨n - 1, by omega⟩
 exact hN m (by omega)
theorem Lx.of_run (hL : LOK P T L) {Y : CallD} (hY : YOK P T Y) {f : FuncId} {xs : List DV} {r : DRes × DHeap} (h : run P T (fun _ => LoopLim) L Y f xs = some r) : Lx P T f xs r :=
 step_lim hL hY _ _ _ _ _ (fun _ => finish (T.own f)) (fun _ => .const _) r h
theorem LxR.of_run (hL : LOK P T L) {Y : CallD} (hY : YOK P T Y) {t : Tgt} {xs : List DV} {h : DHeap} {r : DRes × DHeap} (e : runR P T (fun _ => LoopLim) L Y t xs h = some r) : LxR P T t xs h r :=
 step_lim hL hY _ _ _ _ _ (fun _ => some) (fun _ => .const _) r e
theorem Lx.det {f : FuncId} {xs : List DV} {r r' : DRes × DHeap} (h : Lx P T f xs r) (h' : Lx P T f xs r') : r = r' := by
 obtain ⟨N, hN⟩ := h
 obtain ⟨M, hM⟩ := h'
 have h1 := hN (max N M) (Nat.le_max_left N M)
 rw [hM (max N M) (Nat.le_max_right N M)] at h1
 cases h1
 rfl
abbrev Spec := (R : Type) → List DV → (DRes × DHeap → Option R) → Option R
def lookS (f : FuncId) : List (FuncId × Spec) → Spec
 | [] => fun _ _ _ => none
 | p :: r => bif Nat.beq p.1 f then p.2 else lookS f r
def Lt (tab : List (FuncId × Spec)) : Local := fun R f xs k => lookS f tab R xs k
structure Con (P : Program) (T : DTab) (f : FuncId) (S : Spec) : Prop where
 nat : ∀ (R : Type) xs (k : DRes × DHeap → Option R), S R xs k = (S (DRes × DHeap) xs some).bind k
 ok : ∀ xs r, S (DRes × DHeap) xs some = some r → Lx P T f xs r
def Cons (P : Program) (T : DTab) : List (FuncId × Spec) → Prop
 | [] => True
 | p :: r => Con P T p.1 p.2 ∧ Cons P T r
theorem Cons.nat : ∀ {tab : List (FuncId × Spec)}, Cons P T tab → ∀ (R : Type) f xs (k : DRes × DHeap → Option R), lookS f tab R xs k = (lookS f tab (DRes × DHeap) xs some).bind k
 | [], _, R, f, xs, k => rfl
 | p :: t, ⟨h1, h2⟩, R, f, xs, k => by
  simp only [lookS]
  cases hb : Nat.beq p.1 f with
  | true => exact h1.nat R xs k
  | false => exact Cons.nat h2 R f xs k
theorem Cons.ok : ∀ {tab : List (FuncId × Spec)}, Cons P T tab → ∀ f xs r, lookS f tab (DRes × DHeap) xs some = some r → Lx P T f xs r
 | [], _, f, xs, r, h => by cases h
 | p :: t, ⟨h1, h2⟩, f, xs, r, h => by
  simp only [lookS] at h
  cases hb : Nat.beq p.1 f with
  | true =>
   rw [hb] at h
   rw [← Nat.eq_of_beq_eq_true hb]
   exact h1.ok xs r h
  | false =>
   rw [hb] at h
   exact Cons.ok h2 f xs r h
theorem Cons.lok {tab : List (FuncId × Spec)} (h : Cons P T tab) : LOK P T (Lt tab) := fun R f xs k r e => by
 simp only [Lt] at e
 rw [h.nat] at e
 obtain ⟨v, h1, h2⟩ := Option.bind_eq_some_iff.1 e
 exact ⟨v, h.ok f xs v h1, h2⟩
theorem Cons.cont {tab : List (FuncId × Spec)} (h : Cons P T tab) : ContL (Lt tab) := fun R f xs k kn hk => by
 have h1 : ∀ k : DRes × DHeap → Option R, Lt tab R f xs k = (lookS f tab (DRes × DHeap) xs some).bind k := fun k => h.nat R f xs k
 simp only [h1]
 exact Lim.cbind hk
theorem Lx.of_in {tab : List (FuncId × Spec)} (ht : Cons P T tab) {f : FuncId} {xs : List DV} {r : DRes × DHeap} (h : run P T (fun _ => LoopLim) (Lt tab) nY f xs = some r) : Lx P T f xs r :=
 Lx.of_run ht.lok nY_ok h
theorem Lx.of_inY {tab : List (FuncId × Spec)} (ht : Cons P T tab) {f : FuncId} {xs : List DV} {r : DRes × DHeap} (h : run P T (fun _ => LoopLim) (Lt tab) (yinf P T) f xs = some r) : Lx P T f xs r :=
 Lx.of_run ht.lok yinf_ok h
theorem LxR.of_in {tab : List (FuncId × Spec)} (ht : Cons P T tab) {t : Tgt} {xs : List DV} {h : DHeap} {r : DRes × DHeap} (e : runR P T (fun _ => LoopLim) (Lt tab) (yinf P T) t xs h = some r) : yinf P T t xs h = some r :=
 yinf_eq (LxR.of_run ht.lok yinf_ok e)
end
end Go.Dv
end
section
namespace Go.Dv
open Go.Pv (LoopRec PExit idx)
namespace S
def byt (s : List UInt8) : List (List DV) := s.map fun b => [.int .u8 b.toNat]
def lim : Nat := 1099511627776
def unB' : List (List DV) → Option (List UInt8)
 | [] => some []
 | [.int .u8 n] :: r => bif decide (0 ≤ n) && decide (n < 256) then (unB' r).map (UInt8.ofNat n.toNat :: ·) else none
 | _ => none
def unB (xs : List (List DV)) : Option (List UInt8) := bif Nat.ble xs.length lim then unB' xs else none
abbrev ret (v : DV) : DRes × DHeap := (.ret v, [])
def lookD (i : Nat) : List (Nat × DSlot) → DSlot
 | [] => .dead
 | p :: r => bif Nat.beq p.1 i then p.2 else lookD i r
def slotsD (l : List (Nat × DSlot)) : Nat → Nat → List DSlot
 | 0, _ => []
 | n + 1, i => lookD i l :: slotsD l n (i + 1)
def lookB (i : Nat) : List (Nat × DBox) → DBox
 | [] => .no
 | p :: r => bif Nat.beq p.1 i then p.2 else lookB i r
def boxesD (l : List (Nat × DBox)) : Nat → Nat → List DBox
 | 0, _ => []
 | n + 1, i => lookB i l :: boxesD l n (i + 1)
def stD (n : Nat) (l : List (Nat × DSlot)) (b : List (Nat × DBox)) : DSt := ⟨slotsD l n 0, boxesD b n 0, []⟩
def stH (n : Nat) (l : List (Nat × DSlot)) (b : List (Nat × DBox)) (h : DHeap) : DSt := ⟨slotsD l n 0, boxesD b n 0, h⟩
def lookU (i : Nat) : List (Nat × DSlot) → DSlot
 | [] => .v undef
 | p :: r => bif Nat.beq p.1 i then p.2 else lookU i r
def slotsU (l : List (Nat × DSlot)) : Nat → Nat → List DSlot
 | 0, _ => []
 | n + 1, i => lookU i l :: slotsU l n (i + 1)
def stU (n : Nat) (l : List (Nat × DSlot)) (b : List (Nat × DBox)) (h : DHeap) : DSt := ⟨slotsU l n 0, boxesD b n 0, h⟩
end S
open Go.Dv.S
def rangesOf : Code → List (Array Tmp × Code × Code)
 | .seq a b => rangesOf a ++ rangesOf b
 | .cond _ a b => rangesOf a ++ rangesOf b
 | .block _ b => rangesOf b
 | .scope b => rangesOf b
 | .loop b => rangesOf b
 | .rangeFunc _ ps a b => (ps, a, b) :: (rangesOf a ++ rangesOf b)
 | _ => []
def rangeAt (T : DTab) (f : FuncId) (i : Nat) : Array Tmp × Code × Code := ((rangesOf (bodyOf T f))[i]?).getD (#[], .skip, .skip)
def lrec (T : DTab) (f : FuncId) (i : Nat) (s : LoopState) (p : Option PExit) (dead : List Bool) : LoopRec := ⟨s, p, dead, (rangeAt T f i).1.toList, (rangeAt T f i).2.1, (rangeAt T f i).2.2, T.kill f⟩
theorem bif1 {α : Type} {c : Bool} {a : Option α} {r : α} (h : (bif c then a else none) = some r) : c = true ∧ a = some r := by
 cases c
 ·cases h
 ·exact ⟨rfl, h⟩
theorem bnd' {α β : Type} {o : Option α} {f : α → Option β} {r : β} (e : o.bind f = some r) : ∃ x, o = some x ∧ f x = some r := Option.bind_eq_some_iff.1 e
section
variable [DGlob] {P : Program} {T : DTab} {L : Local}
noncomputable def endR (P : Program) (T : DTab) (Lp : LpT) (L : Local) (Y : CallD) (f : FuncId) : KX (DRes × DHeap) := fun e st ds =>
 match T.fn f with
 | none => none
 | some fn => match e with
  | .normal | .ret => leaveX P (evalD P (callX T L Y) (liftX Y) (callQ T L) T (Lp _)) fn ds .ret st some
  | .panic v => leaveX P (evalD P (callX T L Y) (liftX Y) (callQ T L) T (Lp _)) fn ds (.pan v false) st some
  | _ => none
noncomputable def kontW (P : Program) (T : DTab) (Lp : LpT) (L : Local) (Y : CallD) (ya : List Nat) (f : FuncId) (t : Nat) : KX (DRes × DHeap) := kont P T Lp L Y ya f none t (bodyOf T f) (endR P T Lp L Y f)
noncomputable def konts (P : Program) (T : DTab) (Lp : LpT) (L : Local) {R : Type} (Y : CallD) (ya : List Nat) (f : FuncId) (rnd : Option Nat) : Nat → Code → KX R → List (KX R)
 | _, .seq a b, k => konts P T Lp L Y ya f rnd 0 a (fun e st ds => match e with
   | .normal => ev P T Lp L Y ya f rnd 0 b st ds k
   | e => k e st ds) ++ konts P T Lp L Y ya f rnd 0 b k
 | _, .cond _ a b, k => konts P T Lp L Y ya f rnd 0 a k ++ konts P T Lp L Y ya f rnd 0 b k
 | _, .block i b, k => konts P T Lp L Y ya f rnd i b (fun e st ds => match e with
   | .exit j => bif Nat.beq j i then k .normal st ds else k (.exit j) st ds
   | e => k e st ds)
 | _, .scope b, k => konts P T Lp L Y ya f rnd 0 b (fun e st ds => match e with
   | .goto _ => none
   | e => k e st ds)
 | id, .loop b, k => konts P T Lp L Y ya f rnd 0 b (fun e st' ds' => match e with
   | .normal => Lp R (tdF T f rnd id) (fun st ds k => ev P T Lp L Y ya f rnd 0 b st ds k) k (tdF T f rnd id st' ds') ds'
   | e => k e st' ds')
 | _, .rangeFunc _ _ a b, k => k :: ((rangesOf a ++ rangesOf b).map fun _ => noK)
 | _, _, _ => []
def rangeK {R : Type} (l : Nat) (st : DSt) (ds : List DItem) (k : KX R) : DRes × DHeap → Option R := fun r =>
 match r.1 with
 | .ret _ => endLoop l { st with heap := r.2 } ds k
 | .pan v => k (.panic v) { st with heap := r.2 } ds
noncomputable def kontG (P : Program) (T : DTab) (Lp : LpT) (L : Local) (Y : CallD) (ya : List Nat) (f : FuncId) (i : Nat) : KX (DRes × DHeap) :=
 ((konts P T Lp L Y ya f none 0 (bodyOf T f) (endK P T Lp L Y f))[i]?).getD noK
def rounds (Y : CallD) (l : Nat) : List (List DV) → DHeap → Option (DRes × DHeap)
 | [], h => some (.ret (.tup []), h)
 | w :: ws, h => (Y (.yield l) w h).bind fun r => match r.1 with
  | .ret v => (toBool v).bind fun b => bif b then rounds Y l ws r.2 else some (.ret (.tup []), r.2)
  | .pan v => some (.pan v, r.2)
def compactU (base : Nat) (keep : List Nat) (st : DSt) : DSt :=
 bif okFrom base 0 keep && noDup keep then
  match renS (fun id => posAt id 0 keep) st.tmps, renB (fun id => posAt id 0 keep) st.boxes, renH (fun id => posAt id 0 keep) st.heap keep with
  | some ts, some bs, some h => ⟨ts, bs, h⟩
  | _, _, _ => st
 else st
def tidyU (V : Nat → Option (List Vec)) (base : Nat) (id : Nat) (st : DSt) : DSt :=
 match V id with
 | some vs => compactU base (keepOf base (setVecs vs st)) (setVecs vs st)
 | none => st
def tdU (T : DTab) (f : FuncId) (rnd : Option Nat) (id : Nat) (st : DSt) : DSt :=
 match rnd with
 | none => tidyU (T.vec f) 0 id (killTmps (T.kill f id) st)
 | some l => tidyU (fun _ => some []) (l + 1) id (killTmps (T.kill f id) st)
theorem compactU_eq {base : Nat} {keep : List Nat} {st : DSt} (h : opaqOK st.heap = true) : compactBy base keep st = compactU base keep st := by
 unfold compactBy compactU
 rw [h, Bool.and_true]
 rfl
theorem killTmps_dheap : ∀ (l : List Nat) (st : DSt), (killTmps l st).heap = st.heap
 | [], st => rfl
 | d :: r, st => killTmps_dheap r _
theorem opaqOK_nil : ∀ {h : DHeap} {e : TypeId}, opaqOK h = true → opaqOK (h ++ [newBlk [] e]) = true
 | [], e, _ => by
  simp only [opaqOK, List.nil_append, newBlk, List.all_nil, Bool.and_true]
  cases (lives ⟨[], e, true, false, true, none⟩ && DGlob.opaqT e) <;> rfl
 | b :: h, e, hh => by
  simp only [opaqOK, Bool.and_eq_true, List.cons_append] at hh ⊢
  exact ⟨hh.1, opaqOK_nil hh.2⟩
theorem opaqOK_vec {v : Vec} {st : DSt} (h : opaqOK st.heap = true) : opaqOK (setVec v st).heap = true := by
 unfold setVec
 split
 ·split
  ·exact opaqOK_nil h
  ·exact h
 ·split
  ·exact opaqOK_nil h
  ·exact h
theorem opaqOK_vecs : ∀ {l : List Vec} {st : DSt}, opaqOK st.heap = true → opaqOK (setVecs l st).heap = true
 | [], st, h => h
 | v :: l, st, h => opaqOK_vecs (l := l) (st := setVec v st) (opaqOK_vec h)
theorem tdU_eq {T : DTab} {f : FuncId} {rnd : Option Nat} {id : Nat} {st : DSt} (h : opaqOK st.heap = true) : tdF T f rnd id st [] = tdU T f rnd id st := by
 unfold tdF wOf tdU
 cases rnd with
 | none =>
  simp only [tidy, tidyU]
  cases T.vec f id with
  | none => rfl
  | some vs => simp only; rw [compactU_eq (opaqOK_vecs (by rw [killTmps_dheap]; exact h))]
 | some l =>
  simp only [tidy, tidyU]
  rw [compactU_eq (opaqOK_vecs (by rw [killTmps_dheap]; exact h))]
theorem leafT {T : DTab} {f : FuncId} {rnd : Option Nat} {t : Nat} {R : Type} {B : FX R} {k : KX R} {st' st : DSt} {X : Bool} {r r' : R} (h : LoopLim (tdF T f rnd t) B k st [] = some r') (e1 : opaqOK st'.heap = X) (hX : X = true) (e2 : tdU T f rnd t st' = st) (hr : r' = r) : LoopLim (tdF T f rnd t) B k (tdF T f rnd t st' []) [] = some r := by
 rw [tdU_eq (e1.trans hX), e2, h, hr]
theorem headT {T : DTab} {f : FuncId} {rnd : Option Nat} {t : Nat} {R : Type} {B : FX R} {k : KX R} {st0 st : DSt} {r : R} (h : LoopLim (tdF T f rnd t) B k st [] = some r) (e : st0 = st) : LoopLim (tdF T f rnd t) B k st0 [] = some r := by
 rw [e, h]
def sp1 {α : Type} (d : DV → Option α) (g : α → DV) : Spec := fun R xs k => match xs with
 | [x] => (d x).bind fun a => k (ret (g a))
 | _ => none
def sp2 {α β : Type} (d : DV → Option α) (e : DV → Option β) (g : α → β → DV) : Spec := fun R xs k => match xs with
 | [x, y] => (d x).bind fun a => (e y).bind fun b => k (ret (g a b))
 | _ => none
theorem con1 {α : Type} {f : FuncId} {d : DV → Option α} {g : α → DV} (h : ∀ x a, d x = some a → Lx P T f [x] (ret (g a))) : Con P T f (sp1 d g) where
 nat R xs k := by
  unfold sp1
  split
  ·simp only [Option.bind_assoc, Option.bind_some]
  ·rfl
 ok xs r e := by
  unfold sp1 at e
  split at e
  ·obtain ⟨a, ha, e⟩ := bnd' e
   cases e
   exact h _ _ ha
  ·cases e
theorem con2 {α β : Type} {f : FuncId} {d : DV → Option α} {e : DV → Option β} {g : α → β → DV} (h : ∀ x a y b, d x = some a → e y = some b → Lx P T f [x, y] (ret (g a b))) : Con P T f (sp2 d e g) where
 nat R xs k := by
  unfold sp2
  split
  ·simp only [Option.bind_assoc, Option.bind_some]
  ·rfl
 ok xs r e := by
  unfold sp2 at e
  split at e
  ·obtain ⟨a, ha, e⟩ := bnd' e
   obtain ⟨b, hb, e⟩ := bnd' e
   cases e
   exact h _ _ _ _ ha hb
  ·cases e
end
theorem ofBytes_froz (s : List UInt8) : (ofBytes s).all froz = true := by
 rw [List.all_eq_true]
 intro x hx
 obtain ⟨b, _, rfl⟩ := List.mem_map.1 hx
 rfl
theorem ofBytes_len (s : List UInt8) : (ofBytes s).length = s.length := by simp [ofBytes]
theorem byt_flatten (s : List UInt8) : (byt s).flatten = ofBytes s := by
 induction s with
 | nil => rfl
 | cons b s ih =>
  show DV.int IntKind.u8 b.toNat :: (byt s).flatten = _
  rw [ih]; rfl
theorem toBytes_of (s : List UInt8) : toBytes (ofBytes s) = some s := by
 induction s with
 | nil => rfl
 | cons b s ih =>
  show (toBytes (ofBytes s)).bind _ = _
  rw [ih]
  simp
theorem chunks_of : ∀ (s : List UInt8), chunks 1 s.length (ofBytes s) = byt s
 | [] => rfl
 | b :: s => by
  show [DV.int IntKind.u8 b.toNat] :: chunks 1 s.length (ofBytes s) = _
  rw [chunks_of s]; rfl
theorem byt_all (s : List UInt8) : ((byt s).all fun x => Nat.beq x.length 1) = true := by
 simp only [byt, List.all_map]
 exact List.all_eq_true.2 fun x _ => rfl
theorem byt_len (s : List UInt8) : (byt s).length = s.length := by simp [byt]
theorem unB'_inv : ∀ {l : List (List DV)} {s : List UInt8}, unB' l = some s → l = byt s
 | [], s, h => by cases h; rfl
 | x :: l, s, h => by
  unfold unB' at h
  split at h
  ·rename_i heq; cases heq
  ·rename_i heq
   cases heq
   obtain ⟨hc, h⟩ := bif1 h
   obtain ⟨m, hm, rfl⟩ := Option.map_eq_some_iff.1 h
   simp only [Bool.and_eq_true, decide_eq_true_eq] at hc
   rw [unB'_inv hm]
   show _ = [DV.int IntKind.u8 _] :: byt m
   congr 3
   rw [UInt8.toNat_ofNat']
   omega
  ·cases h
theorem unB_inv {l : List (List DV)} {s : List UInt8} (h : unB l = some s) : l = byt s ∧ s.length ≤ lim := by
 unfold unB at h
 obtain ⟨h1, h2⟩ := bif1 h
 have := unB'_inv h2
 subst this
 exact ⟨rfl, by simpa [byt] using Nat.le_of_ble_eq_true h1⟩
theorem byt_flat_len (s : List UInt8) : (byt s).flatten.length = s.length := by
 induction s with
 | nil => rfl
 | cons b s ih => show ((byt s).flatten.length + 1) = _; rw [ih]; rfl
theorem unB_ok {s : List UInt8} (h : s.length ≤ lim) : unB (byt s) = some s := by
 have key : ∀ s : List UInt8, unB' (byt s) = some s := by
  intro s
  induction s with
  | nil => rfl
  | cons b s ih =>
   show (bif decide (0 ≤ (b.toNat : Int)) && decide ((b.toNat : Int) < 256) then (unB' (byt s)).map (UInt8.ofNat (b.toNat : Int).toNat :: ·) else none) = _
   have h1 : decide (0 ≤ (b.toNat : Int)) = true := by simp
   have h2 : decide ((b.toNat : Int) < 256) = true := by
    have := b.toNat_lt
    simp; omega
   rw [h1, h2, ih]
   simp
 unfold unB
 rw [byt_len, Nat.ble_eq_true_of_le h, cond_true, key]
inductive Br : Type 1 where
 | leaf (v : DV)
 | opt {γ : Type} (o : Option γ) (n : Br) (f : γ → Br)
 | cnd (b : Bool) (t e : Br)
def Br.run {R : Type} (k : DRes × DHeap → Option R) : Br → Option R
 | .leaf v => k (ret v)
 | .opt o n f => match o with
  | none => n.run k
  | some c => (f c).run k
 | .cnd b t e => bif b then t.run k else e.run k
def Br.val : Br → DV
 | .leaf v => v
 | .opt o n f => match o with
  | none => n.val
  | some c => (f c).val
 | .cnd b t e => bif b then t.val else e.val
theorem Br.run_eq {R : Type} (k : DRes × DHeap → Option R) (b : Br) : b.run k = k (ret b.val) := by
 induction b with
 | leaf v => rfl
 | opt o n f ih ihf => cases o with
  | none => exact ih
  | some c => exact ihf c
 | cnd b t e iht ihe => cases b with
  | true => exact iht
  | false => exact ihe
section
variable [DGlob] {P : Program} {T : DTab}
end
def TyC : SK → DV → Prop
 | .int k, x => ∃ n, x = .int k n
 | .bool, x => ∃ b, x = .bool b
 | .str, x => ∃ t, x = .str t
 | .sl, x => ∃ zs, x = .fz zs
 | .any, _ => True
def TyCs : List SK → List DV → Prop
 | [], [] => True
 | s :: ss, x :: xs => TyC s x ∧ TyCs ss xs
 | _, _ => False
theorem TyCs.ints {k : IntKind} {ks : List SK} : ∀ {n : Nat} {xs : List DV}, TyCs (List.replicate n (.int k) ++ ks) xs → ∃ (u : Nat → Int) (ys : List DV), xs = (List.range n).map (fun i => .int k (u i)) ++ ys ∧ TyCs ks ys
 | 0, xs, h => ⟨fun _ => 0, xs, rfl, h⟩
 | n + 1, [], h => h.elim
 | n + 1, x :: xs, h => by
  obtain ⟨⟨m, rfl⟩, h2⟩ := (show TyC (.int k) x ∧ TyCs (List.replicate n (.int k) ++ ks) xs from h)
  obtain ⟨u, ys, h3, h4⟩ := TyCs.ints h2
  refine ⟨fun i => if i = 0 then m else u (i - 1), ys, ?_, h4⟩
  rw [h3, List.range_succ_eq_map, List.map_cons, List.map_map]
  rfl
end Go.Dv
end
section
namespace Go.Pv
variable [Glob]
def inRow (P : Program) : List Field → Nat → Nat → Bool
 | [], off, top => Nat.beq off top
 | f :: r, off, top => Nat.beq f.offset off && inRow P r (off + P.cellsOf f.type) top
def fot (P : Program) : Nat → TypeId → Bool
 | 0, _ => false
 | n + 1, t =>
  match P.underlying t with
  | some .bool | some (.int _) | some .string => true
  | some (.slice e) => Nat.ble 1 (P.cellsOf e) && fot P n e
  | some (.struct fs) => inRow P fs.toList 0 (P.cellsOf t) && fs.toList.all fun f => fot P n f.type
  | some (.array k e) => Nat.beq (k * P.cellsOf e) (P.cellsOf t) && fot P n e
  | _ => false
inductive Rep (P : Program) {H : Type} (h : Heap) : TypeId → List Value → DataW H → Prop where
 | bool (t : TypeId) (b : Bool) (ht : P.underlying t = some .bool) : Rep P h t [.bool b] (.lit (.bool b))
 | int (t : TypeId) (k : IntKind) (n : Int) (ht : P.underlying t = some (.int k)) (hn : (Lit.int k n).wf = true) : Rep P h t [.int k n] (.lit (.int k n))
 | str (t : TypeId) (s : ByteArray) (ht : P.underlying t = some .string) (hs : s.size ≤ maxLen) : Rep P h t [.string s] (.lit (.string s.data.toList))
 | nil (t e : TypeId) (ht : P.underlying t = some (.slice e)) : Rep P h t [.slice none 0 0] .nil
 | slice (t e : TypeId) (id : Nat) (b : Blk) (elems rest : List (DataW H)) (ht : P.underlying t = some (.slice e)) (hb : h[id]? = some b) (hl : b.live = true) (hn : b.cells.length = elems.length * P.cellsOf e) (hm : elems.length ≤ maxLen)
   (he : ∀ (i : Nat) x, elems[i]? = some x → Rep P h e ((b.cells.drop (i * P.cellsOf e)).take (P.cellsOf e)) x) : Rep P h t [.slice (some ⟨id, 0, none⟩) elems.length elems.length] (.slice elems rest)
 | struct (t : TypeId) (fs : Array Field) (cs : List Value) (parts : List (DataW H)) (ht : P.underlying t = some (.struct fs)) (hc : cs.length = P.cellsOf t) (hrow : inRow P fs.toList 0 (P.cellsOf t) = true) (hn : parts.length = fs.size)
   (he : ∀ (i : Nat) (f : Field) x, fs[i]? = some f → parts[i]? = some x → Rep P h f.type ((cs.drop f.offset).take (P.cellsOf f.type)) x) : Rep P h t cs (.agg parts)
 | array (t e : TypeId) (n : Nat) (cs : List Value) (parts : List (DataW H)) (ht : P.underlying t = some (.array n e)) (hc : cs.length = P.cellsOf t) (hk : n * P.cellsOf e = P.cellsOf t) (hn : parts.length = n)
   (he : ∀ (i : Nat) x, parts[i]? = some x → Rep P h e ((cs.drop (i * P.cellsOf e)).take (P.cellsOf e)) x) : Rep P h t cs (.agg parts)
theorem Rep.mono {P : Program} {H : Type} {h : Heap} (l : Heap) {t : TypeId} {cs : List Value} {d : DataW H} (r : Rep P h t cs d) : Rep P (h ++ l) t cs d := by
 induction r with
 | bool t b ht => exact .bool t b ht
 | int t k n ht hn => exact .int t k n ht hn
 | str t s ht hs => exact .str t s ht hs
 | nil t e ht => exact .nil t e ht
 | slice t e id b elems rest ht hb hl hn hm _ ih => exact .slice t e id b elems rest ht (by rw [List.getElem?_append_left (get_lt hb)]; exact hb) hl hn hm ih
 | struct t fs cs parts ht hc hrow hn _ ih => exact .struct t fs cs parts ht hc hrow hn ih
 | array t e n cs parts ht hc hk hn _ ih => exact .array t e n cs parts ht hc hk hn ih
theorem HRel.view {P : Program} {ρ : Rho} {h : Heap} {w : World} (hr : HRel P ρ h w) (hro : ∀ b ∈ h, b.ro = true ∧ b.obj = none) {g base : Nat} {cs : Array Value} {e : TypeId} {fr : Nat × Nat} (hg : w.heap[g]? = some (.cells cs e fr)) {c : List Value} (hk : CellOK ρ cs base c) (el : TypeId) :
  HRel P (ρ ++ [some ⟨g, base, cs.size, none⟩]) (h ++ [⟨c, el, false, true, true, none⟩]) w := by
 have hle : ρ.le (ρ ++ [some ⟨g, base, cs.size, none⟩]) := Rho.le.snoc ρ _
 have hold : ∀ id b rb, (h ++ [(⟨c, el, false, true, true, none⟩ : Blk)])[id]? = some b → (ρ ++ [some ⟨g, base, cs.size, none⟩] : Rho).at id rb → (h[id]? = some b ∧ ρ.at id rb) ∨ (id = h.length ∧ b = ⟨c, el, false, true, true, none⟩ ∧ rb = ⟨g, base, cs.size, none⟩) := by
  intro id b rb hb hat
  rcases get_snoc hb with ⟨hlt, hb⟩ | ⟨rfl, rfl⟩
  ·exact .inl ⟨hb, Rho.at_snoc hat (by rw [hr.len]; omega)⟩
  ·rw [← hr.len] at hat
   exact .inr ⟨rfl, rfl, Rho.at_new hat⟩
 refine ⟨by simp [hr.len], ?_, ?_, hr.o.push hr.len rfl _ rfl⟩
 ·intro id b rb hb hat hl
  rcases hold id b rb hb hat with ⟨hb, hat⟩ | ⟨rfl, rfl, rfl⟩
  ·exact (hr.blk id b rb hb hat hl).same hle rfl
  ·exact ⟨cs, e, fr, hg, rfl, hk.mono hle, fun hh => (by cases hh), fun _ => rfl⟩
 ·intro i j bi bj ri rj hij hi hj hri hrj hli hlj hf
  have : bi.ro = true := by
   rcases List.mem_append.1 (List.mem_of_getElem? hi) with hm | hm
   ·exact (hro bi hm).1
   ·simp at hm; rw [hm]
  rw [this] at hf
  cases hf
theorem mapM_some {α β : Type} {f : α → Option β} : ∀ {l : List α} {ys : List β}, l.mapM f = some ys → ys.length = l.length ∧ ∀ (i : Nat) x y, l[i]? = some x → ys[i]? = some y → f x = some y
 | [], ys, h => by
  simp at h
  subst h
  exact ⟨rfl, fun i x y h => by simp at h⟩
 | a :: l, ys, h => by
  rw [List.mapM_cons] at h
  cases hf : f a with
  | none => rw [hf] at h; cases h
  | some b =>
   rw [hf] at h
   cases hm : l.mapM f with
   | none => rw [hm] at h; cases h
   | some zs =>
    rw [hm] at h
    cases h
    obtain ⟨h1, h2⟩ := mapM_some hm
    refine ⟨by simp [h1], fun i x y hx hy => ?_⟩
    cases i with
    | zero =>
     simp at hx hy
     rw [← hx, ← hy]; exact hf
    | succ i => exact h2 i x y (by simpa using hx) (by simpa using hy)
structure Opened (P : Program) {H : Type} (w : World) (ρ : Rho) (h : Heap) (t : TypeId) (cs : List Value) (d : DataW H) (ρ' : Rho) (h' : Heap) (xs : List Value) : Prop where
 ext : ρ.ext ρ'
 hext : ∃ l, h' = h ++ l
 ro : ∀ b ∈ h', b.ro = true ∧ b.obj = none
 hr : HRel P ρ' h' w
 vs : VRs ρ' xs cs
 one : ∀ x ∈ xs, x.oneCell' = true
 rep : Rep P h' t xs d
theorem open_list {P : Program} {H : Type} {w : World} : ∀ (l : List (TypeId × List Value × DataW H)), (∀ x ∈ l, ∀ ρ h, HRel P ρ h w → (∀ b ∈ h, b.ro = true ∧ b.obj = none) → ∃ ρ' h' xs, Opened P w ρ h x.1 x.2.1 x.2.2 ρ' h' xs) →
  ∀ ρ h, HRel P ρ h w → (∀ b ∈ h, b.ro = true ∧ b.obj = none) → ∃ (ρ' : Rho) (h' : Heap) (xss : List (List Value)), ρ.ext ρ' ∧ (∃ l, h' = h ++ l) ∧ (∀ b ∈ h', b.ro = true ∧ b.obj = none) ∧ HRel P ρ' h' w ∧ xss.length = l.length ∧
   ∀ (i : Nat) x, l[i]? = some x → ∃ xs, xss[i]? = some xs ∧ VRs ρ' xs x.2.1 ∧ (∀ y ∈ xs, y.oneCell' = true) ∧ Rep P h' x.1 xs x.2.2
 | [], _, ρ, h, hr, hro => ⟨ρ, h, [], .refl ρ, ⟨[], by simp⟩, hro, hr, rfl, fun i x hx => by simp at hx⟩
 | a :: l, hall, ρ, h, hr, hro => by
  obtain ⟨ρ1, h1, xs1, o1⟩ := hall a (.head _) ρ h hr hro
  obtain ⟨ρ2, h2, xss, he, ⟨l2, hl2⟩, hro2, hr2, hlen, hi⟩ := open_list l (fun x hx => hall x (.tail _ hx)) ρ1 h1 o1.hr o1.ro
  obtain ⟨l1, hl1⟩ := o1.hext
  refine ⟨ρ2, h2, xs1 :: xss, o1.ext.trans he, ⟨l1 ++ l2, by rw [hl2, hl1, List.append_assoc]⟩, hro2, hr2, by simp [hlen], fun i x hx => ?_⟩
  cases i with
  | zero =>
   simp at hx
   subst hx
   exact ⟨xs1, rfl, o1.vs.mono he.le, o1.one, hl2 ▸ o1.rep.mono l2⟩
  | succ i =>
   obtain ⟨xs, h3, h4⟩ := hi i x (by simpa using hx)
   exact ⟨xs, by simpa using h3, h4⟩
theorem parts_vrs {ρ : Rho} : ∀ (xss : List (List Value)) (szs : List Nat) (cs : List Value), xss.length = szs.length → (∀ (i : Nat) xs sz, xss[i]? = some xs → szs[i]? = some sz → VRs ρ xs ((cs.drop (szs.take i).sum).take sz)) → szs.sum = cs.length → VRs ρ xss.flatten cs
 | [], szs, cs, hl, _, hs => by
  have : szs = [] := List.eq_nil_of_length_eq_zero hl.symm
  subst this
  have : cs = [] := List.eq_nil_of_length_eq_zero hs.symm
  subst this
  exact .nil
 | xs :: xss, [], cs, hl, _, _ => by simp at hl
 | xs :: xss, sz :: szs, cs, hl, h, hs => by
  have h0 := h 0 xs sz rfl rfl
  simp at h0
  have hrest := parts_vrs xss szs (cs.drop sz) (by simpa using hl) (fun i ys z h1 h2 => by
   have := h (i + 1) ys z (by simpa using h1) (by simpa using h2)
   simp only [List.take_succ_cons, List.sum_cons] at this
   rwa [List.drop_drop]) (by simp at hs ⊢; omega)
  have : cs = cs.take sz ++ cs.drop sz := (List.take_append_drop sz cs).symm
  rw [this, List.flatten_cons]
  exact h0.append hrest
theorem parts_get : ∀ (xss : List (List Value)) (szs : List Nat), xss.length = szs.length → (∀ (i : Nat) xs sz, xss[i]? = some xs → szs[i]? = some sz → xs.length = sz) → ∀ (i : Nat) xs sz, xss[i]? = some xs → szs[i]? = some sz → (xss.flatten.drop (szs.take i).sum).take sz = xs
 | [], szs, hl, _, i, xs, sz, h, _ => by simp at h
 | ys :: xss, [], hl, _, i, xs, sz, _, _ => by simp at hl
 | ys :: xss, z :: szs, hl, hlen, 0, xs, sz, h, h' => by
  simp at h h'
  subst h; subst h'
  have := hlen 0 ys z rfl rfl
  simp [← this]
 | ys :: xss, z :: szs, hl, hlen, i + 1, xs, sz, h, h' => by
  have h0 := hlen 0 ys z rfl rfl
  have := parts_get xss szs (by simpa using hl) (fun j a b h1 h2 => hlen (j + 1) a b (by simpa using h1) (by simpa using h2)) i xs sz (by simpa using h) (by simpa using h')
  simp only [List.take_succ_cons, List.sum_cons, List.flatten_cons]
  rw [List.drop_append, h0]
  have e : z + (szs.take i).sum - z = (szs.take i).sum := by omega
  rw [e, List.drop_of_length_le (by rw [h0]; omega), List.nil_append]
  exact this
theorem inRow_off {P : Program} : ∀ (fs : List Field) (off top : Nat), inRow P fs off top = true → (∀ (i : Nat) f, fs[i]? = some f → f.offset = off + ((fs.map fun f => P.cellsOf f.type).take i).sum) ∧ off + (fs.map fun f => P.cellsOf f.type).sum = top
 | [], off, top, h => ⟨fun i f hf => by simp at hf, by simpa using Nat.eq_of_beq_eq_true h⟩
 | f :: r, off, top, h => by
  simp only [inRow, Bool.and_eq_true] at h
  have h1 := Nat.eq_of_beq_eq_true h.1
  obtain ⟨h2, h3⟩ := inRow_off r _ _ h.2
  refine ⟨fun i g hg => ?_, by simp; omega⟩
  cases i with
  | zero => simp at hg; subst hg; simpa using h1
  | succ i =>
   have := h2 i g (by simpa using hg)
   simp only [List.map_cons, List.take_succ_cons, List.sum_cons]
   omega
theorem take_sum_le : ∀ (szs : List Nat) (i sz : Nat), szs[i]? = some sz → (szs.take i).sum + sz ≤ szs.sum
 | [], i, sz, h => by simp at h
 | z :: szs, 0, sz, h => by simp at h; subst h; simp
 | z :: szs, i + 1, sz, h => by
  have := take_sum_le szs i sz (by simpa using h)
  simp only [List.take_succ_cons, List.sum_cons]
  omega
theorem take_rep_sum (n sz i : Nat) (hi : i ≤ n) : ((List.replicate n sz).take i).sum = i * sz := by
 rw [List.take_replicate, Nat.min_eq_left hi, List.sum_replicate_nat]
theorem flat_get {Pr : Nat → Value → Prop} {sz : Nat} : ∀ (css : List (List Value)) (k : Nat), (∀ (i : Nat) c, css[i]? = some c → c.length = sz ∧ ∀ (r : Nat) v, c[r]? = some v → Pr ((k + i) * sz + r) v) → ∀ (j : Nat) v, css.flatten[j]? = some v → Pr (k * sz + j) v
 | [], k, _, j, v, h => by simp at h
 | c :: css, k, hall, j, v, h => by
  obtain ⟨hl, h0⟩ := hall 0 c rfl
  rw [List.flatten_cons] at h
  by_cases hj : j < sz
  ·rw [List.getElem?_append_left (by omega)] at h
   simpa using h0 j v h
  ·rw [List.getElem?_append_right (by omega), hl] at h
   have := flat_get css (k + 1) (fun i c' hc' => by
    obtain ⟨h1, h2⟩ := hall (i + 1) c' (by simpa using hc')
    exact ⟨h1, fun r u hu => by rw [show k + 1 + i = k + (i + 1) by omega]; exact h2 r u hu⟩) (j - sz) v h
   rw [show (k + 1) * sz + (j - sz) = k * sz + j by rw [Nat.add_mul]; omega] at this
   exact this
theorem cells_some {w : World} {a : Addr} {n : Nat} {cs : List Value} (h : w.cells? 0 a n = some cs) : cs.length = n ∧ ∀ (r : Nat) v, cs[r]? = some v → w.cell? (a.add r) = some v := by
 unfold World.cells? at h
 rw [if_pos (Nat.zero_le _)] at h
 obtain ⟨h1, h2⟩ := mapM_some h
 refine ⟨by simpa using h1, fun r v hv => h2 r r v ?_ hv⟩
 have := get_lt hv
 rw [h1, List.length_range] at this
 rw [List.getElem?_range this]
theorem cell_some {w : World} {a : Addr} {v : Value} (h : w.cell? a = some v) : a.spot = none ∧ ∃ cur e fr, w.heap[a.block]? = some (.cells cur e fr) ∧ cur[a.off]? = some v := by
 unfold World.cell? at h
 split at h
 ·rename_i c e fr hc
  cases hs : a.spot with
  | none => rw [hs] at h; exact ⟨rfl, c, e, fr, hc, by simpa using h⟩
  | some _ => rw [hs] at h; simp at h
 ·cases h
theorem open_fam {P : Program} {H : Type} {w : World} (n : Nat) (T : Nat → TypeId) (Cs : Nat → List Value) (Ds : Nat → DataW H) (hall : ∀ i, i < n → ∀ ρ h, HRel P ρ h w → (∀ b ∈ h, b.ro = true ∧ b.obj = none) → ∃ ρ' h' xs, Opened P w ρ h (T i) (Cs i) (Ds i) ρ' h' xs) (ρ : Rho) (h : Heap) (hr : HRel P ρ h w) (hro : ∀ b ∈ h, b.ro = true ∧ b.obj = none) :
  ∃ (ρ' : Rho) (h' : Heap) (xss : List (List Value)), ρ.ext ρ' ∧ (∃ l, h' = h ++ l) ∧ (∀ b ∈ h', b.ro = true ∧ b.obj = none) ∧ HRel P ρ' h' w ∧ xss.length = n ∧
   ∀ (i : Nat) xs, xss[i]? = some xs → VRs ρ' xs (Cs i) ∧ (∀ y ∈ xs, y.oneCell' = true) ∧ Rep P h' (T i) xs (Ds i) := by
 obtain ⟨ρ', h', xss, h1, h2, h3, h4, h5, h6⟩ := open_list ((List.range n).map fun i => (T i, Cs i, Ds i)) (fun x hx => by
  obtain ⟨i, hi, rfl⟩ := List.mem_map.1 hx
  exact hall i (List.mem_range.1 hi)) ρ h hr hro
 refine ⟨ρ', h', xss, h1, h2, h3, h4, by simpa using h5, fun i xs hxs => ?_⟩
 have hi : i < n := by
  have := get_lt hxs
  rw [h5] at this
  simpa using this
 obtain ⟨xs', h7, h8⟩ := h6 i (T i, Cs i, Ds i) (by rw [List.getElem?_map, List.getElem?_range hi]; rfl)
 rw [hxs] at h7
 cases h7
 exact h8
theorem open_row {P : Program} {H : Type} {w : World} (szs : List Nat) (T : Nat → TypeId) (cs : List Value) (Ds : Nat → DataW H) (hc : szs.sum = cs.length)
  (hall : ∀ i sz, szs[i]? = some sz → ∀ ρ h, HRel P ρ h w → (∀ b ∈ h, b.ro = true ∧ b.obj = none) → ∃ ρ' h' xs, Opened P w ρ h (T i) ((cs.drop (szs.take i).sum).take sz) (Ds i) ρ' h' xs) (ρ : Rho) (h : Heap) (hr : HRel P ρ h w) (hro : ∀ b ∈ h, b.ro = true ∧ b.obj = none) :
  ∃ (ρ' : Rho) (h' : Heap) (xs : List Value), ρ.ext ρ' ∧ (∃ l, h' = h ++ l) ∧ (∀ b ∈ h', b.ro = true ∧ b.obj = none) ∧ HRel P ρ' h' w ∧ VRs ρ' xs cs ∧ (∀ x ∈ xs, x.oneCell' = true) ∧
   ∀ i sz, szs[i]? = some sz → Rep P h' (T i) ((xs.drop (szs.take i).sum).take sz) (Ds i) := by
 have hget : ∀ i, i < szs.length → szs[i]? = some (szs.getD i 0) := fun i hi => by
  rw [List.getD_eq_getElem?_getD, List.getElem?_eq_getElem hi]; rfl
 obtain ⟨ρ', h', xss, h1, h2, h3, h4, h5, h6⟩ := open_fam szs.length T (fun i => (cs.drop (szs.take i).sum).take (szs.getD i 0)) Ds (fun i hi => hall i _ (hget i hi)) ρ h hr hro
 have hlen : ∀ (i : Nat) xs sz, xss[i]? = some xs → szs[i]? = some sz → xs.length = sz := by
  intro i xs sz hx hs
  have hl := (h6 i xs hx).1.length
  rw [List.getD_eq_getElem?_getD, hs] at hl
  rw [hl]
  have := take_sum_le szs i sz hs
  simp
  omega
 refine ⟨ρ', h', xss.flatten, h1, h2, h3, h4, parts_vrs xss szs cs h5 (fun i xs sz hx hs => ?_) hc, fun x hx => ?_, fun i sz hs => ?_⟩
 ·have := (h6 i xs hx).1
  rw [List.getD_eq_getElem?_getD, hs] at this
  exact this
 ·obtain ⟨xs, hm, hx⟩ := List.mem_flatten.1 hx
  obtain ⟨i, hi⟩ := List.getElem?_of_mem hm
  exact (h6 i xs hi).2.1 x hx
 ·have hi := get_lt hs
  have hx : xss[i]? = some (xss[i]'(by omega)) := List.getElem?_eq_getElem (by omega)
  rw [parts_get xss szs h5 hlen i _ sz hx hs]
  exact (h6 i _ hx).2.2
theorem open_trod {P : Program} {H : Type} {enc : TypeId × Value → H} {w : World} {held : Bool} (hg : ∃ (g : Nat) (cs : Array Value) (e : TypeId) (fr : Nat × Nat), w.heap[g]? = some (.cells cs e fr)) : ∀ (fuel m : Nat) (t : TypeId) (cs : List Value) (d : DataW H) (ps : List MemPlace), fot P m t = true →
  DataW.trod enc P w 0 (fun _ => true) held fuel t cs = some (d, ps) → ∀ ρ h, HRel P ρ h w → (∀ b ∈ h, b.ro = true ∧ b.obj = none) → ∃ ρ' h' xs, Opened P w ρ h t cs d ρ' h' xs := by
 intro fuel
 induction fuel with
 | zero => intro m t cs d ps _ e; cases e
 | succ fuel ih =>
  intro m t cs d ps hm e ρ h hr hro
  cases m with
  | zero => cases hm
  | succ m =>
  have same : ∀ (x : Value), VR ρ x x → x.oneCell' = true → cs = [x] → Rep P h t [x] d → ∃ ρ' h' xs, Opened P w ρ h t cs d ρ' h' xs := fun x hv h1 hc hrep =>
   ⟨ρ, h, [x], .refl ρ, ⟨[], by simp⟩, hro, hr, by rw [hc]; exact .cons _ _ _ _ hv .nil, by simpa using h1, hrep⟩
  simp only [fot] at hm
  split at hm
  ·rename_i hu
   rcases cs with _ | ⟨v, _ | ⟨v2, vs⟩⟩
   ·simp [DataW.trod, hu] at e
   ·cases v <;> simp [DataW.trod, hu] at e
    rename_i b
    obtain ⟨rfl, rfl⟩ := e
    exact same _ (.bool b) rfl rfl (.bool t b hu)
   ·simp [DataW.trod, hu] at e
  ·rename_i k hu
   rcases cs with _ | ⟨v, _ | ⟨v2, vs⟩⟩
   ·simp [DataW.trod, hu] at e
   ·cases v <;> simp [DataW.trod, hu] at e
    rename_i k' n
    obtain ⟨⟨rfl, hwf⟩, rfl, rfl⟩ := e
    exact same _ (.int k' n) rfl rfl (.int t k' n hu hwf)
   ·simp [DataW.trod, hu] at e
  ·rename_i hu
   rcases cs with _ | ⟨v, _ | ⟨v2, vs⟩⟩
   ·simp [DataW.trod, hu] at e
   ·cases v <;> simp [DataW.trod, hu] at e
    rename_i b
    obtain ⟨hs, rfl, rfl⟩ := e
    exact same _ (.string b) rfl rfl (.str t b hu hs)
   ·simp [DataW.trod, hu] at e
  ·rename_i e' hu
   obtain ⟨hsz, hfe⟩ := Bool.and_eq_true_iff.1 hm
   have hsz := Nat.le_of_ble_eq_true hsz
   rcases cs with _ | ⟨v, _ | ⟨v2, vs⟩⟩
   ·simp [DataW.trod, hu] at e
   ·cases v with
    | slice a len cap =>
     cases a with
     | none =>
      cases len with
      | succ _ => simp [DataW.trod, hu] at e
      | zero =>
       cases cap with
       | succ _ => simp [DataW.trod, hu] at e
       | zero =>
        simp [DataW.trod, hu] at e
        obtain ⟨rfl, rfl⟩ := e
        exact same _ .nilSlice rfl rfl (.nil t e' hu)
     | some a =>
      simp only [DataW.trod, hu] at e
      split at e
      ·rename_i hcond
       obtain ⟨_, hlc, hcm⟩ := hcond
       have hcm : cap ≤ 9223372036854775807 := hcm
       obtain ⟨els, hels, e1⟩ := Option.bind_eq_some_iff.1 e
       obtain ⟨rest, hrest, e2⟩ := Option.map_eq_some_iff.1 e1
       obtain ⟨rfl, _⟩ := Prod.mk.inj e2
       obtain ⟨hel, hea⟩ := mapM_some hels
       simp only [List.length_range] at hel
       have part : ∀ i, i < len → ∃ ci y, w.cells? 0 (a.add (i * P.cellsOf e')) (P.cellsOf e') = some ci ∧ els[i]? = some y ∧ DataW.trod enc P w 0 (fun _ => true) held fuel e' ci = some y := by
        intro i hi
        have hy : els[i]? = some (els[i]'(by omega)) := List.getElem?_eq_getElem (by omega)
        have := hea i i _ (List.getElem?_range hi) hy
        obtain ⟨ci, h1, h2⟩ := Option.bind_eq_some_iff.1 this
        exact ⟨ci, _, h1, hy, h2⟩
       cases len with
       | zero =>
        have hnil : els = [] := List.eq_nil_of_length_eq_zero hel
        subst hnil
        -- a block of the machine's to look at
        obtain ⟨g, base, cur, el, fr, hg, hva⟩ : ∃ (g base : Nat) (cur : Array Value) (el : TypeId) (fr : Nat × Nat), w.heap[g]? = some (.cells cur el fr) ∧ VR (ρ ++ [some ⟨g, base, cur.size, none⟩]) (.slice (some ⟨h.length, 0, none⟩) 0 0) (.slice (some a) 0 cap) := by
         cases cap with
         | zero =>
          obtain ⟨g, cur, el, fr, hg⟩ := hg
          have hat := Rho.at_new' ρ ⟨g, 0, cur.size, none⟩
          rw [hr.len] at hat
          exact ⟨g, 0, cur, el, fr, hg, .empty _ _ a _ hat⟩
         | succ k =>
          simp only [if_true] at hrest
          obtain ⟨hrl, hra⟩ := mapM_some hrest
          simp only [List.length_range] at hrl
          have hy : rest[0]? = some (rest[0]'(by omega)) := List.getElem?_eq_getElem (by omega)
          have := hra 0 0 _ (List.getElem?_range (by omega)) hy
          obtain ⟨c0, hc0, _⟩ := Option.bind_eq_some_iff.1 this
          obtain ⟨hl0, hcell0⟩ := cells_some hc0
          obtain ⟨hsp, cur, el, fr, hcur, _⟩ := cell_some (hcell0 0 (c0[0]'(by omega)) (List.getElem?_eq_getElem _))
          have hsp' : a.spot = none := by simpa [Addr.add] using hsp
          have hblk : w.heap[a.block]? = some (.cells cur el fr) := by simpa [Addr.add] using hcur
          obtain ⟨ab, ao, as⟩ := a
          simp only at hsp' hblk
          subst hsp'
          have hat := Rho.at_new' ρ ⟨ab, ao, cur.size, none⟩
          rw [hr.len] at hat
          have := VR.slice (ρ := ρ ++ [some ⟨ab, ao, cur.size, none⟩]) h.length 0 0 0 (k + 1) _ hat (Nat.le_refl _) hlc hcm (fun _ u hu => by cases hu)
          exact ⟨ab, ao, cur, el, fr, hblk, by simpa using this⟩
        have hv := hr.view hro hg (base := base) (c := []) (fun i x hx => by simp at hx) e'
        refine ⟨_, _, [.slice (some ⟨h.length, 0, none⟩) 0 0], ⟨_, rfl⟩, ⟨_, rfl⟩, fun b hb => ?_, hv, .cons _ _ _ _ hva .nil, by simp [Value.oneCell'], ?_⟩
        ·rcases List.mem_append.1 hb with hb | hb
         ·exact hro b hb
         ·simp at hb; subst hb; exact ⟨rfl, rfl⟩
        ·exact .slice t e' h.length ⟨[], e', false, true, true, none⟩ [] _ hu (by simp) rfl (by simp) (by simp) (fun i x hx => by simp at hx)
       | succ n =>
        obtain ⟨ρ1, h1, xss, hx1, ⟨l1, hl1⟩, hro1, hr1, hlen, hall⟩ := open_fam (n + 1) (fun _ => e') (fun i => (w.cells? 0 (a.add (i * P.cellsOf e')) (P.cellsOf e')).getD []) (fun i => ((els[i]?).map (·.1)).getD .nil) (fun i hi => by
         obtain ⟨ci, y, h1, h2, h3⟩ := part i hi
         obtain ⟨y1, y2⟩ := y
         simp only [h1, h2, Option.getD_some, Option.map_some]
         exact ih m e' ci y1 y2 hfe h3) ρ h hr hro
        obtain ⟨c0, y0, hc0, _, _⟩ := part 0 (by omega)
        obtain ⟨hl0, hcell0⟩ := cells_some hc0
        obtain ⟨hsp, cur, el, fr, hcur, _⟩ := cell_some (hcell0 0 (c0[0]'(by omega)) (List.getElem?_eq_getElem _))
        have hsp' : a.spot = none := by simpa [Addr.add] using hsp
        have hblk : w.heap[a.block]? = some (.cells cur el fr) := by simpa [Addr.add] using hcur
        obtain ⟨ab, ao, as⟩ := a
        simp only at hsp' hblk
        subst hsp'
        have hsize : ∀ (i : Nat) xs, xss[i]? = some xs → xs.length = P.cellsOf e' := by
         intro i xs hxs
         have hi := get_lt hxs
         obtain ⟨ci, y, h2, _, _⟩ := part i (by omega)
         have := (hall i xs hxs).1.length
         simp only [h2, Option.getD_some] at this
         rw [this, (cells_some h2).1]
        have hck : CellOK ρ1 cur ao xss.flatten := by
         intro j x hx
         have := flat_get (Pr := fun j x => x.oneCell' = true ∧ ∃ y, cur[ao + j]? = some y ∧ VR ρ1 x y) (sz := P.cellsOf e') xss 0 (fun i xs hxs => ⟨hsize i xs hxs, fun r v hv => by
          have hi := get_lt hxs
          obtain ⟨ci, y, h2, _, _⟩ := part i (by omega)
          obtain ⟨hvs, h1c, _⟩ := hall i xs hxs
          simp only [h2, Option.getD_some] at hvs
          obtain ⟨u, hu', hvr⟩ := hvs.get hv
          refine ⟨h1c v (List.mem_of_getElem? hv), u, ?_, hvr⟩
          obtain ⟨_, cur2, _, _, hcur2, hat⟩ := cell_some ((cells_some h2).2 r u hu')
          rw [add_mk, add_mk] at hcur2 hat
          rw [hblk] at hcur2
          cases hcur2
          rw [Nat.zero_add, ← Nat.add_assoc]
          exact hat⟩) j x hx
         simpa using this
        have hfl : xss.flatten.length = (n + 1) * P.cellsOf e' := by
         rw [← hlen]
         have key : ∀ (l : List (List Value)), (∀ xs ∈ l, xs.length = P.cellsOf e') → l.flatten.length = l.length * P.cellsOf e' := by
          intro l
          induction l with
          | nil => intro _; simp
          | cons x l ihl =>
           intro hall'
           rw [List.flatten_cons, List.length_append, hall' x (.head _), ihl fun y hy => hall' y (.tail _ hy), List.length_cons, Nat.add_mul]
           omega
         exact key xss fun xs hxs => by
          obtain ⟨i, hi⟩ := List.getElem?_of_mem hxs
          exact hsize i xs hi
        have hv := hr1.view hro1 hblk hck e'
        refine ⟨_, _, [.slice (some ⟨h1.length, 0, none⟩) (n + 1) (n + 1)], hx1.trans ⟨_, rfl⟩, ⟨l1 ++ [_], by rw [hl1, List.append_assoc]⟩, fun b hb => ?_, hv, .cons _ _ _ _ ?_ .nil, by simp [Value.oneCell'], ?_⟩
        ·rcases List.mem_append.1 hb with hb | hb
         ·exact hro1 b hb
         ·simp at hb; subst hb; exact ⟨rfl, rfl⟩
        ·have hat := Rho.at_new' ρ1 ⟨ab, ao, cur.size, none⟩
         rw [hr1.len] at hat
         have := VR.slice (ρ := ρ1 ++ [some ⟨ab, ao, cur.size, none⟩]) h1.length 0 (n + 1) (n + 1) cap _ hat (Nat.le_refl _) hlc hcm (fun _ u hu => by cases hu)
         simpa using this
        ·have := Rep.slice (P := P) (h := h1 ++ [(⟨xss.flatten, e', false, true, true, none⟩ : Blk)]) t e' h1.length ⟨xss.flatten, e', false, true, true, none⟩ (els.map (·.1)) (rest.map (·.1)) hu (by simp) rfl (by simp [hel, hfl]) (by simp [hel]; exact Nat.le_trans hlc hcm) (fun i x hx => ?_)
         ·simpa [hel] using this
         ·rw [List.getElem?_map] at hx
          have hi : i < n + 1 := by
           cases hy : els[i]? with
           | none => rw [hy] at hx; cases hx
           | some y => have := get_lt hy; omega
          have hxi : xss[i]? = some (xss[i]'(by omega)) := List.getElem?_eq_getElem (by omega)
          have h3 := (hall i _ hxi).2.2
          simp only [hx, Option.getD_some] at h3
          have h4 := parts_get xss (List.replicate (n + 1) (P.cellsOf e')) (by simp [hlen]) (fun j ys z h5 h6 => by
           rw [(List.mem_replicate.1 (List.mem_of_getElem? h6)).2]
           exact hsize j ys h5) i _ (P.cellsOf e') hxi (by simp [hi])
          rw [take_rep_sum (n + 1) _ i (by omega)] at h4
          simp only
          rw [h4]
          exact h3.mono _
      ·cases e
    | _ => simp [DataW.trod, hu] at e
   ·simp [DataW.trod, hu] at e
  ·rename_i fs hu
   obtain ⟨hrow, hall⟩ := Bool.and_eq_true_iff.1 hm
   simp only [DataW.trod, hu] at e
   split at e
   ·rename_i hcl
    obtain ⟨ys, hys, e1⟩ := Option.map_eq_some_iff.1 e
    obtain ⟨rfl, _⟩ := Prod.mk.inj e1
    obtain ⟨hyl, hya⟩ := mapM_some hys
    obtain ⟨hoff, htot⟩ := inRow_off fs.toList 0 _ hrow
    have hfi : ∀ (i sz : Nat), (fs.toList.map fun f => P.cellsOf f.type)[i]? = some sz → ∃ f : Field, fs.toList[i]? = some f ∧ sz = P.cellsOf f.type := by
     intro i sz h
     rw [List.getElem?_map] at h
     cases hf : fs.toList[i]? with
     | none => rw [hf] at h; cases h
     | some f => rw [hf] at h; cases h; exact ⟨f, rfl, rfl⟩
    obtain ⟨ρ', h', xs, h1, h2, h3, h4, h5, h6, h7⟩ := open_row (fs.toList.map fun f => P.cellsOf f.type) (fun i => ((fs.toList[i]?).map (·.type)).getD 0) cs (fun i => ((ys[i]?).map (·.1)).getD .nil) (by rw [hcl]; omega) (fun i sz hs ρ h hr hro => by
     obtain ⟨f, hf, rfl⟩ := hfi i sz hs
     have hy : ys[i]? = some (ys[i]'(by rw [hyl]; exact get_lt hf)) := List.getElem?_eq_getElem _
     have := hya i f _ hf hy
     simp only [hf, hy, Option.map_some, Option.getD_some]
     have ho := hoff i f hf
     rw [Nat.zero_add] at ho
     rw [← ho]
     exact ih m f.type _ _ _ (List.all_eq_true.1 hall f (List.mem_of_getElem? hf)) this ρ h hr hro) ρ h hr hro
    refine ⟨ρ', h', xs, h1, h2, h3, h4, h5, h6, .struct t fs xs _ hu (by rw [h5.length, hcl]) hrow (by simp [hyl]) fun i f x hf hx => ?_⟩
    have hf' : fs.toList[i]? = some f := by simpa using hf
    have := h7 i (P.cellsOf f.type) (by rw [List.getElem?_map, hf']; rfl)
    have ho := hoff i f hf'
    rw [Nat.zero_add] at ho
    rw [← ho] at this
    rw [List.getElem?_map] at hx
    simp only [hf', Option.map_some, Option.getD_some, hx] at this
    exact this
   ·cases e
  ·rename_i n e' hu
   obtain ⟨hrow, hall⟩ := Bool.and_eq_true_iff.1 hm
   have hrow := Nat.eq_of_beq_eq_true hrow
   simp only [DataW.trod, hu] at e
   split at e
   ·rename_i hcl
    obtain ⟨ys, hys, e1⟩ := Option.map_eq_some_iff.1 e
    obtain ⟨rfl, _⟩ := Prod.mk.inj e1
    obtain ⟨hyl, hya⟩ := mapM_some hys
    simp only [List.length_range] at hyl
    have hrep : ∀ (i sz : Nat), (List.replicate n (P.cellsOf e'))[i]? = some sz → i < n ∧ sz = P.cellsOf e' := by
     intro i sz h
     have h1 := get_lt h
     have h2 := (List.mem_replicate.1 (List.mem_of_getElem? h)).2
     exact ⟨by simpa using h1, h2⟩
    obtain ⟨ρ', h', xs, h1, h2, h3, h4, h5, h6, h7⟩ := open_row (List.replicate n (P.cellsOf e')) (fun _ => e') cs (fun i => ((ys[i]?).map (·.1)).getD .nil) (by rw [hcl, List.sum_replicate_nat, hrow]) (fun i sz hs ρ h hr hro => by
     obtain ⟨hi, rfl⟩ := hrep i sz hs
     have hy : ys[i]? = some (ys[i]'(by omega)) := List.getElem?_eq_getElem _
     have := hya i i _ (List.getElem?_range hi) hy
     simp only [hy, Option.map_some, Option.getD_some]
     rw [take_rep_sum n _ i (by omega)]
     exact ih m e' _ _ _ hall this ρ h hr hro) ρ h hr hro
    refine ⟨ρ', h', xs, h1, h2, h3, h4, h5, h6, .array t e' n xs _ hu (by rw [h5.length, hcl]) hrow (by simp [hyl]) fun i x hx => ?_⟩
    have hi : i < n := by have := get_lt hx; simp [hyl] at this; exact this
    have := h7 i (P.cellsOf e') (by simp [hi])
    rw [take_rep_sum n _ i (by omega)] at this
    rw [List.getElem?_map] at hx
    simp only [hx, Option.getD_some] at this
    exact this
   ·cases e
  ·cases hm
end Go.Pv
end
section
namespace Go.Pv
variable [Glob]
section
variable {P : Program} {H : Type} {enc : TypeId × Value → H} {w : World}
theorem fot_form {m : Nat} {t : TypeId} {v : Value} {r : Reach} {base : Nat} (hm : fot P m t = true) (hok : Value.okWide P w r base t v) : (∃ cs, v = .agg cs) ∨ (v.oneCell' = true ∧ v.cells = #[v]) := by
 cases m with
 | zero => cases hm
 | succ m =>
  simp only [fot] at hm
  unfold Value.okWide at hok
  split at hm
  ·rename_i hu
   rw [hu] at hok
   simp only [Cell.okWide, hu, Cell.ok] at hok
   cases v <;> simp at hok
   exact .inr ⟨rfl, rfl⟩
  ·rename_i k hu
   rw [hu] at hok
   simp only [Cell.okWide, hu, Cell.ok] at hok
   cases v <;> simp at hok
   exact .inr ⟨rfl, rfl⟩
  ·rename_i hu
   rw [hu] at hok
   simp only [Cell.okWide, hu, Cell.ok] at hok
   cases v <;> simp at hok
   exact .inr ⟨rfl, rfl⟩
  ·rename_i e' hu
   rw [hu] at hok
   simp only [Cell.okWide, hu, Cell.ok] at hok
   cases v <;> first | (simp at hok; done) | exact .inr ⟨rfl, rfl⟩
  ·rename_i fs hu
   rw [hu] at hok
   obtain ⟨cs, rfl, _⟩ := hok
   exact .inl ⟨cs, rfl⟩
  ·rename_i n e' hu
   rw [hu] at hok
   obtain ⟨cs, rfl, _⟩ := hok
   exact .inl ⟨cs, rfl⟩
  ·cases hm
theorem open_val {held : Bool} (hg : ∃ (g : Nat) (cs : Array Value) (e : TypeId) (fr : Nat × Nat), w.heap[g]? = some (.cells cs e fr)) {m : Nat} {t : TypeId} {v : Value} {d : DataW H} {ps : List MemPlace} {r : Reach} {base : Nat} (hm : fot P m t = true) (hok : Value.okWide P w r base t v)
  (ht : DataW.Trod enc P w 0 (fun _ => true) held t v d ps) (ρ : Rho) (h : Heap) (hr : HRel P ρ h w) (hro : ∀ b ∈ h, b.ro = true ∧ b.obj = none) :
  ∃ ρ' h' x, ρ.ext ρ' ∧ (∃ l, h' = h ++ l) ∧ (∀ b ∈ h', b.ro = true ∧ b.obj = none) ∧ HRel P ρ' h' w ∧ VR ρ' x v ∧ Rep P h' t x.cells.toList d := by
 obtain ⟨fuel, ht⟩ := ht
 obtain ⟨ρ', h', xs, o⟩ := open_trod hg fuel m t _ d ps hm ht ρ h hr hro
 rcases fot_form hm hok with ⟨⟨cs⟩, rfl⟩ | ⟨h1, h2⟩
 ·exact ⟨ρ', h', .agg ⟨xs⟩, o.ext, o.hext, o.ro, o.hr, .agg _ _ o.vs o.one, o.rep⟩
 ·have hvs := o.vs
  rw [h2] at hvs
  have hrep := o.rep
  have hone := o.one
  generalize xs = ys at hvs hrep hone
  cases hvs with
  | cons x _ _ _ hv ht' =>
   cases ht'
   have hx1 : x.oneCell' = true := hone x (.head _)
   have : x.cells = #[x] := by cases x <;> first | rfl | simp [Value.oneCell'] at hx1
   exact ⟨ρ', h', x, o.ext, o.hext, o.ro, o.hr, hv, by rw [this]; exact hrep⟩
theorem open_args {held : Bool} (hg : ∃ (g : Nat) (cs : Array Value) (e : TypeId) (fr : Nat × Nat), w.heap[g]? = some (.cells cs e fr)) {m : Nat} {r : Reach} {base : Nat} : ∀ (ts : List TypeId) (vs : List Value) (ds : List (DataW H)) (ps : List MemPlace), (∀ t ∈ ts, fot P m t = true) → (∀ (j : Nat) t v, ts[j]? = some t → vs[j]? = some v → Value.okWide P w r base t v) →
  DataW.TrodAll enc P w 0 (fun _ => true) held ts vs ds ps → ∀ ρ h, HRel P ρ h w → (∀ b ∈ h, b.ro = true ∧ b.obj = none) →
  ∃ ρ' h' xs, ρ.ext ρ' ∧ (∃ l, h' = h ++ l) ∧ (∀ b ∈ h', b.ro = true ∧ b.obj = none) ∧ HRel P ρ' h' w ∧ VRs ρ' xs vs ∧ ∀ (j : Nat) t d, ts[j]? = some t → ds[j]? = some d → ∃ x, xs[j]? = some x ∧ Rep P h' t x.cells.toList d
 | [], [], [], ps, _, _, _, ρ, h, hr, hro => ⟨ρ, h, [], .refl ρ, ⟨[], by simp⟩, hro, hr, .nil, fun j t d h => by simp at h⟩
 | t :: ts, v :: vs, d :: ds, ps, hf, hok, ht, ρ, h, hr, hro => by
  obtain ⟨p, q, h1, h2, _⟩ := ht
  obtain ⟨ρ1, h1', x, he1, ⟨l1, hl1⟩, hro1, hr1, hv, hrep⟩ := open_val hg (hf t (.head _)) (hok 0 t v rfl rfl) h1 ρ h hr hro
  obtain ⟨ρ2, h2', xs, he2, ⟨l2, hl2⟩, hro2, hr2, hvs, hreps⟩ := open_args hg ts vs ds q (fun t' ht' => hf t' (.tail _ ht')) (fun j t' v' hj hv' => hok (j + 1) t' v' (by simpa using hj) (by simpa using hv')) h2 ρ1 h1' hr1 hro1
  refine ⟨ρ2, h2', x :: xs, he1.trans he2, ⟨l1 ++ l2, by rw [hl2, hl1, List.append_assoc]⟩, hro2, hr2, .cons _ _ _ _ (hv.mono he2.le) hvs, fun j t' d' hj hd => ?_⟩
  cases j with
  | zero =>
   simp at hj hd
   subst hj; subst hd
   exact ⟨x, rfl, by rw [hl2]; exact hrep.mono l2⟩
  | succ j =>
   obtain ⟨x', h3, h4⟩ := hreps j t' d' (by simpa using hj) (by simpa using hd)
   exact ⟨x', by simpa using h3, h4⟩
 | [], _ :: _, _, _, _, _, ht, _, _, _, _ => by cases ht
 | [], [], _ :: _, _, _, _, ht, _, _, _, _ => by cases ht
 | _ :: _, [], _, _, _, _, ht, _, _, _, _ => by cases ht
 | _ :: _, _ :: _, [], _, _, _, ht, _, _, _, _ => by cases ht
theorem HRel.empty : HRel P [] [] w := ⟨rfl, fun id b rb h => by simp at h, fun i j bi bj ri rj _ h => by simp at h, ⟨fun id b rb o h => by simp at h, fun i j bi bj ri rj oi oj _ h => by simp at h⟩⟩
theorem calls_true {T : Tab} (hT : TabOK P T) {n : Nat} {f : FuncId} {fn : Func} (hs : T.spec f = none) (hfn : T.fn f = some fn) {ρ : Rho} {h h' : Heap} {xs ys : List Value} (hg : GOK ρ) (hr : HRel P ρ h w) (hro : ∀ b ∈ h, b.ro = true ∧ b.obj = none) (hv : VRs ρ xs ys) (e : evalCall P T (n + 1) (.fn f) xs h = some (.ret (.bool true), h')) :
  CallsIn (fen none) 0 P f ⟨ys⟩ w fun ex w' => ex = .returned (.bool true) ∧ RowKit.Below w.heap.size w w' := by
 simp only [evalCall, hs, hfn, Option.bind_some] at e
 obtain ⟨_, hc⟩ := evalBody_sound (sound hT n) hT (evalD_ok (sound hT n) hT n) (T.kill f) (hT.fn f fn hs hfn).1 hg hr hv e
 refine hc.mono fun ex w' he => ?_
 cases ex with
 | panicked ch =>
  obtain ⟨y, _, v, ρ', h1, _⟩ := he
  cases h1
 | outgrown => exact he.elim
 | returned y =>
  obtain ⟨v, ρ', h1, l⟩ := he
  cases h1
  have hy := l.v
  simp only at hy
  cases hy
  refine ⟨rfl, ⟨l.f.os, l.f.tape, l.f.output, l.f.size, fun k hk => l.f.block k hk ?_⟩⟩
  rintro ⟨id, bl, rb, h1, _, h4, _⟩
  obtain ⟨h5, h6⟩ := hro bl (List.mem_of_getElem? h1)
  rcases h4 with ⟨_, h4⟩ | h4
  ·rw [h5] at h4; cases h4
  ·rw [h6] at h4; cases h4
end
end Go.Pv
end
section
namespace Go.Dv
open Go.Pv (Blk Heap Rep inRow inRow_off)
section
variable {P : Program} {H : Type}
inductive Tr (P : Program) {H : Type} : TypeId → List DV → DataW H → Prop where
 | bool (t : TypeId) (b : Bool) (ht : P.underlying t = some .bool) : Tr P t [.bool b] (.lit (.bool b))
 | int (t : TypeId) (k : IntKind) (n : Int) (ht : P.underlying t = some (.int k)) (hn : (Lit.int k n).wf = true) : Tr P t [.int k n] (.lit (.int k n))
 | str (t : TypeId) (s : List UInt8) (ht : P.underlying t = some .string) (hs : s.length ≤ maxLen) : Tr P t [.str s] (.lit (.string s))
 | nil (t e : TypeId) (ht : P.underlying t = some (.slice e)) : Tr P t [.fz []] .nil
 | slice (t e : TypeId) (xss : List (List DV)) (elems rest : List (DataW H)) (ht : P.underlying t = some (.slice e)) (hn : xss.length = elems.length) (hm : elems.length ≤ maxLen)
   (hl : ∀ (i : Nat) x, xss[i]? = some x → x.length = P.cellsOf e) (he : ∀ (i : Nat) x d, xss[i]? = some x → elems[i]? = some d → Tr P e x d) : Tr P t [.fz xss] (.slice elems rest)
 | struct (t : TypeId) (fs : Array Field) (xs : List DV) (parts : List (DataW H)) (ht : P.underlying t = some (.struct fs)) (hc : xs.length = P.cellsOf t) (hrow : inRow P fs.toList 0 (P.cellsOf t) = true) (hn : parts.length = fs.size)
   (he : ∀ (i : Nat) (f : Field) d, fs[i]? = some f → parts[i]? = some d → Tr P f.type ((xs.drop f.offset).take (P.cellsOf f.type)) d) : Tr P t xs (.agg parts)
 | array (t e : TypeId) (n : Nat) (xs : List DV) (parts : List (DataW H)) (ht : P.underlying t = some (.array n e)) (hc : xs.length = P.cellsOf t) (hk : n * P.cellsOf e = P.cellsOf t) (hn : parts.length = n)
   (he : ∀ (i : Nat) d, parts[i]? = some d → Tr P e ((xs.drop (i * P.cellsOf e)).take (P.cellsOf e)) d) : Tr P t xs (.agg parts)
theorem pick_list {α : Type} {Q : Nat → α → Prop} : ∀ n, (∀ i, i < n → ∃ x, Q i x) → ∃ l : List α, l.length = n ∧ ∀ (i : Nat) x, l[i]? = some x → Q i x
 | 0, _ => ⟨[], rfl, fun i x h => by simp at h⟩
 | n + 1, h => by
  obtain ⟨l, hl, hq⟩ := pick_list n fun i hi => h i (by omega)
  obtain ⟨x, hx⟩ := h n (by omega)
  refine ⟨l ++ [x], by simp [hl], fun i y hy => ?_⟩
  by_cases hi : i < n
  ·rw [List.getElem?_append_left (by omega)] at hy
   exact hq i y hy
  ·rw [List.getElem?_append_right (by omega), hl] at hy
   have : i - n = 0 := by
    cases hh : i - n with
    | zero => rfl
    | succ m => rw [hh] at hy; simp at hy
   rw [this] at hy
   simp at hy
   subst hy
   rw [show i = n by omega]
   exact hx
end
section
variable [Pv.Glob] {P : Program} {H : Type} {F : Fz}
theorem parts_vds : ∀ (xss : List (List DV)) (szs : List Nat) (cs : List Value), xss.length = szs.length → (∀ (i : Nat) xs sz, xss[i]? = some xs → szs[i]? = some sz → VDs F [] xs ((cs.drop (szs.take i).sum).take sz)) → szs.sum = cs.length → VDs F [] xss.flatten cs
 | [], szs, cs, hl, _, hs => by
  have : szs = [] := List.eq_nil_of_length_eq_zero hl.symm
  subst this
  have : cs = [] := List.eq_nil_of_length_eq_zero hs.symm
  subst this
  exact .nil _
 | xs :: xss, [], cs, hl, _, _ => by simp at hl
 | xs :: xss, sz :: szs, cs, hl, h, hs => by
  have h0 := h 0 xs sz rfl rfl
  simp at h0
  have hrest := parts_vds xss szs (cs.drop sz) (by simpa using hl) (fun i ys z h1 h2 => by
   have := h (i + 1) ys z (by simpa using h1) (by simpa using h2)
   simp only [List.take_succ_cons, List.sum_cons] at this
   rwa [List.drop_drop]) (by simp at hs ⊢; omega)
  have : cs = cs.take sz ++ cs.drop sz := (List.take_append_drop sz cs).symm
  rw [this, List.flatten_cons]
  exact h0.append hrest
theorem parts_getD (xss : List (List DV)) (szs : List Nat) (hl : xss.length = szs.length) (h : ∀ (i : Nat) xs sz, xss[i]? = some xs → szs[i]? = some sz → xs.length = sz) : ∀ (i : Nat) xs sz, xss[i]? = some xs → szs[i]? = some sz → (xss.flatten.drop (szs.take i).sum).take sz = xs := by
 induction xss generalizing szs with
 | nil => intro i xs sz hx; simp at hx
 | cons ys xss ih =>
  intro i xs sz hx hs
  cases szs with
  | nil => simp at hl
  | cons z szs =>
   have h0 := h 0 ys z rfl rfl
   cases i with
   | zero =>
    simp at hx hs
    subst hx; subst hs
    simp [← h0]
   | succ i =>
    have := ih szs (by simpa using hl) (fun j a b h1 h2 => h (j + 1) a b (by simpa using h1) (by simpa using h2)) i xs sz (by simpa using hx) (by simpa using hs)
    simp only [List.take_succ_cons, List.sum_cons, List.flatten_cons]
    rw [List.drop_append, h0]
    have e : z + (szs.take i).sum - z = (szs.take i).sum := by omega
    rw [e, List.drop_of_length_le (by rw [h0]; omega), List.nil_append]
    exact this
theorem Rep.tree {h : Heap} (hF : ∀ (j : Nat) (b : Blk), h[j]? = some b → b.live = true → F j = some (b.row, b.cells)) {t : TypeId} {cs : List Value} {d : DataW H} (r : Rep P h t cs d) : ∃ xs, VDs F [] xs cs ∧ Tr P t xs d := by
 induction r with
 | bool t b ht => exact ⟨[.bool b], .cons _ _ _ _ _ (.bool _ _) (.nil _), .bool t b ht⟩
 | int t k n ht hn => exact ⟨[.int k n], .cons _ _ _ _ _ (.int _ _ _) (.nil _), .int t k n ht hn⟩
 | str t s ht hs => exact ⟨[.str s.data.toList], .cons _ _ _ _ _ (.str _ _) (.nil _), .str t _ ht (by simpa using hs)⟩
 | nil t e ht => exact ⟨[.fz []], .cons _ _ _ _ _ (.fzNil _) (.nil _), .nil t e ht⟩
 | slice t e id b elems rest ht hb hl hn hm _ ih =>
  obtain ⟨xss, hx, hq⟩ := pick_list (Q := fun i xs => VDs F [] xs ((b.cells.drop (i * P.cellsOf e)).take (P.cellsOf e)) ∧ ∀ d, elems[i]? = some d → Tr P e xs d) elems.length (fun i hi => by
   obtain ⟨xs, h1, h2⟩ := ih i elems[i] (List.getElem?_eq_getElem hi)
   exact ⟨xs, h1, fun d hd => by rw [List.getElem?_eq_getElem hi] at hd; cases hd; exact h2⟩)
  have hlen : ∀ (i : Nat) x, xss[i]? = some x → x.length = P.cellsOf e := fun i x hxi => by
   have h1 := (hq i x hxi).1.length
   have hi := get_lt hxi
   have hm : (i + 1) * P.cellsOf e ≤ elems.length * P.cellsOf e := Nat.mul_le_mul_right _ (by omega)
   rw [Nat.add_mul] at hm
   rw [h1, List.length_take, List.length_drop, hn]
   omega
  refine ⟨[.fz xss], .cons _ _ _ _ _ ?_ (.nil _), .slice t e xss elems rest ht hx hm hlen fun i x d hxi hd => (hq i x hxi).2 d hd⟩
  have := VD.fz (F := F) [] xss id 0 elems.length (P.cellsOf e) b.row b.cells (hF id b hb hl) hlen (fun i x hxi => by rw [Nat.zero_add]; exact (hq i x hxi).1) (by omega) (by rw [hx]; omega)
  rw [hx] at this
  exact this
 | struct t fs cs parts ht hc hrow hn _ ih =>
  obtain ⟨hoff, htot⟩ := inRow_off fs.toList 0 _ hrow
  obtain ⟨xss, hx, hq⟩ := pick_list (Q := fun i xs => ∀ f : Field, fs[i]? = some f → VDs F [] xs ((cs.drop f.offset).take (P.cellsOf f.type)) ∧ ∀ d, parts[i]? = some d → Tr P f.type xs d) fs.size (fun i hi => by
   have hf : fs[i]? = some fs[i] := by simp [hi]
   have hp : parts[i]? = some (parts[i]'(by omega)) := List.getElem?_eq_getElem (by omega)
   obtain ⟨xs, h1, h2⟩ := ih i fs[i] _ hf hp
   refine ⟨xs, fun f hf' => ?_⟩
   rw [hf] at hf'; cases hf'
   exact ⟨h1, fun d hd => by rw [hp] at hd; cases hd; exact h2⟩)
  have hsz : ∀ (i sz : Nat), (fs.toList.map fun f => P.cellsOf f.type)[i]? = some sz → ∃ f : Field, fs[i]? = some f ∧ sz = P.cellsOf f.type := fun i sz h => by
   rw [List.getElem?_map] at h
   cases hf : fs.toList[i]? with
   | none => rw [hf] at h; cases h
   | some f => rw [hf] at h; cases h; exact ⟨f, by simpa using hf, rfl⟩
  have hv : VDs F [] xss.flatten cs := parts_vds xss (fs.toList.map fun f => P.cellsOf f.type) cs (by simp [hx]) (fun i xs sz hxi hs => by
   obtain ⟨f, hf, rfl⟩ := hsz i sz hs
   have := (hq i xs hxi f hf).1
   rw [hoff i f (by simpa using hf), Nat.zero_add] at this
   exact this) (by omega)
  refine ⟨xss.flatten, hv, .struct t fs _ parts ht (by rw [hv.length, hc]) hrow hn fun i f d hf hd => ?_⟩
  have hi : i < fs.size := by
   rcases Nat.lt_or_ge i fs.size with h | h
   ·exact h
   ·rw [Array.getElem?_eq_none h] at hf; cases hf
  have hxi : xss[i]? = some (xss[i]'(by omega)) := List.getElem?_eq_getElem (by omega)
  have h3 := parts_getD xss (fs.toList.map fun f => P.cellsOf f.type) (by simp [hx]) (fun j ys sz h1 h2 => by
   obtain ⟨g, hg, rfl⟩ := hsz j sz h2
   have h4 := (hq j ys h1 g hg).1.length
   have h5 := hoff j g (by simpa using hg)
   have h6 := Pv.take_sum_le (fs.toList.map fun f => P.cellsOf f.type) j _ h2
   rw [h4, List.length_take, List.length_drop, h5]
   omega) i _ (P.cellsOf f.type) hxi (by rw [List.getElem?_map, show fs.toList[i]? = some f by simpa using hf]; rfl)
  rw [hoff i f (by simpa using hf), Nat.zero_add, h3]
  exact (hq i _ hxi f hf).2 d hd
 | array t e n cs parts ht hc hk hn _ ih =>
  obtain ⟨xss, hx, hq⟩ := pick_list (Q := fun i xs => VDs F [] xs ((cs.drop (i * P.cellsOf e)).take (P.cellsOf e)) ∧ ∀ d, parts[i]? = some d → Tr P e xs d) n (fun i hi => by
   have hp : parts[i]? = some (parts[i]'(by omega)) := List.getElem?_eq_getElem (by omega)
   obtain ⟨xs, h1, h2⟩ := ih i _ hp
   exact ⟨xs, h1, fun d hd => by rw [hp] at hd; cases hd; exact h2⟩)
  have hrep : ∀ (i sz : Nat), (List.replicate n (P.cellsOf e))[i]? = some sz → i < n ∧ sz = P.cellsOf e := fun i sz h => by
   have h1 := get_lt h
   exact ⟨by simpa using h1, (List.mem_replicate.1 (List.mem_of_getElem? h)).2⟩
  have hv : VDs F [] xss.flatten cs := parts_vds xss (List.replicate n (P.cellsOf e)) cs (by simp [hx]) (fun i xs sz hxi hs => by
   obtain ⟨hi, rfl⟩ := hrep i sz hs
   rw [Pv.take_rep_sum n _ i (by omega)]
   exact (hq i xs hxi).1) (by rw [List.sum_replicate_nat]; omega)
  refine ⟨xss.flatten, hv, .array t e n _ parts ht (by rw [hv.length, hc]) hk hn fun i d hd => ?_⟩
  have hi : i < n := by have := get_lt hd; omega
  have hxi : xss[i]? = some (xss[i]'(by omega)) := List.getElem?_eq_getElem (by omega)
  have h3 := parts_getD xss (List.replicate n (P.cellsOf e)) (by simp [hx]) (fun j ys sz h1 h2 => by
   obtain ⟨hj, rfl⟩ := hrep j sz h2
   have h4 := (hq j ys h1).1.length
   have hm : (j + 1) * P.cellsOf e ≤ n * P.cellsOf e := Nat.mul_le_mul_right _ (by omega)
   rw [Nat.add_mul] at hm
   rw [h4, List.length_take, List.length_drop, hc]
   omega) i _ (P.cellsOf e) hxi (by simp [hi])
  rw [Pv.take_rep_sum n _ i (by omega)] at h3
  rw [h3]
  exact (hq i _ hxi).2 d hd
end
section
variable [Pv.Glob] [DGlob] {P : Program}
def allF (h : Heap) : Fz := fun j => h[j]?.bind fun b => bif b.live then some (b.row, b.cells) else none
theorem allF_mem {h : Heap} {j : Nat} {b : Blk} (hb : h[j]? = some b) (hl : b.live = true) : allF h j = some (b.row, b.cells) := by
 simp only [allF, hb, Option.bind_some, hl, cond_true]
theorem allF_fz (h : Heap) : FzInv (allF h) h := fun j row cells e => by
 unfold allF at e
 obtain ⟨b, hb, e1⟩ := Option.bind_eq_some_iff.1 e
 obtain ⟨hl, e2⟩ := Pv.bif_some e1
 cases e2
 exact ⟨b, hb, hl, rfl, rfl⟩
theorem DInv.all (h : Heap) : DInv (allF h) [] [] h := ⟨rfl, fun id db j hd => by simp at hd, fun id db hd => by simp at hd, fun a a' j hj => by simp at hj, allF_fz h⟩
theorem freezeV_bool {d : Nat} {h : DHeap} {x : DV} {b : Bool} {l : List Nat} (e : freezeV d h x = some (.bool b, l)) : x = .bool b := by
 cases d with
 | zero => cases e
 | succ d =>
  unfold freezeV at e
  split at e
  ·cases e
  ·obtain ⟨_, _, e⟩ := Option.bind_eq_some_iff.1 e
   obtain ⟨_, _, e⟩ := Option.bind_eq_some_iff.1 e
   cases e
  ·obtain ⟨_, _, e⟩ := Option.bind_eq_some_iff.1 e
   cases e
  ·obtain ⟨_, _, e⟩ := Option.bind_eq_some_iff.1 e
   cases e
  ·obtain ⟨_, _, e⟩ := Option.bind_eq_some_iff.1 e
   cases e
  ·obtain ⟨_, _, e⟩ := Option.bind_eq_some_iff.1 e
   obtain ⟨_, e⟩ := Pv.bif_some e
   obtain ⟨_, _, e⟩ := Option.bind_eq_some_iff.1 e
   cases e
  ·obtain ⟨_, _, e⟩ := Option.bind_eq_some_iff.1 e
   generalize plainB h _ = c at e
   cases c with
   | true =>
    obtain ⟨_, _, e⟩ := Option.bind_eq_some_iff.1 (show (frozL _).bind _ = _ from e)
    cases e
   | false =>
    obtain ⟨_, _, e⟩ := Option.bind_eq_some_iff.1 (show (freezeWith _ _).bind _ = _ from e)
    cases e
  ·cases e
  ·cases e; rfl
theorem law_calls {w : World} {T : DTab} {T' : Pv.Tab} (hT : Pv.TabOK P T') (hD : TabD T T') {f : FuncId} {fn : Func} (hs : T'.spec f = none) (hfn : T'.fn f = some fn) (hown : T.own f = []) {ρ : Pv.Rho} {h : Heap} {xs ys : List Value} (hg : Pv.GOK ρ) (hgd : GlobD (allF h)) (hr : Pv.HRel P ρ h w) (hro : ∀ b ∈ h, b.ro = true ∧ b.obj = none)
  (hv : Pv.VRs ρ xs ys) {trees : List DV} (ht : VDs (allF h) [] trees xs) {hp : DHeap} (hl : Lx P T f trees (.ret (.bool true), hp)) :
  CallsIn (Pv.fen none) 0 P f ⟨ys⟩ w fun ex w' => ex = .returned (.bool true) ∧ RowKit.Below w.heap.size w w' := by
 obtain ⟨N, hN⟩ := hl
 have h1 := hN (N + 1) (by omega)
 unfold stepL at h1
 obtain ⟨v, dh', F', μ', w', h', h2, h3, _, h5, _⟩ := evalY_sim hD (N + 1) _ _ _ _ _ _ h1 (allF h) [] h (.fn f) xs hgd (DInv.all h) rfl ht
 rw [hown] at h2
 cases v with
 | pan v =>
  obtain ⟨q, _, h6⟩ := Option.bind_eq_some_iff.1 (show (freezeV depth dh' v).bind _ = _ from h2)
  cases h6
 | ret v =>
  obtain ⟨q, h7, h6⟩ := Option.bind_eq_some_iff.1 (show (freezeV depth dh' v).bind _ = _ from h2)
  obtain ⟨q1, q2⟩ := q
  cases h6
  have hvb := freezeV_bool h7
  subst hvb
  cases w' <;> first | exact h5.elim | skip
  rename_i y
  replace h5 : VD F' μ' (.bool true) y := h5
  cases h5
  exact Pv.calls_true hT hs hfn hg hr hro hv h3
end
end Go.Dv
end
section
namespace Go.Dv
open Go.Pv (inRow)
theorem TyCs.append : ∀ {ka kb : List SK} {a b : List DV}, TyCs ka a → TyCs kb b → TyCs (ka ++ kb) (a ++ b)
 | [], _, [], _, _, h => h
 | [], _, _ :: _, _, h, _ => h.elim
 | _ :: _, _, [], _, h, _ => h.elim
 | k :: ka, kb, x :: a, b, h, h' => ⟨h.1, TyCs.append h.2 h'⟩
section
variable {P : Program} {H : Type}
theorem Tr.field {t : TypeId} {xs : List DV} {d : DataW H} (r : Tr P t xs d) {fs : Array Field} (ht : P.underlying t = some (.struct fs)) {i : Nat} {f : Field} (hf : fs[i]? = some f) : ∃ parts x, d = .agg parts ∧ x ∈ parts ∧ Tr P f.type ((xs.drop f.offset).take (P.cellsOf f.type)) x := by
 cases r with
 | struct t fs' xs parts ht' hc hrow hn he =>
  rw [ht] at ht'
  cases ht'
  have hi : i < parts.length := by rw [hn]; exact (Array.getElem?_eq_some_iff.1 hf).1
  exact ⟨parts, parts[i], rfl, List.getElem_mem hi, he i f _ hf (List.getElem?_eq_getElem hi)⟩
 | bool t b h => rw [ht] at h; cases h
 | int t k n h => rw [ht] at h; cases h
 | str t s h => rw [ht] at h; cases h
 | nil t e h => rw [ht] at h; cases h
 | slice t e xss elems rest h => rw [ht] at h; cases h
 | array t e n xs parts h => rw [ht] at h; cases h
theorem Tr.elems {t e : TypeId} {x : DV} {d : DataW H} (r : Tr P t [x] d) (ht : P.underlying t = some (.slice e)) : (d = .nil ∧ x = .fz []) ∨ ∃ xss elems rest, d = .slice elems rest ∧ x = .fz xss ∧ xss.length = elems.length ∧ ∀ (i : Nat) x d, xss[i]? = some x → elems[i]? = some d → Tr P e x d := by
 generalize hxs : [x] = xs at r
 cases r with
 | struct t fs' xs parts h => rw [ht] at h; cases h
 | bool t b h => rw [ht] at h; cases h
 | int t k n h => rw [ht] at h; cases h
 | str t s h => rw [ht] at h; cases h
 | nil t e h => cases hxs; exact .inl ⟨rfl, rfl⟩
 | slice t e' xss elems rest h hn hm hl he =>
  rw [ht] at h
  cases h
  cases hxs
  exact .inr ⟨xss, elems, rest, rfl, rfl, hn, he⟩
 | array t e n xs parts h => rw [ht] at h; cases h
theorem Tr.toInt {t : TypeId} {k : IntKind} {x : DV} {d : DataW H} (r : Tr P t [x] d) (ht : P.underlying t = some (.int k)) : ∃ n, x = .int k n ∧ (Lit.int k n).wf = true := by
 generalize hxs : [x] = xs at r
 cases r with
 | struct t fs' xs parts h => rw [ht] at h; cases h
 | bool t b h => rw [ht] at h; cases h
 | int t k n h hn => rw [ht] at h; cases h; cases hxs; exact ⟨n, rfl, hn⟩
 | str t s h => rw [ht] at h; cases h
 | nil t e h => rw [ht] at h; cases h
 | slice t e' xss elems rest h => rw [ht] at h; cases h
 | array t e n xs parts h => rw [ht] at h; cases h
theorem Tr.toStr {t : TypeId} {x : DV} {d : DataW H} (r : Tr P t [x] d) (ht : P.underlying t = some .string) : ∃ s, x = .str s ∧ d = .lit (.string s) := by
 generalize hxs : [x] = xs at r
 cases r with
 | struct t fs' xs parts h => rw [ht] at h; cases h
 | bool t b h => rw [ht] at h; cases h
 | int t k n h => rw [ht] at h; cases h
 | str t s h => cases hxs; exact ⟨s, rfl, rfl⟩
 | nil t e h => rw [ht] at h; cases h
 | slice t e' xss elems rest h => rw [ht] at h; cases h
 | array t e n xs parts h => rw [ht] at h; cases h
end
end Go.Dv
end
section
namespace Go.Dv
open Go.Dv.S
structure Bulk (H : Type) where
 B : DataW H → Nat
 len : ∀ es rest, es.length ≤ B (.slice es rest)
 elem : ∀ es rest x, x ∈ es → B x ≤ B (.slice es rest)
 part : ∀ ps x, x ∈ ps → B x ≤ B (.agg ps)
 str : ∀ s, s.length ≤ B (.lit (.string s))
section
variable {P : Program} {H : Type} {K : Bulk H}
theorem Tr.int' {t : TypeId} {k : IntKind} {xs : List DV} {d : DataW H} (r : Tr P t xs d) (ht : P.underlying t = some (.int k)) : ∃ n, xs = [.int k n] ∧ (Lit.int k n).wf = true := by
 cases r with
 | struct t fs' xs parts h => rw [ht] at h; cases h
 | bool t b h => rw [ht] at h; cases h
 | int t k n h hn => rw [ht] at h; cases h; exact ⟨n, rfl, hn⟩
 | str t s h => rw [ht] at h; cases h
 | nil t e h => rw [ht] at h; cases h
 | slice t e' xss elems rest h => rw [ht] at h; cases h
 | array t e n xs parts h => rw [ht] at h; cases h
theorem Tr.elems' {t e : TypeId} {xs : List DV} {d : DataW H} (r : Tr P t xs d) (ht : P.underlying t = some (.slice e)) : ∃ xss, xs = [.fz xss] ∧ xss.length ≤ K.B d ∧ ∀ x ∈ xss, ∃ d', Tr P e x d' ∧ K.B d' ≤ K.B d := by
 cases r with
 | struct t fs' xs parts h => rw [ht] at h; cases h
 | bool t b h => rw [ht] at h; cases h
 | int t k n h => rw [ht] at h; cases h
 | str t s h => rw [ht] at h; cases h
 | nil t e h => exact ⟨[], rfl, Nat.zero_le _, fun x hx => by simp at hx⟩
 | slice t e' xss elems rest h hn hm hl he =>
  rw [ht] at h
  cases h
  refine ⟨xss, rfl, by rw [hn]; exact K.len _ _, fun x hx => ?_⟩
  obtain ⟨i, hi, rfl⟩ := List.mem_iff_getElem.1 hx
  exact ⟨elems[i], he i _ _ (List.getElem?_eq_getElem hi) (List.getElem?_eq_getElem (by omega)), K.elem _ _ _ (List.getElem_mem _)⟩
 | array t e n xs parts h => rw [ht] at h; cases h
theorem Tr.field' {t : TypeId} {xs : List DV} {d : DataW H} (r : Tr P t xs d) {fs : Array Field} (ht : P.underlying t = some (.struct fs)) {i : Nat} {f : Field} (hf : fs[i]? = some f) : ∃ d', Tr P f.type ((xs.drop f.offset).take (P.cellsOf f.type)) d' ∧ K.B d' ≤ K.B d := by
 obtain ⟨ps, x, rfl, hx, h⟩ := r.field ht hf
 exact ⟨x, h, K.part _ _ hx⟩
def fieldAt (P : Program) (t : TypeId) (i : Nat) : Option (Nat × TypeId × Nat) := match P.underlying t with
 | some (.struct fs) => fs[i]?.map fun f => (f.offset, f.type, P.cellsOf f.type)
 | _ => none
theorem Tr.at {t : TypeId} {xs : List DV} {d : DataW H} (r : Tr P t xs d) (i off : Nat) (ty : TypeId) (n : Nat) (h : fieldAt P t i = some (off, ty, n)) : ∃ d', Tr P ty ((xs.drop off).take n) d' ∧ K.B d' ≤ K.B d := by
 unfold fieldAt at h
 split at h
 ·rename_i fs ht
  obtain ⟨f, hf, h⟩ := Option.map_eq_some_iff.1 h
  cases h
  exact r.field' ht hf
 ·cases h
theorem byt_of {xss : List (List DV)} (h : ∀ x ∈ xss, ∃ n, x = [.int .u8 n] ∧ (Lit.int .u8 n).wf = true) : ∃ s, xss = byt s ∧ s.length = xss.length := by
 induction xss with
 | nil => exact ⟨[], rfl, rfl⟩
 | cons x l ih =>
  obtain ⟨s, rfl, hs⟩ := ih fun y hy => h y (List.mem_cons_of_mem _ hy)
  obtain ⟨n, rfl, hn⟩ := h x (List.mem_cons_self ..)
  have hx : 0 ≤ n ∧ n ≤ 255 := by simpa [Lit.wf, IntKind.min, IntKind.max, IntKind.signed, IntKind.bits] using hn
  refine ⟨UInt8.ofNat n.toNat :: s, ?_, by simp [hs]⟩
  show _ = [DV.int .u8 (UInt8.ofNat n.toNat).toNat] :: byt s
  rw [UInt8.toNat_ofNat']
  congr 3
  omega
theorem Tr.bytes {t e : TypeId} {xs : List DV} {d : DataW H} (r : Tr P t xs d) (ht : P.underlying t = some (.slice e)) (he : P.underlying e = some (.int .u8)) : ∃ s, xs = [.fz (byt s)] ∧ s.length ≤ K.B d := by
 obtain ⟨xss, rfl, hl, hx⟩ := r.elems' (K := K) ht
 obtain ⟨s, rfl, hs⟩ := byt_of fun x h => let ⟨d', h1, _⟩ := hx x h; h1.int' he
 exact ⟨s, rfl, by omega⟩
end
end Go.Dv
end
section
namespace Go.Dv
open Go.ChangeShapes Go.WideShapes Go.ChangeAt Go.RowKit
section
variable [Pv.Glob] [DGlob]
def aggT (P : Program) (t : TypeId) : Bool := match P.underlying t with
 | some (.struct _) => true
 | some (.array _ _) => true
 | _ => false
def ArgT (P : Program) {H : Type} (t : TypeId) (d : DataW H) (x : DV) : Prop := ∃ xs, Tr P t xs d ∧ match aggT P t with
 | true => x = .agg xs
 | false => xs = [x]
def ArgsT (P : Program) {H : Type} : List TypeId → List (DataW H) → List DV → Prop
 | [], [], [] => True
 | t :: ts, d :: ds, x :: xs => ArgT P t d x ∧ ArgsT P ts ds xs
 | _, _, _ => False
theorem ArgsT.nil_inv {P : Program} {H : Type} {ds : List (DataW H)} {xs : List DV} (h : ArgsT P [] ds xs) : ds = [] ∧ xs = [] := by
 cases ds <;> cases xs <;> first | exact ⟨rfl, rfl⟩ | exact h.elim
theorem ArgsT.cons_inv {P : Program} {H : Type} {t : TypeId} {ts : List TypeId} {ds : List (DataW H)} {xs : List DV} (ha : aggT P t = true) (h : ArgsT P (t :: ts) ds xs) : ∃ d ds' cs xs', ds = d :: ds' ∧ xs = .agg cs :: xs' ∧ Tr P t cs d ∧ ArgsT P ts ds' xs' := by
 cases ds with
 | nil => exact h.elim
 | cons d ds =>
  cases xs with
  | nil => exact h.elim
  | cons x xs =>
   obtain ⟨⟨cs, h1, h3⟩, h2⟩ := h
   rw [ha] at h3
   have h3 : x = .agg cs := h3
   subst h3
   exact ⟨d, ds, cs, xs, rfl, rfl, h1, h2⟩
theorem ArgsT.one_inv {P : Program} {H : Type} {t : TypeId} {ts : List TypeId} {ds : List (DataW H)} {xs : List DV} (ha : aggT P t = false) (h : ArgsT P (t :: ts) ds xs) : ∃ d ds' x xs', ds = d :: ds' ∧ xs = x :: xs' ∧ Tr P t [x] d ∧ ArgsT P ts ds' xs' := by
 cases ds with
 | nil => exact h.elim
 | cons d ds =>
  cases xs with
  | nil => exact h.elim
  | cons x xs =>
   obtain ⟨⟨cs, h1, h3⟩, h2⟩ := h
   rw [ha] at h3
   have h3 : cs = [x] := h3
   subst h3
   exact ⟨d, ds, x, xs, rfl, rfl, h1, h2⟩
theorem cells_agg {F : Fz} {x : Value} {xs : List DV} (hv : VDs F [] xs x.cells.toList) (hl : xs.length ≠ 1) : VD F [] (.agg xs) x := by
 cases x with
 | agg cs => exact .agg _ _ _ hv
 | _ => exact (hl hv.length).elim
theorem args_trees {P : Program} {H : Type} {h : Pv.Heap} {F : Fz} (hF : ∀ (j : Nat) (b : Pv.Blk), h[j]? = some b → b.live = true → F j = some (b.row, b.cells)) : ∀ (ts : List TypeId) (ds : List (DataW H)) (xs : List Value),
  (∀ t ∈ ts, aggT P t = true → P.cellsOf t ≠ 1) → (∀ (j : Nat) t x, ts[j]? = some t → xs[j]? = some x → aggT P t = false → x.oneCell' = true) → ts.length = ds.length → ts.length = xs.length →
  (∀ (j : Nat) t d, ts[j]? = some t → ds[j]? = some d → ∃ x, xs[j]? = some x ∧ Pv.Rep P h t x.cells.toList d) → ∃ trees, VDs F [] trees xs ∧ ArgsT P ts ds trees
 | [], [], [], _, _, _, _, _ => ⟨[], .nil _, trivial⟩
 | t :: ts, d :: ds, x :: xs, hsz, ho, h1, h2, hr => by
  obtain ⟨x', hx, hrep⟩ := hr 0 t d rfl rfl
  cases hx
  obtain ⟨ys, hv, htr⟩ := Rep.tree hF hrep
  obtain ⟨trees, hvs, hts⟩ := args_trees hF ts ds xs (fun t h => hsz t (by simp [h])) (fun j t x a b => ho (j + 1) t x (by simpa using a) (by simpa using b)) (by simpa using h1) (by simpa using h2) (fun j t d a b => hr (j + 1) t d (by simpa using a) (by simpa using b))
  cases ha : aggT P t with
  | true =>
   have hl : ys.length ≠ 1 := by
    have h3 := hsz t (by simp) ha
    unfold aggT at ha
    cases htr with
    | struct t fs' xs parts ht hc hrow hn he => rw [hc]; exact h3
    | array t e n xs parts h hc hk hn he => rw [hc]; exact h3
    | bool t b h => rw [h] at ha; cases ha
    | int t k n h => rw [h] at ha; cases ha
    | str t s h => rw [h] at ha; cases ha
    | nil t e h => rw [h] at ha; cases ha
    | slice t e xss elems rest h => rw [h] at ha; cases ha
   exact ⟨.agg ys :: trees, .cons _ _ _ _ _ (cells_agg hv hl) hvs, ⟨ys, htr, by rw [ha]⟩, hts⟩
  | false =>
   have h3 := ho 0 t x rfl rfl ha
   have h4 : x.cells = #[x] := by cases x <;> first | rfl | simp [Value.oneCell'] at h3
   rw [h4] at hv
   cases hv with
   | cons _ y _ _ _ hy hn =>
    cases hn
    exact ⟨y :: trees, .cons _ _ _ _ _ hy hvs, ⟨[y], htr, by rw [ha]⟩, hts⟩
 | [], _ :: _, _, _, _, h, _, _ => by simp at h
 | _ :: _, [], _, _, _, h, _, _ => by simp at h
 | [], [], _ :: _, _, _, _, h, _ => by simp at h
 | _ :: _, _ :: _, [], _, _, _, h, _ => by simp at h
theorem fot_one {P : Program} {w : World} {m : Nat} {t : TypeId} {v : Value} {r : Reach} {base : Nat} (hm : Pv.fot P m t = true) (hok : Value.okWide P w r base t v) (ha : aggT P t = false) : v.oneCell' = true := by
 rcases Pv.fot_form hm hok with ⟨cs, rfl⟩ | ⟨h1, h2⟩
 ·exfalso
  cases m with
  | zero => exact Bool.noConfusion hm
  | succ m =>
   unfold Pv.fot at hm
   unfold Value.okWide at hok
   unfold aggT at ha
   split at hm
   ·rename_i hu
    rw [hu] at hok
    simp only [Cell.okWide, hu, Cell.ok] at hok
    try simp at hok
   ·rename_i k hu
    rw [hu] at hok
    simp only [Cell.okWide, hu, Cell.ok] at hok
    try simp at hok
   ·rename_i hu
    rw [hu] at hok
    simp only [Cell.okWide, hu, Cell.ok] at hok
    try simp at hok
   ·rename_i e' hu
    rw [hu] at hok
    simp only [Cell.okWide, hu, Cell.ok] at hok
    try simp at hok
   ·rename_i fs hu
    rw [hu] at ha
    cases ha
   ·rename_i n e' hu
    rw [hu] at ha
    cases ha
   ·cases hm
 ·exact h1
theorem trodAll_len {H : Type} {enc : TypeId × Value → H} {P : Program} {w : World} {base : Nat} {sp : Nat → Bool} {hd : Bool} : ∀ {ts : List TypeId} {vs : List Value} {ds : List (DataW H)} {ps : List MemPlace}, DataW.TrodAll enc P w base sp hd ts vs ds ps → ts.length = vs.length ∧ ts.length = ds.length
 | [], [], [], _, _ => ⟨rfl, rfl⟩
 | _ :: _, _ :: _, _ :: _, _, ⟨_, _, _, h, _⟩ => by
  obtain ⟨h1, h2⟩ := trodAll_len h
  exact ⟨by simp [h1], by simp [h2]⟩
 | [], _ :: _, _, _, h => h.elim
 | [], [], _ :: _, _, h => h.elim
 | _ :: _, [], _, _, h => h.elim
 | _ :: _, _ :: _, [], _, h => h.elim
theorem trodAll_below {H : Type} {enc : TypeId × Value → H} {P : Program} (hl : laidOutB P = true) {W W' : World} (hb : Below W.heap.size W W') : ∀ {ts : List TypeId} {vs : List Value} {ds : List (DataW H)} {ps : List MemPlace}, (∀ t ∈ ts, P.readableRec t = true ∧ t < P.types.size) →
  DataW.TrodAll enc P W 0 (fun _ => true) true ts vs ds ps → (∀ x ∈ ps, x.block < W.heap.size) → DataW.TrodAll enc P W' 0 (fun b => decide (b < W.heap.size)) true ts vs ds ps
 | [], [], [], _, _, h, _ => h
 | t :: ts, v :: vs, d :: ds, _, hr, ⟨p, q, h1, h2, e⟩, hlt => by
  subst e
  exact ⟨p, q, Below.trod hl (hr t (by simp)).1 (hr t (by simp)).2 h1 hb fun x hx => hlt x (by simp [hx]), trodAll_below hl hb (fun t h => hr t (by simp [h])) h2 fun x hx => hlt x (by simp [hx]), rfl⟩
 | [], _ :: _, _, _, _, h, _ => h.elim
 | [], [], _ :: _, _, _, h, _ => h.elim
 | _ :: _, [], _, _, _, h, _ => h.elim
 | _ :: _, _ :: _, [], _, _, h, _ => h.elim
theorem law_core {H : Type} {enc : TypeId × Value → H} {P : Program} {T : DTab} {T' : Pv.Tab} (hgl : ∀ g, Pv.Glob.ix g = none) (hdg : ∀ g, DGlob.cells g = none) (hT : Pv.TabOK P T') (hD : TabD T T') {f : FuncId} {fn : Func} (hs : T'.spec f = none) (hfn : T'.fn f = some fn) (hown : T.own f = []) (hlaid : laidOutB P = true) {tb : TypeId} (hrt : fn.resultTypes = #[tb]) (htb : P.underlying tb = some .bool)
  (hfot : ∀ t ∈ fn.params.toList, Pv.fot P 20 t = true) (hread : ∀ t ∈ fn.params.toList, P.readableRec t = true ∧ t < P.types.size) (hsz : ∀ t ∈ fn.params.toList, aggT P t = true → P.cellsOf t ≠ 1)
  {s : ChangeSpec} (hvars : s.vars = []) {W : World} {base : Nat} {args : Array Value} {ds gs : List (DataW H)} {before : List MemPlace} (hval : ∀ (j : Nat) t v, fn.params[j]? = some t → args[j]? = some v → Value.okWide P W .any base t v)
  (hW : DataW.Whole enc P fn.params.toList s.vars false W args.toList ds gs before) (hg : ∃ (g : Nat) (cs : Array Value) (e : TypeId) (fr : Nat × Nat), W.heap[g]? = some (.cells cs e fr))
  (hres : (s.fn H ds).results = [.lit (.bool true)]) (harg : (s.fn H ds).args = ds) (hvr : (s.fn H ds).vars = [])
  (law : ∀ trees, ArgsT P fn.params.toList ds trees → Lx P T f trees (S.ret (.bool true))) :
  Calls P f args W fun e W' => ∃ v, e = .returned v ∧ s.post enc P fn false true false false W args v W' := by
 have hW' := hW
 obtain ⟨p, q, hA, hV, hbef, hfz, hnd⟩ := hW
 rw [hvars] at hV
 have hgs : gs = [] ∧ q = [] := by
  cases gs with
  | nil => exact ⟨rfl, hV⟩
  | cons g gs => exact hV.elim
 obtain ⟨rfl, rfl⟩ := hgs
 rw [List.append_nil] at hbef
 subst hbef
 obtain ⟨hl1, hl2⟩ := trodAll_len hA
 obtain ⟨ρ, h, xs, _, _, hro, hr, hv, hreps⟩ := Pv.open_args hg fn.params.toList args.toList ds _ hfot (fun j t v a b => hval j t v (by simpa using a) (by simpa using b)) hA [] [] Pv.HRel.empty (fun b hb => by simp at hb)
 obtain ⟨trees, hvt, hts⟩ := args_trees (F := allF h) (fun j b hb hl => allF_mem hb hl) fn.params.toList ds xs hsz (fun j t x h1 h2 h3 => by
  obtain ⟨y, hy, hxy⟩ := hv.get h2
  have h4 := fot_one (hfot t (List.mem_of_getElem? h1)) (hval j t y (by simpa using h1) (by simpa using hy)) h3
  cases hxy <;> first | rfl | exact h4) hl2 (by rw [hl1, hv.length]) hreps
 have hcall := law_calls hT hD hs hfn hown (w := W) (ys := args.toList) (fun g i e => by rw [hgl] at e; cases e) (fun g cs e => by rw [hdg] at e; cases e) hr hro hv hvt (law trees hts)
 have hcall2 : Calls P f args W fun ex w' => ex = .returned (.bool true) ∧ RowKit.Below W.heap.size W w' := callsIn_wide.1 hcall
 refine hcall2.mono fun e W' ⟨he, hb⟩ => ?_
 subst he
 have hlt : ∀ x ∈ before, x.block < W.heap.size := hW'.lt
 refine ⟨_, rfl, ds, [], before, [], before, [], hW', ?_, ?_, ?_, hb.frame _, fun hh => by cases hh⟩
 ·rw [List.append_nil, hres, hrt]
  exact trodAll_cons_mk (shut_bool htb _) trodAll_mk0
 ·rw [List.append_nil, harg]
  exact trodAll_below hlaid hb hread hA hlt
 ·rw [List.append_nil, hvr, hvars]
  exact rfl
end
end Go.Dv
end
section
namespace Go.Pv
inductive Xt where
 | indexByte
 | compare
 | add64
 | sub64
def addE (s : Bool) : Array Value → Sem Value := match s with
 | true => add64Entry
 | false => fun args => do
  let (x, y, b) ← Extern.MathBitsCarry.three "Sub64" args
  pure (Extern.MathBitsCarry.pair ((x + Extern.MathBitsCarry.m64 - y - b) % Extern.MathBitsCarry.m64) (if x < y + b then 1 else 0))
def Xt.entry : Xt → Array Value → Sem Value
 | .indexByte => Extern.BytealgIndexByte.indexByte
 | .compare => Extern.BytealgCompare.compare
 | .add64 => addE true
 | .sub64 => addE false
def byteArg (h : Heap) : Value → Option (List UInt8)
 | .string s => some s.data.toList
 | .slice none _ _ => some []
 | .slice (some a) n _ => (addrOf (some a)).bind fun p => (hcells h p.1 p.2 n).bind toBytes
 | _ => none
def carry (x y c : Int) : Bool := decide (0 ≤ x) && decide (0 ≤ y) && decide (0 ≤ c) && decide (c ≤ 1)
def sum64 (x y c : Int) : Int × Int := ((x + y + c) % 18446744073709551616, (x + y + c) / 18446744073709551616)
def dif64 (x y b : Int) : Int × Int := ((x.toNat + 18446744073709551616 - y.toNat - b.toNat : Nat) % 18446744073709551616, if x < y + b then 1 else 0)
def Xt.val : Xt → Heap → List Value → Option Value
 | .indexByte, h, [x, .int .u8 c] => (byteArg h x).bind fun b => some (.int .i64 (Lib.indexByte b c.toNat.toUInt8))
 | .compare, h, [x, y] => (byteArg h x).bind fun a => (byteArg h y).bind fun b => some (.int .i64 (Lib.compareBytes a b))
 | .add64, _, [.int .u64 x, .int .u64 y, .int .u64 c] => bif carry x y c then some (.tuple ⟨[.int .u64 (sum64 x y c).1, .int .u64 (sum64 x y c).2]⟩) else none
 | .sub64, _, [.int .u64 x, .int .u64 y, .int .u64 c] => bif carry x y c then some (.tuple ⟨[.int .u64 (dif64 x y c).1, .int .u64 (dif64 x y c).2]⟩) else none
 | _, _, _ => none
def Xt.spec (e : Xt) : List Value → Heap → Option (Res × Heap) := fun xs h => (e.val h xs).bind fun v => some (.ret v, h)
section
variable [Glob] {P : Program} {ρ : Rho} {w : World} {h : Heap}
theorem byteArg_ok (hr : HRel P ρ h w) {x y : Value} (hv : VR ρ x y) {bs : List UInt8} (e : byteArg h x = some bs) : (Extern.Bytes.bytesOf y).run P w = .ok ⟨⟨bs⟩⟩ w := by
 cases hv <;> simp only [byteArg] at e <;> try (cases e; done)
 case string s => cases e; rfl
 case nilSlice => cases e; rfl
 case slice id off n c c' rb hat hn hc hm hu =>
  replace e := Option.bind_eq_some_iff.1 e
  obtain ⟨p, hp, e⟩ := e
  cases addrOf_eq hp
  replace e := Option.bind_eq_some_iff.1 e
  obtain ⟨cs, hcs, e⟩ := e
  obtain ⟨ys, hl, hv, h1, hcell⟩ := hcells_rel (st := ⟨[], [], h⟩) hr hat hcs
  obtain ⟨ns, rfl, rfl⟩ := toBytes_eq e
  obtain rfl := VRs.ints hv
  have hk := Lib.run_loadBytesX (P := P) w ns ⟨rb.b, rb.base + p.2, none⟩ .empty (fun j x hj => hcell j _ (by rw [List.getElem?_map, hj]; rfl))
  have hl' : ns.length = n := by simpa using hl
  rw [hl'] at hk
  show (Extern.Bytes.loadBytes ⟨rb.b, rb.base + p.2, none⟩ n .empty).run P w = _
  rw [hk]
  simp [Lib.bytesOf, ByteArray.empty, ByteArray.emptyWithCapacity]
  rfl
 case empty id off A rb hat =>
  replace e := Option.bind_eq_some_iff.1 e
  obtain ⟨p, hp, e⟩ := e
  cases addrOf_eq hp
  replace e := Option.bind_eq_some_iff.1 e
  obtain ⟨cs, hcs, e⟩ := e
  obtain ⟨ys, hl, hv, h1, hcell⟩ := hcells_rel (st := ⟨[], [], h⟩) hr hat hcs
  have : cs = [] := List.eq_nil_of_length_eq_zero (by rw [hv.length]; exact hl)
  subst this
  cases e
  rfl
theorem run_sub64 (x y b : Nat) (hb : b ≤ 1) (w : World) :
  (addE false #[.int .u64 x, .int .u64 y, .int .u64 b]).run P w =
   .ok (.tuple #[.int .u64 (((x + 18446744073709551616 - y - b) % 18446744073709551616 : Nat) : Int), .int .u64 ((if x < y + b then 1 else 0 : Nat) : Int)]) w := by
 have : b = 0 ∨ b = 1 := by omega
 rcases this with rfl | rfl <;> rfl
theorem carry_ok {x y c : Int} (h : carry x y c = true) : 0 ≤ x ∧ 0 ≤ y ∧ 0 ≤ c ∧ c ≤ 1 := by
 simp only [carry, Bool.and_eq_true, decide_eq_true_eq] at h
 exact ⟨h.1.1.1, h.1.1.2, h.1.2, h.2⟩
theorem Xt.run (e : Xt) (hr : HRel P ρ h w) {xs ys : List Value} (hv : VRs ρ xs ys) {v : Value} (he : e.val h xs = some v) : (e.entry ⟨ys⟩).run P w = .ok v w ∧ VR ρ v v := by
 unfold Xt.val at he
 split at he
 ·rename_i x c
  obtain ⟨b, hb, he⟩ := Option.bind_eq_some_iff.1 he
  cases he
  cases hv with | cons _ y _ _ h1 t =>
  cases t with | cons _ y2 _ _ h2 t =>
  cases t
  cases h2
  refine ⟨?_, .int _ _⟩
  have h3 := byteArg_ok hr h1 hb
  have h4 := Lib.run_indexByteString (P := P) ⟨⟨b⟩⟩ c w
  change Sem.run P (do
   let b ← Extern.Bytes.bytesOf y
   let c' ← Extern.Bytes.asByte (.int .u8 c)
   match (List.range b.size).find? fun i => b[i]! == c' with
   | some i => pure (goInt i)
   | none => pure (goInt (-1))) w = _
  change Sem.run P (do
   let b ← Extern.Bytes.bytesOf (.string ⟨⟨b⟩⟩)
   let c' ← Extern.Bytes.asByte (.int .u8 c)
   match (List.range b.size).find? fun i => b[i]! == c' with
   | some i => pure (goInt i)
   | none => pure (goInt (-1))) w = _ at h4
  simp only [Sem.run_bind, h3, Result.andThen] at h4 ⊢
  exact h4
 ·rename_i x y
  obtain ⟨a, ha, he⟩ := Option.bind_eq_some_iff.1 he
  obtain ⟨b, hb, he⟩ := Option.bind_eq_some_iff.1 he
  cases he
  cases hv with | cons _ y1 _ _ h1 t =>
  cases t with | cons _ y2 _ _ h2 t =>
  cases t
  refine ⟨?_, .int _ _⟩
  have h3 := byteArg_ok hr h1 ha
  have h4 := byteArg_ok hr h2 hb
  change Sem.run P (do pure (goInt (Extern.BytealgCompare.cmp (← Extern.Bytes.bytesOf y1) (← Extern.Bytes.bytesOf y2)))) w = _
  simp only [Sem.run_bind, h3, h4, Result.andThen, Sem.run_pure]
  rw [Lib.cmp_eq]
  rfl
 ·rename_i x y c
  obtain ⟨hc, he⟩ := bif_some he
  cases he
  obtain ⟨h1, h2, h3, h4⟩ := carry_ok hc
  cases hv with | cons _ y1 _ _ v1 t =>
  cases t with | cons _ y2 _ _ v2 t =>
  cases t with | cons _ y3 _ _ v3 t =>
  cases t
  cases v1; cases v2; cases v3
  exact ⟨run_add64 x y c h1 h2 h3 h4 w, .tuple _ _ (.cons _ _ _ _ (.int _ _) (.cons _ _ _ _ (.int _ _) .nil))⟩
 ·rename_i x y c
  obtain ⟨hc, he⟩ := bif_some he
  cases he
  obtain ⟨h1, h2, h3, h4⟩ := carry_ok hc
  cases hv with | cons _ y1 _ _ v1 t =>
  cases t with | cons _ y2 _ _ v2 t =>
  cases t with | cons _ y3 _ _ v3 t =>
  cases t
  cases v1; cases v2; cases v3
  refine ⟨?_, .tuple _ _ (.cons _ _ _ _ (.int _ _) (.cons _ _ _ _ (.int _ _) .nil))⟩
  obtain ⟨X, rfl⟩ := Int.eq_ofNat_of_zero_le h1
  obtain ⟨Y, rfl⟩ := Int.eq_ofNat_of_zero_le h2
  obtain ⟨C, rfl⟩ := Int.eq_ofNat_of_zero_le h3
  refine (run_sub64 X Y C (by omega) w).trans ?_
  simp only [dif64, Int.toNat_natCast]
  congr 5
  ·by_cases hh : X < Y + C
   ·rw [if_pos hh, if_pos (by omega)]; rfl
   ·rw [if_neg hh, if_neg (by omega)]; rfl
 ·cases he
theorem Left.same (hr : HRel P ρ h w) (hg : GOK ρ) {v y : Value} (hv : VR ρ v y) : Left P ρ h w (v, h) y ρ w where
 ext := .refl ρ
 hr := hr
 v := hv
 f := ⟨rfl, rfl, rfl, Nat.le_refl _, fun _ _ _ => rfl⟩
 n :=
  have s := (Rel.start (P := P) hg hr (xs := []) (ys := []) .nil default).n
  ⟨s.wh, fun d cs e b hd => by simp at hd, s.wn, s.len, s.liv, s.wo⟩
theorem Xt.xok {f : FuncId} {fn : Func} (e : Xt) (hf : P.funcs[f]? = some fn) (hname : (fn.name == "runtime.NumGoroutine") = false) (hb : fn.body.isNone = true) (hn : Extern.findNext fn = none) (he : Extern.find fn = some e.entry) :
  XOK P fun t xs h => match t with
   | .fn g => if g = f then e.spec xs h else none
   | .yield _ => none := by
 intro t xs h r hx ρ w ys s hg hr hv ht
 cases t with
 | yield l => cases hx
 | fn g =>
  replace hx : (if g = f then e.spec xs h else none) = some r := hx
  by_cases hgf : g = f
  ·subst hgf
   rw [if_pos rfl] at hx
   obtain ⟨v, h1, h2⟩ := Option.bind_eq_some_iff.1 hx
   cases h2
   obtain ⟨h3, h4⟩ := e.run hr hv h1
   replace ht : s = callFunc g ⟨ys⟩ := ht
   subst ht
   intro ro o a next Q hnext _
   rw [run_callFunc_extern hf hname hb hn he, h3]
   exact hnext v w ⟨v, ρ, rfl, Left.same hr hg h4⟩
  ·rw [if_neg hgf] at hx
   cases hx
end
end Go.Pv
namespace Go.Dv
open Go.Pv (Xt Heap)
def byteArg : DV → Option (List UInt8)
 | .str s => some s
 | x => bif isSl x then (news [] 1 x).bind fun q => toBytes q.2 else none
def Xt.val : Xt → List DV → Option DV
 | .indexByte, [x, .int .u8 c] => (byteArg x).bind fun b => some (.int .i64 (Lib.indexByte b c.toNat.toUInt8))
 | .compare, [x, y] => (byteArg x).bind fun a => (byteArg y).bind fun b => some (.int .i64 (Lib.compareBytes a b))
 | .add64, [.int .u64 x, .int .u64 y, .int .u64 c] => bif Pv.carry x y c then some (.tup [.int .u64 (Pv.sum64 x y c).1, .int .u64 (Pv.sum64 x y c).2]) else none
 | .sub64, [.int .u64 x, .int .u64 y, .int .u64 c] => bif Pv.carry x y c then some (.tup [.int .u64 (Pv.dif64 x y c).1, .int .u64 (Pv.dif64 x y c).2]) else none
 | _, _ => none
section
variable [Pv.Glob] [DGlob] {F : Fz} {μ : Mu} {h : Heap}
theorem byteArg_rel (i : DInv F μ [] h) {x : DV} {y : Value} (hx : VD F μ x y) {bs : List UInt8} (e : byteArg x = some bs) : Pv.byteArg h y = some bs := by
 have key : ∀ x : DV, VD F μ x y → (bif isSl x then (news [] 1 x).bind fun q => toBytes q.2 else none) = some bs → Pv.byteArg h y = some bs := by
  intro x hx e
  obtain ⟨hs, e⟩ := Pv.bif_some e
  obtain ⟨q, hq, e⟩ := Option.bind_eq_some_iff.1 e
  obtain ⟨A, n, c, rfl, hqn, hA⟩ := news_rel i hx hs hq
  rcases hA with ⟨rfl, rfl, rfl, hq2⟩ | ⟨j, off, cs', rfl, h10, h11⟩
  ·rw [hq2] at e; cases e; rfl
  ·rw [Nat.mul_one] at h10
   simp only [Pv.byteArg, Pv.addrOf, Option.isNone_none, cond_true, Option.bind_some, h10, toBytes_rel h11 e]
 cases x <;> try exact key _ hx e
 cases e
 cases hx
 rfl
theorem Xt.rel (e : Xt) (i : DInv F μ [] h) {xs : List DV} {ys : List Value} (hv : VDs F μ xs ys) {v : DV} (he : Xt.val e xs = some v) : ∃ w, e.val h ys = some w ∧ VD F μ v w := by
 unfold Xt.val at he
 split at he
 ·obtain ⟨b, hb, he⟩ := Option.bind_eq_some_iff.1 he
  cases he
  cases hv with | cons _ _ y _ _ h1 t =>
  cases t with | cons _ _ y2 _ _ h2 t =>
  cases t
  cases h2
  exact ⟨_, by simp only [Pv.Xt.val, byteArg_rel i h1 hb, Option.bind_some], .int _ _ _⟩
 ·obtain ⟨a, ha, he⟩ := Option.bind_eq_some_iff.1 he
  obtain ⟨b, hb, he⟩ := Option.bind_eq_some_iff.1 he
  cases he
  cases hv with | cons _ _ y _ _ h1 t =>
  cases t with | cons _ _ y2 _ _ h2 t =>
  cases t
  exact ⟨_, by simp only [Pv.Xt.val, byteArg_rel i h1 ha, byteArg_rel i h2 hb, Option.bind_some], .int _ _ _⟩
 ·obtain ⟨hc, he⟩ := Pv.bif_some he
  cases he
  cases hv with | cons _ _ y _ _ h1 t =>
  cases t with | cons _ _ y2 _ _ h2 t =>
  cases t with | cons _ _ y3 _ _ h3 t =>
  cases t
  cases h1; cases h2; cases h3
  exact ⟨_, by simp only [Pv.Xt.val, hc, cond_true], .tup _ _ _ (.cons _ _ _ _ _ (.int _ _ _) (.cons _ _ _ _ _ (.int _ _ _) (.nil _)))⟩
 ·obtain ⟨hc, he⟩ := Pv.bif_some he
  cases he
  cases hv with | cons _ _ y _ _ h1 t =>
  cases t with | cons _ _ y2 _ _ h2 t =>
  cases t with | cons _ _ y3 _ _ h3 t =>
  cases t
  cases h1; cases h2; cases h3
  exact ⟨_, by simp only [Pv.Xt.val, hc, cond_true], .tup _ _ _ (.cons _ _ _ _ _ (.int _ _ _) (.cons _ _ _ _ _ (.int _ _ _) (.nil _)))⟩
 ·cases he
theorem Xt.sound (e : Xt) {xs : List DV} {v : DV} (he : Xt.val e xs = some v) {ys : List Value} (i : DInv F μ [] h) (hv : VDs F μ xs ys) : ∃ F' w h', e.spec ys h = some (.ret w, h') ∧ DInv F' μ [] h' ∧ VD F' μ v w ∧ Ext F μ h F' μ h' := by
 obtain ⟨w, h1, h2⟩ := Xt.rel e i hv he
 exact ⟨F, w, h, by simp only [Pv.Xt.spec, h1, Option.bind_some], i, h2, .refl F μ h⟩
end
end Go.Dv
end
section
namespace Go.Dv
open Go.Pv (LoopRec PExit idx upTo)
open Go.Dv.S
namespace Sx
theorem w64 {x : Int} (h : -9223372036854775808 ≤ x ∧ x < 9223372036854775808) : IntKind.i64.wrap x = x := by
 simp only [IntKind.wrap, IntKind.bits, IntKind.signed]
 simp
 omega
theorem wu8 {x : Int} (h : 0 ≤ x ∧ x < 256) : IntKind.u8.wrap x = x := by
 simp only [IntKind.wrap, IntKind.bits, IntKind.signed]
 simp
 omega
theorem wu8m {x : Int} : IntKind.u8.wrap x = x % 256 := by
 simp only [IntKind.wrap, IntKind.bits, IntKind.signed]
 simp
theorem idxI {i : Int} {n : Nat} (h : 0 ≤ i ∧ i < n) : idx i n = some i.toNat := by
 obtain ⟨k, rfl⟩ := Int.eq_ofNat_of_zero_le h.1
 have : k < n := by omega
 show (bif Nat.blt k n then some k else none) = some k
 have : Nat.blt k n = true := by simpa using this
 rw [this, cond_true]
theorem upI {i : Int} {n : Nat} (h : 0 ≤ i ∧ i ≤ n) : upTo i n = some i.toNat := by
 obtain ⟨k, rfl⟩ := Int.eq_ofNat_of_zero_le h.1
 have : k ≤ n := by omega
 show (bif Nat.ble k n then some k else none) = some k
 rw [Nat.ble_eq_true_of_le this, cond_true]
theorem bleT {a b : Nat} (h : a ≤ b) : Nat.ble a b = true := Nat.ble_eq_true_of_le h
theorem bleF {a b : Nat} (h : b < a) : Nat.ble a b = false := Bool.eq_false_iff.2 fun e => by have := Nat.le_of_ble_eq_true e; omega
theorem beqT {a b : Nat} (h : a = b) : Nat.beq a b = true := by rw [h]; exact Nat.beq_refl b
theorem beqF {a b : Nat} (h : a ≠ b) : Nat.beq a b = false := Bool.eq_false_iff.2 fun e => h (Nat.eq_of_beq_eq_true e)
theorem bltT {a b : Nat} (h : a < b) : Nat.blt a b = true := by simpa using h
theorem bltF {a b : Nat} (h : b ≤ a) : Nat.blt a b = false := by
 rw [Bool.eq_false_iff]
 intro e
 have : a < b := by simpa using e
 omega
theorem ltT {a b : Int} (h : a < b) : decide (a < b) = true := decide_eq_true h
theorem ltF {a b : Int} (h : b ≤ a) : decide (a < b) = false := decide_eq_false (by omega)
theorem leT {a b : Int} (h : a ≤ b) : decide (a ≤ b) = true := decide_eq_true h
theorem leF {a b : Int} (h : b < a) : decide (a ≤ b) = false := decide_eq_false (by omega)
theorem gtT {a b : Int} (h : b < a) : decide (a > b) = true := decide_eq_true h
theorem gtF {a b : Int} (h : a ≤ b) : decide (a > b) = false := decide_eq_false (by omega)
theorem geT {a b : Int} (h : b ≤ a) : decide (a ≥ b) = true := decide_eq_true h
theorem geF {a b : Int} (h : a < b) : decide (a ≥ b) = false := decide_eq_false (by omega)
theorem eqT {a b : Int} (h : a = b) : (a == b) = true := by rw [h]; exact beq_self_eq_true b
theorem eqF {a b : Int} (h : a ≠ b) : (a == b) = false := beq_eq_false_iff_ne.2 h
theorem neT {a b : Int} (h : a ≠ b) : (a != b) = true := by simpa using h
theorem neF {a b : Int} (h : a = b) : (a != b) = false := by simpa using h
theorem ofN (n : Nat) : Int.ofNat n = (n : Int) := rfl
theorem castN {n : Nat} : ((no_index (OfNat.ofNat n) : Nat) : Int) = OfNat.ofNat n := rfl
theorem tn (n : Nat) : ((n : Int)).toNat = n := rfl
theorem tn1 (n : Nat) : ((n : Int) + 1).toNat = n + 1 := rfl
theorem tnL {n : Nat} : Int.toNat (no_index (OfNat.ofNat n)) = OfNat.ofNat n := rfl
theorem uncC (x : DV) (xs : List DV) : unc (x :: xs) = some (x, xs) := rfl
theorem toI (k : IntKind) (n : Int) : toInt k (.int k n) = some n := by
 show (bif decide (k = k) then some n else none) = some n
 simp
theorem toF (l : List (List DV)) : toFz (.fz l) = some l := rfl
theorem toS (s : List UInt8) : toStr (.str s) = some s := rfl
theorem toB (b : Bool) : toBool (.bool b) = some b := rfl
theorem byt_get {s : List UInt8} {j : Nat} (h : j < s.length) : (byt s)[j]? = some [.int .u8 (s.getD j 0).toNat] := by
 simp [byt, h]
theorem ofB_get {s : List UInt8} {j : Nat} (h : j < s.length) : (ofBytes s)[j]? = some (.int .u8 (s.getD j 0).toNat) := by
 simp [ofBytes, h]
theorem byt_take (s : List UInt8) (n : Nat) : (byt s).take n = byt (s.take n) := by simp [byt]
theorem byt_drop (s : List UInt8) (n : Nat) : (byt s).drop n = byt (s.drop n) := by simp [byt]
theorem byt_app (s t : List UInt8) : byt s ++ byt t = byt (s ++ t) := by simp [byt]
theorem ofB_take (s : List UInt8) (n : Nat) : (ofBytes s).take n = ofBytes (s.take n) := by simp [ofBytes]
theorem ofB_drop (s : List UInt8) (n : Nat) : (ofBytes s).drop n = ofBytes (s.drop n) := by simp [ofBytes]
theorem ofB_app (s t : List UInt8) : ofBytes s ++ ofBytes t = ofBytes (s ++ t) := by simp [ofBytes]
theorem ofB_snoc (s : List UInt8) (b : UInt8) : ofBytes s ++ [.int .u8 b.toNat] = ofBytes (s ++ [b]) := by simp [ofBytes]
theorem byt_nil : byt [] = [] := rfl
theorem chunkB {s : List UInt8} {n : Nat} (h : n = s.length) : chunks 1 n (ofBytes s) = byt s := by rw [h]; exact chunks_of s
theorem frozB (s : List UInt8) : frozL (ofBytes s) = some (ofBytes s) := by unfold frozL; rw [ofBytes_froz, cond_true]
theorem takeAll {α : Type} {l : List α} {n : Nat} (h : l.length ≤ n) : l.take n = l := List.take_of_length_le h
theorem dropAll {α : Type} {l : List α} {n : Nat} (h : l.length ≤ n) : l.drop n = [] := List.drop_eq_nil_of_le h
theorem spl_ofB (s : List UInt8) (n : Nat) (t : List UInt8) : splice (ofBytes s) n (ofBytes t) = ofBytes (s.take n ++ t ++ s.drop (n + t.length)) := by
 simp [splice, ofBytes]
theorem spl1 (s : List UInt8) (n : Nat) (b : UInt8) : splice (ofBytes s) n [.int .u8 b.toNat] = ofBytes (s.take n ++ [b] ++ s.drop (n + 1)) := by
 simp [splice, ofBytes]
theorem zeros (n : Nat) : repeatCells [DV.int IntKind.u8 0] n = ofBytes (List.replicate n 0) := by
 induction n with
 | zero => rfl
 | succ n ih => show DV.int IntKind.u8 0 :: repeatCells _ n = _; rw [ih]; rfl
theorem u8_ofI {n : Int} (h : 0 ≤ n ∧ n < 256) : ((UInt8.ofNat n.toNat).toNat : Int) = n := by
 rw [UInt8.toNat_ofNat']
 omega
end Sx
inductive Bq : Type 1 where
 | leaf (r : DRes × DHeap)
 | opt {γ : Type} (o : Option γ) (n : Bq) (f : γ → Bq)
 | cnd (b : Bool) (t e : Bq)
def Bq.run {R : Type} (k : DRes × DHeap → Option R) : Bq → Option R
 | .leaf v => k v
 | .opt o n f => match o with
  | none => n.run k
  | some c => (f c).run k
 | .cnd b t e => bif b then t.run k else e.run k
def Bq.val : Bq → DRes × DHeap
 | .leaf v => v
 | .opt o n f => match o with
  | none => n.val
  | some c => (f c).val
 | .cnd b t e => bif b then t.val else e.val
theorem Bq.run_eq {R : Type} (k : DRes × DHeap → Option R) (b : Bq) : b.run k = k b.val := by
 induction b with
 | leaf v => rfl
 | opt o n f ih ihf => cases o with
  | none => exact ih
  | some c => exact ihf c
 | cnd b t e iht ihe => cases b with
  | true => exact iht
  | false => exact ihe
namespace S
def l1 : List DV → Option (DV)
 | [x] => some (x)
 | _ => none
def l2 : List DV → Option (DV × DV)
 | [x, y] => some (x, y)
 | _ => none
def l3 : List DV → Option (DV × DV × DV)
 | [x, y, z] => some (x, y, z)
 | _ => none
def l4 : List DV → Option (DV × DV × DV × DV)
 | [x, y, z, w] => some (x, y, z, w)
 | _ => none
end S
def sq1 {α : Type} (d1 : DV → Option α) (g : α → Bq) : Spec := fun R xs k => (l1 xs).bind fun p => (d1 p).bind fun a => (g a).run k
def sq3 {α β γ : Type} (d1 : DV → Option α) (d2 : DV → Option β) (d3 : DV → Option γ) (g : α → β → γ → Bq) : Spec := fun R xs k => (l3 xs).bind fun p => (d1 p.1).bind fun a => (d2 p.2.1).bind fun b => (d3 p.2.2).bind fun c => (g a b c).run k
theorem l1_inv {xs : List DV} {p : DV} (h : l1 xs = some p) : xs = [p] := by
 unfold l1 at h
 split at h
 ·cases h; rfl
 ·cases h
theorem l3_inv {xs : List DV} {p : DV × DV × DV} (h : l3 xs = some p) : xs = [p.1, p.2.1, p.2.2] := by
 unfold l3 at h
 split at h
 ·cases h; rfl
 ·cases h
section
variable [DGlob] {P : Program} {T : DTab}
theorem coq1 {α : Type} {fn : FuncId} {d1 : DV → Option α} {g : α → Bq} (h : ∀ x a, d1 x = some a → Lx P T fn [x] (g a).val) : Con P T fn (sq1 d1 g) where
 nat R xs k := by
  unfold sq1
  simp only [Option.bind_assoc, Bq.run_eq, Option.bind_some]
 ok xs r e := by
  unfold sq1 at e
  obtain ⟨p, hp, e⟩ := bnd' e
  rw [l1_inv hp]
  obtain ⟨a, ha, e⟩ := bnd' e
  rw [Bq.run_eq] at e
  cases e
  exact h _ _ ha
theorem coq3 {α β γ : Type} {fn : FuncId} {d1 : DV → Option α} {d2 : DV → Option β} {d3 : DV → Option γ} {g : α → β → γ → Bq} (h : ∀ x a y b z c, d1 x = some a → d2 y = some b → d3 z = some c → Lx P T fn [x, y, z] (g a b c).val) : Con P T fn (sq3 d1 d2 d3 g) where
 nat R xs k := by
  unfold sq3
  simp only [Option.bind_assoc, Bq.run_eq, Option.bind_some]
 ok xs r e := by
  unfold sq3 at e
  obtain ⟨p, hp, e⟩ := bnd' e
  rw [l3_inv hp]
  obtain ⟨a, ha, e⟩ := bnd' e
  obtain ⟨b, hb, e⟩ := bnd' e
  obtain ⟨c, hc, e⟩ := bnd' e
  rw [Bq.run_eq] at e
  cases e
  exact h _ _ _ _ _ _ ha hb hc
end
end Go.Dv
end

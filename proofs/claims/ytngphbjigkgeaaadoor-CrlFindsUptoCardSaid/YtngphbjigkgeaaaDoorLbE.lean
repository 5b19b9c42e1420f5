/- The evaluator of the program's form and its soundness against the model; what trees stand for. Parts: DvSim4, DvSim5, DvSim6, DvTidy, DvSim7, DvSim8, DvSim9. -/
import Derived.Test.YtngphbjigkgeaaaDoorLbD
set_option linter.unusedVariables false
set_option linter.unusedSimpArgs false
set_option linter.unusedSectionVars false
section
namespace Go.Dv
open Go.Pv (TI tiOf idx upTo fieldTI CK kindsOf LoopRec PExit isConst room isYield Slot Box Blk Heap St set_get set_same set_ne get_snoc bif_some bif_none)
variable [Pv.Glob] [DGlob]
theorem unc_some {xs : List DV} {p : DV × List DV} (e : unc xs = some p) : xs = p.1 :: p.2 := by
 cases xs <;> simp only [unc] at e <;> cases e
 rfl
theorem shapeK_some {R : Type} : ∀ (ks : List SK) {x : List DV} {k : List DV → Option R} {r : R}, shapeK ks x k = some r → x.length = ks.length ∧ k x = some r
 | [], x, k, r, e => by
  simp only [shapeK] at e
  obtain ⟨h, e⟩ := bif_some e
  rw [List.isEmpty_iff] at h
  subst h
  exact ⟨rfl, e⟩
 | .int kd :: ks, x, k, r, e => by
  simp only [shapeK] at e
  obtain ⟨p, h0, e⟩ := Option.bind_eq_some_iff.1 e
  obtain ⟨n, h1, h2⟩ := Option.bind_eq_some_iff.1 e
  obtain ⟨h3, h4⟩ := shapeK_some ks h2
  rw [unc_some h0]
  refine ⟨by simp [h3], ?_⟩
  obtain ⟨y, ys⟩ := p
  cases y <;> simp only [toInt] at h1 <;> try (cases h1; done)
  rename_i k' m
  by_cases hk : kd = k'
  ·subst hk
   simp at h1
   subst h1
   exact h4
  ·simp [hk] at h1
 | .bool :: ks, x, k, r, e => by
  simp only [shapeK] at e
  obtain ⟨p, h0, e⟩ := Option.bind_eq_some_iff.1 e
  obtain ⟨n, h1, h2⟩ := Option.bind_eq_some_iff.1 e
  obtain ⟨h3, h4⟩ := shapeK_some ks h2
  rw [unc_some h0]
  refine ⟨by simp [h3], ?_⟩
  obtain ⟨y, ys⟩ := p
  cases y <;> simp only [toBool] at h1 <;> cases h1
  exact h4
 | .str :: ks, x, k, r, e => by
  simp only [shapeK] at e
  obtain ⟨p, h0, e⟩ := Option.bind_eq_some_iff.1 e
  obtain ⟨n, h1, h2⟩ := Option.bind_eq_some_iff.1 e
  obtain ⟨h3, h4⟩ := shapeK_some ks h2
  rw [unc_some h0]
  refine ⟨by simp [h3], ?_⟩
  obtain ⟨y, ys⟩ := p
  cases y <;> simp only [toStr] at h1 <;> cases h1
  exact h4
 | .sl :: ks, x, k, r, e => by
  simp only [shapeK] at e
  obtain ⟨p, h0, e⟩ := Option.bind_eq_some_iff.1 e
  obtain ⟨n, h1, h2⟩ := Option.bind_eq_some_iff.1 e
  obtain ⟨h3, h4⟩ := shapeK_some ks h2
  rw [unc_some h0]
  refine ⟨by simp [h3], ?_⟩
  obtain ⟨y, ys⟩ := p
  cases y <;> simp only [toFz] at h1 <;> cases h1
  exact h4
 | .any :: ks, x, k, r, e => by
  simp only [shapeK] at e
  obtain ⟨p, h0, e⟩ := Option.bind_eq_some_iff.1 e
  obtain ⟨h3, h4⟩ := shapeK_some ks e
  rw [unc_some h0]
  exact ⟨by simp [h3], h4⟩
theorem take_get {α : Type} {l : List α} {n i : Nat} {x : α} (h : (l.take n)[i]? = some x) : l[i]? = some x := by
 have h1 := get_lt h
 rw [List.length_take] at h1
 rw [List.getElem?_take_of_lt (by omega)] at h
 exact h
section
variable {P : Program} {F : Fz} {μ : Mu} {dst : DSt} {st : St} {R : Type} {k : DSlot → DSt → Option R} {r : R}
theorem SimSt.newBlk (s : SimSt F μ dst st) {cs : List DV} {cs' : List Value} (hc : VDs F μ cs cs') (el : TypeId) (n sz : Nat) {run : (R' : Type) → (Slot → St → Option R') → Option R'}
  (e : k (.v (.sl dst.heap.length 0 n 0 sz)) { dst with heap := dst.heap ++ [newBlk cs el] } = some r)
  (hr : ∀ (R' : Type) (k' : Slot → St → Option R'), run R' k' = k' (.v (.slice (some ⟨st.heap.length, 0, none⟩) n n)) { st with heap := st.heap ++ [Pv.newBlk cs' el] }) : OpR F μ st k r run := by
 have hp := s.h.push (db := Dv.newBlk cs el) (b := Pv.newBlk cs' el) ⟨rfl, rfl, rfl, fun _ => rfl, rfl⟩ hc
 refine ⟨F, _, _, _,   .v (.slice (some ⟨st.heap.length, 0, none⟩) n n), { st with heap := st.heap ++ [Pv.newBlk cs' el] }, e, hr, s.mono (.refl F) (.append μ _) hp, VD.sl _ _ _ _ _ _ _ ?_, .push _ _ _ _⟩
 rw [← s.h.len]; simp
theorem toAgg_rel {x : DV} {y : Value} (h : VD F μ x y) {cs : List DV} (e : toAgg x = some cs) : ∃ cs', Pv.toAgg y = some cs' ∧ VDs F μ cs cs' := by
 obtain ⟨_, cs', rfl, hv⟩ := h.toAgg e
 exact ⟨cs', rfl, hv⟩
theorem intOf_rel {x : DV} {y : Value} (h : VD F μ x y) {n : Int} (e : intOf x = some n) : Pv.intOfV y = some n := by
 obtain ⟨kd, rfl, rfl⟩ := h.intOf e
 rfl
variable (hg : GlobD F) {C : CallF} {C' : Pv.CallF} {prot : Bool} (hC : CSim C (Pv.callP C' prot)) {o : Oper} (s : SimSt F μ dst st)
 include hg s
theorem sim_pick {c a b : Operand} (ho : o.op = .pick c a b) (e : evalOp P C o dst k = some r) : OpR F μ st k r fun R' k' => Pv.evalOp P C' prot o st k' := by
  simp only [evalOp, ho] at e
  replace e := bnd e; obtain ⟨sc, h1, e⟩ := e
  replace e := bnd e; obtain ⟨x, h2, e⟩ := e
  replace e := bnd e; obtain ⟨t, h3, e⟩ := e
  obtain ⟨y', v', h4, h5, h6⟩ := opdv_rel hg s h1 h2
  obtain ⟨rfl, rfl⟩ := h6.toBool h3
  cases t with
  | true =>
    replace e := bnd e; obtain ⟨sa, h7, e⟩ := e
    obtain ⟨ya, h8, h9⟩ := opd_rel hg s h7
    exact .here s h9 e fun R' k' => by simp only [Pv.evalOp, ho, h4, h5, Option.bind_some, Pv.toBool, h8, cond_true]
  | false =>
    replace e := bnd e; obtain ⟨sa, h7, e⟩ := e
    obtain ⟨ya, h8, h9⟩ := opd_rel hg s h7
    exact .here s h9 e fun R' k' => by simp only [Pv.evalOp, ho, h4, h5, Option.bind_some, Pv.toBool, h8, cond_false]
theorem sim_alloc {t : TypeId} (ho : o.op = .alloc t) (e : evalOp P C o dst k = some r) : OpR F μ st k r fun R' k' => Pv.evalOp P C' prot o st k' := by
 simp only [evalOp, ho] at e
 replace e := bnd e; obtain ⟨d, h1, e⟩ := e
 replace e := bnd e; obtain ⟨ti, h2, e⟩ := e
 replace e := bnd e; obtain ⟨z, h3, e⟩ := e
 replace e := bif_some e; obtain ⟨hb, e⟩ := e
 obtain ⟨z', h4, h5⟩ := zeroOf_rel (F := F) (μ := μ) h3
 have s2 := s.newBox d h5 t
 exact ⟨F, μ, _, _, .lp d 0, st.newBox d z' t, e, fun R' k' => by simp only [Pv.evalOp, ho, h1, h2, h4, Option.bind_some, ← s.b.1, hb, cond_true], s2, ⟨rfl, rfl⟩, .refl _ _ _⟩
theorem sim_box {t : TypeId} {x : Operand} (ho : o.op = .box t x) (e : evalOp P C o dst k = some r) : OpR F μ st k r fun R' k' => Pv.evalOp P C' prot o st k' := by
 simp only [evalOp, ho] at e
 replace e := bnd e; obtain ⟨d, h1, e⟩ := e
 replace e := bnd e; obtain ⟨ti, h2, e⟩ := e
 replace e := bnd e; obtain ⟨sx, h3, e⟩ := e
 obtain ⟨y, h4, h5⟩ := opd_rel hg s h3
 obtain ⟨μ1, v, dst1, w, st1, e, hn, s1, x1, hv, _⟩ := out_rel s h5 e
 replace e := bnd e; obtain ⟨cs, h6, e⟩ := e
 replace e := bif_some e; obtain ⟨hb, e⟩ := e
 obtain ⟨cs', h7, h8⟩ := cellsOfV_rel hv h6
 exact ⟨F, μ1, _, _, .lp d 0, st1.newBox d cs' t, e, fun R' k' => by simp only [Pv.evalOp, ho, h1, h2, h4, Option.bind_some]; rw [hn]; simp only [h7, Option.bind_some, ← s1.b.1, hb, cond_true], s1.newBox d h8 t, ⟨rfl, rfl⟩, x1⟩
theorem sim_build {t : TypeId} {parts : Array (Nat × Operand)} (ho : o.op = .build t parts) (e : evalOp P C o dst k = some r) : OpR F μ st k r fun R' k' => Pv.evalOp P C' prot o st k' := by
 simp only [evalOp, ho] at e
 replace e := bnd e; obtain ⟨ti, h1, e⟩ := e
 replace e := bnd e; obtain ⟨z, h2, e⟩ := e
 replace e := bnd e; obtain ⟨ps, h3, e⟩ := e
 obtain ⟨z', h4, h5⟩ := zeroOf_rel (F := F) (μ := μ) h2
 obtain ⟨qs, h6, h7⟩ := valsAt_rel hg s h3
 split at e
 ·rename_i fs hd
  replace e := bif_some e; obtain ⟨hb, e⟩ := e
  replace e := bnd e; obtain ⟨cs, h8, e⟩ := e
  obtain ⟨cs', h9, h10⟩ := fillP_rel h7 h5 h8
  exact .val s (.agg _ _ _ h10) e fun R' k' => by simp only [Pv.evalOp, ho, h1, h4, h6, Option.bind_some, hd, hb, cond_true, h9]
 ·rename_i n el hd
  replace e := bnd e; obtain ⟨te, h11, e⟩ := e
  replace e := bnd e; obtain ⟨cs, h8, e⟩ := e
  obtain ⟨cs', h9, h10⟩ := fillP_rel h7 h5 h8
  exact .val s (.agg _ _ _ h10) e fun R' k' => by simp only [Pv.evalOp, ho, h1, h4, h6, Option.bind_some, hd, h11, h9]
 ·cases e
theorem sim_buildSlice {t : TypeId} {len : Nat} {parts : Array (Nat × Operand)} (ho : o.op = .buildSlice t len parts) (e : evalOp P C o dst k = some r) : OpR F μ st k r fun R' k' => Pv.evalOp P C' prot o st k' := by
 simp only [evalOp, ho] at e
 replace e := bnd e; obtain ⟨ti, h1, e⟩ := e
 replace e := bnd e; obtain ⟨ps, h3, e⟩ := e
 obtain ⟨qs, h6, h7⟩ := valsAt_rel hg s h3
 split at e
 ·rename_i el hd
  replace e := bnd e; obtain ⟨te, h2, e⟩ := e
  replace e := bnd e; obtain ⟨z, hz, e⟩ := e
  replace e := bif_some e; obtain ⟨hb, e⟩ := e
  replace e := bnd e; obtain ⟨cs, h8, e⟩ := e
  obtain ⟨z', h4, h5⟩ := zeroOf_rel (F := F) (μ := μ) hz
  obtain ⟨cs', h9, h10⟩ := fillP_rel h7 (VDs.replicate h5 len) h8
  exact s.newBlk h10 el len te.size e fun R' k' => by simp only [Pv.evalOp, ho, h1, h4, h6, Option.bind_some, hd, h2, hb, cond_true, h9]
 ·cases e
theorem sim_load {t : TypeId} {a : Operand} (ho : o.op = .load t a) (e : evalOp P C o dst k = some r) : OpR F μ st k r fun R' k' => Pv.evalOp P C' prot o st k' := by
 simp only [evalOp, ho, cellsK_eq] at e
 replace e := bnd e; obtain ⟨ti, h1, e⟩ := e
 replace e := bnd e; obtain ⟨sa, h2, e⟩ := e
 obtain ⟨y, h3, h4⟩ := opd_rel hg s h2
 split at e
 ·rename_i ha
  replace e := bnd e; obtain ⟨cs, h5, e⟩ := e
  obtain ⟨cs', h6, h7⟩ := cellsAt_rel s h4 h5
  exact .val s (.agg _ _ _ h7) e fun R' k' => by simp only [Pv.evalOp, ho, h1, h3, Option.bind_some, ha, h6]
 ·rename_i ha
  replace e := bnd e; obtain ⟨x, h5, e⟩ := e
  obtain ⟨x', h6, h7⟩ := cellAt_rel s h4 h5
  obtain ⟨e, h8⟩ := typed_rel h7 e
  exact .val s h7 e fun R' k' => by simp only [Pv.evalOp, ho, h1, h3, Option.bind_some, ha, h6, h8]
theorem sim_store {t : TypeId} {a x : Operand} (ho : o.op = .store t a x) (e : evalOp P C o dst k = some r) : OpR F μ st k r fun R' k' => Pv.evalOp P C' prot o st k' := by
 simp only [evalOp, ho, cellsOfVK_eq, storeK_eq] at e
 replace e := bnd e; obtain ⟨ti, h1, e⟩ := e
 replace e := bnd e; obtain ⟨sa, h2, e⟩ := e
 replace e := bnd e; obtain ⟨sx, h3, e⟩ := e
 obtain ⟨ya, h4, h5⟩ := opd_rel hg s h2
 obtain ⟨yx, h6, h7⟩ := opd_rel hg s h3
 obtain ⟨μ1, v, dst1, w, st1, e, hn, s1, x1, hv, _⟩ := out_rel s h7 e
 replace e := bnd e; obtain ⟨vs, h8, e⟩ := e
 replace e := bnd e; obtain ⟨dst2, h9, e⟩ := e
 obtain ⟨vs', h10, h11⟩ := cellsOfV_rel hv h8
 obtain ⟨st2, h12, s2, x2⟩ := storeAt_rel s1 (h5.mono x1.hF x1.hM) h11 h9
 exact ⟨F, μ1, _, _, .v Go.undef, st2, e, fun R' k' => by simp only [Pv.evalOp, ho, h1, h4, h6, Option.bind_some]; rw [hn]; simp only [h10, h12, Option.bind_some], s2, VD.tup _ _ _ (.nil _), x1.trans x2⟩
theorem sim_nilCheck {x : Operand} (ho : o.op = .nilCheck x) (e : evalOp P C o dst k = some r) : OpR F μ st k r fun R' k' => Pv.evalOp P C' prot o st k' := by
 simp only [evalOp, ho] at e
 replace e := bnd e; obtain ⟨sx, h1, e⟩ := e
 obtain ⟨y, h2, h3⟩ := opd_rel hg s h1
 split at e
 ·rename_i d off
  replace e := bnd e; obtain ⟨z, h4, e⟩ := e
  obtain ⟨z', h5, h6⟩ := moved_rel s h3 h4
  cases y <;> first | exact h3.elim | skip
  exact .here s h6 e fun R' k' => by simp only [Pv.evalOp, ho, h2, Option.bind_some, h5]
 ·cases y <;> first | exact h3.elim | skip
  rename_i v
  have h3 : VD F μ _ v := h3
  cases h3 with
  | ptr _ _ _ j hj => exact .val s (.ptr _ _ _ _ hj) e fun R' k' => by simp only [Pv.evalOp, ho, h2, Option.bind_some, Pv.toPtr]
 ·cases y <;> first | exact h3.elim | skip
  rename_i v
  have h3 : VD F μ _ v := h3
  have h4 := h3
  cases h3 with
  | fp => exact .val s h4 e fun R' k' => by simp only [Pv.evalOp, ho, h2, Option.bind_some, Pv.toPtr]
 ·cases e
theorem sim_binOp {op : BinOp} {t : TypeId} {ox oy : Operand} {w} (ho : o.op = .binOp op t ox oy w) (e : evalOp P C o dst k = some r) : OpR F μ st k r fun R' k' => Pv.evalOp P C' prot o st k' := by
 simp only [evalOp, ho] at e
 replace e := bnd e; obtain ⟨sx, h1, e⟩ := e
 replace e := bnd e; obtain ⟨sy, h2, e⟩ := e
 replace e := bnd e; obtain ⟨x, h3, e⟩ := e
 replace e := bnd e; obtain ⟨y, h4, e⟩ := e
 obtain ⟨x', vx, h5, h6, h7⟩ := opdv_rel hg s h1 h3
 obtain ⟨y', vy, h8, h9, h10⟩ := opdv_rel hg s h2 h4
 obtain ⟨z, z', h11, h12, e⟩ := binK_rel h7 h10 e
 exact .val s h12 e fun R' k' => by simp only [Pv.evalOp, ho, h5, h6, h8, h9, h11, Option.bind_some]
theorem sim_unOp {op : UnOp} {t : TypeId} {x : Operand} (ho : o.op = .unOp op t x) (e : evalOp P C o dst k = some r) : OpR F μ st k r fun R' k' => Pv.evalOp P C' prot o st k' := by
 simp only [evalOp, ho] at e
 replace e := bnd e; obtain ⟨sx, h1, e⟩ := e
 replace e := bnd e; obtain ⟨x, h3, e⟩ := e
 obtain ⟨x', vx, h5, h6, h7⟩ := opdv_rel hg s h1 h3
 replace e := bnd e; obtain ⟨z, h8, e⟩ := e
 obtain ⟨z', h9, h10⟩ := unP_rel h7 h8
 exact .val s h10 e fun R' k' => by simp only [Pv.evalOp, ho, h5, h6, h9, Option.bind_some]
theorem sim_convert {a b : TypeId} {x : Operand} (ho : o.op = .convert a b x) (e : evalOp P C o dst k = some r) : OpR F μ st k r fun R' k' => Pv.evalOp P C' prot o st k' := by
 simp only [evalOp, ho] at e
 replace e := bnd e; obtain ⟨ds, hs, e⟩ := e
 replace e := bnd e; obtain ⟨dd, hd, e⟩ := e
 replace e := bnd e; obtain ⟨sx, h1, e⟩ := e
 replace e := bnd e; obtain ⟨x, h3, e⟩ := e
 obtain ⟨x', vx, h5, h6, h7⟩ := opdv_rel hg s h1 h3
 split at e
 ·replace e := bnd e; obtain ⟨n, h8, e⟩ := e
  exact .val s (.int _ _ _) e fun R' k' => by simp only [Pv.evalOp, ho, hs, hd, h5, h6, Option.bind_some, intOf_rel h7 h8]
 ·split at e
  ·rename_i el
   replace e := bif_some e; obtain ⟨hb, e⟩ := e
   replace e := bnd e; obtain ⟨q, h8, e⟩ := e
   replace e := bnd e; obtain ⟨bs, h9, e⟩ := e
   rw [Bool.and_eq_true] at hb
   have hu : P.underlying el = some (.int .u8) := by
    have hh := hb.1
    split at hh
    ·assumption
    ·cases hh
   obtain ⟨A, n, c, rfl, hqn, hA⟩ := news_rel s.h h7 hb.2 h8
   rcases hA with ⟨rfl, rfl, rfl, hq2⟩ | ⟨j, off, cs', rfl, h10, h11⟩
   ·rw [hq2] at h9
    cases h9
    exact .val s (.str _ _) e fun R' k' => by simp only [Pv.evalOp, ho, hs, hd, h5, h6, Option.bind_some, Pv.toSl, hu, cond_true]; rfl
   ·have h12 := toBytes_rel h11 h9
    rw [Nat.mul_one] at h10
    exact .val s (.str _ _) e fun R' k' => by simp only [Pv.evalOp, ho, hs, hd, h5, h6, Option.bind_some, Pv.toSl, hu, cond_true, Pv.addrOf, Option.isNone_none, h10, h12]
  ·replace e := bnd e; obtain ⟨b, h8, e⟩ := e
   obtain ⟨rfl, rfl⟩ := h7.toStr h8
   exact .val s (.str _ _) e fun R' k' => by simp only [Pv.evalOp, ho, hs, hd, h5, h6, Option.bind_some, Pv.toStr]
  ·cases e
 ·rename_i dd0 el
  split at e
  ·replace e := bnd e; obtain ⟨b, h8, e⟩ := e
   replace e := bif_some e; obtain ⟨hb, e⟩ := e
   obtain ⟨rfl, rfl⟩ := h7.toStr h8
   have hb2 := hb
   simp only [Bool.and_eq_true] at hb2
   have hu : P.underlying el = some (.int .u8) := by
    have hh := hb2.1.1
    split at hh
    ·assumption
    ·cases hh
   have hF := s.h.fnone (Nat.le_refl st.heap.length)
   have hp := s.h.pushF (b := ⟨Pv.ofBytes ⟨⟨b⟩⟩, el, true, true, true, none⟩) rfl
   have hv : VD (F.add st.heap.length (true, Pv.ofBytes ⟨⟨b⟩⟩)) μ (.fz (b.map fun x => [.int .u8 x.toNat])) (.slice (some ⟨st.heap.length, 0, none⟩) b.length b.length) := by
    have h := VD.fz (F := F.add st.heap.length (true, Pv.ofBytes ⟨⟨b⟩⟩)) μ (b.map fun x => [.int .u8 x.toNat]) st.heap.length 0 b.length 1 true (Pv.ofBytes ⟨⟨b⟩⟩) (Fz.add_same _ _ _) (fun i x hx => by
      rw [List.getElem?_map] at hx
      obtain ⟨y, _, hy⟩ := Option.map_eq_some_iff.1 hx
      rw [← hy]; rfl) (fun i x hx => by
      rw [List.getElem?_map] at hx
      obtain ⟨y, hy, hx⟩ := Option.map_eq_some_iff.1 hx
      subst hx
      have h2 : (Pv.ofBytes ⟨⟨b⟩⟩)[i]? = some (.int .u8 y.toNat) := by
       show (b.map fun b => Value.int .u8 b.toNat)[i]? = _
       rw [List.getElem?_map, hy]; rfl
      have h3 : ((Pv.ofBytes ⟨⟨b⟩⟩).drop (0 + i * 1)).take 1 = [.int .u8 y.toNat] := by
       rw [Nat.zero_add, Nat.mul_one]
       have hlt := get_lt h2
       rw [List.drop_eq_getElem_cons hlt, List.take_succ_cons, List.take_zero]
       rw [List.getElem?_eq_getElem hlt] at h2
       injection h2 with h2
       rw [h2]
      rw [h3]
      exact .cons _ _ _ _ _ (.int _ _ _) (.nil _)) (by simp) (by simp [Pv.ofBytes])
    rw [List.length_map] at h
    exact h
   exact ⟨_, μ, .v _, dst, .v (.slice (some ⟨st.heap.length, 0, none⟩) b.length b.length), { st with heap := st.heap ++ [⟨Pv.ofBytes ⟨⟨b⟩⟩, el, true, true, true, none⟩] }, e,
    fun R' k' => by simp only [Pv.evalOp, ho, hs, hd, h5, h6, Option.bind_some, Pv.toStr, ba_size, hu, Bool.true_and, hb2.1.2, hb2.2, cond_true],
    s.mono (F.add_le _ hF) (.refl μ) hp, hv, .pushF F μ st.heap _ _ hF⟩
  ·cases e
 ·cases e
theorem sim_toArr {arr : TypeId} {x : Operand} (ho : o.op = .sliceToArrayPointer arr x) (e : evalOp P C o dst k = some r) : OpR F μ st k r fun R' k' => Pv.evalOp P C' prot o st k' := by
 simp only [evalOp, ho] at e
 replace e := bnd e; obtain ⟨d, hd, e⟩ := e
 replace e := bnd e; obtain ⟨sx, h1, e⟩ := e
 replace e := bnd e; obtain ⟨x, h3, e⟩ := e
 obtain ⟨x', vx, h5, h6, h7⟩ := opdv_rel hg s h1 h3
 split at e
 ·split at e
  ·replace e := bif_some e; obtain ⟨hb, e⟩ := e
   cases h7 with
   | sl _ _ _ _ _ _ j hj => exact .val s (.ptr _ _ _ _ hj) e fun R' k' => by simp only [Pv.evalOp, ho, hd, h5, h6, Option.bind_some, Pv.toSl, hb, cond_true]
   | slNil =>
    simp only [Bool.and_eq_true, Nat.ble_eq] at hb
    omega
  ·rename_i n el _ xs
   replace e := bif_some e; obtain ⟨hb, e⟩ := e
   have hb2 := hb
   simp only [Bool.and_eq_true, Nat.ble_eq] at hb2
   cases h7 with
   | fz _ _ j off c sz row cells hF hl h hc hle =>
    have hlen : (xs.take n).length = n := by rw [List.length_take]; omega
    have hf := flat_rel (xss := xs.take n) (fun i x hx => hl i x (take_get hx)) (fun i x hx => h i x (take_get hx))
    have h2 := hf.length
    rw [List.length_take, List.length_drop] at h2
    have hm : n * sz ≤ xs.length * sz := Nat.mul_le_mul_right sz hb2.1
    rw [hlen] at h2 hf
    have h3 : (xs.take n).flatten.length = n * sz := by omega
    refine .val s (y' := .pointer (some ⟨j, off, none⟩)) (.fp μ true row _ j off cells hF (by simp) (by rw [h3]; exact hf) (by omega)) e fun R' k' => ?_
    simp only [Pv.evalOp, ho, hd, h5, h6, Option.bind_some, Pv.toSl, hb, cond_true]
   | fzNil => simp at hb2; omega
  ·cases e
 ·cases e
theorem sim_iface {t : TypeId} {x : Operand} (ho : o.op = .makeInterface t x) (e : evalOp P C o dst k = some r) : OpR F μ st k r fun R' k' => Pv.evalOp P C' prot o st k' := by
 simp only [evalOp, ho] at e
 replace e := bnd e; obtain ⟨d, hd, e⟩ := e
 replace e := bnd e; obtain ⟨sx, h1, e⟩ := e
 obtain ⟨y, h4, h5⟩ := opd_rel hg s h1
 obtain ⟨μ1, v, dst1, w, st1, e, hn, s1, x1, hv, _⟩ := out_rel s h5 e
 split at e
 ·cases e
 ·rename_i hni
  refine ⟨F, μ1, _, _, .v (.iface t w), st1, e, fun R' k' => ?_, s1, VD.iface _ _ _ _ hv, x1⟩
  simp only [Pv.evalOp, ho, hd, h4, Option.bind_some]
  rw [hn]
theorem sim_func {fn : Fn} {first captured : Array Operand} (ho : o.op = .makeFunc fn first captured) (e : evalOp P C o dst k = some r) : OpR F μ st k r fun R' k' => Pv.evalOp P C' prot o st k' := by
 cases fn with
 | func f =>
  simp only [evalOp, ho] at e
  replace e := bnd e; obtain ⟨sf, h1, e⟩ := e
  replace e := bnd e; obtain ⟨sc, h2, e⟩ := e
  obtain ⟨yf, h3, h4⟩ := opds_rel hg s h1
  obtain ⟨yc, h5, h6⟩ := opds_rel hg s h2
  obtain ⟨μ1, fs, dst1, fs', st1, e, n1, s1, x1, v1⟩ := outs_rel s h4 e
  obtain ⟨μ2, cs, dst2, cs', st2, e, n2, s2, x2, v2⟩ := outs_rel s1 (h6.mono fun _ _ h => h.mono x1.hF x1.hM) e
  refine ⟨F, μ2, _, _, .v (.func (.func f) ⟨fs'⟩ ⟨cs'⟩), st2, e, fun R' k' => ?_, s2, VD.func _ _ _ _ _ _ (v1.mono x2.hF x2.hM) v2, x1.trans x2⟩
  simp only [Pv.evalOp, ho, isYield, cond_false, h3, h5, Option.bind_some]
  rw [n1, n2]
 | _ => simp only [evalOp, ho] at e; cases e
theorem sim_makeSlice {t : TypeId} {l c : Operand} (ho : o.op = .makeSlice t l c) (e : evalOp P C o dst k = some r) : OpR F μ st k r fun R' k' => Pv.evalOp P C' prot o st k' := by
 simp only [evalOp, ho] at e
 replace e := bnd e; obtain ⟨ti, h1, e⟩ := e
 replace e := bnd e; obtain ⟨sl, h2, e⟩ := e
 replace e := bnd e; obtain ⟨sc, h3, e⟩ := e
 replace e := bnd e; obtain ⟨vl, h4, e⟩ := e
 replace e := bnd e; obtain ⟨vc, h5, e⟩ := e
 replace e := bnd e; obtain ⟨il, h6, e⟩ := e
 replace e := bnd e; obtain ⟨ic, h7, e⟩ := e
 obtain ⟨yl, wl, h8, h9, h10⟩ := opdv_rel hg s h2 h4
 obtain ⟨yc, wc, h11, h12, h13⟩ := opdv_rel hg s h3 h5
 split at e
 ·rename_i el hd
  replace e := bnd e; obtain ⟨te, h14, e⟩ := e
  replace e := bnd e; obtain ⟨z, h15, e⟩ := e
  replace e := bnd e; obtain ⟨ln, h16, e⟩ := e
  replace e := bnd e; obtain ⟨cn, h17, e⟩ := e
  replace e := bif_some e; obtain ⟨hb, e⟩ := e
  obtain ⟨z', h18, h19⟩ := zeroOf_rel (F := F) (μ := μ) h15
  exact s.newBlk (VDs.replicate h19 ln) el ln te.size e fun R' k' => by simp only [Pv.evalOp, ho, h1, h8, h11, h9, h12, intOf_rel h10 h6, intOf_rel h13 h7, Option.bind_some, hd, h14, h18, h16, h17, hb, cond_true]
 ·cases e
theorem sim_fieldAddr {t : TypeId} {x : Operand} {f : Nat} (ho : o.op = .fieldAddr t x f) (e : evalOp P C o dst k = some r) : OpR F μ st k r fun R' k' => Pv.evalOp P C' prot o st k' := by
 simp only [evalOp, ho] at e
 replace e := bnd e; obtain ⟨d, hd, e⟩ := e
 replace e := bnd e; obtain ⟨sx, h1, e⟩ := e
 obtain ⟨y, h4, h5⟩ := opd_rel hg s h1
 split at e
 ·replace e := bnd e; obtain ⟨q, h6, e⟩ := e
  replace e := bif_none e; obtain ⟨hb, e⟩ := e
  replace e := bnd e; obtain ⟨z, h7, e⟩ := e
  obtain ⟨z', h8, h9⟩ := moved_rel s h5 h7
  exact .here s h9 e fun R' k' => by simp only [Pv.evalOp, ho, hd, h4, Option.bind_some, h6, hb, cond_false, h8]
 ·cases e
theorem sim_field {t : TypeId} {x : Operand} {f : Nat} (ho : o.op = .field t x f) (e : evalOp P C o dst k = some r) : OpR F μ st k r fun R' k' => Pv.evalOp P C' prot o st k' := by
 simp only [evalOp, ho] at e
 replace e := bnd e; obtain ⟨d, hd, e⟩ := e
 replace e := bnd e; obtain ⟨sx, h1, e⟩ := e
 replace e := bnd e; obtain ⟨x, h3, e⟩ := e
 obtain ⟨x', vx, h5, h6, h7⟩ := opdv_rel hg s h1 h3
 replace e := bnd e; obtain ⟨cs, h8, e⟩ := e
 obtain ⟨cs', h9, h10⟩ := toAgg_rel h7 h8
 split at e
 ·replace e := bnd e; obtain ⟨q, h11, e⟩ := e
  split at e
  ·rename_i ha
   replace e := bif_some e; obtain ⟨hb, e⟩ := e
   exact .val s (.agg _ _ _ ((h10.drop q.1).take q.2.size)) e fun R' k' => by simp only [Pv.evalOp, ho, hd, h5, h6, h9, Option.bind_some, h11, ha, ← h10.length, hb, cond_true]
  ·rename_i ha
   replace e := bnd e; obtain ⟨z, h12, e⟩ := e
   obtain ⟨z', h13, h14⟩ := h10.get h12
   obtain ⟨e, h15⟩ := typed_rel h14 e
   exact .val s h14 e fun R' k' => by simp only [Pv.evalOp, ho, hd, h5, h6, h9, Option.bind_some, h11, ha, h13, h15]
 ·cases e
theorem sim_indexAddr {t : TypeId} {x i : Operand} (ho : o.op = .indexAddr t x i) (e : evalOp P C o dst k = some r) : OpR F μ st k r fun R' k' => Pv.evalOp P C' prot o st k' := by
 simp only [evalOp, ho] at e
 replace e := bnd e; obtain ⟨d, hd, e⟩ := e
 replace e := bnd e; obtain ⟨sx, h1, e⟩ := e
 replace e := bnd e; obtain ⟨si, h2, e⟩ := e
 replace e := bnd e; obtain ⟨vi, h3, e⟩ := e
 replace e := bnd e; obtain ⟨i, h4, e⟩ := e
 obtain ⟨yi, wi, h5, h6, h7⟩ := opdv_rel hg s h2 h3
 have h8 := intOf_rel h7 h4
 split at e
 ·replace e := bnd e; obtain ⟨te, h9, e⟩ := e
  replace e := bnd e; obtain ⟨j, h10, e⟩ := e
  replace e := bnd e; obtain ⟨z, h11, e⟩ := e
  obtain ⟨y, h12, h13⟩ := opd_rel hg s h1
  obtain ⟨z', h14, h15⟩ := moved_rel s h13 h11
  exact .here s h15 e fun R' k' => by simp only [Pv.evalOp, ho, hd, h12, h5, h6, h8, Option.bind_some, h9, h10, h14]
 ·replace e := bnd e; obtain ⟨te, h9, e⟩ := e
  replace e := bnd e; obtain ⟨x, h10, e⟩ := e
  obtain ⟨yx, wx, h11, h12, h13⟩ := opdv_rel hg s h1 h10
  split at e
  ·replace e := bnd e; obtain ⟨j, h14, e⟩ := e
   cases h13 with
   | sl _ _ _ _ _ _ q hq => exact .val s (.ptr _ _ _ _ hq) e fun R' k' => by simp only [Pv.evalOp, ho, hd, h11, h12, h5, h6, h8, Option.bind_some, h9, Pv.toSl, h14, Pv.addrOf, Option.isNone_none, cond_true]
   | slNil =>
    have := (Pv.idx_eq h14).2
    omega
  ·rename_i xs
   replace e := bnd e; obtain ⟨j, h14, e⟩ := e
   replace e := bnd e; obtain ⟨z, h15, e⟩ := e
   replace e := bnd e; obtain ⟨ks, _, e⟩ := e
   replace e := bif_some e; obtain ⟨hb, e⟩ := e
   have hb := Nat.eq_of_beq_eq_true hb
   obtain ⟨hlz, e⟩ := shapeK_some ks e
   rw [← hlz] at hb
   cases h13 with
   | fz _ _ q off c sz row cells hF hl h hc hle =>
    have h16 := hl j z h15
    have h17 := h j z h15
    have hjl := get_lt h15
    have hm : (j + 1) * sz ≤ xs.length * sz := Nat.mul_le_mul_right sz hjl
    rw [Nat.add_mul] at hm
    have hsz : te.size = sz := by omega
    refine .val s (y' := .pointer (some ⟨q, off + j * te.size, none⟩)) (.fp μ true row z q (off + j * te.size) cells hF (by simp) (by rw [hsz, h16]; exact h17) (by rw [hsz]; omega)) e fun R' k' => ?_
    simp only [Pv.evalOp, ho, hd, h11, h12, h5, h6, h8, Option.bind_some, h9, Pv.toSl, h14, Pv.addrOf, Option.isNone_none, cond_true]
   | fzNil => simp at h15
  ·cases e
 ·cases e
theorem sim_index {t : TypeId} {x i : Operand} (ho : o.op = .index t x i) (e : evalOp P C o dst k = some r) : OpR F μ st k r fun R' k' => Pv.evalOp P C' prot o st k' := by
 simp only [evalOp, ho] at e
 replace e := bnd e; obtain ⟨d, hd, e⟩ := e
 replace e := bnd e; obtain ⟨sx, h1, e⟩ := e
 replace e := bnd e; obtain ⟨si, h2, e⟩ := e
 replace e := bnd e; obtain ⟨x, h10, e⟩ := e
 replace e := bnd e; obtain ⟨vi, h3, e⟩ := e
 replace e := bnd e; obtain ⟨i, h4, e⟩ := e
 obtain ⟨yi, wi, h5, h6, h7⟩ := opdv_rel hg s h2 h3
 have h8 := intOf_rel h7 h4
 obtain ⟨yx, wx, h11, h12, h13⟩ := opdv_rel hg s h1 h10
 split at e
 ·replace e := bnd e; obtain ⟨b, h14, e⟩ := e
  replace e := bnd e; obtain ⟨j, h15, e⟩ := e
  obtain ⟨rfl, rfl⟩ := h13.toStr h14
  exact .val s (.int _ _ _) e fun R' k' => by simp only [Pv.evalOp, ho, hd, h11, h12, h5, h6, h8, Option.bind_some, Pv.toStr, ba_size, h15]
 ·replace e := bnd e; obtain ⟨te, h14, e⟩ := e
  replace e := bnd e; obtain ⟨cs, h15, e⟩ := e
  replace e := bnd e; obtain ⟨j, h16, e⟩ := e
  obtain ⟨cs', h17, h18⟩ := toAgg_rel h13 h15
  split at e
  ·rename_i ha
   replace e := bif_some e; obtain ⟨hb, e⟩ := e
   exact .val s (.agg _ _ _ ((h18.drop _).take te.size)) e fun R' k' => by simp only [Pv.evalOp, ho, hd, h11, h12, h5, h6, h8, Option.bind_some, h14, h17, h16, ha, ← h18.length, hb, cond_true]
  ·rename_i ha
   replace e := bnd e; obtain ⟨z, h19, e⟩ := e
   obtain ⟨z', h20, h21⟩ := h18.get h19
   obtain ⟨e, h22⟩ := typed_rel h21 e
   exact .val s h21 e fun R' k' => by simp only [Pv.evalOp, ho, hd, h11, h12, h5, h6, h8, Option.bind_some, h14, h17, h16, ha, h20, h22]
 ·cases e
theorem sim_extract {t : Operand} {ix : Nat} (ho : o.op = .extract t ix) (e : evalOp P C o dst k = some r) : OpR F μ st k r fun R' k' => Pv.evalOp P C' prot o st k' := by
 simp only [evalOp, ho] at e
 replace e := bnd e; obtain ⟨sx, h1, e⟩ := e
 replace e := bnd e; obtain ⟨x, h3, e⟩ := e
 obtain ⟨x', vx, h5, h6, h7⟩ := opdv_rel hg s h1 h3
 replace e := bnd e; obtain ⟨vs, h8, e⟩ := e
 replace e := bnd e; obtain ⟨z, h9, e⟩ := e
 obtain ⟨rfl, vs', rfl, h10⟩ := h7.toTup h8
 obtain ⟨z', h11, h12⟩ := h10.get h9
 obtain ⟨e, h13⟩ := typed_rel h12 e
 exact .val s h12 e fun R' k' => by simp only [Pv.evalOp, ho, h5, h6, Pv.toTup, Option.bind_some, h11, h13]
 include hC
theorem sim_call {c : Call} (ho : o.op = .call c) (hpa : ∀ b, c.callee = .builtin b → Pv.isApp prot b = false) (e : evalOp P C o dst k = some r) : OpR F μ st k r fun R' k' => Pv.evalOp P C' prot o st k' := by
  obtain ⟨callee, args, ts⟩ := c
  cases callee with
  | value f =>
    simp only [evalOp, ho] at e
    replace e := bnd e; obtain ⟨sf, h1, e⟩ := e
    replace e := bnd e; obtain ⟨fv, h2, e⟩ := e
    replace e := bnd e; obtain ⟨ss, h3, e⟩ := e
    obtain ⟨yf, wf, h4, h5, h6⟩ := opdv_rel hg s h1 h2
    obtain ⟨ys, h7, h8⟩ := opds_rel hg s h3
    obtain ⟨μ1, xs, dst1, xs', st1, e, n1, s1, x1, v1⟩ := outs_rel s h8 e
    split at e
    · rename_i g first captured
      cases h6 with
      | func _ _ _ _ ys' ws' ha hb =>
        obtain ⟨v, dh', F2, μ2, w, h', e, h10, i2, v2, x2⟩ := hC _ _ _ _ _ _ e F μ1 st1.heap (ys' ++ xs' ++ ws') hg s1.h (((ha.mono x1.hF x1.hM).append v1).append (hb.mono x1.hF x1.hM))
        obtain ⟨e, h11⟩ := typed_rel v2 e
        refine ⟨F2, μ2, .v v, { dst1 with heap := dh' }, .v w, { st1 with heap := h' }, e, fun R' k' => ?_, s1.mono x2.hF x2.hM i2, v2, x1.trans x2⟩
        simp only [Pv.evalOp, ho, h4, h5, h7, Option.bind_some]
        rw [n1]
        simp only [h10, Option.bind_some, h11]
    · cases e
  | builtin b =>
    simp only [evalOp, ho] at e
    replace e := bnd e; obtain ⟨ss, h3, e⟩ := e
    obtain ⟨ys, h7, h8⟩ := opds_rel hg s h3
    obtain ⟨μ1, xs, dst1, xs', st1, e, n1, s1, x1, v1⟩ := outs_rel s h8 e
    refine (OpR.after x1 (builtinP_rel s1 v1 e)).congr fun R' k' => ?_
    simp only [Pv.evalOp, ho, h7, Option.bind_some, hpa b rfl]
    rw [n1]
  | invoke _ _ => simp only [evalOp, ho] at e; cases e
end
end Go.Dv
end
section
namespace Go.Dv
open Go.Pv (TI tiOf idx upTo fieldTI CK kindsOf LoopRec PExit isConst room isYield Slot Box Blk Heap St set_get set_same set_ne get_snoc bif_some bif_none)
variable [Pv.Glob] [DGlob]
section
variable {P : Program} {F : Fz} {μ : Mu} {dst : DSt} {st : St} {R : Type} {k : DSlot → DSt → Option R} {r : R}
theorem extract_str (b : List UInt8) (l h : Nat) : (⟨⟨b⟩⟩ : ByteArray).extract l h = ⟨⟨(b.drop l).take (h - l)⟩⟩ := by
 apply ByteArray.ext
 rw [ByteArray.data_extract]
 apply Array.ext'
 simp [Array.toList_extract, List.extract_eq_take_drop]
variable (hg : GlobD F) {C : CallF} {C' : Pv.CallF} {prot : Bool} (hC : CSim C (Pv.callP C' prot)) {o : Oper} (s : SimSt F μ dst st)
 include hg s
theorem sim_slice {t : TypeId} {x : Operand} {lo hi mx : Option Operand} (ho : o.op = .slice t x lo hi mx) (e : evalOp P C o dst k = some r) : OpR F μ st k r fun R' k' => Pv.evalOp P C' prot o st k' := by
  simp only [evalOp, ho] at e
  replace e := bif_some e; obtain ⟨hm, e⟩ := e
  replace e := bnd e; obtain ⟨d, hd, e⟩ := e
  replace e := bnd e; obtain ⟨sx, h1, e⟩ := e
  replace e := bnd e; obtain ⟨slo, h2, e⟩ := e
  replace e := bnd e; obtain ⟨shi, h3, e⟩ := e
  replace e := bnd e; obtain ⟨smx, h4, e⟩ := e
  obtain ⟨yx, h5, h6⟩ := opd_rel hg s h1
  obtain ⟨ylo, h7, h8⟩ := opdO_rel hg s h2
  obtain ⟨yhi, h9, h10⟩ := opdO_rel hg s h3
  obtain ⟨ymx, h11, h12⟩ := opdO_rel hg s h4
  have hmx : shi = none → smx = none := fun hn => by
    cases hi with
    | none => cases mx with
      | none => cases h4; rfl
      | some w => cases hm
    | some w =>
      rw [hn] at h3
      simp only [opdO] at h3
      obtain ⟨q, _, hq⟩ := bnd h3
      cases hq
  split at e
  · replace e := bnd e; obtain ⟨x, h13, e⟩ := e
    replace e := bnd e; obtain ⟨b, h14, e⟩ := e
    obtain ⟨x', h15, _, h16⟩ := valS_rel h6 h13
    obtain ⟨rfl, rfl⟩ := h16.toStr h14
    split at e
    · cases ymx <;> first | exact h12.elim | skip
      replace e := bnd e; obtain ⟨h, h17, e⟩ := e
      replace e := bnd e; obtain ⟨l, h18, e⟩ := e
      refine .val s (.str _ _) e fun R' k' => ?_
      simp only [Pv.evalOp, ho, hm, cond_true, hd, h5, h7, h9, h11, h15, Option.bind_some, Pv.toStr, ba_size, bound_same h10 h17, bound_same h8 h18, extract_str]
    · cases e
  · replace e := bnd e; obtain ⟨te, h13, e⟩ := e
    replace e := bif_some e; obtain ⟨hts, e⟩ := e
    replace e := bnd e; obtain ⟨x, h14, e⟩ := e
    obtain ⟨x', h15, _, h16⟩ := valS_rel h6 h14
    split at e
    · replace e := bnd e; obtain ⟨m, h17, e⟩ := e
      replace e := bnd e; obtain ⟨h, h18, e⟩ := e
      replace e := bnd e; obtain ⟨l, h19, e⟩ := e
      cases h16
      refine .val s (.nils _) e fun R' k' => ?_
      simp only [Pv.evalOp, ho, hm, cond_true, hd, h5, h7, h9, h11, h13, hts, h15, Option.bind_some, Pv.toSl, bound_same h12 h17, bound_same h10 h18, bound_same h8 h19]
    · replace e := bnd e; obtain ⟨m, h17, e⟩ := e
      replace e := bnd e; obtain ⟨h, h18, e⟩ := e
      replace e := bnd e; obtain ⟨l, h19, e⟩ := e
      cases h16 with
      | sl _ _ _ _ _ _ j hj =>
        have hrm := (slice_room h17 h18 h19 hmx).1
        refine .val s (.sl _ _ _ _ _ _ _ hj) e fun R' k' => ?_
        rw [hrm]
        simp only [Pv.evalOp, ho, hm, cond_true, hd, h5, h7, h9, h11, h13, hts, h15, Option.bind_some, Pv.toSl, bound_same h12 h17, bound_same h10 h18, bound_same h8 h19, Pv.addrOf, Option.isNone_none]
      | slNil _ _ _ hj =>
        have hm0 : m = 0 := Nat.le_zero.1 (bound_le h17 (Nat.le_refl 0))
        subst hm0
        have hh0 : h = 0 := Nat.le_zero.1 (bound_le h18 (Nat.le_refl 0))
        subst hh0
        have hl0 : l = 0 := Nat.le_zero.1 (bound_le h19 (Nat.le_refl 0))
        subst hl0
        simp only [Nat.zero_mul, Nat.add_zero, Nat.sub_self, Bool.cond_self] at e
        refine .val s (.slNil _ _ _ hj) e fun R' k' => ?_
        simp only [Pv.evalOp, ho, hm, cond_true, hd, h5, h7, h9, h11, h13, hts, h15, Option.bind_some, Pv.toSl, bound_same h12 h17, bound_same h10 h18, bound_same h8 h19]
    · rename_i xs
      replace e := bnd e; obtain ⟨m, h17, e⟩ := e
      replace e := bnd e; obtain ⟨h, h18, e⟩ := e
      replace e := bnd e; obtain ⟨l, h19, e⟩ := e
      replace e := bif_some e; obtain ⟨ha, e⟩ := e
      have hml : m ≤ xs.length := bound_le h17 (Nat.le_refl _)
      have hhm : h ≤ xs.length := by
        rcases bound_rel h10 h18 with ⟨_, rfl, _⟩ | ⟨h20, _⟩
        · exact Nat.le_refl _
        · omega
      have hlh : l ≤ h := bound_le h19 (Nat.zero_le _)
      rcases h16.fz_inv ha with ⟨rfl, rfl⟩ | ⟨j, off, c, row, cells, rfl, hF, hl, hh, hc, hle⟩
      · have hh0 : h = 0 := by simpa using hhm
        subst hh0
        have hl0 : l = 0 := by omega
        subst hl0
        have hm0 : m = 0 := by simpa using hml
        subst hm0
        refine .val s (.fzNil _) e fun R' k' => ?_
        simp only [List.length_nil] at h17 h18
        simp only [Pv.evalOp, ho, hm, cond_true, hd, h5, h7, h9, h11, h13, hts, h15, Option.bind_some, Pv.toSl, bound_same h12 h17, bound_same h10 h18, bound_same h8 h19]
      · have hM : ∃ M, Pv.bound ymx c c = some M ∧ m ≤ M := by
          rcases bound_rel h12 h17 with ⟨_, rfl, h20⟩ | ⟨_, h20⟩
          · exact ⟨c, h20 _ _, hc⟩
          · exact ⟨m, h20 _ _ (by omega), Nat.le_refl _⟩
        obtain ⟨M, hM1, hM2⟩ := hM
        have hH : Pv.bound yhi M xs.length = some h := by
          rcases bound_rel h10 h18 with ⟨_, rfl, h20⟩ | ⟨h21, h20⟩
          · exact h20 _ _
          · exact h20 _ _ (by omega)
        have hlen : ((xs.take h).drop l).length = h - l := by rw [List.length_drop, List.length_take]; omega
        have hget : ∀ (i : Nat) x, ((xs.take h).drop l)[i]? = some x → xs[l + i]? = some x := fun i x hx => by
          rw [List.getElem?_drop] at hx
          exact take_get hx
        have hhM : h ≤ M := by
          rcases bound_rel h10 h18 with ⟨hn, rfl, h20⟩ | ⟨h21, h20⟩
          · have hn2 := hmx hn
            subst hn2
            cases ymx <;> first | exact h12.elim | skip
            cases hM1; exact hc
          · omega
        have hmul : l * te.size + (h - l) * te.size ≤ xs.length * te.size := by
          rw [← Nat.add_mul]
          exact Nat.mul_le_mul_right _ (by omega)
        have hv := VD.fz (F := F) μ ((xs.take h).drop l) j (off + l * te.size) (M - l) te.size row cells hF (fun i x hx => hl _ x (hget i x hx)) (fun i x hx => by
          have := hh _ x (hget i x hx)
          rw [Nat.add_mul, ← Nat.add_assoc] at this
          exact this) (by rw [hlen]; omega) (by rw [hlen]; omega)
        rw [hlen] at hv
        refine .val s hv e fun R' k' => ?_
        simp only [Pv.evalOp, ho, hm, cond_true, hd, h5, h7, h9, h11, h13, hts, h15, Option.bind_some, Pv.toSl, hM1, hH, bound_same h8 h19, Pv.addrOf, Option.isNone_none]
    · cases e
  · rename_i n el
    replace e := bif_some e; obtain ⟨hn, e⟩ := e
    replace e := bnd e; obtain ⟨te, h13, e⟩ := e
    replace e := bnd e; obtain ⟨m, h17, e⟩ := e
    replace e := bnd e; obtain ⟨h, h18, e⟩ := e
    replace e := bnd e; obtain ⟨l, h19, e⟩ := e
    have b1 := bound_same h12 h17
    have b2 := bound_same h10 h18
    have b3 := bound_same h8 h19
    obtain ⟨_, hlh, hhm⟩ := slice_room (sp := 0) h17 h18 h19 hmx
    split at e
    · rename_i d off
      replace e := bnd e; obtain ⟨⟨id, dst'⟩, h20, e⟩ := e
      cases yx <;> first | exact h6.elim | skip
      rename_i d' off'
      obtain ⟨g1, g2⟩ := h6
      subst g1 g2
      obtain ⟨μ1, j, st1, h21, s1, x1, hj⟩ := promote_rel s h20
      have hrm : h - l + (m - h) = m - l := by omega
      refine ⟨F, μ1, _, _, .v (.slice (some ⟨j, off + l * te.size, none⟩) (h - l) (h - l + (m - h))), st1, e, fun R' k' => ?_, s1, VD.sl _ _ _ _ _ _ _ hj, x1⟩
      rw [hrm]
      simp only [Pv.evalOp, ho, hm, cond_true, hd, h5, h7, h9, h11, h13, Option.bind_some, hn, b1, b2, b3, h21]
    · rename_i id off
      replace e := bnd e; obtain ⟨db, h20, e⟩ := e
      replace e := bif_none e; obtain ⟨hb, e⟩ := e
      cases yx <;> first | exact h6.elim | skip
      rename_i w
      replace h6 : VD F μ (.ptr id off) w := h6
      cases h6 with
      | ptr _ _ _ j hj =>
        obtain ⟨b, hb', hr⟩ := s.h.blk id db j h20 hj
        have hrm : h - l + (m - h) = m - l := by omega
        refine .val s (.sl _ _ _ _ _ _ _ hj) e fun R' k' => ?_
        rw [hrm]
        simp only [Pv.evalOp, ho, hm, cond_true, hd, h5, h7, h9, h11, h13, Option.bind_some, hn, b1, b2, b3, Pv.toPtr, Pv.addrOf, Option.isNone_none, hb', hr.row, hr.live, hb, cond_false]
    · rename_i row cs
      replace e := bif_none e; obtain ⟨hb, e⟩ := e
      cases yx <;> first | exact h6.elim | skip
      rename_i w
      replace h6 : VD F μ (.fp row cs) w := h6
      cases h6 with
      | fp _ _ row' _ j off cells hF hrow hv hle =>
        simp only [Bool.or_eq_false_iff, Bool.not_eq_false'] at hb
        obtain ⟨hb1, hb2⟩ := hb
        have hb2 := Nat.le_of_ble_eq_true hb2
        obtain ⟨b, hb', hl, hr, rfl⟩ := s.h.fz j _ cells hF
        rw [hrow hb1] at hr
        have hml : m ≤ n := bound_le h17 (Nat.le_refl _)
        have hlh : l ≤ h := bound_le h19 (Nat.zero_le _)
        have hhm : h ≤ m := by
          rcases bound_rel h10 h18 with ⟨hn', rfl, h20⟩ | ⟨h21, h20⟩
          · have hn2 := hmx hn'
            subst hn2
            cases h17; exact Nat.le_refl _
          · exact h21
        have hmul : l * te.size + (h - l) * te.size = h * te.size := by
          rw [← Nat.add_mul]; congr 1; omega
        have hv2 := hv.drop (l * te.size)
        rw [List.drop_take, List.drop_drop] at hv2
        have hc2 := VD.of_chunks (μ := μ) (cs := cs.drop (l * te.size)) (n := h - l) (c := m - l) (sz := te.size) hF (off := off + l * te.size) (by rw [List.length_drop]; exact hv2) (by rw [List.length_drop]; omega) (by omega) (by rw [List.length_drop]; omega)
        refine .val s hc2 e fun R' k' => ?_
        simp only [Pv.evalOp, ho, hm, cond_true, hd, h5, h7, h9, h11, h13, Option.bind_some, hn, b1, b2, b3, Pv.toPtr, Pv.addrOf, Option.isNone_none, hb', hr, hl, Bool.false_or, Bool.not_true, cond_false]
    · cases e
  · cases e
 include hC
theorem evalOp_sim (hpa : ∀ c b, o.op = .call c → c.callee = .builtin b → Pv.isApp prot b = false) (e : evalOp P C o dst k = some r) : OpR F μ st k r fun R' k' => Pv.evalOp P C' prot o st k' := by
  cases ho : o.op with
  | move x =>
    simp only [evalOp, ho] at e
    obtain ⟨sx, h1, e⟩ := bnd e
    obtain ⟨y, h2, h3⟩ := opd_rel hg s h1
    exact .here s h3 e fun R' k' => by simp only [Pv.evalOp, ho, h2, Option.bind_some]
  | assign x =>
    simp only [evalOp, ho] at e
    obtain ⟨sx, h1, e⟩ := bnd e
    obtain ⟨y, h2, h3⟩ := opd_rel hg s h1
    exact .here s h3 e fun R' k' => by simp only [Pv.evalOp, ho, h2, Option.bind_some]
  | pick c a b => exact sim_pick hg s ho e
  | alloc t => exact sim_alloc hg s ho e
  | box t x => exact sim_box hg s ho e
  | build t ps => exact sim_build hg s ho e
  | buildSlice t n ps => exact sim_buildSlice hg s ho e
  | load t a => exact sim_load hg s ho e
  | store t a x => exact sim_store hg s ho e
  | nilCheck x => exact sim_nilCheck hg s ho e
  | binOp op t x y w => exact sim_binOp hg s ho e
  | unOp op t x => exact sim_unOp hg s ho e
  | convert a b x => exact sim_convert hg s ho e
  | sliceToArrayPointer a x => exact sim_toArr hg s ho e
  | makeInterface t x => exact sim_iface hg s ho e
  | makeFunc f a b => exact sim_func hg s ho e
  | makeSlice t l c => exact sim_makeSlice hg s ho e
  | slice t x l h m => exact sim_slice hg s ho e
  | fieldAddr t x f => exact sim_fieldAddr hg s ho e
  | field t x f => exact sim_field hg s ho e
  | indexAddr t x i => exact sim_indexAddr hg s ho e
  | index t x i => exact sim_index hg s ho e
  | extract t i => exact sim_extract hg s ho e
  | call c => exact sim_call hg hC s ho (fun b hb => hpa c b ho hb) e
  | _ => simp only [evalOp, ho] at e; cases e
end
section
variable {P : Program} {F : Fz} {μ : Mu} {dst : DSt} {st : St} {R : Type} {k : DSlot → DSt → Option R} {r : R}
theorem appQ_rel (s : SimSt F μ dst st) {ts : List TypeId} {xs : List DV} {ys : List Value} (hx : VDs F μ xs ys) (e : appQ P ts xs dst k = some r) : OpR F μ st k r fun R' k' => Pv.appQ P ts ys st k' := by
 unfold appQ at e
 split at e
 ·rename_i t tx a x
  obtain ⟨a', x', rfl, ha, hv⟩ := hx.two
  obtain ⟨d, hu, e1⟩ := Option.bind_eq_some_iff.1 e
  split at e1
  ·rename_i el
   obtain ⟨ti, hti, e2⟩ := Option.bind_eq_some_iff.1 e1
   obtain ⟨z, hz, e3⟩ := Option.bind_eq_some_iff.1 e2
   obtain ⟨d2, hu2, e4⟩ := Option.bind_eq_some_iff.1 e3
   obtain ⟨z', hz', hzv⟩ := zeroOf_rel (F := F) (μ := μ) hz
   split at e4
   ·obtain ⟨hs, e5⟩ := bif_some e4
    obtain ⟨q, hq, e6⟩ := Option.bind_eq_some_iff.1 e5
    obtain ⟨A, n, c, rfl, hqn, hA⟩ := news_rel s.h hv hs hq
    obtain ⟨cs', h1, h2⟩ := news_hcells hA
    subst hqn
    unfold appendQ at e6
    split at e6
    ·rename_i id off len sp sz
     obtain ⟨hc, e7⟩ := bif_some e6
     obtain ⟨db, hdb, e8⟩ := Option.bind_eq_some_iff.1 e7
     obtain ⟨hb, e9⟩ := bif_some e8
     simp only [Bool.and_eq_true, Bool.not_eq_true'] at hc hb
     obtain ⟨⟨⟨⟨⟨⟨c1, c2⟩, c3⟩, c4⟩, c5⟩, c6⟩, c7⟩ := hc
     obtain ⟨⟨⟨b1, b2⟩, b3⟩, b4⟩ := hb
     have c4' := Nat.eq_of_beq_eq_true c4
     have c5' := Nat.eq_of_beq_eq_true c5
     have c6' := Nat.eq_of_beq_eq_true c6
     subst c4' c5' c6'
     cases ha with
     | sl _ _ _ _ _ _ j hj =>
      obtain ⟨b, hbj, hbr⟩ := s.h.blk id db j hdb hj
      obtain ⟨hro, _⟩ := hbr.ro b2
      have hcnd : (b.live && !b.ro && b.row && Nat.beq b.elem el && true) = true := by
       rw [hbr.live, hro, hbr.row, hbr.elem, b1, b3, b4]; rfl
      cases hn : Nat.beq q.1 0 with
      | true =>
       rw [hn] at e9
       refine .val s (.sl _ _ _ _ _ _ _ hj) e9 fun R' k' => ?_
       simp only [Pv.appQ, hu, Option.bind_some, hti, Pv.toSl, hz', hu2, h1, Pv.appendQ, c1, c2, c3, c4, c5, Nat.add_zero, Bool.and_self, cond_true, Pv.addrOf, Option.isNone_none, hbj, hcnd, hn]
      | false =>
       rw [hn] at e9
       refine s.newBlk h2 el q.1 sz e9 fun R' k' => ?_
       simp only [Pv.appQ, hu, Option.bind_some, hti, Pv.toSl, hz', hu2, h1, Pv.appendQ, c1, c2, c3, c4, c5, Nat.add_zero, Bool.and_self, cond_true, cond_false, Pv.addrOf, Option.isNone_none, hbj, hcnd, hn]
     | slNil _ _ _ hj =>
      cases hn : Nat.beq q.1 0 with
      | true =>
       rw [hn] at e9
       refine .val s (.slNil _ _ _ hj) e9 fun R' k' => ?_
       simp only [Pv.appQ, hu, Option.bind_some, hti, Pv.toSl, hz', hu2, h1, Pv.appendQ, c1, c2, c3, c4, c5, Bool.and_self, cond_true, hn]
      | false =>
       rw [hn] at e9
       refine s.newBlk h2 el q.1 sz e9 fun R' k' => ?_
       simp only [Pv.appQ, hu, Option.bind_some, hti, Pv.toSl, hz', hu2, h1, Pv.appendQ, c1, c2, c3, c4, c5, Bool.and_self, cond_true, cond_false, hn]
    ·cases e6
   ·cases e4
  ·cases e1
 ·cases e
theorem evalOpF_sim (hg : GlobD F) {C : CallF} {C' : Pv.CallF} (hC : CSim C (Pv.callP C' true)) {o : Oper} (s : SimSt F μ dst st) (e : evalOpF P C o dst k = some r) : OpR F μ st k r fun R' k' => Pv.evalOp P C' true o st k' := by
 unfold evalOpF at e
 split at e
 ·rename_i args ts ho
  obtain ⟨ss, h3, e⟩ := bnd e
  obtain ⟨ys, h7, h8⟩ := opds_rel hg s h3
  obtain ⟨μ1, xs, dst1, xs', st1, e, n1, s1, x1, v1⟩ := outs_rel s h8 e
  refine (OpR.after x1 (appQ_rel s1 v1 e)).congr fun R' k' => ?_
  simp only [Pv.evalOp, ho, h7, Option.bind_some, Pv.isApp]
  rw [n1]
 ·rename_i hne
  refine evalOp_sim hg hC s (fun c b ho hb => ?_) e
  obtain ⟨callee, args, ts⟩ := c
  cases b <;> first | rfl | skip
  cases hb
  exact (hne args ts ho).elim
end
end Go.Dv
end
section
namespace Go.Dv
open Go.Pv (TI tiOf idx upTo fieldTI CK kindsOf LoopRec PExit isConst room isYield Slot Box Blk Heap St set_get set_same set_ne get_snoc bif_some bif_none masksOf behind firm frm makes floats mayLp dsts isAl drawOK)
variable [Pv.Glob] [DGlob]
section
variable {P : Program} {F : Fz} {μ : Mu} {dst : DSt} {st : St} {R : Type} {r : R}
def StR (F : Fz) (μ : Mu) (st : St) {R : Type} (k : DSt → Option R) (r : R) (run : (R' : Type) → (St → Option R') → Option R') : Prop :=
 ∃ F' μ' dst' st', k dst' = some r ∧ (∀ (R' : Type) (k' : St → Option R'), run R' k' = k' st') ∧ SimSt F' μ' dst' st' ∧ Ext F μ st.heap F' μ' st'.heap
theorem StR.after {F0 : Fz} {μ0 : Mu} {st0 : St} {k : DSt → Option R} {run : (R' : Type) → (St → Option R') → Option R'} (x : Ext F0 μ0 st0.heap F μ st.heap) (h : StR F μ st k r run) : StR F0 μ0 st0 k r run :=
 let ⟨F', μ', dst', st', h1, h2, h3, h5⟩ := h
 ⟨F', μ', dst', st', h1, h2, h3, x.trans h5⟩
theorem StR.congr {k : DSt → Option R} {run run' : (R' : Type) → (St → Option R') → Option R'} (h : StR F μ st k r run) (hr : ∀ (R' : Type) (k' : St → Option R'), run' R' k' = run R' k') : StR F μ st k r run' :=
 let ⟨F', μ', dst', st', h1, h2, h3, h5⟩ := h
 ⟨F', μ', dst', st', h1, fun R' k' => (hr R' k').trans (h2 R' k'), h3, h5⟩
theorem guardK_sim (s : SimSt F μ dst st) {ops : Array Oper} {o : Oper} {run skip : DSt → Option R} (e : guardK ops o dst run skip = some r) :
  ∃ dst1 st1, SimSt F μ dst1 st1 ∧ st1.heap = st.heap ∧ ((run dst1 = some r ∧ ∀ (R' : Type) (run' skip' : St → Option R'), Pv.guardK ops o st run' skip' = run' st1) ∨ (skip dst1 = some r ∧ ∀ (R' : Type) (run' skip' : St → Option R'), Pv.guardK ops o st run' skip' = skip' st1)) := by
 unfold guardK at e
 split at e
 ·rename_i hg
  exact ⟨dst, st, s, rfl, .inl ⟨e, fun R' run' skip' => by simp only [Pv.guardK, hg]⟩⟩
 ·rename_i j want hg
  obtain ⟨g, h1, e1⟩ := bnd e
  obtain ⟨sl, h2, e2⟩ := bnd e1
  obtain ⟨x, h3, e3⟩ := bnd e2
  obtain ⟨y, h4, h5⟩ := s.t.get h2
  obtain ⟨v, h6, _, h7⟩ := valS_rel h5 h3
  clear e e1 e2
  split at e3
  ·rename_i b
   cases h7
   cases b with
   | true =>
    cases want with
    | true => exact ⟨{ dst with tmps := dst.tmps.set g (.v (.bool true)) }, { st with tmps := st.tmps.set g (.v (.bool true)) }, ⟨s.h, s.t.set g (x := .v (.bool true)) (y := .v (.bool true)) (VD.bool _ _), s.b⟩, rfl, .inl ⟨e3, fun R' run' skip' => by simp only [Pv.guardK, hg, h1, h4, h6, Option.bind_some, cond_true]⟩⟩
    | false => exact ⟨{ dst with tmps := dst.tmps.set g (.v (.bool true)) }, { st with tmps := st.tmps.set g (.v (.bool true)) }, ⟨s.h, s.t.set g (x := .v (.bool true)) (y := .v (.bool true)) (VD.bool _ _), s.b⟩, rfl, .inr ⟨e3, fun R' run' skip' => by simp only [Pv.guardK, hg, h1, h4, h6, Option.bind_some, cond_true]⟩⟩
   | false =>
    cases want with
    | true => exact ⟨{ dst with tmps := dst.tmps.set g (.v (.bool false)) }, { st with tmps := st.tmps.set g (.v (.bool false)) }, ⟨s.h, s.t.set g (x := .v (.bool false)) (y := .v (.bool false)) (VD.bool _ _), s.b⟩, rfl, .inr ⟨e3, fun R' run' skip' => by simp only [Pv.guardK, hg, h1, h4, h6, Option.bind_some, cond_false]⟩⟩
    | false => exact ⟨{ dst with tmps := dst.tmps.set g (.v (.bool false)) }, { st with tmps := st.tmps.set g (.v (.bool false)) }, ⟨s.h, s.t.set g (x := .v (.bool false)) (y := .v (.bool false)) (VD.bool _ _), s.b⟩, rfl, .inl ⟨e3, fun R' run' skip' => by simp only [Pv.guardK, hg, h1, h4, h6, Option.bind_some, cond_false]⟩⟩
  ·cases h7
   exact ⟨_, st, s, rfl, .inr ⟨e3, fun R' run' skip' => by simp only [Pv.guardK, hg, h1, h4, h6, Option.bind_some]⟩⟩
  ·cases e3
theorem both_nil_l {α β : Type} {r : α → β → Prop} {l : List β} (h : Both r [] l) : l = [] := List.eq_nil_of_length_eq_zero h.1.symm
theorem both_cons_l {α β : Type} {r : α → β → Prop} {x : α} {l : List α} {l' : List β} (h : Both r (x :: l) l') : ∃ y t, l' = y :: t ∧ r x y ∧ Both r l t := by
 cases l' with
 | nil => have := h.1; simp at this
 | cons y t => obtain ⟨h1, h2⟩ := h.of_cons; exact ⟨y, t, rfl, h1, h2⟩
def GB {α β : Type} (r : α → β → Prop) : Option α → Option β → Prop
 | some x, some y => r x y
 | none, none => True
 | _, _ => False
theorem isNo_rel {b : Option DBox} {b' : Option Box} (h : GB (BD F μ) b b') : isNo b = Pv.isNo b' := by
 cases b with
 | none => cases b' with
  | none => rfl
  | some y => exact h.elim
 | some x => cases b' with
  | none => exact h.elim
  | some y => cases x <;> cases y <;> first | exact h.elim | rfl
theorem get_both {α β : Type} {r : α → β → Prop} {l : List α} {l' : List β} (h : Both r l l') (i : Nat) : GB r l[i]? l'[i]? := by
 cases hx : l[i]? with
 | none => rw [h.none hx]; trivial
 | some x => obtain ⟨y, hy, hr⟩ := h.get hx; rw [hy]; exact hr
theorem lpsOf_rel : ∀ {l : List DSlot} {l' : List Slot}, Both (SD F μ) l l' → lpsOf l = Pv.lpsOf l'
 | [], l', h => by rw [both_nil_l h]; rfl
 | x :: l, l', h => by
  obtain ⟨y, t, rfl, h1, h2⟩ := both_cons_l h
  have ih := lpsOf_rel h2
  cases x <;> cases y <;> first | exact h1.elim | skip
  ·exact ih
  ·obtain ⟨rfl, rfl⟩ := h1
   simp only [lpsOf, Pv.lpsOf, ih]
  ·exact ih
theorem focT_rel (keep : List Nat) : ∀ {l : List DSlot} {l' : List Slot} (i : Nat), Both (SD F μ) l l' → Both (SD F μ) (focT keep i l) (Pv.focT keep i l')
 | [], l', i, h => by rw [both_nil_l h]; exact .nil
 | x :: l, l', i, h => by
  obtain ⟨y, t, rfl, h1, h2⟩ := both_cons_l h
  simp only [focT, Pv.focT]
  refine Both.cons ?_ (focT_rel keep (i + 1) h2)
  cases keep.elem i
  ·trivial
  ·exact h1
theorem focB_rel (keep : List Nat) : ∀ {l : List DBox} {l' : List Box} (i : Nat), Both (BD F μ) l l' → Both (BD F μ) (focB keep i l) (Pv.focB keep i l')
 | [], l', i, h => by rw [both_nil_l h]; exact .nil
 | x :: l, l', i, h => by
  obtain ⟨y, t, rfl, h1, h2⟩ := both_cons_l h
  simp only [focB, Pv.focB]
  refine Both.cons ?_ (focB_rel keep (i + 1) h2)
  cases keep.elem i
  ·trivial
  ·exact h1
theorem focus_rel (s : SimSt F μ dst st) (ops : Array Oper) (o : Oper) : SimSt F μ (focus ops o dst) (Pv.focus ops o st) := by
 have h1 := focT_rel (o.looksAt ops) 0 s.t
 refine ⟨s.h, h1, ?_⟩
 simp only [focus, Pv.focus]
 rw [lpsOf_rel h1]
 exact focB_rel _ 0 s.b
theorem killAll_rel : ∀ (l : List Nat) {dst : DSt} {st : St}, SimSt F μ dst st → SimSt F μ (killAll l dst) (Pv.killAll l st)
 | [], _, _, s => s
 | d :: r, dst, st, s => killAll_rel r ⟨s.h, killLp_rel d (s.t.set d (x := .dead) (y := .dead) trivial), s.b.set d (x := .no) (y := .no) trivial⟩
theorem killAll_heap : ∀ (l : List Nat) (st : St), (Pv.killAll l st).heap = st.heap
 | [], _ => rfl
 | d :: r, st => killAll_heap r _
theorem lpOK_rel {ops : Array Oper} {ms : List Nat} {i : Nat} {x : DSlot} {y : Slot} (h : SD F μ x y) : lpOK ops ms i x = Pv.lpOK ops ms i y := by
 cases x <;> cases y <;> first | exact h.elim | skip
 ·rfl
 ·obtain ⟨rfl, rfl⟩ := h; rfl
 ·rfl
theorem lpIn_rel (s : SimSt F μ dst st) {x : DSlot} {y : Slot} (h : SD F μ x y) : lpIn dst x = Pv.lpIn st y := by
 cases x <;> cases y <;> first | exact h.elim | skip
 ·rfl
 ·rename_i d off d' off'
  obtain ⟨h1, h2⟩ := h
  subst h1 h2
  simp only [lpIn, Pv.lpIn]
  have hb := get_both s.b d
  cases hx : dst.boxes[d]? with
  | none => rw [hx] at hb; cases hy : st.boxes[d]? with
   | none => rfl
   | some y => rw [hy] at hb; exact hb.elim
  | some x => rw [hx] at hb; cases hy : st.boxes[d]? with
   | none => rw [hy] at hb; exact hb.elim
   | some y => rw [hy] at hb; cases x <;> cases y <;> first | exact hb.elim | rfl
 ·rfl
theorem clearLp_rel {ops : Array Oper} {m : Nat} : ∀ {l : List DSlot} {l' : List Slot}, Both (SD F μ) l l' → clearLp ops m l = Pv.clearLp ops m l'
 | [], l', h => by rw [both_nil_l h]; rfl
 | x :: l, l', h => by
  obtain ⟨y, t, rfl, h1, h2⟩ := both_cons_l h
  have ih := clearLp_rel (ops := ops) (m := m) h2
  simp only [clearLp, Pv.clearLp, List.all_cons] at ih ⊢
  rw [ih]
  cases x <;> cases y <;> first | exact h1.elim | skip
  ·rfl
  ·obtain ⟨rfl, rfl⟩ := h1; rfl
  ·rfl
theorem floatOK_rel (s : SimSt F μ dst st) {o : Oper} {φ : DSt} {ψ : St} (f : SimSt F μ φ ψ) : floatOK o dst φ = Pv.floatOK o st ψ := by
 simp only [floatOK, Pv.floatOK]
 rw [lpsOf_rel f.t]
 congr 2
 cases o.dst with
 | none => rfl
 | some d =>
  simp only [Option.bind_some]
  exact isNo_rel (F := F) (μ := μ) (get_both s.b d)
theorem merge_rel {F' : Fz} {μ' : Mu} (s : SimSt F μ dst st) {o : Oper} {x : DSlot} {y : Slot} {φ : DSt} {ψ : St} (f : SimSt F' μ' φ ψ) (hx : SD F' μ' x y) (hF : F.le F') (hM : Mu.le μ μ') : SimSt F' μ' (merge o x dst φ) (Pv.merge o y st ψ) := by
 have ht : Both (SD F' μ') dst.tmps st.tmps := s.t.mono fun _ _ h => h.mono hF hM
 have hb : Both (BD F' μ') dst.boxes st.boxes := s.b.mono fun _ _ h => h.mono hF hM
 refine ⟨f.h, ?_, ?_⟩
 ·simp only [merge, Pv.merge]
  cases o.dst with
  | none => exact ht
  | some d => exact ht.set d hx
 ·simp only [merge, Pv.merge]
  cases makes o.op with
  | false => exact hb
  | true => cases o.dst with
   | none => exact hb
   | some d =>
    refine hb.set d ?_
    have hq := get_both f.b d
    rw [List.getD_eq_getElem?_getD, List.getD_eq_getElem?_getD]
    cases hx : φ.boxes[d]? with
    | none => rw [hx] at hq; cases hy : ψ.boxes[d]? with
     | none => trivial
     | some y => rw [hy] at hq; exact hq.elim
    | some x => rw [hx] at hq; cases hy : ψ.boxes[d]? with
     | none => rw [hy] at hq; exact hq.elim
     | some y => rw [hy] at hq; exact hq
theorem evalDraw_sim {C Cp : CallF} {C' : Pv.CallF} (hC : CSim C (Pv.callP C' false)) (hCp : CSim Cp (Pv.callP C' true)) {ops : Array Oper} {ms : List Nat} {k : DSt → Option R} : ∀ (l : List Oper) (i : Nat) {F : Fz} {μ : Mu} {dst : DSt} {st : St}, GlobD F → SimSt F μ dst st → evalDraw P C Cp ops ms i l dst k = some r → StR F μ st k r fun R' k' => Pv.evalDraw P C' ops ms i l st k'
 | [], i, F, μ, dst, st, hg, s, e => ⟨F, μ, dst, st, e, fun _ _ => rfl, s, .refl _ _ _⟩
 | o :: l, i, F, μ, dst, st, hg, s, e => by
  simp only [evalDraw] at e
  cases hf : frm ops ms i with
  | true =>
   simp only [hf, cond_true] at e
   obtain ⟨dst1, st1, s1, hh1, h1⟩ := guardK_sim s e
   rcases h1 with ⟨e, hn⟩ | ⟨e, hn⟩
   ·obtain ⟨F2, μ2, y, dst2, y', st2, e2, hn2, s2, hy, x2⟩ := evalOp_sim hg hC s1 (fun c b _ _ => by cases b <;> rfl) e
    rw [hh1] at x2
    replace e2 := bif_some e2; obtain ⟨hc, e2⟩ := e2
    have s3 := s2.put o.dst hy
    rw [clearLp_rel s3.t] at hc
    have ih := evalDraw_sim hC hCp l (i + 1) (hg.mono x2.hF) s3 e2
    have hp : (st2.put o.dst y').heap = st2.heap := by cases o.dst <;> rfl
    refine (StR.after (st := st2.put o.dst y') (by rw [hp]; exact x2) ih).congr fun R' k' => ?_
    simp only [Pv.evalDraw, hf, cond_true, hn, hn2, hc]
   ·replace e := bif_some e; obtain ⟨hc, e⟩ := e
    have s3 := s1.put o.dst (x := .v undef) (y := .v Go.undef) (VD.tup _ _ _ (.nil _))
    rw [clearLp_rel s3.t] at hc
    have ih := evalDraw_sim hC hCp l (i + 1) hg s3 e
    have hp : (st1.put o.dst (.v Go.undef)).heap = st.heap := by rw [← hh1]; cases o.dst <;> rfl
    refine (StR.after (st := st1.put o.dst (.v Go.undef)) (by rw [hp]; exact .refl _ _ _) ih).congr fun R' k' => ?_
    simp only [Pv.evalDraw, hf, cond_true, hn, hc]
  | false =>
   simp only [hf, cond_false] at e
   obtain ⟨dst1, st1, s1, hh1, h1⟩ := guardK_sim s e
   rcases h1 with ⟨e, hn⟩ | ⟨e, hn⟩
   ·replace e := bif_some e; obtain ⟨hfl, e⟩ := e
    have sf := focus_rel s1 ops o
    rw [floatOK_rel s1 sf] at hfl
    obtain ⟨F2, μ2, y, dst2, y', st2, e2, hn2, s2, hy, x2⟩ := evalOpF_sim hg hCp sf e
    rw [show (Pv.focus ops o st1).heap = st.heap from hh1] at x2
    replace e2 := bif_some e2; obtain ⟨hc, e2⟩ := e2
    rw [lpOK_rel hy, lpIn_rel s2 hy] at hc
    have s3 := merge_rel (o := o) s1 s2 hy x2.hF x2.hM
    have ih := evalDraw_sim hC hCp l (i + 1) (hg.mono x2.hF) s3 e2
    refine (StR.after (st := Pv.merge o y' st1 st2) x2 ih).congr fun R' k' => ?_
    simp only [Pv.evalDraw, hf, cond_false, hn, hfl, cond_true]
    refine (hn2 _ _).trans ?_
    simp only [hc, cond_true]
   ·have s3 := s1.put o.dst (x := .v undef) (y := .v Go.undef) (VD.tup _ _ _ (.nil _))
    have ih := evalDraw_sim hC hCp l (i + 1) hg s3 e
    have hp : (st1.put o.dst (.v Go.undef)).heap = st.heap := by rw [← hh1]; cases o.dst <;> rfl
    refine (StR.after (st := st1.put o.dst (.v Go.undef)) (by rw [hp]; exact .refl _ _ _) ih).congr fun R' k' => ?_
    simp only [Pv.evalDraw, hf, cond_false, hn]
theorem boxed_rel (s : SimSt F μ dst st) (d : Nat) : boxed dst.boxes[d]? = Pv.boxed st.boxes[d]? := by
 have h := get_both s.b d
 cases hx : dst.boxes[d]? with
 | none =>
  cases hy : st.boxes[d]? with
  | none => rfl
  | some B => rw [hx, hy] at h; exact h.elim
 | some x =>
  cases hy : st.boxes[d]? with
  | none => rw [hx, hy] at h; exact h.elim
  | some B => rw [hx, hy] at h; cases x <;> cases B <;> first | rfl | exact h.elim
theorem pre_sim {k : DSt → Option R} : ∀ (l : List Nat) {μ : Mu} {dst : DSt} {st : St}, SimSt F μ dst st → pre dst l k = some r → ∃ μ' dst' st', k dst' = some r ∧ (∀ (R' : Type) (k' : St → Option R'), Pv.pre st l k' = k' st') ∧ SimSt F μ' dst' st' ∧ Ext F μ st.heap F μ' st'.heap
 | [], μ, dst, st, s, e => ⟨μ, dst, st, e, fun _ _ => rfl, s, .refl _ _ _⟩
 | t :: l, μ, dst, st, s, e => by
  unfold pre at e
  have hg := get_both s.t t
  split at e
  ·rename_i d off hs
   rw [hs] at hg
   cases hy : st.tmps[t]? with
   | none => rw [hy] at hg; exact hg.elim
   | some y =>
    rw [hy] at hg
    cases y <;> first | exact hg.elim | skip
    rename_i d' off'
    obtain ⟨g1, g2⟩ := hg
    subst g1 g2
    cases hb : boxed dst.boxes[d]? with
    | false =>
     rw [hb] at e
     obtain ⟨μ', dst', st', e1, hn, s1, x1⟩ := pre_sim l s e
     refine ⟨μ', dst', st', e1, fun R' k' => ?_, s1, x1⟩
     unfold Pv.pre
     rw [hy]
     simp only [← boxed_rel s d, hb, cond_false, hn]
    | true =>
     rw [hb, cond_true] at e
     obtain ⟨μ1, v, dst1, w, st1, e1, hn, s1, x1, hv, _⟩ := out_rel s (x := .lp d off) (y := .lp d off) ⟨rfl, rfl⟩ e
     obtain ⟨μ', dst', st', e2, hn2, s2, x2⟩ := pre_sim l (dst := { dst1 with tmps := dst1.tmps.set t (.v v) }) (st := { st1 with tmps := st1.tmps.set t (.v w) }) ⟨s1.h, s1.t.set t (x := .v v) (y := .v w) hv, s1.b⟩ e1
     refine ⟨μ', dst', st', e2, fun R' k' => ?_, s2, x1.trans x2⟩
     unfold Pv.pre
     rw [hy]
     simp only [← boxed_rel s d, hb, cond_true, hn, hn2]
  ·rename_i hne
   obtain ⟨μ', dst', st', e1, hn, s1, x1⟩ := pre_sim l s e
   refine ⟨μ', dst', st', e1, fun R' k' => ?_, s1, x1⟩
   unfold Pv.pre
   split
   ·rename_i d off hy
    rw [hy] at hg
    cases hx : dst.tmps[t]? with
    | none => rw [hx] at hg; exact hg.elim
    | some x => rw [hx] at hg; cases x <;> first | exact hg.elim | exact (hne _ _ hx).elim
   ·exact hn _ _
theorem evalDrawn_sim {C Cp : CallF} {C' : Pv.CallF} (hC : CSim C (Pv.callP C' false)) (hCp : CSim Cp (Pv.callP C' true)) {ops : Array Oper} {k : DSt → Option R} (hg : GlobD F) (s : SimSt F μ dst st) (e : evalDrawn P C Cp ops dst k = some r) : StR F μ st k r fun R' k' => Pv.evalRegion P C' true ops st k' := by
 unfold evalDrawn at e
 obtain ⟨μ1, dst1, st1, e, hn, s, x1⟩ := pre_sim _ s e
 refine StR.after x1 ?_
 refine StR.congr (run := fun R' k' => (bif Pv.drawOK ops (masksOf ops.toList []) && P.follows .mixedOrders && Pv.clearLp ops 0 (Pv.killAll (dsts ops.toList) st1).tmps then Pv.evalDraw P C' ops (masksOf ops.toList []) 0 ops.toList (Pv.killAll (dsts ops.toList) st1) k' else none)) ?_ fun R' k' => by simp only [Pv.evalRegion, hn]
 obtain ⟨hc, e1⟩ := bif_some e
 have s1 := killAll_rel (dsts ops.toList) s
 rw [clearLp_rel s1.t] at hc
 refine (StR.after (st := Pv.killAll (dsts ops.toList) st1) (by rw [killAll_heap]; exact .refl _ _ _) (evalDraw_sim hC hCp _ _ hg s1 e1)).congr fun R' k' => ?_
 simp only [hc, cond_true]
theorem killTmps_rel : ∀ (l : List Nat) {dst : DSt} {st : St}, SimSt F μ dst st → SimSt F μ (killTmps l dst) (Pv.killTmps l st)
 | [], _, _, s => s
 | d :: r, dst, st, s => killTmps_rel r ⟨s.h, s.t.set d (x := .dead) (y := .dead) trivial, s.b.set d (x := .no) (y := .no) trivial⟩
theorem killTmps_heap : ∀ (l : List Nat) (st : St), (Pv.killTmps l st).heap = st.heap
 | [], _ => rfl
 | d :: r, st => killTmps_heap r _
end
end Go.Dv
end
section
namespace Go.Dv
open Go.Pv (Slot Box Blk Heap St set_get set_same set_ne get_snoc bif_some)
variable [Pv.Glob] [DGlob]
section
variable {F : Fz} {μ μ' : Mu} {f : Nat → Option Nat}
def RenOK (f : Nat → Option Nat) (μ μ' : Mu) : Prop := ∀ id i x, f id = some i → μ[id]? = some x → μ'[i]? = some x
theorem ren_rel {x : DV} {y : Value} (h : VD F μ x y) : ∀ {μ' : Mu} {x' : DV}, RenOK f μ μ' → renV f x = some x' → VD F μ' x' y := by
 refine VD.rec (motive_1 := fun μ x y _ => ∀ {μ' : Mu} {x' : DV}, RenOK f μ μ' → renV f x = some x' → VD F μ' x' y) (motive_2 := fun μ xs ys _ => ∀ {μ' : Mu} {xs' : List DV}, RenOK f μ μ' → renL f xs = some xs' → VDs F μ' xs' ys) ?_ ?_ ?_ ?_ ?_ ?_ ?_ ?_ ?_ ?_ ?_ ?_ ?_ ?_ ?_ ?_ ?_ ?_ ?_ ?_ h
 ·intro μ k n μ' x' hr e; cases e; exact .int _ k n
 ·intro μ b μ' x' hr e; cases e; exact .bool _ b
 ·intro μ s μ' x' hr e; cases e; exact .str _ s
 ·intro μ μ' x' hr e; cases e; exact .nilp _
 ·intro μ μ' x' hr e; cases e; exact .nils _
 ·intro μ μ' x' hr e; cases e; exact .nilf _
 ·intro μ μ' x' hr e; cases e; exact .nili _
 ·intro μ id off j h μ' x' hr e
  obtain ⟨i, hi, e⟩ := Option.bind_eq_some_iff.1 e
  cases e
  exact .ptr _ _ _ _ (hr _ _ _ hi h)
 ·intro μ id off n c sz j h μ' x' hr e
  obtain ⟨i, hi, e⟩ := Option.bind_eq_some_iff.1 e
  cases e
  exact .sl _ _ _ _ _ _ _ (hr _ _ _ hi h)
 ·intro μ id sz h μ' x' hr e
  obtain ⟨i, hi, e⟩ := Option.bind_eq_some_iff.1 e
  cases e
  exact .slNil _ _ _ (hr _ _ _ hi h)
 ·intro μ xss j off c sz row cells h1 hl h2 hc hle ih μ' x' hr e
  cases e
  exact .fz _ xss j off c sz row cells h1 hl h2 hc hle
 ·intro μ μ' x' hr e; cases e; exact .fzNil _
 ·intro μ row row' cs j off cells h1 hr' h2 hle ih μ' x' hr e
  cases e
  exact .fp _ row row' cs j off cells h1 hr' h2 hle
 ·intro μ g xs zs ys ws h h' ih ih' μ' x' hr e
  obtain ⟨a, ha, e⟩ := Option.bind_eq_some_iff.1 e
  obtain ⟨b, hb, e⟩ := Option.bind_eq_some_iff.1 e
  cases e
  exact .func _ g _ _ _ _ (ih hr ha) (ih' hr hb)
 ·intro μ id j h μ' x' hr e
  obtain ⟨i, hi, e⟩ := Option.bind_eq_some_iff.1 e
  cases e
  exact .yield _ _ _ (hr _ _ _ hi h)
 ·intro μ t x y h ih μ' x' hr e
  obtain ⟨a, ha, e⟩ := Option.bind_eq_some_iff.1 e
  cases e
  exact .iface _ t _ _ (ih hr ha)
 ·intro μ xs ys h ih μ' x' hr e
  obtain ⟨a, ha, e⟩ := Option.bind_eq_some_iff.1 e
  cases e
  exact .agg _ _ _ (ih hr ha)
 ·intro μ xs ys h ih μ' x' hr e
  obtain ⟨a, ha, e⟩ := Option.bind_eq_some_iff.1 e
  cases e
  exact .tup _ _ _ (ih hr ha)
 ·intro μ μ' x' hr e; cases e; exact .nil _
 ·intro μ x y xs ys h t ih ih' μ' x' hr e
  obtain ⟨a, ha, e⟩ := Option.bind_eq_some_iff.1 e
  obtain ⟨b, hb, e⟩ := Option.bind_eq_some_iff.1 e
  cases e
  exact .cons _ _ _ _ _ (ih hr ha) (ih' hr hb)
theorem rens_rel (hr : RenOK f μ μ') : ∀ {xs xs' : List DV} {ys : List Value}, VDs F μ xs ys → renL f xs = some xs' → VDs F μ' xs' ys
 | _, _, _, .nil _, e => by cases e; exact .nil _
 | _, _, _, .cons _ x y xs ys h t, e => by
  obtain ⟨a, ha, e⟩ := Option.bind_eq_some_iff.1 e
  obtain ⟨b, hb, e⟩ := Option.bind_eq_some_iff.1 e
  cases e
  exact .cons _ _ _ _ _ (ren_rel h hr ha) (rens_rel hr t hb)
theorem renS_rel (hr : RenOK f μ μ') : ∀ {l l1 : List DSlot} {l' : List Slot}, Both (SD F μ) l l' → renS f l = some l1 → Both (SD F μ') l1 l'
 | [], _, l', h, e => by
  cases e
  obtain rfl := both_nil_l h
  exact .nil
 | s :: l, l1, l', h, e => by
  obtain ⟨s', t, rfl, h1, h2⟩ := both_cons_l h
  cases s with
  | v x =>
   obtain ⟨a, ha, e⟩ := Option.bind_eq_some_iff.1 e
   obtain ⟨b, hb, e⟩ := Option.bind_eq_some_iff.1 e
   cases e
   refine .cons ?_ (renS_rel hr h2 hb)
   cases s' <;> first | exact h1.elim | exact ren_rel h1 hr ha
  | lp d o =>
   obtain ⟨b, hb, e⟩ := Option.bind_eq_some_iff.1 e
   cases e
   refine .cons ?_ (renS_rel hr h2 hb)
   cases s' <;> first | exact h1.elim | exact h1
  | dead =>
   obtain ⟨b, hb, e⟩ := Option.bind_eq_some_iff.1 e
   cases e
   refine .cons ?_ (renS_rel hr h2 hb)
   cases s' <;> first | exact h1.elim | exact h1
theorem renB_rel (hr : RenOK f μ μ') : ∀ {l l1 : List DBox} {l' : List Box}, Both (BD F μ) l l' → renB f l = some l1 → Both (BD F μ') l1 l'
 | [], _, l', h, e => by
  cases e
  obtain rfl := both_nil_l h
  exact .nil
 | s :: l, l1, l', h, e => by
  obtain ⟨s', t, rfl, h1, h2⟩ := both_cons_l h
  cases s with
  | no =>
   obtain ⟨b, hb, e⟩ := Option.bind_eq_some_iff.1 e
   cases e
   refine .cons ?_ (renB_rel hr h2 hb)
   cases s' <;> first | exact h1.elim | exact h1
  | loc cs t =>
   obtain ⟨a, ha, e⟩ := Option.bind_eq_some_iff.1 e
   obtain ⟨b, hb, e⟩ := Option.bind_eq_some_iff.1 e
   cases e
   refine .cons ?_ (renB_rel hr h2 hb)
   cases s' <;> first | exact h1.elim | exact ⟨h1.1, rens_rel hr h1.2 ha⟩
  | prom id =>
   obtain ⟨a, ha, e⟩ := Option.bind_eq_some_iff.1 e
   obtain ⟨b, hb, e⟩ := Option.bind_eq_some_iff.1 e
   cases e
   refine .cons ?_ (renB_rel hr h2 hb)
   cases s' <;> first | exact h1.elim | exact hr _ _ _ ha h1
theorem renH_get {dh : DHeap} : ∀ {keep : List Nat} {dh' : DHeap}, renH f dh keep = some dh' → dh'.length = keep.length ∧ ∀ (i : Nat) db', dh'[i]? = some db' → ∃ id db cs, keep[i]? = some id ∧ dh[id]? = some db ∧ db' = { db with cells := cs } ∧ (lives db = true → DGlob.opaqT db.elem = false → renL f db.cells = some cs) ∧ (lives db = true → DGlob.opaqT db.elem = true → cs = db.cells) ∧ (lives db = false → cs = [])
 | [], dh', e => by
  cases e
  exact ⟨rfl, fun i db' h => by simp at h⟩
 | id :: keep, dh', e => by
  obtain ⟨b, hb, e⟩ := Option.bind_eq_some_iff.1 e
  obtain ⟨cs, hcs, e⟩ := Option.bind_eq_some_iff.1 e
  obtain ⟨r, hr, e⟩ := Option.bind_eq_some_iff.1 e
  cases e
  obtain ⟨h1, h2⟩ := renH_get hr
  refine ⟨by simp [h1], fun i db' h => ?_⟩
  cases i with
  | zero =>
   cases h
   refine ⟨id, b, cs, rfl, hb, rfl, fun hl ho => ?_, fun hl ho => ?_, fun hl => ?_⟩
   ·rw [hl, ho] at hcs; exact hcs
   ·rw [hl, ho] at hcs; cases hcs; rfl
   ·rw [hl] at hcs; cases hcs; rfl
  | succ i => exact h2 i db' (by simpa using h)
theorem okFrom_get {base : Nat} : ∀ {keep : List Nat} {n : Nat}, okFrom base n keep = true → base ≤ n + keep.length ∧ ∀ (i id : Nat), keep[i]? = some id → (n + i < base → id = n + i) ∧ (base ≤ n + i → base ≤ id)
 | [], n, e => ⟨by simpa [okFrom] using e, fun i id h => by simp at h⟩
 | k :: r, n, e => by
  simp only [okFrom, Bool.and_eq_true] at e
  obtain ⟨h1, h2⟩ := okFrom_get e.2
  refine ⟨by simp; omega, fun i id h => ?_⟩
  cases i with
  | zero =>
   cases h
   have e1 := e.1
   cases hb : Nat.blt n base with
   | true =>
    rw [hb, cond_true] at e1
    have := Nat.eq_of_beq_eq_true e1
    have hlt : n < base := Nat.le_of_ble_eq_true hb
    exact ⟨fun _ => by omega, fun h => by omega⟩
   | false =>
    rw [hb, cond_false] at e1
    have hge : ¬ n < base := fun hh => by
     have : Nat.blt n base = true := Nat.ble_eq_true_of_le hh
     rw [hb] at this; cases this
    exact ⟨fun h => by omega, fun _ => Nat.le_of_ble_eq_true e1⟩
  | succ i =>
   obtain ⟨h3, h4⟩ := h2 i id (by simpa using h)
   exact ⟨fun h => by rw [h3 (by omega)]; omega, fun h => h4 (by omega)⟩
theorem posAt_get {id : Nat} : ∀ {keep : List Nat} {n i : Nat}, posAt id n keep = some i → n ≤ i ∧ keep[i - n]? = some id
 | [], n, i, e => by cases e
 | k :: r, n, i, e => by
  simp only [posAt] at e
  cases hb : Nat.beq k id with
  | true =>
   rw [hb, cond_true] at e
   cases e
   exact ⟨Nat.le_refl _, by rw [Nat.sub_self, ← Nat.eq_of_beq_eq_true hb]; rfl⟩
  | false =>
   rw [hb, cond_false] at e
   obtain ⟨h1, h2⟩ := posAt_get e
   refine ⟨by omega, ?_⟩
   obtain ⟨m, hm⟩ : ∃ m, i - n = m + 1 := ⟨i - n - 1, by omega⟩
   rw [hm, List.getElem?_cons_succ, ← h2]
   congr 1; omega
theorem noDup_get : ∀ {l : List Nat}, noDup l = true → ∀ {i i' x : Nat}, l[i]? = some x → l[i']? = some x → i = i'
 | [], _, i, i', x, h, _ => by simp at h
 | a :: l, e, i, i', x, h, h' => by
  simp only [noDup, Bool.and_eq_true, Bool.not_eq_true', ← Bool.not_eq_true, List.elem_eq_mem, decide_eq_true_eq] at e
  have hm : ∀ {k : Nat}, l[k]? = some a → False := fun hk => e.1 (by simpa using List.mem_of_getElem? hk)
  cases i with
  | zero =>
   cases i' with
   | zero => rfl
   | succ i' => cases h; exact (hm (by simpa using h')).elim
  | succ i =>
   cases i' with
   | zero => cases h'; exact (hm (by simpa using h)).elim
   | succ i' => rw [noDup_get e.2 (i := i) (i' := i') (by simpa using h) (by simpa using h')]
theorem froz_ids {x : DV} (h : froz x = true) : idsV x = [] := by
 cases x <;> simp only [froz] at h <;> first | rfl | cases h
theorem frozs_ids : ∀ {xs : List DV}, xs.all froz = true → idsL xs = []
 | [], _ => rfl
 | x :: xs, h => by
  simp only [List.all_cons, Bool.and_eq_true] at h
  simp only [idsL, froz_ids h.1, frozs_ids h.2, List.append_nil]
 omit [Pv.Glob] in
theorem opaqK_get {keep : List Nat} : ∀ {h : DHeap} {i : Nat}, opaqK keep i h = true → ∀ {id : Nat} {b : DBlk}, i + id ∈ keep → h[id]? = some b → lives b = true → DGlob.opaqT b.elem = true → b.cells.all froz = true
  | [], _, _, id, b, _, hb, _, _ => by simp at hb
  | a :: h, i, e, id, b, hm, hb, hl, ho => by
    simp only [opaqK, Bool.and_eq_true] at e
    cases id with
    | zero =>
      cases hb
      have e1 := e.1
      have hm' : keep.elem i = true := by simpa using hm
      rw [hm', hl, ho] at e1
      exact e1
    | succ id => exact opaqK_get (i := i + 1) e.2 (by rw [show i + 1 + id = i + (id + 1) by omega]; exact hm) (by simpa using hb) hl ho
 omit [Pv.Glob] in
theorem opaqK_of {keep : List Nat} : ∀ {h : DHeap}, opaqOK h = true → ∀ i, opaqK keep i h = true
  | [], _, _ => rfl
  | b :: h, e, i => by
    simp only [opaqOK, Bool.and_eq_true] at e
    simp only [opaqK, opaqK_of e.2, Bool.and_true]
    have e1 := e.1
    cases hc : (lives b && DGlob.opaqT b.elem) with
    | false => rw [Bool.and_false, cond_false]
    | true =>
      rw [hc, cond_true] at e1
      rw [e1]
      cases keep.elem i <;> rfl
theorem kept_rel {x : DV} {y : Value} (h : VD F μ x y) : ∀ {μ' : Mu}, (∀ id ∈ idsV x, ∀ z, μ[id]? = some z → μ'[id]? = some z) → VD F μ' x y := by
 refine VD.rec (motive_1 := fun μ x y _ => ∀ {μ' : Mu}, (∀ id ∈ idsV x, ∀ z, μ[id]? = some z → μ'[id]? = some z) → VD F μ' x y) (motive_2 := fun μ xs ys _ => ∀ {μ' : Mu}, (∀ id ∈ idsL xs, ∀ z, μ[id]? = some z → μ'[id]? = some z) → VDs F μ' xs ys) ?_ ?_ ?_ ?_ ?_ ?_ ?_ ?_ ?_ ?_ ?_ ?_ ?_ ?_ ?_ ?_ ?_ ?_ ?_ ?_ h
 ·exact fun μ k n μ' _ => .int _ k n
 ·exact fun μ b μ' _ => .bool _ b
 ·exact fun μ s μ' _ => .str _ s
 ·exact fun μ μ' _ => .nilp _
 ·exact fun μ μ' _ => .nils _
 ·exact fun μ μ' _ => .nilf _
 ·exact fun μ μ' _ => .nili _
 ·exact fun μ id off j h μ' hk => .ptr _ id off j (hk id (by simp [idsV]) _ h)
 ·exact fun μ id off n c sz j h μ' hk => .sl _ id off n c sz j (hk id (by simp [idsV]) _ h)
 ·exact fun μ id sz h μ' hk => .slNil _ id sz (hk id (by simp [idsV]) _ h)
 ·exact fun μ xss j off c sz row cells h1 hl h2 hc hle ih μ' _ => .fz _ xss j off c sz row cells h1 hl h2 hc hle
 ·exact fun μ μ' _ => .fzNil _
 ·exact fun μ row row' cs j off cells h1 hr h2 hle ih μ' _ => .fp _ row row' cs j off cells h1 hr h2 hle
 ·exact fun μ f xs zs ys ws _ _ h h' μ' hk => .func _ f xs zs ys ws (h fun id hid => hk id (by simp [idsV, hid])) (h' fun id hid => hk id (by simp [idsV, hid]))
 ·exact fun μ id j h μ' hk => .yield _ id j (hk id (by simp [idsV]) _ h)
 ·exact fun μ t x y _ h μ' hk => .iface _ t x y (h fun id hid => hk id (by simpa [idsV] using hid))
 ·exact fun μ xs ys _ h μ' hk => .agg _ xs ys (h fun id hid => hk id (by simpa [idsV] using hid))
 ·exact fun μ xs ys _ h μ' hk => .tup _ xs ys (h fun id hid => hk id (by simpa [idsV] using hid))
 ·exact fun μ μ' _ => .nil _
 ·exact fun μ x y xs ys _ _ h t μ' hk => .cons _ x y xs ys (h fun id hid => hk id (by simp [idsL, hid])) (t fun id hid => hk id (by simp [idsL, hid]))
theorem kepts_rel {μ' : Mu} : ∀ {xs : List DV} {ys : List Value}, VDs F μ xs ys → (∀ id ∈ idsL xs, ∀ z, μ[id]? = some z → μ'[id]? = some z) → VDs F μ' xs ys
 | _, _, .nil _, _ => .nil _
 | _, _, .cons _ x y xs ys h t, hk => .cons _ x y xs ys (kept_rel h fun id hid => hk id (by simp [idsL, hid])) (kepts_rel t fun id hid => hk id (by simp [idsL, hid]))
theorem compact_rel {S : Nat → Prop} {base : Nat} {F0 : Fz} {μ0 : Mu} {h0 : Heap} {dst : DSt} {st : St} (hS : ∀ (i : Nat) x, S i → μ0[i]? = some x → i < base) (x : ExtB S F0 μ0 h0 F μ st.heap) (s : SimSt F μ dst st) (keep : List Nat) : ∃ μ', SimSt F μ' (compactBy base keep dst) st ∧ ExtB S F0 μ0 h0 F μ' st.heap := by
 unfold compactBy
 cases hok : (okFrom base 0 keep && noDup keep && opaqK keep 0 dst.heap) with
 | false => exact ⟨μ, s, x⟩
 | true =>
  rw [cond_true]
  split
  ·rename_i ts bs dh' h1 h2 h3
   rw [Bool.and_eq_true, Bool.and_eq_true] at hok
   obtain ⟨hok, hop⟩ := hok
   obtain ⟨hb, hk⟩ := okFrom_get hok.1
   have hk : ∀ (i id : Nat), keep[i]? = some id → (i < base → id = i) ∧ (base ≤ i → base ≤ id) := fun i id h => by
    have := hk i id h
    rw [Nat.zero_add] at this
    exact this
   rw [Nat.zero_add] at hb
   have hg : ∀ {i : Nat} {x : Option Nat}, (keep.map fun id => (μ[id]?).getD none)[i]? = some x → ∃ id, keep[i]? = some id ∧ ((μ[id]?).getD none) = x := fun {i x} h => by
    rw [List.getElem?_map] at h
    obtain ⟨id, h4, h5⟩ := Option.map_eq_some_iff.1 h
    exact ⟨id, h4, h5⟩
   have hg' : ∀ {i j : Nat}, (keep.map fun id => (μ[id]?).getD none)[i]? = some (some j) → ∃ id, keep[i]? = some id ∧ μ[id]? = some (some j) := fun {i j} h => by
    obtain ⟨id, h4, h5⟩ := hg h
    cases hm : μ[id]? with
    | none => rw [hm] at h5; cases h5
    | some y => rw [hm] at h5; exact ⟨id, h4, by rw [hm]; exact congrArg some h5⟩
   have hren : RenOK (fun id => posAt id 0 keep) μ (keep.map fun id => (μ[id]?).getD none) := fun id i y h4 h5 => by
    obtain ⟨_, h6⟩ := posAt_get h4
    rw [Nat.sub_zero] at h6
    rw [List.getElem?_map, h6]
    simp [h5]
   obtain ⟨hl, hH⟩ := renH_get h3
   refine ⟨keep.map fun id => (μ[id]?).getD none, ⟨⟨by simp [hl], ?_, ?_, ?_, s.h.fz⟩, renS_rel hren s.t h1, renB_rel hren s.b h2⟩, x.hF, ?_, ?_, x.fnew, x.keep, x.hl⟩
   ·intro i db' j h4 h5
    obtain ⟨id, db, cs, h6, h7, rfl, h8, h8', h9⟩ := hH i db' h4
    obtain ⟨id', h10, h11⟩ := hg' h5
    rw [h6] at h10
    cases h10
    obtain ⟨b, h12, h13⟩ := s.h.blk id db j h7 h11
    refine ⟨b, h12, h13.live, h13.elem, h13.row, h13.ro, fun hh => ?_, h13.obj⟩
    have hlv : lives db = true := by
     rcases hh with hh | hh
     ·show (db.live || db.obj.isSome) = true
      rw [show db.live = true from hh]; rfl
     ·show (db.live || db.obj.isSome) = true
      rw [show db.obj.isSome = true from hh, Bool.or_true]
    cases ho : DGlob.opaqT db.elem with
    | false => exact rens_rel hren (h13.cells hh) (h8 hlv ho)
    | true =>
     have := h8' hlv ho
     subst this
     exact kepts_rel (h13.cells hh) fun id hid => by rw [frozs_ids (opaqK_get (i := 0) hop (by rw [Nat.zero_add]; exact List.mem_of_getElem? h6) h7 hlv ho)] at hid; simp at hid
   ·intro i db' h4 h5
    obtain ⟨id, db, cs, h6, h7, rfl, h8, h8', h9⟩ := hH i db' h4
    obtain ⟨id', h10, h11⟩ := hg h5
    rw [h6] at h10
    cases h10
    have hlt : id < μ.length := by rw [s.h.len]; exact get_lt h7
    rw [List.getElem?_eq_getElem hlt] at h11
    obtain ⟨h12, h13, h14⟩ := s.h.nil id db h7 (by rw [List.getElem?_eq_getElem hlt]; exact congrArg some h11)
    refine ⟨?_, h13, h14⟩
    cases hlv : lives db with
    | false => exact h9 hlv
    | true =>
     cases ho : DGlob.opaqT db.elem with
     | false =>
      have := h8 hlv ho
      rw [h12] at this
      cases this
      rfl
     | true => rw [h8' hlv ho, h12]
   ·intro i i' j h4 h5
    obtain ⟨id, h6, h7⟩ := hg' h4
    obtain ⟨id', h8, h9⟩ := hg' h5
    cases s.h.inj id id' j h7 h9
    exact noDup_get hok.2 h6 h8
   ·intro i y hs h4
    have hlt := hS i y hs h4
    have h5 : keep[i]? = some i := by
     rw [List.getElem?_eq_getElem (by omega)]
     exact congrArg some ((hk i _ (List.getElem?_eq_getElem (by omega))).1 hlt)
    rw [List.getElem?_map, h5, Option.map_some, x.hM i y hs h4]
    rfl
   ·intro i j h4
    obtain ⟨id, h6, h7⟩ := hg' h4
    exact x.old id j h7
  ·exact ⟨μ, s, x⟩
theorem setVec_rel {S : Nat → Prop} {F0 : Fz} {μ0 : Mu} {h0 : Heap} {dst : DSt} {st : St} (x : ExtB S F0 μ0 h0 F μ st.heap) (s : SimSt F μ dst st) (v : Vec) : ∃ μ', SimSt F μ' (setVec v dst) st ∧ ExtB S F0 μ0 h0 F μ' st.heap := by
 have hx : ExtB S F0 μ0 h0 F (μ ++ [none]) st.heap := ⟨x.hF, fun i y hs hy => Mu.le.append μ [none] i y (x.hM i y hs hy), fun i j hj => x.old i j (snoc_none hj), x.fnew, x.keep, x.hl⟩
 have hl : (μ ++ [none])[dst.heap.length]? = some none := by rw [← s.h.len]; simp
 unfold setVec
 split
 ·rename_i d _
  split
  ·rename_i hd
   obtain ⟨y, hy, hr⟩ := s.t.get hd
   refine ⟨μ ++ [none], ⟨s.h.snocNil v.elem, ?_, s.b.mono fun _ _ h => BD.mono (.refl F) (.append _ _) h⟩, hx⟩
   have ht : Both (SD F (μ ++ [none])) dst.tmps st.tmps := s.t.mono fun _ _ h => SD.mono (.refl F) (.append _ _) h
   have hset := ht.set d (x := .v (.sl dst.heap.length 0 0 0 v.size)) (y := y) (by
    cases y <;> first | exact hr.elim | skip
    rename_i y
    replace hr : VD F μ .nils y := hr
    cases hr
    exact VD.slNil _ _ _ hl)
   rw [show st.tmps.set d y = st.tmps from by
    apply List.ext_getElem?
    intro k
    by_cases hk : k = d
    ·subst hk; rw [set_same (get_lt hy), hy]
    ·rw [set_ne hk]] at hset
   exact hset
  ·exact ⟨μ, s, x⟩
 ·rename_i d _
  split
  ·rename_i e hd
   obtain ⟨y, hy, hr⟩ := s.b.get hd
   refine ⟨μ ++ [none], ⟨s.h.snocNil v.elem, s.t.mono fun _ _ h => SD.mono (.refl F) (.append _ _) h, ?_⟩, hx⟩
   have ht : Both (BD F (μ ++ [none])) dst.boxes st.boxes := s.b.mono fun _ _ h => BD.mono (.refl F) (.append _ _) h
   have hset := ht.set d (x := .loc [.sl dst.heap.length 0 0 0 v.size] e) (y := y) (by
    cases y <;> first | exact hr.elim | skip
    obtain ⟨h1, h2⟩ := hr
    cases h2 with
    | cons _ _ y _ _ h3 t =>
     cases t
     cases h3
     exact ⟨h1, .cons _ _ _ _ _ (VD.slNil _ _ _ hl) (.nil _)⟩)
   rw [show st.boxes.set d y = st.boxes from by
    apply List.ext_getElem?
    intro k
    by_cases hk : k = d
    ·subst hk; rw [set_same (get_lt hy), hy]
    ·rw [set_ne hk]] at hset
   exact hset
  ·exact ⟨μ, s, x⟩
theorem setVecs_rel {S : Nat → Prop} {F0 : Fz} {μ0 : Mu} {h0 : Heap} {st : St} : ∀ (l : List Vec) {μ : Mu} {dst : DSt}, ExtB S F0 μ0 h0 F μ st.heap → SimSt F μ dst st → ∃ μ', SimSt F μ' (setVecs l dst) st ∧ ExtB S F0 μ0 h0 F μ' st.heap
 | [], μ, dst, x, s => ⟨μ, s, x⟩
 | v :: l, μ, dst, x, s => by
  obtain ⟨μ1, s1, x1⟩ := setVec_rel x s v
  exact setVecs_rel l x1 s1
theorem keptS_rel {μ' : Mu} : ∀ {l : List DSlot} {l' : List Slot}, Both (SD F μ) l l' → (∀ id ∈ idsS l, ∀ z, μ[id]? = some z → μ'[id]? = some z) → Both (SD F μ') l l'
 | [], l', h, _ => by
  obtain rfl := both_nil_l h
  exact .nil
 | s :: l, l', h, hk => by
  obtain ⟨s', t, rfl, h1, h2⟩ := both_cons_l h
  cases s with
  | v x =>
   refine .cons ?_ (keptS_rel h2 fun id hid => hk id (by simp [idsS, hid]))
   cases s' <;> first | exact h1.elim | exact kept_rel h1 fun id hid => hk id (by simp [idsS, hid])
  | lp d o =>
   refine .cons ?_ (keptS_rel h2 fun id hid => hk id (by simpa [idsS] using hid))
   cases s' <;> first | exact h1.elim | exact h1
  | dead =>
   refine .cons ?_ (keptS_rel h2 fun id hid => hk id (by simpa [idsS] using hid))
   cases s' <;> first | exact h1.elim | exact h1
theorem keptB_rel {μ' : Mu} : ∀ {l : List DBox} {l' : List Box}, Both (BD F μ) l l' → (∀ id ∈ idsB l, ∀ z, μ[id]? = some z → μ'[id]? = some z) → Both (BD F μ') l l'
 | [], l', h, _ => by
  obtain rfl := both_nil_l h
  exact .nil
 | s :: l, l', h, hk => by
  obtain ⟨s', t, rfl, h1, h2⟩ := both_cons_l h
  cases s with
  | no =>
   refine .cons ?_ (keptB_rel h2 fun id hid => hk id (by simpa [idsB] using hid))
   cases s' <;> first | exact h1.elim | exact h1
  | loc cs t =>
   refine .cons ?_ (keptB_rel h2 fun id hid => hk id (by simp [idsB, hid]))
   cases s' <;> first | exact h1.elim | exact ⟨h1.1, kepts_rel h1.2 fun id hid => hk id (by simp [idsB, hid])⟩
  | prom id =>
   refine .cons ?_ (keptB_rel h2 fun id hid => hk id (by simp [idsB, hid]))
   cases s' <;> first | exact h1.elim | exact hk _ (by simp [idsB]) _ h1
theorem compactH_rel {S : Nat → Prop} {base : Nat} {F0 : Fz} {μ0 : Mu} {h0 : Heap} {dh : DHeap} {h : Heap} (hS : ∀ (i : Nat) x, S i → μ0[i]? = some x → i < base) (x : ExtB S F0 μ0 h0 F μ h) (i : DInv F μ dh h) : ∃ μ', DInv F μ' (compactH base dh) h ∧ ExtB S F0 μ0 h0 F μ' h := by
 obtain ⟨μ', s, x'⟩ := compact_rel (dst := ⟨[], [], dh⟩) (st := ⟨[], [], h⟩) hS x ⟨i, .nil, .nil⟩ (keepFrom base (reach dh 1000 (rootsH base dh) []) dh.length 0)
 exact ⟨μ', s.h, x'⟩
end
end Go.Dv
end
section
namespace Go.Dv
open Go.Pv (TI tiOf idx upTo fieldTI CK kindsOf LoopRec PExit isConst room isYield Slot Box Blk Heap St set_get set_same set_ne get_snoc bif_some bif_none masksOf behind firm makes floats mayLp dsts isAl drawOK isRecover still)
variable [Pv.Glob] [DGlob]
def ResD (F : Fz) (μ : Mu) : DRes → Pv.Res → Prop
 | .ret x, .ret y => VD F μ x y
 | .pan x, .pan y => VD F μ x y
 | _, _ => False
def TgtD (μ : Mu) : Tgt → Pv.Tgt → Prop
 | .fn f, .fn g => f = g
 | .yield l, .yield j => μ[l]? = some (some j)
 | _, _ => False
def ItemD (F : Fz) (μ : Mu) : DItem → Pv.DItem → Prop
 | .mark i, .mark j => μ[i]? = some (some j)
 | .call f xs, .call g ys => f = g ∧ VDs F μ xs ys
 | _, _ => False
def ExD (F : Fz) (μ : Mu) : DExit → PExit → Prop
 | .normal, .normal => True
 | .exit i, .exit j => i = j
 | .goto i, .goto j => i = j
 | .ret, .ret => True
 | .panic x, .panic y => VD F μ x y
 | _, _ => False
def RndD (μ : Mu) : Option Nat → Option Nat → Prop
 | none, none => True
 | some l, some j => μ[l]? = some (some j)
 | _, _ => False
section
variable {F F' : Fz} {μ μ' : Mu}
theorem ItemD.mono (hF : F.le F') (hM : Mu.le μ μ') {x : DItem} {y : Pv.DItem} (h : ItemD F μ x y) : ItemD F' μ' x y := by
 cases x <;> cases y <;> first | exact h.elim | exact hM _ _ h | exact ⟨h.1, VDs.mono hF hM h.2⟩
theorem RndD.mono (hM : Mu.le μ μ') {x y : Option Nat} (h : RndD μ x y) : RndD μ' x y := by
 cases x <;> cases y <;> first | exact h.elim | exact trivial | exact hM _ _ h
end
abbrev ItemsD (F : Fz) (μ : Mu) := Both (ItemD F μ)
theorem ItemsD.mono {F F' : Fz} {μ μ' : Mu} (hF : F.le F') (hM : Mu.le μ μ') {x : List DItem} {y : List Pv.DItem} (h : ItemsD F μ x y) : ItemsD F' μ' x y := Both.mono h fun _ _ h => ItemD.mono hF hM h
def ysOf : Tgt → List DV → List Nat
 | .fn _, xs => yids xs
 | .yield l, xs => l :: yids xs
def inS (ya : List Nat) (i : Nat) : Prop := ∀ l ∈ ya, i ≤ l
theorem inS_nil (i : Nat) : inS [] i := fun l h => by simp at h
def XSimD (X : CallD) (X' : Pv.CallX) : Prop := ∀ t xs dh v dh', X t xs dh = some (v, dh') → ∀ F μ h t' ys, GlobD F → DInv F μ dh h → TgtD μ t t' → VDs F μ xs ys → ∃ F' μ' w h', X' t' ys h = some (w, h') ∧ DInv F' μ' dh' h' ∧ ResD F' μ' v w ∧ ExtB (inS (ysOf t xs)) F μ h F' μ' h'
def XSim (X : CallX) (X' : Pv.CallX) : Prop := ∀ (R : Type) t xs dh (k : DRes × DHeap → Option R) r, X R t xs dh k = some r → ∀ F μ h t' ys, GlobD F → DInv F μ dh h → TgtD μ t t' → VDs F μ xs ys → ∃ v dh' F' μ' w h', k (v, dh') = some r ∧ X' t' ys h = some (w, h') ∧ DInv F' μ' dh' h' ∧ ResD F' μ' v w ∧ ExtB (inS (ysOf t xs)) F μ h F' μ' h'
def XFn (X : CallX) (X' : Pv.CallX) : Prop := ∀ (R : Type) g xs dh (k : DRes × DHeap → Option R) r, X R (.fn g) xs dh k = some r → ∀ F μ h ys, GlobD F → DInv F μ dh h → VDs F μ xs ys → ∃ v dh' F' μ' w h', k (v, dh') = some r ∧ X' (.fn g) ys h = some (w, h') ∧ DInv F' μ' dh' h' ∧ ResD F' μ' v w ∧ Ext F μ h F' μ' h'
theorem XSimD.lift {X : CallD} {X' : Pv.CallX} (hX : XSimD X X') : XSim (liftX X) X' := by
 intro R t xs dh k r e F μ h t' ys hg i ht hv
 obtain ⟨⟨v, dh'⟩, h1, h2⟩ := Option.bind_eq_some_iff.1 e
 obtain ⟨F', μ', w, h', h3, h4, h5, h6⟩ := hX _ _ _ _ _ h1 F μ h t' ys hg i ht hv
 exact ⟨v, dh', F', μ', w, h', h2, h3, h4, h5, h6⟩
theorem XFn.ret {X : CallX} {X' : Pv.CallX} (hX : XFn X X') : CSim (retOnly X) (Pv.callP (Pv.retOnly X') false) := by
 intro R g xs dh k r e F μ h ys hg i hv
 obtain ⟨v, dh', F', μ', w', h', e1, h2, h3, h4, h5⟩ := hX _ _ _ _ _ _ e F μ h ys hg i hv
 cases v with
 | pan w => cases e1
 | ret w =>
  cases w' <;> first | exact h4.elim | skip
  exact ⟨w, dh', F', μ', _, h', e1, by simp only [Pv.callP, Pv.retOnly, h2, Option.bind_some], h3, h4, h5⟩
structure TabD (T : DTab) (T' : Pv.Tab) : Prop where
 fn : T.fn = T'.fn
 kill : T.kill = T'.kill
 spec : ∀ f, (T.spec f).isSome = (T'.spec f).isSome
 sound : ∀ f s s' xs v, T.spec f = some s → T'.spec f = some s' → s xs = some v → ∀ F μ h ys, GlobD F → DInv F μ [] h → VDs F μ xs ys → ∃ F' w h', s' ys h = some (.ret w, h') ∧ DInv F' μ [] h' ∧ VD F' μ v w ∧ Ext F μ h F' μ h'
section
variable {P : Program} {F : Fz} {μ : Mu} {dst : DSt} {st : St} {R : Type} {r : R} {ds : List DItem} {es : List Pv.DItem}
abbrev KD (R : Type) := DExit → DSt → List DItem → Option R
abbrev KP (R : Type) := PExit → St → List Pv.DItem → Option R
theorem RndD.keep {μ μ' : Mu} {S : Nat → Prop} {x y : Option Nat} (h : RndD μ x y) (hrn : ∀ l, x = some l → S l) (hM : ∀ (i : Nat) z, S i → μ[i]? = some z → μ'[i]? = some z) : RndD μ' x y := by
 cases x <;> cases y <;> first | exact h | skip
 exact hM _ _ (hrn _ rfl) h
def CodeA (S : Nat → Prop) (F0 : Fz) (μ0 : Mu) (h0 : Heap) {R : Type} (k : KD R) (r : R) (run : (R' : Type) → KP R' → Option R') : Prop :=
 ∃ F' μ' x dst' ds' x' st' es', k x dst' ds' = some r ∧ (∀ (R' : Type) (k' : KP R'), run R' k' = k' x' st' es') ∧ SimSt F' μ' dst' st' ∧ ExD F' μ' x x' ∧ ItemsD F' μ' ds' es' ∧ ExtB S F0 μ0 h0 F' μ' st'.heap
def CodeR (S : Nat → Prop) (F : Fz) (μ : Mu) (st : St) {R : Type} (k : KD R) (r : R) (run : (R' : Type) → KP R' → Option R') : Prop :=
 ∃ F' μ' x dst' ds' x' st' es', k x dst' ds' = some r ∧ (∀ (R' : Type) (k' : KP R'), run R' k' = k' x' st' es') ∧ SimSt F' μ' dst' st' ∧ ExD F' μ' x x' ∧ ItemsD F' μ' ds' es' ∧ ExtB S F μ st.heap F' μ' st'.heap
theorem CodeR.start {S : Nat → Prop} {F0 : Fz} {μ0 : Mu} {h0 : Heap} {k : KD R} {run : (R' : Type) → KP R' → Option R'} (x : ExtB S F0 μ0 h0 F μ st.heap) (h : CodeR S F μ st k r run) : CodeA S F0 μ0 h0 k r run :=
 let ⟨F', μ', y, dst', ds', x', st', es', h1, h2, h3, h4, h5, h6⟩ := h
 ⟨F', μ', y, dst', ds', x', st', es', h1, h2, h3, h4, h5, x.trans h6⟩
theorem CodeA.congr {S : Nat → Prop} {F0 : Fz} {μ0 : Mu} {h0 : Heap} {k : KD R} {run run' : (R' : Type) → KP R' → Option R'} (h : CodeA S F0 μ0 h0 k r run) (hr : ∀ (R' : Type) (k' : KP R'), run' R' k' = run R' k') : CodeA S F0 μ0 h0 k r run' :=
 let ⟨F', μ', y, dst', ds', x', st', es', h1, h2, h3, h4, h5, h6⟩ := h
 ⟨F', μ', y, dst', ds', x', st', es', h1, fun R' k' => (hr R' k').trans (h2 R' k'), h3, h4, h5, h6⟩
theorem CodeR.after {S : Nat → Prop} {F0 : Fz} {μ0 : Mu} {st0 : St} {k : KD R} {run : (R' : Type) → KP R' → Option R'} (x : ExtB S F0 μ0 st0.heap F μ st.heap) (h : CodeR S F μ st k r run) : CodeR S F0 μ0 st0 k r run :=
 let ⟨F', μ', y, dst', ds', x', st', es', h1, h2, h3, h4, h5, h6⟩ := h
 ⟨F', μ', y, dst', ds', x', st', es', h1, h2, h3, h4, h5, x.trans h6⟩
theorem CodeR.congr {S : Nat → Prop} {k : KD R} {run run' : (R' : Type) → KP R' → Option R'} (h : CodeR S F μ st k r run) (hr : ∀ (R' : Type) (k' : KP R'), run' R' k' = run R' k') : CodeR S F μ st k r run' :=
 let ⟨F', μ', y, dst', ds', x', st', es', h1, h2, h3, h4, h5, h6⟩ := h
 ⟨F', μ', y, dst', ds', x', st', es', h1, fun R' k' => (hr R' k').trans (h2 R' k'), h3, h4, h5, h6⟩
theorem CodeR.here {S : Nat → Prop} {k : KD R} {run : (R' : Type) → KP R' → Option R'} (s : SimSt F μ dst st) (hd : ItemsD F μ ds es) {x : DExit} {x' : PExit} (hx : ExD F μ x x') (e : k x dst ds = some r) (hr : ∀ (R' : Type) (k' : KP R'), run R' k' = k' x' st es) : CodeR S F μ st k r run :=
 ⟨F, μ, x, dst, ds, x', st, es, e, hr, s, hx, hd, .refl _ _ _ _⟩
theorem put_heap (d : Option Tmp) (y : Slot) (st : St) : (st.put d y).heap = st.heap := by cases d <;> rfl
def OpXR (S : Nat → Prop) (F : Fz) (μ : Mu) (st : St) {R : Type} (k : DSlot → DSt → List DItem → Option R) (kp : DV → DSt → List DItem → Option R) (r : R) (run : (R' : Type) → (Slot → St → List Pv.DItem → Option R') → (Value → St → List Pv.DItem → Option R') → Option R') : Prop :=
 ∃ F' μ' dst' ds' st' es', SimSt F' μ' dst' st' ∧ ItemsD F' μ' ds' es' ∧ ExtB S F μ st.heap F' μ' st'.heap ∧
  ((∃ y y', SD F' μ' y y' ∧ k y dst' ds' = some r ∧ ∀ (R' : Type) k' kp', run R' k' kp' = k' y' st' es') ∨ (∃ v v', VD F' μ' v v' ∧ kp v dst' ds' = some r ∧ ∀ (R' : Type) k' kp', run R' k' kp' = kp' v' st' es'))
theorem afterCall_sim {S : Nat → Prop} {o : Oper} {F1 : Fz} {μ1 : Mu} {v : DRes} {w : Pv.Res} {dh' : DHeap} {h' : Heap} (s1 : SimSt F1 μ1 { dst with heap := dh' } { st with heap := h' }) (d1 : ItemsD F1 μ1 ds es) (hv : ResD F1 μ1 v w) (x : ExtB S F μ st.heap F1 μ1 h')
  {k : DSlot → DSt → List DItem → Option R} {kp : DV → DSt → List DItem → Option R} (e : afterCall P o dst ds k kp (v, dh') = some r) : OpXR S F μ st k kp r fun R' k' kp' => Pv.afterCall P o st es k' kp' (w, h') := by
 cases v <;> cases w <;> first | exact hv.elim | skip
 ·rename_i a b
  simp only [afterCall] at e
  obtain ⟨e, h1⟩ := typed_rel hv e
  exact ⟨F1, μ1, _, ds, { st with heap := h' }, es, s1, d1, x, .inl ⟨.v a, .v b, hv, e, fun R' k' kp' => by simp only [Pv.afterCall, h1]⟩⟩
 ·exact ⟨F1, μ1, _, ds, { st with heap := h' }, es, s1, d1, x, .inr ⟨_, _, hv, e, fun R' k' kp' => rfl⟩⟩
theorem OpXR.after {S : Nat → Prop} {F0 : Fz} {μ0 : Mu} {st0 : St} {k : DSlot → DSt → List DItem → Option R} {kp : DV → DSt → List DItem → Option R} {run : (R' : Type) → (Slot → St → List Pv.DItem → Option R') → (Value → St → List Pv.DItem → Option R') → Option R'} (x : ExtB S F0 μ0 st0.heap F μ st.heap) (h : OpXR S F μ st k kp r run) : OpXR S F0 μ0 st0 k kp r run :=
 let ⟨F', μ', dst', ds', st', es', h1, h2, h3, h4⟩ := h
 ⟨F', μ', dst', ds', st', es', h1, h2, x.trans h3, h4⟩
theorem OpXR.congr {S : Nat → Prop} {k : DSlot → DSt → List DItem → Option R} {kp : DV → DSt → List DItem → Option R} {run run' : (R' : Type) → (Slot → St → List Pv.DItem → Option R') → (Value → St → List Pv.DItem → Option R') → Option R'} (h : OpXR S F μ st k kp r run) (hr : ∀ (R' : Type) k' kp', run' R' k' kp' = run R' k' kp') : OpXR S F μ st k kp r run' := by
 obtain ⟨F', μ', dst', ds', st', es', h1, h2, h3, h4⟩ := h
 refine ⟨F', μ', dst', ds', st', es', h1, h2, h3, ?_⟩
 rcases h4 with ⟨y, y', h5, h6, h7⟩ | ⟨y, y', h5, h6, h7⟩
 ·exact .inl ⟨y, y', h5, h6, fun R' k' kp' => (hr R' k' kp').trans (h7 R' k' kp')⟩
 ·exact .inr ⟨y, y', h5, h6, fun R' k' kp' => (hr R' k' kp').trans (h7 R' k' kp')⟩
theorem plain_sim {S : Nat → Prop} {X : CallX} {X' : Pv.CallX} (hX : XFn X X') {o : Oper} (hg : GlobD F) (s : SimSt F μ dst st) (hd : ItemsD F μ ds es) {k : DSlot → DSt → List DItem → Option R} {kp : DV → DSt → List DItem → Option R}
  (e : (evalOp P (retOnly X) o dst fun s st => k s st ds) = some r) : OpXR S F μ st k kp r fun R' k' kp' => Pv.evalOp P (Pv.retOnly X') false o st fun s st => k' s st es := by
 obtain ⟨F2, μ2, y, dst2, y', st2, e2, hn2, s2, hy, x2⟩ := evalOp_sim hg hX.ret s (fun c b _ _ => by cases b <;> rfl) e
 exact ⟨F2, μ2, dst2, ds, st2, es, s2, hd.mono x2.hF x2.hM, x2.b, .inl ⟨y, y', hy, e2, fun R' k' kp' => hn2 R' _⟩⟩
theorem evalOpX_sim {X : CallX} {X' : Pv.CallX} (hX : XSim X X') (hXf : XFn X X') {S : Nat → Prop} {ya : List Nat} (hSy : ∀ i, S i → inS ya i) {rnd rnd' : Option Nat} (hr : RndD μ rnd rnd') {o : Oper} (hg : GlobD F) (s : SimSt F μ dst st) (hd : ItemsD F μ ds es) {k : DSlot → DSt → List DItem → Option R} {kp : DV → DSt → List DItem → Option R}
  (e : evalOpX P X ya rnd o dst ds k kp = some r) : OpXR S F μ st k kp r fun R' k' kp' => Pv.evalOpX P X' rnd' o st es k' kp' := by
 unfold evalOpX at e
 split at e
 ·rename_i f args ts ho
  obtain ⟨sf, h1, e1⟩ := bnd e
  obtain ⟨fv, h2, e2⟩ := bnd e1
  obtain ⟨ss, h3, e3⟩ := bnd e2
  clear e e1 e2
  obtain ⟨yf, wf, h4, h5, h6⟩ := opdv_rel hg s h1 h2
  obtain ⟨ys, h7, h8⟩ := opds_rel hg s h3
  obtain ⟨μ1, xs, dst1, xs', st1, e, n1, s1, x1, v1⟩ := outs_rel s h8 e3
  clear e3
  split at e
  ·rename_i g first captured
   cases h6 with
   | func _ _ _ _ ys' ws' ha hb =>
    obtain ⟨v, dh', F2, μ2, w, h', e4, h10, i2, v2, x2⟩ := hXf _ _ _ _ _ _ e F μ1 st1.heap (ys' ++ xs' ++ ws') hg s1.h (((ha.mono x1.hF x1.hM).append v1).append (hb.mono x1.hF x1.hM))
    refine (OpXR.after x1.b (afterCall_sim (s1.mono x2.hF x2.hM i2) ((hd.mono x1.hF x1.hM).mono x2.hF x2.hM) v2 x2.b e4)).congr fun R' k' kp' => ?_
    simp only [Pv.evalOpX, ho, h4, h5, h7, Option.bind_some]
    rw [n1]
    simp only [h10, Option.bind_some]
  ·rename_i l
   cases h6 with
   | yield _ _ j hj =>
    obtain ⟨hfit, e⟩ := bif_some e
    obtain ⟨v, dh', F2, μ2, w, h', e4, h10, i2, v2, x2⟩ := hX _ _ _ _ _ _ e F μ1 st1.heap (.yield j) xs' hg s1.h (x1.hM _ _ hj) v1
    simp only [fits, Bool.and_eq_true, List.isEmpty_iff, List.all_eq_true] at hfit
    obtain ⟨⟨⟨⟨q1, q2⟩, q3⟩, q4⟩, q5⟩ := hfit
    have hk : ∀ id : Nat, id ≤ l → ∀ z, μ1[id]? = some z → μ2[id]? = some z := fun id hid z hz => x2.hM id z (fun l' hl' => by
     simp only [ysOf, q2, List.mem_singleton] at hl'
     subst hl'
     exact hid) hz
    have s2 : SimSt F2 μ2 { dst1 with heap := dh' } { st1 with heap := h' } :=
     ⟨i2, (keptS_rel s1.t fun id hid => hk id (Nat.le_of_ble_eq_true (q3 id hid))).mono fun _ _ hh => SD.mono x2.hF (.refl μ2) hh, (keptB_rel s1.b fun id hid => hk id (Nat.le_of_ble_eq_true (q4 id hid))).mono fun _ _ hh => BD.mono x2.hF (.refl μ2) hh⟩
    have d2 : ItemsD F2 μ2 ds es := by
     subst q5
     rw [both_nil_l hd]
     exact .nil
    refine (OpXR.after x1.b (afterCall_sim s2 d2 v2 (x2.sub fun id hid l' hl' => by
     simp only [ysOf, q2, List.mem_singleton] at hl'
     subst hl'
     exact hSy id hid l' (by simpa using q1)) e4)).congr fun R' k' kp' => ?_
    simp only [Pv.evalOpX, ho, h4, h5, h7, Option.bind_some]
    rw [n1]
    simp only [h10, Option.bind_some]
  ·cases e
 ·rename_i x ho
  obtain ⟨sx, h1, e1⟩ := bnd e
  obtain ⟨v, h2, e2⟩ := bnd e1
  obtain ⟨y, w, h4, h5, h6⟩ := opdv_rel hg s h1 h2
  clear e e1
  split at e2
  ·have h7 := h6
   cases h6 with
   | iface _ t x y hv => exact ⟨F, μ, dst, ds, st, es, s, hd, .refl _ _ _ _, .inr ⟨_, _, h7, e2, fun R' k' kp' => by simp only [Pv.evalOpX, ho, h4, h5, Option.bind_some]⟩⟩
  ·cases e2
 ·rename_i f args ts ho
  cases rnd with
  | some l => cases e
  | none =>
   cases rnd' with
   | some l => exact hr.elim
   | none =>
    obtain ⟨sf, h1, e1⟩ := bnd e
    obtain ⟨fv, h2, e2⟩ := bnd e1
    obtain ⟨ss, h3, e3⟩ := bnd e2
    clear e e1 e2
    obtain ⟨yf, wf, h4, h5, h6⟩ := opdv_rel hg s h1 h2
    obtain ⟨ys, h7, h8⟩ := opds_rel hg s h3
    obtain ⟨μ1, xs, dst1, xs', st1, e, n1, s1, x1, v1⟩ := outs_rel s h8 e3
    clear e3
    split at e
    ·rename_i g first captured
     cases h6 with
     | func _ _ _ _ ys' ws' ha hb =>
      refine ⟨F, μ1, dst1, .call g (first ++ xs ++ captured) :: ds, st1, .call g (ys' ++ xs' ++ ws') :: es, s1, Both.cons ⟨rfl, ((ha.mono x1.hF x1.hM).append v1).append (hb.mono x1.hF x1.hM)⟩ (hd.mono x1.hF x1.hM), x1.b, .inl ⟨.v undef, .v Go.undef, VD.tup _ _ _ (.nil _), e, fun R' k' kp' => ?_⟩⟩
      simp only [Pv.evalOpX, ho, h4, h5, h7, Option.bind_some]
      rw [n1]
    ·cases e
 ·rename_i hn1 hn2 hn3
  refine (plain_sim hXf hg s hd e).congr fun R' k' kp' => ?_
  unfold Pv.evalOpX
  split
  ·rename_i ho; exact (hn1 _ _ _ ho).elim
  ·rename_i ho; exact (hn2 _ ho).elim
  ·rename_i ho; exact (hn3 _ _ _ ho).elim
  ·rfl
theorem evalOpsX_sim {X : CallX} {X' : Pv.CallX} (hX : XSim X X') (hXf : XFn X X') {S : Nat → Prop} {ya : List Nat} (hSy : ∀ i, S i → inS ya i) {rnd rnd' : Option Nat} (hrn : ∀ l, rnd = some l → S l) {ops : Array Oper} {k : KD R} : ∀ (l : List Oper) {F : Fz} {μ : Mu} {dst : DSt} {st : St} {ds : List DItem} {es : List Pv.DItem}, RndD μ rnd rnd' → GlobD F → SimSt F μ dst st → ItemsD F μ ds es → evalOpsX P X ya rnd ops l dst ds k = some r → CodeR S F μ st k r fun R' k' => Pv.evalOpsX P X' rnd' ops l st es k'
 | [], F, μ, dst, st, ds, es, hr, hg, s, hd, e => .here s hd (x := .normal) (x' := .normal) trivial e fun _ _ => rfl
 | o :: l, F, μ, dst, st, ds, es, hr, hg, s, hd, e => by
  simp only [evalOpsX] at e
  obtain ⟨dst1, st1, s1, hh1, h1⟩ := guardK_sim s e
  rcases h1 with ⟨e, hn⟩ | ⟨e, hn⟩
  ·obtain ⟨F2, μ2, dst2, ds2, st2, es2, s2, d2, x2, h2⟩ := evalOpX_sim hX hXf hSy hr hg s1 hd e
   rw [hh1] at x2
   rcases h2 with ⟨y, y', hy, e2, n2⟩ | ⟨v, v', hv, e2, n2⟩
   ·have ih := evalOpsX_sim hX hXf hSy hrn l (hr.keep hrn x2.hM) (hg.mono x2.hF) (s2.put o.dst hy) d2 e2
    refine (CodeR.after (st := st2.put o.dst y') (by rw [put_heap]; exact x2) ih).congr fun R' k' => ?_
    simp only [Pv.evalOpsX, hn]
    exact n2 _ _ _
   ·refine ⟨F2, μ2, .panic v, dst2, ds2, .panic v', st2, es2, e2, fun R' k' => ?_, s2, hv, d2, x2⟩
    simp only [Pv.evalOpsX, hn]
    exact n2 _ _ _
  ·have s3 := s1.put o.dst (x := .v undef) (y := .v Go.undef) (VD.tup _ _ _ (.nil _))
   have ih := evalOpsX_sim hX hXf hSy hrn l hr hg s3 hd e
   refine (CodeR.after (st := st1.put o.dst (.v Go.undef)) (by rw [put_heap, hh1]; exact .refl _ _ _ _) ih).congr fun R' k' => ?_
   simp only [Pv.evalOpsX, hn]
end
end Go.Dv
end
section
namespace Go.Dv
open Go.Pv (TI tiOf idx upTo fieldTI CK kindsOf LoopRec PExit isConst room isYield Slot Box Blk Heap St set_get set_same set_ne get_snoc bif_some bif_none masksOf behind firm makes floats mayLp dsts isAl drawOK isRecover still)
variable [Pv.Glob] [DGlob]
section
variable {P : Program} {F : Fz} {μ : Mu} {dst : DSt} {st : St} {dh : DHeap} {h : Heap} {R : Type} {r : R} {ds : List DItem} {es : List Pv.DItem}
theorem settle_rel : ∀ {l : List DSlot} {l' : List Slot} {μ : Mu} {dst : DSt} {st : St}, SimSt F μ dst st → Both (SD F μ) l l' → ∀ {k : List DV → List Bool → DSt → Option R}, settle dst l k = some r →
  ∃ μ' vs bs dst' ws st', k vs bs dst' = some r ∧ (∀ (R' : Type) (k' : List Value → List Bool → St → Option R'), Pv.settle st l' k' = k' ws bs st') ∧ SimSt F μ' dst' st' ∧ Ext F μ st.heap F μ' st'.heap ∧ VDs F μ' vs ws
 | [], l', μ, dst, st, s, h, k, e => by
  rw [both_nil_l h]
  exact ⟨μ, [], [], dst, [], st, e, fun _ _ => rfl, s, .refl _ _ _, .nil _⟩
 | x :: l, l', μ, dst, st, s, h, k, e => by
  obtain ⟨y, t, rfl, h1, h2⟩ := both_cons_l h
  cases x with
  | dead =>
   cases y <;> first | exact h1.elim | skip
   simp only [settle] at e
   obtain ⟨μ', vs, bs, dst', ws, st', e1, hn, s1, x1, hv⟩ := settle_rel s h2 e
   exact ⟨μ', _, _, dst', _, st', e1, fun R' k' => by simp only [Pv.settle, hn]; rfl, s1, x1, .cons _ _ _ _ _ (.tup _ _ _ (.nil _)) hv⟩
  | v x =>
   cases y <;> first | exact h1.elim | skip
   simp only [settle] at e
   obtain ⟨μ', vs, bs, dst', ws, st', e1, hn, s1, x1, hv⟩ := settle_rel s h2 e
   exact ⟨μ', _, _, dst', _, st', e1, fun R' k' => by simp only [Pv.settle, hn], s1, x1, .cons _ _ _ _ _ (VD.mono x1.hF x1.hM h1) hv⟩
  | lp d off =>
   cases y <;> first | exact h1.elim | skip
   rename_i d' off'
   obtain ⟨g1, g2⟩ := h1
   subst g1 g2
   simp only [settle] at e
   split at e
   ·rename_i hb
    obtain ⟨B, hB, hr⟩ := s.b.get hb
    cases B <;> first | exact hr.elim | skip
    obtain ⟨μ', vs, bs, dst', ws, st', e1, hn, s1, x1, hv⟩ := settle_rel s h2 e
    exact ⟨μ', _, _, dst', _, st', e1, fun R' k' => by simp only [Pv.settle, hB, hn]; rfl, s1, x1, .cons _ _ _ _ _ (.tup _ _ _ (.nil _)) hv⟩
   ·rename_i hb
    obtain ⟨μ1, v, dst1, w, st1, e1, hn, s1, x1, hv, _⟩ := out_rel s (x := .lp d off) (y := .lp d off) ⟨rfl, rfl⟩ e
    obtain ⟨μ2, vs, bs, dst2, ws, st2, e2, hn2, s2, x2, hvs⟩ := settle_rel s1 (h2.mono fun _ _ h => h.mono x1.hF x1.hM) e1
    refine ⟨μ2, _, _, dst2, w :: ws, st2, e2, fun R' k' => ?_, s2, x1.trans x2, .cons _ _ _ _ _ (hv.mono x2.hF x2.hM) hvs⟩
    have hg := get_both s.b d
    unfold Pv.settle
    split
    ·rename_i hb'
     rw [hb'] at hg
     cases hx : dst.boxes[d]? with
     | none => rw [hx] at hg; exact hg.elim
     | some B => rw [hx] at hg; cases B <;> first | exact hg.elim | exact (hb hx).elim
    ·rw [hn, hn2]
theorem DInv.setKeep (i : DInv F μ dh h) {id j : Nat} {db db' : DBlk} {b b' : Blk} (hd : dh[id]? = some db) (hb : h[j]? = some b) (hj : μ[id]? = some (some j)) (hl : b'.live = b.live) (hrw : b'.row = b.row) (hc : b'.cells = b.cells) (hr : BlkD F μ db' b' j) : DInv F μ (dh.set id db') (h.set j b') := by
 have hlt := i.mulen hj
 refine ⟨by simp [i.len], fun k d jj hd hjj => ?_, fun k d hd hn => ?_, i.inj, fun jj row cells hf => ?_⟩
 ·rcases set_get hd with ⟨rfl, rfl, _⟩ | ⟨hne, hd⟩
  ·rw [hj] at hjj
   cases hjj
   exact ⟨b', set_same hlt, hr⟩
  ·have hne2 : jj ≠ j := fun hh => hne (i.inj k id j (hh ▸ hjj) hj)
   obtain ⟨b'', hb', hr'⟩ := i.blk k d jj hd hjj
   exact ⟨b'', by rw [set_ne hne2]; exact hb', hr'⟩
 ·rcases set_get hd with ⟨rfl, rfl, _⟩ | ⟨hne, hd⟩
  ·rw [hj] at hn; cases hn
  ·exact i.nil k d hd hn
 ·obtain ⟨b'', hb', hh⟩ := i.fz jj row cells hf
  by_cases hne : jj = j
  ·subst hne
   rw [hb] at hb'
   cases hb'
   exact ⟨b', set_same hlt, hl.trans hh.1, hrw.trans hh.2.1, hc.trans hh.2.2⟩
  ·exact ⟨b'', by rw [set_ne hne]; exact hb', hh⟩
theorem loopAt_rel (i : DInv F μ dh h) {l j : Nat} {db : DBlk} {q : LoopRec} (hj : μ[l]? = some (some j)) (e : loopAt dh l = some (db, q)) : ∃ b, Pv.loopAt h j = some (b, q) ∧ h[j]? = some b ∧ dh[l]? = some db ∧ BlkD F μ db b j ∧ db.obj = some (.loop q) ∧ VDs F μ db.cells b.cells := by
 unfold loopAt at e
 obtain ⟨db1, h1, e1⟩ := bnd e
 split at e1
 ·rename_i q1 ho
  cases e1
  obtain ⟨b, hb, hr⟩ := i.blk l db j h1 hj
  have hob := hr.obj
  rw [ho] at hob
  refine ⟨b, by simp only [Pv.loopAt, hb, Option.bind_some, show b.obj = some (.loop q) from hob], hb, h1, hr, ho, hr.cells (.inr (by rw [ho]; rfl))⟩
 ·cases e1
theorem setLoop_rel (i : DInv F μ dh h) {l j : Nat} {db : DBlk} {b : Blk} {q q' : LoopRec} (hj : μ[l]? = some (some j)) (hd : dh[l]? = some db) (hb : h[j]? = some b) (hr : BlkD F μ db b j) (ho : db.obj = some (.loop q)) : DInv F μ (setLoop dh l db q') (Pv.setLoop h j b q') :=
 i.setKeep hd hb hj rfl rfl rfl ⟨hr.live, hr.elem, hr.row, hr.ro, fun _ => hr.cells (.inr (by rw [ho]; rfl)), rfl⟩
theorem ofP_rel {e : PExit} {x : DExit} (h : ofP e = some x) : ExD F μ x e := by
 cases e <;> simp only [ofP] at h <;> cases h
 ·rfl
 ·rfl
 ·trivial
theorem endLoop_sim {S : Nat → Prop} {l j : Nat} (hj : μ[l]? = some (some j)) (s : SimSt F μ dst st) (hd : ItemsD F μ ds es) {k : KD R} (e : endLoop l dst ds k = some r) : CodeR S F μ st k r fun R' k' => Pv.endLoop j st es k' := by
 unfold endLoop at e
 obtain ⟨⟨db, q⟩, h1, e1⟩ := bnd e
 replace e1 := bif_none e1; obtain ⟨hb, e1⟩ := e1
 replace hb : (q.state == LoopState.busy) = false := hb
 obtain ⟨b, h2, h3, h4, h5, h6, _⟩ := loopAt_rel s.h hj h1
 have hi : ∀ q', DInv F μ (setLoop dst.heap l db q') (Pv.setLoop st.heap j b q') := fun q' => setLoop_rel s.h hj h4 h3 h5 h6
 split at e1
 ·rename_i hp
  replace hp : q.pending = none := hp
  refine ⟨F, μ, .normal, _, ds, .normal, { st with heap := Pv.setLoop st.heap j b { q with state := .exhausted } }, es, e1, fun R' k' => by simp only [Pv.endLoop, h2, Option.bind_some, hb, cond_false, hp], s.mono (.refl F) (.refl μ) (hi _), trivial, hd, (Ext.set F st.heap hj _).b⟩
 ·rename_i x hp
  replace hp : q.pending = some x := hp
  obtain ⟨y, h7, e2⟩ := bnd e1
  refine ⟨F, μ, y, _, ds, x, { st with heap := Pv.setLoop st.heap j b { q with state := .exhausted } }, es, e2, fun R' k' => by simp only [Pv.endLoop, h2, Option.bind_some, hb, cond_false, hp], s.mono (.refl F) (.refl μ) (hi _), ofP_rel h7, hd, (Ext.set F st.heap hj _).b⟩
theorem evalRange_sim {S : Nat → Prop} {X : CallX} {X' : Pv.CallX} (hX : XSim X X') {T : DTab} {T' : Pv.Tab} (hT : TabD T T') {K : Nat → List Nat} {rnd rnd' : Option Nat} (hr : RndD μ rnd rnd') {g : Operand} {ps : Array Tmp} {assign body : Code} (hg : GlobD F) (s : SimSt F μ dst st) (hd : ItemsD F μ ds es) {k : KD R}
  (e : evalRange P X T K rnd g ps assign body dst ds k = some r) : CodeR S F μ st k r fun R' k' => Pv.evalRange P X' T' K rnd' g ps assign body st es k' := by
 unfold evalRange at e
 obtain ⟨sg, h1, e1⟩ := bnd e
 obtain ⟨gv, h2, e2⟩ := bnd e1
 clear e e1
 obtain ⟨yg, wg, h3, h4, h5⟩ := opdv_rel hg s h1 h2
 obtain ⟨μ1, vs, bs, dst1, ws, st1, e3, n1, s1, x1, v1⟩ := settle_rel s s.t e2
 clear e2
 split at e3
 ·rename_i f captured
  obtain ⟨fn, h6, e4⟩ := bnd e3
  replace e4 := bif_some e4; obtain ⟨hc, e4⟩ := e4
  clear e3
  cases h5 with
  | func _ _ _ _ ys' ws' ha hb =>
  cases ha
  have hb1 := hb.mono x1.hF x1.hM
  have hfn : T'.fn f = some fn := by rw [← hT.fn]; exact h6
  have hc0 : yids captured = [] := by
   simp only [Bool.and_eq_true, List.isEmpty_iff] at hc
   exact hc.2
  have hc' : ((T'.spec f).isNone && fn.body.isSome) = true := by
   have := hT.spec f
   cases h7 : T.spec f <;> cases h8 : T'.spec f <;> simp_all
  cases rnd with
  | none =>
   cases rnd' with
   | some l => exact hr.elim
   | none =>
    simp only at e4
    have p1 := s1.h.push (db := dfrBlk) (b := Pv.dfrBlk) ⟨rfl, rfl, rfl, fun _ => rfl, rfl⟩ (.nil _)
    have p2 := p1.push (db := loopBlk vs ⟨.ready, none, bs, ps.toList, assign, body, K⟩) (b := Pv.loopBlk ws ⟨.ready, none, bs, ps.toList, assign, body, K⟩) ⟨rfl, rfl, rfl, fun _ => rfl, rfl⟩ (v1.mono (.refl F) (.append _ _))
    have q1 := Ext.push F μ1 st1.heap Pv.dfrBlk
    have q2 := Ext.push F (μ1 ++ [some st1.heap.length]) (st1.heap ++ [Pv.dfrBlk]) (Pv.loopBlk ws ⟨.ready, none, bs, ps.toList, assign, body, K⟩)
    have x2 := (x1.trans q1).trans q2
    have g1 : (μ1 ++ [some st1.heap.length] ++ [some (st1.heap ++ [Pv.dfrBlk]).length])[dst1.heap.length + 1]? = some (some (st1.heap.length + 1)) := by
     rw [← s1.h.len]; simp
    have g2 : (μ1 ++ [some st1.heap.length] ++ [some (st1.heap ++ [Pv.dfrBlk]).length])[dst1.heap.length]? = some (some st1.heap.length) := by
     rw [← s1.h.len]; simp
    have hm := (Mu.le.append μ1 [some st1.heap.length]).trans (Mu.le.append _ [some (st1.heap ++ [Pv.dfrBlk]).length])
    obtain ⟨v, dh', F2, μ2, w, h', e5, h10, i2, v2, x3⟩ := hX _ _ _ _ _ _ e4 F _ _ (.fn f) ([.func (.yield (st1.heap.length + 1)) ⟨[]⟩ ⟨[]⟩] ++ ws') hg p2 rfl (VDs.append (.cons _ _ _ _ _ (.yield _ _ _ g1) (.nil _)) (hb1.mono (.refl F) hm))
    replace x3 := x3.full (fun a ha l hl => by
     have hl : l ∈ yids ([DV.yield (dst1.heap.length + 1)] ++ captured) := hl
     simp only [List.cons_append, List.nil_append, yids, yidV, hc0, List.append_nil, List.mem_singleton] at hl
     have := s1.h.len
     simp only [List.length_append, List.length_cons, List.length_nil] at ha
     omega) i2.inj
    have x4 := x2.trans x3
    have s2 : SimSt F2 μ2 { dst1 with heap := dh' } { st1 with heap := h' } := s1.mono x3.hF (hm.trans x3.hM) i2
    have d2 : ItemsD F2 μ2 (.mark dst1.heap.length :: ds) (.mark st1.heap.length :: es) := Both.cons (x3.hM _ _ g2) (hd.mono x4.hF x4.hM)
    cases v <;> cases w <;> first | exact v2.elim | skip
    ·refine (CodeR.after (st := { st1 with heap := h' }) x4.b (endLoop_sim (x3.hM _ _ g1) s2 d2 e5)).congr fun R' k' => ?_
     simp only [Pv.evalRange, h3, h4, Option.bind_some]
     rw [n1]
     simp only [hfn, Option.bind_some, hc', cond_true, h10]
    ·refine (CodeR.after (st := { st1 with heap := h' }) x4.b (CodeR.here s2 d2 (x := .panic _) (x' := .panic _) v2 e5 fun R' k' => rfl)).congr fun R' k' => ?_
     simp only [Pv.evalRange, h3, h4, Option.bind_some]
     rw [n1]
     simp only [hfn, Option.bind_some, hc', cond_true, h10]
  | some around =>
   cases rnd' with
   | none => exact hr.elim
   | some around' =>
    simp only at e4
    obtain ⟨⟨db, q⟩, h8, e4⟩ := bnd e4
    obtain ⟨b, h11, _⟩ := loopAt_rel s1.h (x1.hM _ _ hr) h8
    have p2 := s1.h.push (db := loopBlk vs ⟨.ready, none, bs, ps.toList, assign, body, K⟩) (b := Pv.loopBlk ws ⟨.ready, none, bs, ps.toList, assign, body, K⟩) ⟨rfl, rfl, rfl, fun _ => rfl, rfl⟩ v1
    have x2 := x1.trans (Ext.push F μ1 st1.heap (Pv.loopBlk ws ⟨.ready, none, bs, ps.toList, assign, body, K⟩))
    have g1 : (μ1 ++ [some st1.heap.length])[dst1.heap.length]? = some (some st1.heap.length) := by
     rw [← s1.h.len]; simp
    have hm := Mu.le.append μ1 [some st1.heap.length]
    obtain ⟨v, dh', F2, μ2, w, h', e5, h10, i2, v2, x3⟩ := hX _ _ _ _ _ _ e4 F _ _ (.fn f) ([.func (.yield st1.heap.length) ⟨[]⟩ ⟨[]⟩] ++ ws') hg p2 rfl (VDs.append (.cons _ _ _ _ _ (.yield _ _ _ g1) (.nil _)) (hb1.mono (.refl F) hm))
    replace x3 := x3.full (fun a ha l hl => by
     have hl : l ∈ yids ([DV.yield dst1.heap.length] ++ captured) := hl
     simp only [List.cons_append, List.nil_append, yids, yidV, hc0, List.append_nil, List.mem_singleton] at hl
     have := s1.h.len
     simp only [List.length_append, List.length_cons, List.length_nil] at ha
     omega) i2.inj
    have x4 := x2.trans x3
    have s2 : SimSt F2 μ2 { dst1 with heap := dh' } { st1 with heap := h' } := s1.mono x3.hF (hm.trans x3.hM) i2
    have d2 : ItemsD F2 μ2 ds es := hd.mono x4.hF x4.hM
    cases v <;> cases w <;> first | exact v2.elim | skip
    ·refine (CodeR.after (st := { st1 with heap := h' }) x4.b (endLoop_sim (x3.hM _ _ g1) s2 d2 e5)).congr fun R' k' => ?_
     simp only [Pv.evalRange, h3, h4, Option.bind_some]
     rw [n1]
     simp only [hfn, Option.bind_some, hc', cond_true, h11, h10]
    ·refine (CodeR.after (st := { st1 with heap := h' }) x4.b (CodeR.here s2 d2 (x := .panic _) (x' := .panic _) v2 e5 fun R' k' => rfl)).congr fun R' k' => ?_
     simp only [Pv.evalRange, h3, h4, Option.bind_some]
     rw [n1]
     simp only [hfn, Option.bind_some, hc', cond_true, h11, h10]
 ·cases e3
def WOK (S : Nat → Prop) (F0 : Fz) (μ0 : Mu) (h0 : Heap) (W : TidyF) : Prop :=
 ∀ (id : Nat) {F : Fz} {μ : Mu} {dst : DSt} {st : St} {ds : List DItem} {es : List Pv.DItem}, ExtB S F0 μ0 h0 F μ st.heap → SimSt F μ dst st → ItemsD F μ ds es → ∃ μ', SimSt F μ' (W id dst ds) st ∧ ItemsD F μ' ds es ∧ ExtB S F0 μ0 h0 F μ' st.heap
theorem noTidy_ok {S : Nat → Prop} {F0 : Fz} {μ0 : Mu} {h0 : Heap} : WOK S F0 μ0 h0 noTidy := fun id F μ dst st ds es x s d => ⟨μ, s, d, x⟩
theorem tidy_base {S : Nat → Prop} {F0 : Fz} {μ0 : Mu} {h0 : Heap} {base : Nat} (hS : ∀ (i : Nat) x, S i → μ0[i]? = some x → i < base) (V : Nat → Option (List Vec)) : WOK S F0 μ0 h0 (tidy V base) := fun id F μ dst st ds es x s d => by
 unfold tidy
 split
 ·rename_i vs hv
  obtain ⟨μ1, s1, x1⟩ := setVecs_rel vs x s
  obtain ⟨μ2, s2, x2⟩ := compact_rel hS x1 s1 (keepOf base (setVecs vs dst))
  rw [both_nil_l d]
  exact ⟨μ2, s2, .nil, x2⟩
 ·exact ⟨μ, s, d, x⟩
theorem tidy_ok {S : Nat → Prop} {F0 : Fz} {μ0 : Mu} {h0 : Heap} (V : Nat → Option (List Vec)) : WOK S F0 μ0 h0 (tidy V μ0.length) := fun id F μ dst st ds es x s d => by
 unfold tidy
 split
 ·rename_i vs hv
  obtain ⟨μ1, s1, x1⟩ := setVecs_rel vs x s
  obtain ⟨μ2, s2, x2⟩ := compact_rel (fun i y _ hy => get_lt hy) x1 s1 (keepOf μ0.length (setVecs vs dst))
  rw [both_nil_l d]
  exact ⟨μ2, s2, .nil, x2⟩
 ·exact ⟨μ, s, d, x⟩
theorem loopK_sim {S : Nat → Prop} {F0 : Fz} {μ0 : Mu} {h0 : Heap} {kill : List Nat} {id : Nat} {W : TidyF} (hW : WOK S F0 μ0 h0 W) {f : DSt → List DItem → KD R → Option R} {f' : (R' : Type) → St → List Pv.DItem → KP R' → Option R'}
  (hf : ∀ {F : Fz} {μ : Mu} {dst : DSt} {st : St} {ds : List DItem} {es : List Pv.DItem} {k : KD R} {r : R}, ExtB S F0 μ0 h0 F μ st.heap → SimSt F μ dst st → ItemsD F μ ds es → f dst ds k = some r → CodeA S F0 μ0 h0 k r fun R' k' => f' R' st es k') {k : KD R} :
  ∀ (n : Nat) {F : Fz} {μ : Mu} {dst : DSt} {st : St} {ds : List DItem} {es : List Pv.DItem} {r : R}, ExtB S F0 μ0 h0 F μ st.heap → SimSt F μ dst st → ItemsD F μ ds es → loopK (fun st ds => W id (killTmps kill st) ds) f k n dst ds = some r → CodeA S F0 μ0 h0 k r fun R' k' => Pv.loopK kill (fun st es k => f' R' st es k) k' n st es
 | 0, F, μ, dst, st, ds, es, r, xA, s, hd, e => by cases e
 | n + 1, F, μ, dst, st, ds, es, r, xA, s, hd, e => by
  simp only [loopK] at e
  obtain ⟨F1, μ1, x, dst1, ds1, x', st1, es1, e1, n1, s1, hx, d1, x1⟩ := hf xA s hd e
  clear e
  dsimp only at e1
  split at e1
  ·cases x' <;> first | exact hx.elim | skip
   obtain ⟨μ2, s2, d2, x2⟩ := hW id (st := Pv.killTmps kill st1) (by rw [killTmps_heap]; exact x1) (killTmps_rel kill s1) d1
   refine (loopK_sim hW hf n x2 s2 d2 e1).congr fun R' k' => ?_
   simp only [Pv.loopK]
   exact n1 _ _
  ·rename_i hne
   refine ⟨F1, μ1, _, dst1, ds1, x', st1, es1, e1, fun R' k' => ?_, s1, hx, d1, x1⟩
   simp only [Pv.loopK]
   refine (n1 _ _).trans ?_
   cases x' <;> first | rfl | skip
   exfalso
   cases x <;> first | exact hx.elim | exact hne rfl
theorem evalK_sim {X Y : CallX} {X' : Pv.CallX} {Cp : CallF} (hX : XSim X X') (hXf : XFn X X') (hY : XSim Y X') (hCp : CSim Cp (Pv.callP (Pv.retOnly X') true)) {T : DTab} {T' : Pv.Tab} (hT : TabD T T') {K : Nat → List Nat} {n : Nat} {S : Nat → Prop} {ya : List Nat} (hSy : ∀ i, S i → inS ya i) {rnd rnd' : Option Nat} (hrn : ∀ l, rnd = some l → S l) {F0 : Fz} {μ0 : Mu} {h0 : Heap} {W : TidyF} (hW : WOK S F0 μ0 h0 W) (hr0 : RndD μ0 rnd rnd') (hg0 : GlobD F0) :
  ∀ (c : Code) (id : Nat) {F : Fz} {μ : Mu} {dst : DSt} {st : St} {ds : List DItem} {es : List Pv.DItem} {k : KD R} {r : R}, ExtB S F0 μ0 h0 F μ st.heap → SimSt F μ dst st → ItemsD F μ ds es → evalK P X Y Cp T K W ya (fun td f k st ds => loopK td f k n st ds) rnd id c dst ds k = some r → CodeA S F0 μ0 h0 k r fun R' k' => Pv.evalK P X' T' K n rnd' id c st es k' := by
 intro c
 induction c with
 | skip => intro id F μ dst st ds es k r xA s hd e; exact CodeR.start xA <| .here s hd (x := .normal) (x' := .normal) trivial e fun _ _ => rfl
 | region i ops draw =>
  intro id F μ dst st ds es k r xA s hd e
  cases draw with
  | false => exact CodeR.start xA (evalOpsX_sim hX hXf hSy hrn ops.toList (hr0.keep hrn xA.hM) (hg0.mono xA.hF) s hd e)
  | true =>
   obtain ⟨F1, μ1, dst1, st1, e1, n1, s1, x1⟩ := evalDrawn_sim hXf.ret hCp (hg0.mono xA.hF) s (e : evalDrawn P (retOnly X) Cp ops dst (fun st => k .normal st ds) = some r)
   exact ⟨F1, μ1, .normal, dst1, ds, .normal, st1, es, e1, fun R' k' => n1 R' _, s1, trivial, hd.mono x1.hF x1.hM, xA.trans x1.b⟩
 | seq a b iha ihb =>
  intro id F μ dst st ds es k r xA s hd e
  simp only [evalK] at e
  obtain ⟨F1, μ1, x, dst1, ds1, x', st1, es1, e1, n1, s1, hx, d1, x1⟩ := iha 0 xA s hd e
  clear e
  dsimp only at e1
  split at e1
  ·cases x' <;> first | exact hx.elim | skip
   refine (ihb 0 x1 s1 d1 e1).congr fun R' k' => ?_
   simp only [Pv.evalK]
   exact n1 _ _
  ·rename_i hne
   refine ⟨F1, μ1, _, dst1, ds1, x', st1, es1, e1, fun R' k' => ?_, s1, hx, d1, x1⟩
   simp only [Pv.evalK]
   refine (n1 _ _).trans ?_
   cases x' <;> first | rfl | skip
   exfalso
   cases x <;> first | exact hx.elim | exact hne rfl
 | cond c a b iha ihb =>
  intro id F μ dst st ds es k r xA s hd e
  simp only [evalK] at e
  obtain ⟨sc, h1, e1⟩ := bnd e
  obtain ⟨x, h2, e2⟩ := bnd e1
  obtain ⟨t, h3, e3⟩ := bnd e2
  clear e e1 e2
  obtain ⟨y', v', h4, h5, h6⟩ := opdv_rel (hg0.mono xA.hF) s h1 h2
  obtain ⟨rfl, rfl⟩ := h6.toBool h3
  cases t with
  | true =>
   simp only [cond_true] at e3
   exact (iha 0 xA s hd e3).congr fun R' k' => by simp only [Pv.evalK, h4, h5, Option.bind_some, Pv.toBool, cond_true]
  | false =>
   simp only [cond_false] at e3
   exact (ihb 0 xA s hd e3).congr fun R' k' => by simp only [Pv.evalK, h4, h5, Option.bind_some, Pv.toBool, cond_false]
 | block i b ih =>
  intro id F μ dst st ds es k r xA s hd e
  simp only [evalK] at e
  obtain ⟨F1, μ1, x, dst1, ds1, x', st1, es1, e1, n1, s1, hx, d1, x1⟩ := ih i xA s hd e
  clear e
  dsimp only at e1
  split at e1
  ·rename_i j
   cases x' <;> first | exact hx.elim | skip
   cases (show j = _ from hx)
   cases hj : Nat.beq j i with
   | true =>
    simp only [hj, cond_true] at e1
    exact ⟨F1, μ1, .normal, dst1, ds1, .normal, st1, es1, e1, fun R' k' => by simp only [Pv.evalK]; refine (n1 _ _).trans ?_; simp only [hj, cond_true], s1, trivial, d1, x1⟩
   | false =>
    simp only [hj, cond_false] at e1
    exact ⟨F1, μ1, .exit j, dst1, ds1, .exit j, st1, es1, e1, fun R' k' => by simp only [Pv.evalK]; refine (n1 _ _).trans ?_; simp only [hj, cond_false], s1, rfl, d1, x1⟩
  ·rename_i hne
   refine ⟨F1, μ1, _, dst1, ds1, x', st1, es1, e1, fun R' k' => ?_, s1, hx, d1, x1⟩
   simp only [Pv.evalK]
   refine (n1 _ _).trans ?_
   cases x' <;> first | rfl | skip
   exfalso
   cases x <;> first | exact hx.elim | exact hne _ rfl
 | scope b ih =>
  intro id F μ dst st ds es k r xA s hd e
  simp only [evalK] at e
  obtain ⟨F1, μ1, x, dst1, ds1, x', st1, es1, e1, n1, s1, hx, d1, x1⟩ := ih 0 xA s hd e
  clear e
  dsimp only at e1
  split at e1
  ·cases e1
  ·rename_i hne
   refine ⟨F1, μ1, _, dst1, ds1, x', st1, es1, e1, fun R' k' => ?_, s1, hx, d1, x1⟩
   simp only [Pv.evalK]
   refine (n1 _ _).trans ?_
   cases x' <;> first | rfl | skip
   exfalso
   cases x <;> first | exact hx.elim | exact hne _ rfl
 | loop b ih =>
  intro id F μ dst st ds es k r xA s hd e
  simp only [evalK] at e
  obtain ⟨μ2, s2, d2, x2⟩ := hW id (st := Pv.killTmps (K id) st) (by rw [killTmps_heap]; exact xA) (killTmps_rel (K id) s) hd
  refine (loopK_sim hW (f := fun st ds k => evalK P X Y Cp T K W ya (fun td f k st ds => loopK td f k n st ds) rnd 0 b st ds k) (f' := fun R' st es k => Pv.evalK P X' T' K n rnd' 0 b st es k)
   (fun xA s hd e => ih 0 xA s hd e) n x2 s2 d2 e).congr fun R' k' => ?_
  simp only [Pv.evalK]
 | rangeFunc g ps assign body iha ihb =>
  intro id F μ dst st ds es k r xA s hd e
  simp only [evalK] at e
  exact CodeR.start xA ((evalRange_sim hY hT (hr0.keep hrn xA.hM) (hg0.mono xA.hF) s hd e).congr fun R' k' => by simp only [Pv.evalK])
 | exit i => intro id F μ dst st ds es k r xA s hd e; exact CodeR.start xA <| .here s hd (x := .exit i) (x' := .exit i) rfl e fun _ _ => rfl
 | label i => intro id F μ dst st ds es k r xA s hd e; exact CodeR.start xA <| .here s hd (x := .normal) (x' := .normal) trivial e fun _ _ => rfl
 | ret => intro id F μ dst st ds es k r xA s hd e; exact CodeR.start xA <| .here s hd (x := .ret) (x' := .ret) trivial e fun _ _ => rfl
 | _ => intro id F μ dst st ds es k r xA s hd e; simp only [evalK] at e; cases e
end
end Go.Dv
end
section
namespace Go.Dv
open Go.Pv (TI tiOf idx upTo fieldTI CK kindsOf LoopRec PExit isConst room isYield Slot Box Blk Heap St set_get set_same set_ne get_snoc bif_some bif_none masksOf behind firm makes floats mayLp dsts isAl drawOK isRecover still)
variable [Pv.Glob] [DGlob]
def MD (F : Fz) (μ : Mu) : DMode → Pv.Mode → Prop
 | .ret, .ret => True
 | .pan x b, .pan y b' => VD F μ x y ∧ b = b'
 | _, _ => False
theorem MD.mono {F F' : Fz} {μ μ' : Mu} (hF : F.le F') (hM : Mu.le μ μ') {m : DMode} {m' : Pv.Mode} (h : MD F μ m m') : MD F' μ' m m' := by
 cases m <;> cases m' <;> first | exact h.elim | exact trivial | exact ⟨VD.mono hF hM h.1, h.2⟩
theorem MD.settled {F : Fz} {μ : Mu} {m : DMode} {m' : Pv.Mode} (h : MD F μ m m') : MD F μ m.settled m'.settled := by
 cases m <;> cases m' <;> first | exact h.elim | skip
 ·trivial
 ·rename_i b _ b'
  obtain ⟨h1, rfl⟩ := h
  cases b
  ·exact ⟨h1, rfl⟩
  ·trivial
section
variable {P : Program} {F : Fz} {μ : Mu} {dst : DSt} {st : St} {dh : DHeap} {h : Heap} {R : Type} {r : R} {ds : List DItem} {es : List Pv.DItem}
theorem resultsP_sim : ∀ (l : List ResultVar) {μ : Mu} {dst : DSt} {st : St}, SimSt F μ dst st → ∀ {k : List DV → DSt → Option R}, resultsP P dst l k = some r →
  ∃ μ' vs dst' ws st', k vs dst' = some r ∧ (∀ (R' : Type) (k' : List Value → St → Option R'), Pv.resultsP P st l k' = k' ws st') ∧ SimSt F μ' dst' st' ∧ Ext F μ st.heap F μ' st'.heap ∧ VDs F μ' vs ws
 | [], μ, dst, st, s, k, e => ⟨μ, [], dst, [], st, e, fun _ _ => rfl, s, .refl _ _ _, .nil _⟩
 | .tmp t :: l, μ, dst, st, s, k, e => by
  simp only [resultsP] at e
  obtain ⟨x, h1, e1⟩ := bnd e
  obtain ⟨y, h2, h3⟩ := s.t.get h1
  obtain ⟨μ1, v, dst1, w, st1, e2, hn, s1, x1, hv, _⟩ := out_rel s h3 e1
  obtain ⟨μ2, vs, dst2, ws, st2, e3, hn2, s2, x2, hvs⟩ := resultsP_sim l s1 e2
  exact ⟨μ2, v :: vs, dst2, w :: ws, st2, e3, fun R' k' => by simp only [Pv.resultsP, h2, Option.bind_some]; rw [hn, hn2], s2, x1.trans x2, .cons _ _ _ _ _ (hv.mono x2.hF x2.hM) hvs⟩
 | .cell a t :: l, μ, dst, st, s, k, e => by
  simp only [resultsP, cellsK_eq] at e
  obtain ⟨ti, h0, e0⟩ := bnd e
  obtain ⟨x, h1, e1⟩ := bnd e0
  obtain ⟨y, h2, h3⟩ := s.t.get h1
  clear e e0
  split at e1
  ·rename_i ha
   obtain ⟨cs, h4, e2⟩ := bnd e1
   obtain ⟨cs', h5, h6⟩ := cellsAt_rel s h3 h4
   obtain ⟨μ2, vs, dst2, ws, st2, e3, hn2, s2, x2, hvs⟩ := resultsP_sim l s e2
   exact ⟨μ2, _, dst2, _, st2, e3, fun R' k' => by simp only [Pv.resultsP, h0, h2, ha, h5, Option.bind_some]; rw [hn2], s2, x2, .cons _ _ _ _ _ ((VD.agg _ _ _ h6).mono x2.hF x2.hM) hvs⟩
  ·rename_i ha
   obtain ⟨v, h4, e2⟩ := bnd e1
   obtain ⟨v', h5, h6⟩ := cellAt_rel s h3 h4
   obtain ⟨μ2, vs, dst2, ws, st2, e3, hn2, s2, x2, hvs⟩ := resultsP_sim l s e2
   exact ⟨μ2, _, dst2, _, st2, e3, fun R' k' => by simp only [Pv.resultsP, h0, h2, ha, h5, Option.bind_some]; rw [hn2], s2, x2, .cons _ _ _ _ _ (h6.mono x2.hF x2.hM) hvs⟩
theorem tupled_rel {vs : List DV} {ws : List Value} (h : VDs F μ vs ws) : VD F μ (tupled vs) (Pv.tupled ws) := by
 cases h with
 | nil => exact .tup _ _ _ (.nil _)
 | cons _ x y xs ys hx t =>
  cases t with
  | nil => exact hx
  | cons _ x2 y2 xs2 ys2 hx2 t2 => exact .tup _ _ _ (.cons _ _ _ _ _ hx (.cons _ _ _ _ _ hx2 t2))
theorem slots_both : ∀ {xs : List DV} {ys : List Value}, VDs F μ xs ys → Both (SD F μ) (xs.map DSlot.v) (ys.map Slot.v)
 | _, _, .nil _ => .nil
 | _, _, .cons _ x y xs ys h t => Both.cons (r := SD F μ) (x := .v x) (y := .v y) h (slots_both t)
theorem both_replicate {α β : Type} {r : α → β → Prop} {x : α} {y : β} (h : r x y) : ∀ n, Both r (List.replicate n x) (List.replicate n y)
 | 0 => .nil
 | n + 1 => by rw [List.replicate_succ, List.replicate_succ]; exact .cons h (both_replicate h n)
theorem both_append {α β : Type} {r : α → β → Prop} : ∀ {l : List α} {l' : List β} {m : List α} {m' : List β}, Both r l l' → Both r m m' → Both r (l ++ m) (l' ++ m')
 | [], l', m, m', h, h' => by rw [both_nil_l h]; exact h'
 | x :: l, l', m, m', h, h' => by
  obtain ⟨y, t, rfl, h1, h2⟩ := both_cons_l h
  exact Both.cons h1 (both_append h2 h')
theorem initSt_rel (i : DInv F μ dh h) {xs : List DV} {ys : List Value} (hv : VDs F μ xs ys) (fn : Func) : SimSt F μ (initSt fn xs dh) (Pv.initSt fn ys h) := by
 refine ⟨i, ?_, ?_⟩
 ·simp only [initSt, Pv.initSt, hv.length]
  exact both_append (slots_both hv) (both_replicate (r := SD F μ) (x := .v undef) (y := .v Go.undef) (VD.tup _ _ _ (.nil _)) _)
 ·simp only [initSt, Pv.initSt, hv.length]
  exact both_replicate (r := BD F μ) (x := .no) (y := .no) trivial _
theorem evalOpsS_sim {X : CallX} {X' : Pv.CallX} (hX : XFn X X') {ops : Array Oper} {k : DMode → DSt → Option R} : ∀ (l : List Oper) {F : Fz} {μ : Mu} {dst : DSt} {st : St} {m : DMode} {m' : Pv.Mode}, GlobD F → SimSt F μ dst st → MD F μ m m' → evalOpsS P X ops l m dst k = some r →
  ∃ F' μ' m1 dst' m1' st', k m1 dst' = some r ∧ (∀ (R' : Type) (k' : Pv.Mode → St → Option R'), Pv.evalOpsS P X' ops l m' st k' = k' m1' st') ∧ SimSt F' μ' dst' st' ∧ MD F' μ' m1 m1' ∧ Ext F μ st.heap F' μ' st'.heap
 | [], F, μ, dst, st, m, m', hg, s, hm, e => ⟨F, μ, m, dst, m', st, e, fun _ _ => rfl, s, hm, .refl _ _ _⟩
 | o :: l, F, μ, dst, st, m, m', hg, s, hm, e => by
  simp only [evalOpsS] at e
  obtain ⟨dst1, st1, s1, hh1, h1⟩ := guardK_sim s e
  clear e
  have fin : ∀ {F1 : Fz} {μ1 : Mu} {dst2 : DSt} {st2 : St} {m2 : DMode} {m2' : Pv.Mode} {y : DSlot} {y' : Slot}, Ext F μ st.heap F1 μ1 st2.heap → SimSt F1 μ1 dst2 st2 → MD F1 μ1 m2 m2' → SD F1 μ1 y y' → evalOpsS P X ops l m2 (dst2.put o.dst y) k = some r →
    (∀ (R' : Type) (k' : Pv.Mode → St → Option R'), Pv.evalOpsS P X' ops (o :: l) m' st k' = Pv.evalOpsS P X' ops l m2' (st2.put o.dst y') k') →
    ∃ F' μ' m1 dst' m1' st', k m1 dst' = some r ∧ (∀ (R' : Type) (k' : Pv.Mode → St → Option R'), Pv.evalOpsS P X' ops (o :: l) m' st k' = k' m1' st') ∧ SimSt F' μ' dst' st' ∧ MD F' μ' m1 m1' ∧ Ext F μ st.heap F' μ' st'.heap := by
   intro F1 μ1 dst2 st2 m2 m2' y y' hx s2 hm2 hy e2 hn
   obtain ⟨F', μ', m1, dst', m1', st', h2, h3, h4, h5, h6⟩ := evalOpsS_sim hX l (hg.mono hx.hF) (s2.put o.dst hy) hm2 e2
   rw [put_heap] at h6
   exact ⟨F', μ', m1, dst', m1', st', h2, fun R' k' => (hn R' k').trans (h3 R' k'), h4, h5, hx.trans h6⟩
  have hx1 : Ext F μ st.heap F μ st1.heap := by rw [hh1]; exact .refl _ _ _
  rcases h1 with ⟨e, hn⟩ | ⟨e, hn⟩
  ·cases hr : isRecover o with
   | true =>
    rw [hr] at e
    dsimp only at e
    cases m with
    | ret =>
     cases m' <;> first | exact hm.elim | skip
     exact fin (y := .v .nili) (y' := .v .nilIface) hx1 s1 hm (VD.nili _) e fun R' k' => by simp only [Pv.evalOpsS, hn, hr]
    | pan v b =>
     cases m' <;> first | exact hm.elim | skip
     rename_i w b'
     obtain ⟨hv, hb⟩ := hm
     subst hb
     cases b with
     | true => exact fin (m2 := .pan v true) (m2' := .pan w true) (y := .v .nili) (y' := .v .nilIface) hx1 s1 ⟨hv, rfl⟩ (VD.nili _) e fun R' k' => by simp only [Pv.evalOpsS, hn, hr]
     | false => exact fin (m2 := .pan v true) (m2' := .pan w true) (y := .v v) (y' := .v w) hx1 s1 ⟨hv, rfl⟩ hv e fun R' k' => by simp only [Pv.evalOpsS, hn, hr]
   | false =>
    rw [hr] at e
    dsimp only at e
    obtain ⟨hst, e⟩ := bif_some e
    obtain ⟨F2, μ2, y, dst2, y', st2, e2, hn2, s2, hy, x2⟩ := evalOp_sim hg hX.ret s1 (fun c b _ _ => by cases b <;> rfl) e
    rw [hh1] at x2
    refine fin x2 s2 (hm.mono x2.hF x2.hM) hy e2 fun R' k' => ?_
    simp only [Pv.evalOpsS, hn, hr, hst, cond_true]
    exact hn2 _ _
  ·exact fin (y := .v undef) (y' := .v Go.undef) hx1 s1 hm (VD.tup _ _ _ (.nil _)) e fun R' k' => by simp only [Pv.evalOpsS, hn]
def SRes (F : Fz) (μ : Mu) (st : St) {R : Type} (k : DExit → DMode → DSt → Option R) (r : R) (run : (R' : Type) → (PExit → Pv.Mode → St → Option R') → Option R') : Prop :=
 ∃ F' μ' x m dst' x' m' st', k x m dst' = some r ∧ (∀ (R' : Type) (k' : PExit → Pv.Mode → St → Option R'), run R' k' = k' x' m' st') ∧ SimSt F' μ' dst' st' ∧ ExD F' μ' x x' ∧ MD F' μ' m m' ∧ Ext F μ st.heap F' μ' st'.heap
theorem SRes.after {F0 : Fz} {μ0 : Mu} {st0 : St} {k : DExit → DMode → DSt → Option R} {run : (R' : Type) → (PExit → Pv.Mode → St → Option R') → Option R'} (x : Ext F0 μ0 st0.heap F μ st.heap) (h : SRes F μ st k r run) : SRes F0 μ0 st0 k r run :=
 let ⟨F', μ', y, dst', ds', x', st', es', h1, h2, h3, h4, h5, h6⟩ := h
 ⟨F', μ', y, dst', ds', x', st', es', h1, h2, h3, h4, h5, x.trans h6⟩
theorem SRes.congr {k : DExit → DMode → DSt → Option R} {run run' : (R' : Type) → (PExit → Pv.Mode → St → Option R') → Option R'} (h : SRes F μ st k r run) (hr : ∀ (R' : Type) k', run' R' k' = run R' k') : SRes F μ st k r run' :=
 let ⟨F', μ', y, dst', ds', x', st', es', h1, h2, h3, h4, h5, h6⟩ := h
 ⟨F', μ', y, dst', ds', x', st', es', h1, fun R' k' => (hr R' k').trans (h2 R' k'), h3, h4, h5, h6⟩
theorem plainS_sim {X Y : CallX} {X' : Pv.CallX} {Cp : CallF} (hX : XSim X X') (hXf : XFn X X') (hY : XSim Y X') (hCp : CSim Cp (Pv.callP (Pv.retOnly X') true)) {T : DTab} {T' : Pv.Tab} (hT : TabD T T') {K : Nat → List Nat} {n : Nat} {c : Code} {m : DMode} {m' : Pv.Mode} {k : DExit → DMode → DSt → Option R} (hg : GlobD F) (s : SimSt F μ dst st) (hm : MD F μ m m')
  (e : (evalK P X Y Cp T K noTidy [] (fun td f k st ds => loopK td f k n st ds) none 0 c dst [] fun e st ds => match ds with
   | [] => k e m st
   | _ => none) = some r) : SRes F μ st k r fun R' k' => Pv.evalK P X' T' K n none 0 c st [] fun e st ds => match ds with
   | [] => k' e m' st
   | _ => none := by
 obtain ⟨F1, μ1, x, dst1, ds1, x', st1, es1, e1, n1, s1, hx, d1, x1⟩ := evalK_sim hX hXf hY hCp hT (S := inS []) (ya := []) (fun _ h => h) (rnd := none) (rnd' := none) (fun _ h => by cases h) (noTidy_ok (F0 := F) (μ0 := μ) (h0 := st.heap)) trivial hg c 0 (.refl _ _ _ _) s .nil e
 replace x1 := x1.full (fun i _ => inS_nil i) s1.h.inj
 cases ds1 with
 | nil =>
  rw [both_nil_l d1] at n1
  exact ⟨F1, μ1, x, m, dst1, x', m', st1, e1, fun R' k' => n1 _ _, s1, hx, hm.mono x1.hF x1.hM, x1⟩
 | cons d ds1 => cases e1
theorem evalS_sim {X Y : CallX} {X' : Pv.CallX} {Cp : CallF} (hX : XSim X X') (hXf : XFn X X') (hY : XSim Y X') (hCp : CSim Cp (Pv.callP (Pv.retOnly X') true)) {T : DTab} {T' : Pv.Tab} (hT : TabD T T') {K : Nat → List Nat} {n : Nat} :
  ∀ (c : Code) {F : Fz} {μ : Mu} {dst : DSt} {st : St} {m : DMode} {m' : Pv.Mode} {k : DExit → DMode → DSt → Option R} {r : R}, GlobD F → SimSt F μ dst st → MD F μ m m' → evalS P X Y Cp T K (fun td f k st ds => loopK td f k n st ds) c m dst k = some r → SRes F μ st k r fun R' k' => Pv.evalS P X' T' K n c m' st k' := by
 intro c
 induction c with
 | seq a b iha ihb =>
  intro F μ dst st m m' k r hg s hm e
  simp only [evalS] at e
  obtain ⟨F1, μ1, x, m1, dst1, x', m1', st1, e1, n1, s1, hx, d1, x1⟩ := iha hg s hm e
  clear e
  dsimp only at e1
  split at e1
  ·cases x' <;> first | exact hx.elim | skip
   refine (SRes.after x1 (ihb (hg.mono x1.hF) s1 d1 e1)).congr fun R' k' => ?_
   simp only [Pv.evalS]
   exact n1 _ _
  ·rename_i hne
   refine ⟨F1, μ1, _, m1, dst1, x', m1', st1, e1, fun R' k' => ?_, s1, hx, d1, x1⟩
   simp only [Pv.evalS]
   refine (n1 _ _).trans ?_
   cases x' <;> first | rfl | skip
   exfalso
   cases x <;> first | exact hx.elim | exact hne rfl
 | cond c a b iha ihb =>
  intro F μ dst st m m' k r hg s hm e
  simp only [evalS] at e
  obtain ⟨sc, h1, e1⟩ := bnd e
  obtain ⟨x, h2, e2⟩ := bnd e1
  obtain ⟨t, h3, e3⟩ := bnd e2
  clear e e1 e2
  obtain ⟨y', v', h4, h5, h6⟩ := opdv_rel hg s h1 h2
  obtain ⟨rfl, rfl⟩ := h6.toBool h3
  cases t with
  | true =>
   simp only [cond_true] at e3
   exact (iha hg s hm e3).congr fun R' k' => by simp only [Pv.evalS, h4, h5, Option.bind_some, Pv.toBool, cond_true]
  | false =>
   simp only [cond_false] at e3
   exact (ihb hg s hm e3).congr fun R' k' => by simp only [Pv.evalS, h4, h5, Option.bind_some, Pv.toBool, cond_false]
 | region i ops draw =>
  intro F μ dst st m m' k r hg s hm e
  simp only [evalS] at e
  cases hq : (!draw && ops.any isRecover) with
  | true =>
   rw [hq] at e
   simp only [cond_true] at e
   obtain ⟨F', μ', m1, dst', m1', st', h2, h3, h4, h5, h6⟩ := evalOpsS_sim hXf ops.toList hg s hm e
   refine ⟨F', μ', .normal, m1, dst', .normal, m1', st', h2, fun R' k' => ?_, h4, trivial, h5, h6⟩
   simp only [Pv.evalS, hq, cond_true]
   exact h3 _ _
  | false =>
   rw [hq] at e
   simp only [cond_false] at e
   refine (plainS_sim hX hXf hY hCp hT hg s hm e).congr fun R' k' => ?_
   simp only [Pv.evalS, hq, cond_false]
   rfl
 | _ =>
  intro F μ dst st m m' k r hg s hm e
  simp only [evalS] at e
  refine (plainS_sim hX hXf hY hCp hT hg s hm e).congr fun R' k' => ?_
  simp only [Pv.evalS]
  rfl
def DSim (D : FuncId → List DV → DMode → DHeap → Option (DMode × DHeap)) (D' : FuncId → List Value → Pv.Mode → Heap → Option (Pv.Mode × Heap)) : Prop :=
 ∀ g xs m dh m1 dh1, D g xs m dh = some (m1, dh1) → ∀ F μ h ys m', GlobD F → DInv F μ dh h → VDs F μ xs ys → MD F μ m m' → ∃ F' μ' m1' h', D' g ys m' h = some (m1', h') ∧ DInv F' μ' dh1 h' ∧ MD F' μ' m1 m1' ∧ Ext F μ h F' μ' h'
theorem evalD_sim {X Y : CallX} {X' : Pv.CallX} {Cp : CallF} (hX : XSim X X') (hXf : XFn X X') (hY : XSim Y X') (hCp : CSim Cp (Pv.callP (Pv.retOnly X') true)) {T : DTab} {T' : Pv.Tab} (hT : TabD T T') {n : Nat} :
  DSim (evalD P X Y Cp T (fun td f k st ds => loopK td f k n st ds)) (Pv.evalD P X' T' n) := by
 intro g xs m dh m1 dh1 e F μ h ys m' hg i hv hm
 unfold evalD at e
 obtain ⟨hs, e⟩ := bif_none e
 obtain ⟨fn, h1, e1⟩ := bnd e
 obtain ⟨c, h2, e2⟩ := bnd e1
 obtain ⟨F1, μ1, x, m2, dst1, x', m2', st1, e3, n1, s1, hx, d1, x1⟩ := evalS_sim hX hXf hY hCp hT c hg (initSt_rel i hv fn) hm e2
 clear e e1 e2
 have hd : Pv.evalD P X' T' n g ys m' h = (match (generalizing := false) x' with
   | .normal | .ret => Pv.resultsP P st1 fn.results.toList fun _ st => some (m2', st.heap)
   | _ => none) := by
  unfold Pv.evalD
  rw [← hT.spec, hs, cond_false, ← hT.fn, h1, Option.bind_some, h2, Option.bind_some, ← hT.kill]
  exact n1 _ _
 have key : resultsP P dst1 fn.results.toList (fun _ st => some (m2, st.heap)) = some (m1, dh1) → ∃ F' μ' m1' h', Pv.resultsP P st1 fn.results.toList (fun _ st => some (m2', st.heap)) = some (m1', h') ∧ DInv F' μ' dh1 h' ∧ MD F' μ' m1 m1' ∧ Ext F μ h F' μ' h' := by
  intro e4
  obtain ⟨μ2, vs, dst2, ws, st2, e5, hn2, s2, x2, hvs⟩ := resultsP_sim fn.results.toList s1 e4
  cases e5
  exact ⟨F1, μ2, m2', st2.heap, by rw [hn2], s2.h, d1.mono x2.hF x2.hM, x1.trans x2⟩
 rw [hd]
 cases x <;> cases x' <;> first | exact hx.elim | skip
 ·exact key e3
 ·cases e3
 ·cases e3
 ·exact key e3
 ·cases e3
theorem leaveX_sim {D : FuncId → List DV → DMode → DHeap → Option (DMode × DHeap)} {D' : FuncId → List Value → Pv.Mode → Heap → Option (Pv.Mode × Heap)} (hD : DSim D D') {fn : Func} {k : DRes × DHeap → Option R} {r : R} : ∀ (ds : List DItem) {es : List Pv.DItem} {F : Fz} {μ : Mu} {dst : DSt} {st : St} {m : DMode} {m' : Pv.Mode}, GlobD F → SimSt F μ dst st → ItemsD F μ ds es → MD F μ m m' → leaveX P D fn ds m dst k = some r →
  ∃ v dh' F' μ' w h', k (v, dh') = some r ∧ Pv.leaveX P D' fn es m' st = some (w, h') ∧ DInv F' μ' dh' h' ∧ ResD F' μ' v w ∧ Ext F μ st.heap F' μ' h'
 | [], es, F, μ, dst, st, m, m', hg, s, hd, hm, e => by
  rw [both_nil_l hd]
  simp only [leaveX] at e
  cases m with
  | ret =>
   cases m' <;> first | exact hm.elim | skip
   obtain ⟨μ2, vs, dst2, ws, st2, e5, hn2, s2, x2, hvs⟩ := resultsP_sim fn.results.toList s e
   exact ⟨.ret (tupled vs), dst2.heap, F, μ2, .ret (Pv.tupled ws), st2.heap, e5, by simp only [Pv.leaveX]; rw [hn2], s2.h, tupled_rel hvs, x2⟩
  | pan x b =>
   cases m' <;> first | exact hm.elim | skip
   rename_i y b'
   obtain ⟨hv, rfl⟩ := hm
   cases b with
   | false => exact ⟨.pan x, dst.heap, F, μ, .pan y, st.heap, e, rfl, s.h, hv, .refl _ _ _⟩
   | true => cases e
 | d :: ds, es, F, μ, dst, st, m, m', hg, s, hd, hm, e => by
  obtain ⟨d', es', rfl, h1, h2⟩ := both_cons_l hd
  cases d with
  | mark id =>
   cases d' <;> first | exact h1.elim | skip
   rename_i j
   replace h1 : μ[id]? = some (some j) := h1
   simp only [leaveX] at e
   obtain ⟨db, h3, e1⟩ := bnd e
   obtain ⟨b, h4, hr⟩ := s.h.blk id db j h3 h1
   have hob := hr.obj
   split at e1
   ·rename_i ho
    rw [ho] at hob
    have i2 := s.h.setKeep (db' := { db with obj := none }) (b' := { b with obj := none }) h3 h4 h1 rfl rfl rfl ⟨hr.live, hr.elem, hr.row, hr.ro, fun _ => hr.cells (.inr (by rw [ho]; rfl)), rfl⟩
    obtain ⟨v, dh', F', μ', w, h', hk, h5, h6, h7, h8⟩ := leaveX_sim hD ds hg (s.mono (.refl F) (.refl μ) i2) h2 hm e1
    refine ⟨v, dh', F', μ', w, h', hk, ?_, h6, h7, (Ext.set F st.heap h1 _).trans h8⟩
    simp only [Pv.leaveX, h4, Option.bind_some, show b.obj = some .dfr from hob, h5]
   ·cases e1
  | call g xs =>
   cases d' <;> first | exact h1.elim | skip
   rename_i g' ys
   obtain ⟨hgg, hv⟩ := h1
   subst hgg
   simp only [leaveX] at e
   obtain ⟨⟨m1, dh1⟩, h3, e1⟩ := bnd e
   obtain ⟨F1, μ1, m1', h1', h4, i4, hm4, x4⟩ := hD _ _ _ _ _ _ h3 F μ st.heap ys m' hg s.h hv hm
   obtain ⟨v, dh', F', μ', w, h', hk, h5, h6, h7, h8⟩ := leaveX_sim hD ds (hg.mono x4.hF) (s.mono x4.hF x4.hM i4) (h2.mono fun _ _ h => ItemD.mono x4.hF x4.hM h) hm4.settled e1
   exact ⟨v, dh', F', μ', w, h', hk, by simp only [Pv.leaveX, h4, Option.bind_some, h5], h6, h7, x4.trans h8⟩
theorem evalBody_sim {xs : List DV} {X Y : CallX} {X' : Pv.CallX} {Cp : CallF} (hX : XSim X X') (hXf : XFn X X') (hY : XSim Y X') (hCp : CSim Cp (Pv.callP (Pv.retOnly X') true)) {T : DTab} {T' : Pv.Tab} (hT : TabD T T') {K : Nat → List Nat} {W : TidyF} (hW : WOK (inS (yids xs)) F μ h W) {n : Nat} {fn : Func} {ys : List Value} {k : DRes × DHeap → Option R} {r : R} (hg : GlobD F) (i : DInv F μ dh h) (hv : VDs F μ xs ys)
  (e : evalBody P X Y Cp T K W (fun _ td f k st ds => loopK td f k n st ds) fn xs dh k = some r) : ∃ v dh' F' μ' w h', k (v, dh') = some r ∧ Pv.evalBody P X' T' K n fn ys h = some (w, h') ∧ DInv F' μ' dh' h' ∧ ResD F' μ' v w ∧ ExtB (inS (yids xs)) F μ h F' μ' h' := by
 unfold evalBody at e
 obtain ⟨c, h2, e2⟩ := bnd e
 obtain ⟨F1, μ1, x, dst1, ds1, x', st1, es1, e1, n1, s1, hx, d1, x1⟩ := evalK_sim hX hXf hY hCp hT (fun _ h => h) (rnd := none) (rnd' := none) (fun _ h => by cases h) hW trivial hg c 0 (.refl _ _ _ _) (initSt_rel i hv fn) .nil e2
 clear e e2
 have hD := evalD_sim (P := P) hX hXf hY hCp hT (n := n)
 have hb : Pv.evalBody P X' T' K n fn ys h = (match (generalizing := false) x' with
   | .normal | .ret => Pv.leaveX P (Pv.evalD P X' T' n) fn es1 .ret st1
   | .panic v => Pv.leaveX P (Pv.evalD P X' T' n) fn es1 (.pan v false) st1
   | _ => none) := by
  unfold Pv.evalBody
  rw [h2, Option.bind_some]
  exact n1 _ _
 rw [hb]
 have key : ∀ {m : DMode} {m' : Pv.Mode}, MD F1 μ1 m m' → leaveX P (evalD P X Y Cp T fun td f k st ds => loopK td f k n st ds) fn ds1 m dst1 k = some r → ∃ v dh' F' μ' w h', k (v, dh') = some r ∧ Pv.leaveX P (Pv.evalD P X' T' n) fn es1 m' st1 = some (w, h') ∧ DInv F' μ' dh' h' ∧ ResD F' μ' v w ∧ ExtB (inS (yids xs)) F μ h F' μ' h' := by
  intro m m' hm e4
  obtain ⟨v, dh', F', μ', w, h', hk, h5, h6, h7, h8⟩ := leaveX_sim hD ds1 (hg.mono x1.hF) s1 d1 hm e4
  exact ⟨v, dh', F', μ', w, h', hk, h5, h6, h7, x1.trans h8.b⟩
 cases x <;> cases x' <;> first | exact hx.elim | skip
 ·exact key (m := .ret) (m' := .ret) trivial e1
 ·cases e1
 ·cases e1
 ·exact key (m := .ret) (m' := .ret) trivial e1
 ·exact key (m := .pan _ false) (m' := .pan _ false) ⟨hx, rfl⟩ e1
theorem slotsOf_rel : ∀ {xs : List DV} {ys : List Value} (bs : List Bool), VDs F μ xs ys → Both (SD F μ) (slotsOf xs bs) (Pv.slotsOf ys bs)
 | _, _, [], .nil _ => .nil
 | _, _, _ :: _, .nil _ => .nil
 | _, _, [], .cons _ x y xs ys h t => .nil
 | _, _, b :: bs, .cons _ x y xs ys h t => by
  simp only [slotsOf, Pv.slotsOf]
  refine Both.cons ?_ (slotsOf_rel bs t)
  cases b
  ·exact h
  ·trivial
theorem setParams_rel : ∀ {xs : List DV} {ys : List Value} (ps : List Nat) {l : List DSlot} {l' : List Slot}, VDs F μ xs ys → Both (SD F μ) l l' → Both (SD F μ) (setParams l ps xs) (Pv.setParams l' ps ys)
 | _, _, [], l, l', .nil _, h => h
 | _, _, _ :: _, l, l', .nil _, h => h
 | _, _, [], l, l', .cons _ x y xs ys h1 t, h => h
 | _, _, p :: ps, l, l', .cons _ x y xs ys h1 t, h => by
  simp only [setParams, Pv.setParams]
  exact setParams_rel ps t (h.set p (x := .v x) (y := .v y) h1)
theorem endRound_sim {l j : Nat} (hj : μ[l]? = some (some j)) (i : DInv F μ dh h) {p : Option PExit} {v : DRes} {dh' : DHeap} (e : endRound l p dh = some (v, dh')) : ∃ w h', Pv.endRound j p h = some (w, h') ∧ DInv F μ dh' h' ∧ ResD F μ v w ∧ Ext F μ h F μ h' := by
 unfold endRound at e
 obtain ⟨⟨db, q⟩, h1, e1⟩ := bnd e
 cases e1
 obtain ⟨b, h2, h3, h4, h5, h6, _⟩ := loopAt_rel i hj h1
 refine ⟨.ret (.bool p.isNone), _, by simp only [Pv.endRound, h2, Option.bind_some], setLoop_rel i hj h4 h3 h5 h6, VD.bool _ _, .set F h hj _⟩
theorem endRoundT_sim {F0 : Fz} {μ0 : Mu} {h0 : Heap} {ya : List Nat} {l j : Nat} (hj : μ[l]? = some (some j)) (x : ExtB (inS [l]) F0 μ0 h0 F μ h) (i : DInv F μ dh h) {p : Option PExit} {v : DRes} {dh' : DHeap} (e : endRoundT l p dh = some (v, dh')) : ∃ μ' w h', Pv.endRound j p h = some (w, h') ∧ DInv F μ' dh' h' ∧ ResD F μ' v w ∧ ExtB (inS (l :: ya)) F0 μ0 h0 F μ' h' := by
 unfold endRoundT at e
 obtain ⟨⟨v1, dh1⟩, h1, e1⟩ := bnd e
 cases e1
 obtain ⟨w, h', h2, h3, h4, h5⟩ := endRound_sim hj i h1
 obtain ⟨μ', h6, h7⟩ := compactH_rel (S := inS (l :: ya)) (base := l + 1) (fun a y ha _ => Nat.lt_succ_of_le (ha l (by simp))) ((x.trans h5.b).sub fun a ha b hb => ha b (by simp only [List.mem_singleton] at hb; simp [hb])) h3
 refine ⟨μ', w, h', h2, h6, ?_, h7⟩
 unfold endRound at h1
 obtain ⟨_, _, h1⟩ := bnd h1
 cases h1
 cases w <;> first | exact h4.elim | skip
 replace h4 : VD F μ (.bool p.isNone) _ := h4
 cases h4
 exact VD.bool _ _
theorem evalRound_sim {X Y : CallX} {X' : Pv.CallX} {Cp : CallF} (hX : XSim X X') (hXf : XFn X X') (hY : XSim Y X') (hCp : CSim Cp (Pv.callP (Pv.retOnly X') true)) {T : DTab} {T' : Pv.Tab} (hT : TabD T T') {n : Nat} {l j : Nat} (hj : μ[l]? = some (some j)) {xs : List DV} {ys : List Value} {v : DRes} {dh' : DHeap} (hg : GlobD F) (i : DInv F μ dh h) (hv : VDs F μ xs ys)
  (e : evalRound P X Y Cp T (fun _ td f k st ds => loopK td f k n st ds) l xs dh = some (v, dh')) : ∃ F' μ' w h', Pv.evalRound P X' T' n j ys h = some (w, h') ∧ DInv F' μ' dh' h' ∧ ResD F' μ' v w ∧ ExtB (inS (l :: yids xs)) F μ h F' μ' h' := by
 unfold evalRound at e
 obtain ⟨⟨db, q⟩, h1, e1⟩ := bnd e
 obtain ⟨b, h2, h3, h4, h5, h6, h7⟩ := loopAt_rel i hj h1
 replace e1 := bif_some e1; obtain ⟨hc, e1⟩ := e1
 dsimp only at hc e1
 have s0 : SimSt F μ ⟨setParams (slotsOf db.cells q.dead) q.params xs, List.replicate db.cells.length .no, dh⟩ ⟨Pv.setParams (Pv.slotsOf b.cells q.dead) q.params ys, List.replicate b.cells.length .no, h⟩ :=
  ⟨i, setParams_rel _ hv (slotsOf_rel _ h7), by rw [h7.length]; exact both_replicate (r := BD F μ) (x := .no) (y := .no) trivial _⟩
 have hSl : ∀ l', some l = some l' → inS [l] l' := fun l' e => by cases e; exact fun a ha => by simp only [List.mem_singleton] at ha; omega
 have hSb : ∀ (a : Nat) x, inS [l] a → μ[a]? = some x → a < l + 1 := fun a x ha _ => Nat.lt_succ_of_le (ha l (by simp))
 obtain ⟨F1, μ1, x, dst1, ds1, x', st1, es1, e2, n1, s1, hx, d1, x1⟩ := evalK_sim hX hXf hY hCp hT (S := inS [l]) (ya := []) (fun a _ => inS_nil a) (rnd := some l) (rnd' := some j) hSl (tidy_base hSb (fun _ => some []) (F0 := F) (μ0 := μ) (h0 := h)) hj hg q.assign 0 (.refl _ _ _ _) s0 .nil e1
 clear e e1
 cases x <;> cases ds1 <;> first | (cases e2; done) | skip
 cases x' <;> first | exact hx.elim | skip
 rw [both_nil_l d1] at n1
 dsimp only at e2
 obtain ⟨⟨db2, q2⟩, g1, e3⟩ := bnd e2
 replace e3 := bif_some e3; obtain ⟨hst, e3⟩ := e3
 have hj1 := x1.hM _ _ (hSl l rfl) hj
 have hSb1 : ∀ (a : Nat) x, inS [l] a → μ1[a]? = some x → a < l + 1 := fun a x ha _ => Nat.lt_succ_of_le (ha l (by simp))
 obtain ⟨b2, g2, g3, g4, g5, g6, g7⟩ := loopAt_rel s1.h hj1 g1
 have s2 : SimSt F1 μ1 { dst1 with heap := setLoop dst1.heap l db2 { q2 with state := .busy } } { st1 with heap := Pv.setLoop st1.heap j b2 { q2 with state := .busy } } := s1.mono (.refl F1) (.refl μ1) (setLoop_rel s1.h hj1 g4 g3 g5 g6)
 obtain ⟨F2, μ2, y, dst2, ds2, y', st2, es2, e4, n2, s3, hy, d2, x2⟩ := evalK_sim hX hXf hY hCp hT (S := inS [l]) (ya := []) (fun a _ => inS_nil a) (rnd := some l) (rnd' := some j) hSl (tidy_base hSb1 (fun _ => some []) (F0 := F1) (μ0 := μ1) (h0 := Pv.setLoop st1.heap j b2 { q2 with state := .busy })) hj1 (hg.mono x1.hF) q.body 0 (.refl _ _ _ _) s2 .nil e3
 have x12 := (x1.trans (Ext.set F1 st1.heap hj1 _).b).trans x2
 have hb : Pv.evalRound P X' T' n j ys h = (match (generalizing := false) y', es2 with
           | .normal, [] => Pv.endRound j none st2.heap
           | .ret, [] => Pv.endRound j (some .ret) st2.heap
           | .exit i, [] => Pv.endRound j (some (.exit i)) st2.heap
           | .goto i, [] => Pv.endRound j (some (.goto i)) st2.heap
           | _, _ => none) := by
  unfold Pv.evalRound
  rw [h2, Option.bind_some]
  dsimp only
  rw [← hv.length, ← h7.length, hc, cond_true]
  rw [h7.length]
  refine (n1 _ _).trans ?_
  dsimp only
  rw [g2, Option.bind_some]
  dsimp only at hst ⊢
  rw [hst, cond_true]
  exact n2 _ _
 rw [hb]
 have key : ∀ p, endRoundT l p dst2.heap = some (v, dh') → ∃ F' μ' w h', Pv.endRound j p st2.heap = some (w, h') ∧ DInv F' μ' dh' h' ∧ ResD F' μ' v w ∧ ExtB (inS (l :: yids xs)) F μ h F' μ' h' := by
  intro p e5
  obtain ⟨μ3, w, h', k1, k2, k3, k4⟩ := endRoundT_sim (ya := yids xs) (x2.hM _ _ (hSl l rfl) hj1) x12 s3.h e5
  exact ⟨F2, μ3, w, h', k1, k2, k3, k4⟩
 cases ds2 with
 | cons d ds2 => cases y <;> cases e4
 | nil =>
  rw [both_nil_l d2]
  cases y <;> cases y' <;> first | exact hy.elim | skip
  ·exact key none e4
  ·cases (show _ = _ from hy); exact key _ e4
  ·cases (show _ = _ from hy); exact key _ e4
  ·exact key _ e4
  ·cases e4
end
end Go.Dv
end

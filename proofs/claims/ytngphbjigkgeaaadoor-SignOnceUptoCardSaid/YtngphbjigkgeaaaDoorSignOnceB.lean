/- What the functions come to that the statement's law runs, and the statement itself. Parts: CoH, CoI, CoJ, CoK, CoL, CoM, CoN, CoO, SpB, CtE, EqE, CoP, CoQ, CtH, SpC, EqI, EqJ. -/
import Derived.KernelRfl
import Derived.Test.YtngphbjigkgeaaaDoorSignOnceA
set_option linter.unusedVariables false
set_option linter.unusedSimpArgs false
set_option linter.unusedSectionVars false
section
/- Elements as bytes: contracts. -/
namespace Go.Dv
open Go.Proofs Go.Dv.S
open Go.Pv (idx upTo)
namespace Sx
theorem sp11 (x : DV) : List.take 1 (List.drop 0 (splice (repeatCells [DV.int IntKind.u8 0] 1) 0 [x])) = [x] := rfl
theorem sp11' (x : DV) : List.take 1 (splice (ofBytes (List.replicate 1 0)) 0 [x]) = [x] := rfl
theorem ch1 (x : DV) : chunks 1 1 [x] = [[x]] := rfl
theorem ch2 (x y : DV) : chunks 1 2 [x, y] = [[x], [y]] := rfl
theorem ch3 (x y z : DV) : chunks 1 3 [x, y, z] = [[x], [y], [z]] := rfl
theorem ch4 (x y z w : DV) : chunks 1 4 [x, y, z, w] = [[x], [y], [z], [w]] := rfl
theorem dBs1 {a : B} (h : a.length ≤ 1099511627776) : dBs (.fz [[.fz (byt a)]]) = some [a] := dBs_ok (l := [a]) (by unfold lim; simp) (by unfold lim; simpa using h)
theorem dBs2 {a b : B} (h : a.length + b.length ≤ 1099511627776) : dBs (.fz [[.fz (byt a)], [.fz (byt b)]]) = some [a, b] := dBs_ok (l := [a, b]) (by unfold lim; simp) (by unfold lim; simpa using h)
theorem dBs3 {a b c : B} (h : a.length + b.length + c.length ≤ 1099511627776) : dBs (.fz [[.fz (byt a)], [.fz (byt b)], [.fz (byt c)]]) = some [a, b, c] := dBs_ok (l := [a, b, c]) (by unfold lim; simp) (by unfold lim; simp; omega)
theorem dBs4 {a b c d : B} (h : a.length + b.length + c.length + d.length ≤ 1099511627776) : dBs (.fz [[.fz (byt a)], [.fz (byt b)], [.fz (byt c)], [.fz (byt d)]]) = some [a, b, c, d] := dBs_ok (l := [a, b, c, d]) (by unfold lim; simp) (by unfold lim; simp; omega)
theorem l1c (x : DV) : l1 [x] = some x := rfl
theorem l2c (x y : DV) : l2 [x, y] = some (x, y) := rfl
theorem l3c (x y z : DV) : l3 [x, y, z] = some (x, y, z) := rfl
theorem l4c (x y z w : DV) : l4 [x, y, z, w] = some (x, y, z, w) := rfl
theorem frozC (s : B) : (ofBytes s).all froz = true := ofBytes_froz s
end Sx
theorem byt1 (c : UInt8) : [[DV.int IntKind.u8 (c.toNat : Int)]] = byt [c] := rfl
theorem obE_mk (e : Int) {s s' : B} {n : Nat} (h2 : s = s') (h1 : n = s'.length) : some (DRes.ret (.tup [.sl 0 0 n 0 1, .int .i64 e]), [newBlk (ofBytes s) 5]) = some (obE s' e) := by
  subst h2 h1; rfl
theorem dBm_inv {x : DV} {s : B} (h : dBm x = some s) : x = .fz (byt s) ∧ s.length ≤ 274877906944 := by
  cases x <;> simp only [dBm] at h <;> try (cases h; done)
  obtain ⟨h1, h2⟩ := bif1 h
  obtain ⟨rfl, _⟩ := unB_inv h2
  rw [byt_len] at h1
  exact ⟨rfl, Nat.le_of_ble_eq_true h1⟩
theorem dBm_ok {s : B} (h : s.length ≤ 274877906944) : dBm (.fz (byt s)) = some s := by
  show (bif Nat.ble (byt s).length 274877906944 then unB (byt s) else none) = _
  rw [byt_len, Sx.bleT h, cond_true]
  exact unB_ok (by unfold lim; omega)
/-! ### der.Put -/
theorem l_Put (b : B) (l : List B) (n : Nat) (hn : isTag n = true) (hb : b.length ≤ 274877906944) (hf : l.flatten.length ≤ lim) (hl : l.length ≤ lim) : ∀ m i (t : Nat), l.length - i = m → i ≤ l.length → t + (l.drop i).flatten.length = l.flatten.length → t ≤ maxC →
    LoopLim (tdF T0 43 none 0) (bodyF P0 T0 (fun _ => LoopLim) (Lt t_der_Put) nY [] 43 none 0) (kontF P0 T0 (fun _ => LoopLim) (Lt t_der_Put) nY [] 43 0) (stD 44 [(0, .v (.fz (byt b))), (1, .v (.int .i64 n)), (2, .v (.fz (byts l))), (8, .v (.int .i64 t)), (15, .v (.fz (byts l))), (16, .v (.int .i64 l.length)), (17, .v (.int .i64 i))] []) [] = some (bif Nat.ble l.flatten.length maxC then obE (b ++ elemB (b8 n) l.flatten) 0 else obE [] 3) := by
  have hc : Cons P0 T0 t_der_Put := ⟨c_der_isTag, c_slices_Concat, c_der_length, trivial⟩
  intro m
  induction m with
  | zero =>
    intro i t hm hi ht htm
    have hie : i = l.length := by omega
    subst hie
    simp only [List.drop_length, List.flatten_nil, List.length_nil, Nat.add_zero] at ht
    subst ht
    refine loop_step hc.cont ?_
    rw [b_der_Put_0, Sx.ltF (Int.le_refl _), cond_false]
    refine Eq.trans ?_ ((x_der_Put_0 (fun _ => LoopLim) (byt b) (byts l) n l.flatten.length l.length l.length false).trans ?_)
    · (show _ = _; kernel_rfl)
    · have h3 := (lenB_len l.flatten.length).1
      have hfl : dBs (DV.fz (byts l)) = some l := dBs_ok hl hf
      unfold maxC at htm ⊢
      rw [dM_ok htm]
      simp (disch := (first | omega | (simp only [List.length_cons, List.length_append, List.length_nil, List.length_take, List.length_drop, List.length_replicate, byt_len, ofBytes_len, byts_len, Sx.tn, Sx.tn1, Sx.tnL]; done) | (simp only [List.length_cons, List.length_append, List.length_nil, List.length_take, List.length_drop, List.length_replicate, byt_len, ofBytes_len, byts_len, Sx.tn, Sx.tn1, Sx.tnL]; omega))) only [Option.bind_some, wb8, byt1, hfl, Sx.takeAll, Sx.dropAll, List.drop_succ_cons, List.drop_zero, List.getD_cons_zero, List.getD_cons_succ, byt_len, ofBytes_len, byt_all, byt_flatten, byt_flat_len, Sx.byt_get, Sx.ofB_get, Sx.byt_take, Sx.byt_drop, Sx.byt_app, Sx.ofB_take, Sx.ofB_drop, Sx.ofB_app, Sx.ofB_snoc, Sx.chunkB, Sx.frozB, Sx.zeros, ofBytes_froz, toBytes_of, Sx.uncC, Sx.toI, Sx.toF, Sx.toS, Sx.toB, List.length_append, List.length_cons, List.length_nil, List.length_take, List.length_drop, List.length_replicate, Sx.sp11, Sx.sp11', Sx.ch1, Sx.ch2, Sx.ch3, Sx.ch4, Sx.dBs1, Sx.dBs2, Sx.dBs3, Sx.dBs4, List.flatten_cons, List.flatten_nil, List.append_nil, List.take_succ_cons, List.take_zero, Sx.l1c, Sx.l2c, Sx.l3c, Sx.l4c, Sx.frozC, cond_true, Sx.bleT, Sx.dBs2, Sx.beqT, Nat.add_zero, Nat.mul_one]
      simp only [elemB, List.singleton_append, List.cons_append, List.append_assoc]
      exact obE_mk _ (by simp) (by simp; omega)
  | succ m ih =>
    intro i t hm hi ht htm
    have hil : i < l.length := by omega
    have hd := List.drop_eq_getElem_cons hil
    rw [hd, List.flatten_cons, List.length_append] at ht
    have hs' := hf
    have hl' := hl
    unfold lim at hs' hl'
    have htm' := htm
    unfold maxC at htm'
    refine loop_step hc.cont ?_
    rw [b_der_Put_0]
    rcases Nat.lt_or_ge (16777215 - t) l[i].length with h1 | h1
    · simp (disch := (first | omega | (simp only [List.length_cons, List.length_append, List.length_nil, List.length_take, List.length_drop, List.length_replicate, byt_len, ofBytes_len, byts_len, Sx.tn, Sx.tn1, Sx.tnL]; done) | (simp only [List.length_cons, List.length_append, List.length_nil, List.length_take, List.length_drop, List.length_replicate, byt_len, ofBytes_len, byts_len, Sx.tn, Sx.tn1, Sx.tnL]; omega))) only [Sx.w64, Sx.wu8, Sx.idxI, Sx.upI, Sx.bleT, Sx.bleF, Sx.beqT, Sx.beqF, Sx.ltT, Sx.ltF, Sx.leT, Sx.leF, Sx.gtT, Sx.gtF, Sx.geT, Sx.geF, Sx.eqT, Sx.eqF, Sx.neT, Sx.neF, Sx.ofN, Sx.tn, Sx.tn1, cond_true, cond_false, Option.bind_some, Bool.true_and, Bool.and_true, Bool.false_and, Bool.and_false, Bool.and_self, Bool.not_true, Bool.not_false, Bool.or_false, Bool.or_true, Bool.false_or, Bool.true_or, decide_true, decide_false, Nat.zero_add, Nat.add_zero, Nat.mul_one, Nat.sub_zero, List.drop_zero, List.isEmpty_nil, Int.ofNat_eq_natCast, Sx.castN, Int.natCast_zero, Int.natCast_one, Sx.tnL, Int.sub_zero, Int.add_zero, Int.zero_add, Sx.takeAll, Sx.dropAll, List.drop_succ_cons, List.drop_zero, List.getD_cons_zero, List.getD_cons_succ, byt_len, ofBytes_len, byt_all, byt_flatten, byt_flat_len, Sx.byt_get, Sx.ofB_get, Sx.byt_take, Sx.byt_drop, Sx.byt_app, Sx.ofB_take, Sx.ofB_drop, Sx.ofB_app, Sx.ofB_snoc, Sx.chunkB, Sx.frozB, Sx.zeros, ofBytes_froz, toBytes_of, Sx.uncC, Sx.toI, Sx.toF, Sx.toS, Sx.toB, List.length_append, List.length_cons, List.length_nil, List.length_take, List.length_drop, List.length_replicate, byts_get]
      have h2 : Nat.ble l.flatten.length maxC = false := Sx.bleF (by unfold maxC; omega)
      rw [h2, cond_false]
      (show _ = _; kernel_rfl)
    · have hnx := ih (i + 1) (t + l[i].length) (by omega) hil (by omega) (by unfold maxC; omega)
      simp (disch := (first | omega | (simp only [List.length_cons, List.length_append, List.length_nil, List.length_take, List.length_drop, List.length_replicate, byt_len, ofBytes_len, byts_len, Sx.tn, Sx.tn1, Sx.tnL]; done) | (simp only [List.length_cons, List.length_append, List.length_nil, List.length_take, List.length_drop, List.length_replicate, byt_len, ofBytes_len, byts_len, Sx.tn, Sx.tn1, Sx.tnL]; omega))) only [Sx.w64, Sx.wu8, Sx.idxI, Sx.upI, Sx.bleT, Sx.bleF, Sx.beqT, Sx.beqF, Sx.ltT, Sx.ltF, Sx.leT, Sx.leF, Sx.gtT, Sx.gtF, Sx.geT, Sx.geF, Sx.eqT, Sx.eqF, Sx.neT, Sx.neF, Sx.ofN, Sx.tn, Sx.tn1, cond_true, cond_false, Option.bind_some, Bool.true_and, Bool.and_true, Bool.false_and, Bool.and_false, Bool.and_self, Bool.not_true, Bool.not_false, Bool.or_false, Bool.or_true, Bool.false_or, Bool.true_or, decide_true, decide_false, Nat.zero_add, Nat.add_zero, Nat.mul_one, Nat.sub_zero, List.drop_zero, List.isEmpty_nil, Int.ofNat_eq_natCast, Sx.castN, Int.natCast_zero, Int.natCast_one, Sx.tnL, Int.sub_zero, Int.add_zero, Int.zero_add, Sx.takeAll, Sx.dropAll, List.drop_succ_cons, List.drop_zero, List.getD_cons_zero, List.getD_cons_succ, byt_len, ofBytes_len, byt_all, byt_flatten, byt_flat_len, Sx.byt_get, Sx.ofB_get, Sx.byt_take, Sx.byt_drop, Sx.byt_app, Sx.ofB_take, Sx.ofB_drop, Sx.ofB_app, Sx.ofB_snoc, Sx.chunkB, Sx.frozB, Sx.zeros, ofBytes_froz, toBytes_of, Sx.uncC, Sx.toI, Sx.toF, Sx.toS, Sx.toB, List.length_append, List.length_cons, List.length_nil, List.length_take, List.length_drop, List.length_replicate, byts_get]
      refine leafT (X := true) hnx ?_ rfl ?_ rfl
      · (show _ = _; kernel_rfl)
      · (show _ = _; kernel_rfl)
theorem c_der_Put : Con P0 T0 43 S_der_Put := coq3 fun x b y t z l hx hy hz => by
  obtain ⟨rfl, hb⟩ := dBm_inv hx
  obtain rfl := dI_inv hy
  obtain ⟨rfl, hl, hf⟩ := dBs_inv hz
  rcases Bool.eq_false_or_eq_true (isTag t) with ht | ht
  · have ht' := ht
    unfold isTag at ht'
    simp only [Bool.and_eq_true, decide_eq_true_eq] at ht'
    obtain ⟨n, rfl⟩ := Int.eq_ofNat_of_zero_le ht'.1.1
    refine Lx.of_in (tab := t_der_Put) ⟨c_der_isTag, c_slices_Concat, c_der_length, trivial⟩ ?_
    rw [e_der_Put, ht, Bool.not_true, cond_false, byts_len]
    have h := l_Put b l n ht hb hf hl l.length 0 0 (by omega) (by omega) (by simp) (by omega)
    simp only [Bq.val, ht, cond_true, Int.toNat_natCast]
    refine headT (h.trans ?_) ?_
    · cases Nat.ble l.flatten.length maxC <;> rfl
    · (show _ = _; kernel_rfl)
  · refine Lx.of_in (tab := t_der_Put) ⟨c_der_isTag, c_slices_Concat, c_der_length, trivial⟩ ?_
    rw [e_der_Put, ht]
    simp only [Bq.val, ht, cond_false]
    rfl
end Go.Dv
end
section
/- Numbers as contents: contracts. -/
namespace Go.Dv
open Go.Proofs Go.Dv.S
open Go.Pv (idx upTo)
theorem u8_geI (c : UInt8) (n : Nat) (hn : n < 256) : decide ((c.toNat : Int) ≥ (n : Int)) = decide (UInt8.ofNat n ≤ c) := by
  rw [decide_eq_decide, UInt8.le_iff_toNat_le, UInt8.toNat_ofNat']
  omega
theorem u8_ltI (c : UInt8) (n : Nat) (hn : n < 256) : decide ((c.toNat : Int) < (n : Int)) = decide (c < UInt8.ofNat n) := by
  rw [decide_eq_decide, UInt8.lt_iff_toNat_lt, UInt8.toNat_ofNat']
  omega
theorem u8_128 (c : UInt8) : decide ((c.toNat : Int) ≥ 128) = decide (128 ≤ c) := u8_geI c 128 (by omega)
theorem u8_l128 (c : UInt8) : decide ((c.toNat : Int) < 128) = decide (c < 128) := u8_ltI c 128 (by omega)
theorem u8_eqI (c : UInt8) (n : Nat) (hn : n < 256) : ((c.toNat : Int) == (n : Int)) = (c == UInt8.ofNat n) := by
  rw [Bool.eq_iff_iff, beq_iff_eq, beq_iff_eq, ← UInt8.toNat_inj, UInt8.toNat_ofNat']
  omega
theorem u8_255 (c : UInt8) : ((c.toNat : Int) == 255) = (c == 255) := u8_eqI c 255 (by omega)
theorem byt10 : [[DV.int IntKind.u8 0]] = byt [0] := rfl
theorem c_num_Nat : Con P0 T0 44 S_num_Nat := con1 fun x s hx => by
  obtain ⟨rfl, hl⟩ := dBm_inv hx
  have hx' : dB (.fz (byt s)) = some s := dB_ok (by unfold lim; omega)
  refine Lx.of_in (tab := t_num_Nat) ⟨c_bytes_TrimLeft, c_slices_Concat, c_slices_Clone_byte_byte, trivial⟩ ?_
  rw [e_num_Nat]
  simp only [hx', Option.bind_some]
  have hb := bare_len s
  show _ = some (ret (.fz (byt (natB s))))
  unfold natB
  generalize bare s = t at hb
  cases t with
  | nil =>
    simp (disch := (first | omega | (simp only [List.length_cons, List.length_append, List.length_nil, List.length_take, List.length_drop, List.length_replicate, byt_len, ofBytes_len, byts_len, Sx.tn, Sx.tn1, Sx.tnL]; done) | (simp only [List.length_cons, List.length_append, List.length_nil, List.length_take, List.length_drop, List.length_replicate, byt_len, ofBytes_len, byts_len, Sx.tn, Sx.tn1, Sx.tnL]; omega))) only [Sx.w64, Sx.wu8, Sx.idxI, Sx.upI, Sx.bleT, Sx.bleF, Sx.beqT, Sx.beqF, Sx.ltT, Sx.ltF, Sx.leT, Sx.leF, Sx.gtT, Sx.gtF, Sx.geT, Sx.geF, Sx.eqT, Sx.eqF, Sx.neT, Sx.neF, Sx.ofN, Sx.tn, Sx.tn1, cond_true, cond_false, Option.bind_some, Bool.true_and, Bool.and_true, Bool.false_and, Bool.and_false, Bool.and_self, Bool.not_true, Bool.not_false, Bool.or_false, Bool.or_true, Bool.false_or, Bool.true_or, decide_true, decide_false, Nat.zero_add, Nat.add_zero, Nat.mul_one, Nat.sub_zero, List.drop_zero, List.isEmpty_nil, Int.ofNat_eq_natCast, Sx.castN, Int.natCast_zero, Int.natCast_one, Sx.tnL, Int.sub_zero, Int.add_zero, Int.zero_add, Sx.takeAll, Sx.dropAll, List.drop_succ_cons, List.drop_zero, List.getD_cons_zero, List.getD_cons_succ, byt_len, ofBytes_len, byt_all, byt_flatten, byt_flat_len, Sx.byt_get, Sx.ofB_get, Sx.byt_take, Sx.byt_drop, Sx.byt_app, Sx.ofB_take, Sx.ofB_drop, Sx.ofB_app, Sx.ofB_snoc, Sx.chunkB, Sx.frozB, Sx.zeros, ofBytes_froz, toBytes_of, Sx.uncC, Sx.toI, Sx.toF, Sx.toS, Sx.toB, List.length_append, List.length_cons, List.length_nil, List.length_take, List.length_drop, List.length_replicate, Sx.sp11, Sx.sp11', Sx.ch1, Sx.ch2, Sx.ch3, Sx.ch4, Sx.dBs1, Sx.dBs2, Sx.dBs3, Sx.dBs4, List.flatten_cons, List.flatten_nil, List.append_nil, List.take_succ_cons, List.take_zero, Sx.l1c, Sx.l2c, Sx.l3c, Sx.l4c, Sx.frozC, byt10]
  | cons c t =>
    simp only [List.length_cons] at hb
    have h2 : dB (DV.fz (byt (c :: t))) = some (c :: t) := dB_ok (by unfold lim; simp; omega)
    simp (disch := (first | omega | (simp only [List.length_cons, List.length_append, List.length_nil, List.length_take, List.length_drop, List.length_replicate, byt_len, ofBytes_len, byts_len, Sx.tn, Sx.tn1, Sx.tnL]; done) | (simp only [List.length_cons, List.length_append, List.length_nil, List.length_take, List.length_drop, List.length_replicate, byt_len, ofBytes_len, byts_len, Sx.tn, Sx.tn1, Sx.tnL]; omega))) only [Sx.w64, Sx.wu8, Sx.idxI, Sx.upI, Sx.bleT, Sx.bleF, Sx.beqT, Sx.beqF, Sx.ltT, Sx.ltF, Sx.leT, Sx.leF, Sx.gtT, Sx.gtF, Sx.geT, Sx.geF, Sx.eqT, Sx.eqF, Sx.neT, Sx.neF, Sx.ofN, Sx.tn, Sx.tn1, cond_true, cond_false, Option.bind_some, Bool.true_and, Bool.and_true, Bool.false_and, Bool.and_false, Bool.and_self, Bool.not_true, Bool.not_false, Bool.or_false, Bool.or_true, Bool.false_or, Bool.true_or, decide_true, decide_false, Nat.zero_add, Nat.add_zero, Nat.mul_one, Nat.sub_zero, List.drop_zero, List.isEmpty_nil, Int.ofNat_eq_natCast, Sx.castN, Int.natCast_zero, Int.natCast_one, Sx.tnL, Int.sub_zero, Int.add_zero, Int.zero_add, Sx.takeAll, Sx.dropAll, List.drop_succ_cons, List.drop_zero, List.getD_cons_zero, List.getD_cons_succ, byt_len, ofBytes_len, byt_all, byt_flatten, byt_flat_len, Sx.byt_get, Sx.ofB_get, Sx.byt_take, Sx.byt_drop, Sx.byt_app, Sx.ofB_take, Sx.ofB_drop, Sx.ofB_app, Sx.ofB_snoc, Sx.chunkB, Sx.frozB, Sx.zeros, ofBytes_froz, toBytes_of, Sx.uncC, Sx.toI, Sx.toF, Sx.toS, Sx.toB, List.length_append, List.length_cons, List.length_nil, List.length_take, List.length_drop, List.length_replicate, Sx.sp11, Sx.sp11', Sx.ch1, Sx.ch2, Sx.ch3, Sx.ch4, Sx.dBs1, Sx.dBs2, Sx.dBs3, Sx.dBs4, List.flatten_cons, List.flatten_nil, List.append_nil, List.take_succ_cons, List.take_zero, Sx.l1c, Sx.l2c, Sx.l3c, Sx.l4c, Sx.frozC, byt10, u8_128, h2, List.isEmpty_cons, List.headD_cons]
    by_cases hd : 128 ≤ c
    · simp only [hd, decide_true, cond_true, List.singleton_append]
    · simp only [hd, decide_false, cond_false]
theorem c_num_shortest : Con P0 T0 138 S_num_shortest := con1 fun x s hx => by
  have hx' := hx
  obtain ⟨rfl, hl⟩ := dB_inv hx
  refine Lx.of_in (tab := t_num_shortest) trivial ?_
  rw [e_num_shortest]
  unfold lim at hl
  clear hx hx'
  cases s with
  | nil => rfl
  | cons a s =>
    cases s with
    | nil => rfl
    | cons b s =>
      simp only [List.length_cons] at hl
      simp (disch := (first | omega | (simp only [List.length_cons, List.length_append, List.length_nil, List.length_take, List.length_drop, List.length_replicate, byt_len, ofBytes_len, byts_len, Sx.tn, Sx.tn1, Sx.tnL]; done) | (simp only [List.length_cons, List.length_append, List.length_nil, List.length_take, List.length_drop, List.length_replicate, byt_len, ofBytes_len, byts_len, Sx.tn, Sx.tn1, Sx.tnL]; omega))) only [Sx.w64, Sx.wu8, Sx.idxI, Sx.upI, Sx.bleT, Sx.bleF, Sx.beqT, Sx.beqF, Sx.ltT, Sx.ltF, Sx.leT, Sx.leF, Sx.gtT, Sx.gtF, Sx.geT, Sx.geF, Sx.eqT, Sx.eqF, Sx.neT, Sx.neF, Sx.ofN, Sx.tn, Sx.tn1, cond_true, cond_false, Option.bind_some, Bool.true_and, Bool.and_true, Bool.false_and, Bool.and_false, Bool.and_self, Bool.not_true, Bool.not_false, Bool.or_false, Bool.or_true, Bool.false_or, Bool.true_or, decide_true, decide_false, Nat.zero_add, Nat.add_zero, Nat.mul_one, Nat.sub_zero, List.drop_zero, List.isEmpty_nil, Int.ofNat_eq_natCast, Sx.castN, Int.natCast_zero, Int.natCast_one, Sx.tnL, Int.sub_zero, Int.add_zero, Int.zero_add, Sx.takeAll, Sx.dropAll, List.drop_succ_cons, List.drop_zero, List.getD_cons_zero, List.getD_cons_succ, byt_len, ofBytes_len, byt_all, byt_flatten, byt_flat_len, Sx.byt_get, Sx.ofB_get, Sx.byt_take, Sx.byt_drop, Sx.byt_app, Sx.ofB_take, Sx.ofB_drop, Sx.ofB_app, Sx.ofB_snoc, Sx.chunkB, Sx.frozB, Sx.zeros, ofBytes_froz, toBytes_of, Sx.uncC, Sx.toI, Sx.toF, Sx.toS, Sx.toB, List.length_append, List.length_cons, List.length_nil, List.length_take, List.length_drop, List.length_replicate, Sx.sp11, Sx.sp11', Sx.ch1, Sx.ch2, Sx.ch3, Sx.ch4, Sx.dBs1, Sx.dBs2, Sx.dBs3, Sx.dBs4, List.flatten_cons, List.flatten_nil, List.append_nil, List.take_succ_cons, List.take_zero, Sx.l1c, Sx.l2c, Sx.l3c, Sx.l4c, Sx.frozC, u8_128, u8_l128, u8_zero, u8_255, short]
      cases a == 0 <;> cases a == 255 <;> by_cases h1 : b < 128 <;> by_cases h2 : 128 ≤ b <;> simp only [h1, h2, decide_true, decide_false, cond_true, cond_false] <;> rfl
theorem c_num_ToNat : Con P0 T0 102 S_num_ToNat := con1 fun x s hx => by
  have hx' := hx
  obtain ⟨rfl, hl⟩ := dB_inv hx
  refine Lx.of_in (tab := t_num_ToNat) ⟨c_bytes_TrimLeft, c_num_shortest, c_slices_Clone_byte_byte, trivial⟩ ?_
  rw [e_num_ToNat]
  simp only [hx', Option.bind_some]
  have hb := bare_len s
  unfold lim at hl
  unfold toNatC toNatE
  cases hs : short s with
  | false => rfl
  | true =>
    cases s with
    | nil => cases hs
    | cons c s =>
      have h2 : dB (DV.fz (byt (bare (c :: s)))) = some (bare (c :: s)) := dB_ok (by unfold lim; omega)
      simp only [List.length_cons] at hl
      have hh : (c :: s).headD 0 = c := rfl
      simp (disch := (first | omega | (simp only [List.length_cons, List.length_append, List.length_nil, List.length_take, List.length_drop, List.length_replicate, byt_len, ofBytes_len, byts_len, Sx.tn, Sx.tn1, Sx.tnL]; done) | (simp only [List.length_cons, List.length_append, List.length_nil, List.length_take, List.length_drop, List.length_replicate, byt_len, ofBytes_len, byts_len, Sx.tn, Sx.tn1, Sx.tnL]; omega))) only [Sx.w64, Sx.wu8, Sx.idxI, Sx.upI, Sx.bleT, Sx.bleF, Sx.beqT, Sx.beqF, Sx.ltT, Sx.ltF, Sx.leT, Sx.leF, Sx.gtT, Sx.gtF, Sx.geT, Sx.geF, Sx.eqT, Sx.eqF, Sx.neT, Sx.neF, Sx.ofN, Sx.tn, Sx.tn1, cond_true, cond_false, Option.bind_some, Bool.true_and, Bool.and_true, Bool.false_and, Bool.and_false, Bool.and_self, Bool.not_true, Bool.not_false, Bool.or_false, Bool.or_true, Bool.false_or, Bool.true_or, decide_true, decide_false, Nat.zero_add, Nat.add_zero, Nat.mul_one, Nat.sub_zero, List.drop_zero, List.isEmpty_nil, Int.ofNat_eq_natCast, Sx.castN, Int.natCast_zero, Int.natCast_one, Sx.tnL, Int.sub_zero, Int.add_zero, Int.zero_add, Sx.takeAll, Sx.dropAll, List.drop_succ_cons, List.drop_zero, List.getD_cons_zero, List.getD_cons_succ, byt_len, ofBytes_len, byt_all, byt_flatten, byt_flat_len, Sx.byt_get, Sx.ofB_get, Sx.byt_take, Sx.byt_drop, Sx.byt_app, Sx.ofB_take, Sx.ofB_drop, Sx.ofB_app, Sx.ofB_snoc, Sx.chunkB, Sx.frozB, Sx.zeros, ofBytes_froz, toBytes_of, Sx.uncC, Sx.toI, Sx.toF, Sx.toS, Sx.toB, List.length_append, List.length_cons, List.length_nil, List.length_take, List.length_drop, List.length_replicate, Sx.sp11, Sx.sp11', Sx.ch1, Sx.ch2, Sx.ch3, Sx.ch4, Sx.dBs1, Sx.dBs2, Sx.dBs3, Sx.dBs4, List.flatten_cons, List.flatten_nil, List.append_nil, List.take_succ_cons, List.take_zero, Sx.l1c, Sx.l2c, Sx.l3c, Sx.l4c, Sx.frozC, u8_128, h2, hh]
      by_cases hd : 128 ≤ c
      · simp only [hd, decide_true, cond_true]; rfl
      · simp only [hd, decide_false, cond_false]; rfl
end Go.Dv
end
section
/- Elements as bytes: what is read. -/
namespace Go.Dv
open Go.Proofs Go.Dv.S
open Go.Pv (idx upTo)
/-! ### numbers: the reference -/
end Go.Dv
end
section
/- Elements as bytes: what is read. -/
namespace Go.Dv
open Go.Proofs Go.Dv.S
open Go.Pv (idx upTo)
theorem wor {n x : Nat} (hn : n < 1099511627776) (hx : x < 256) : (BitVec.ofInt 64 ((n : Int) * 256) ||| BitVec.ofInt 64 (x : Int)).toNat = 256 * n + x := by
  have e1 : (BitVec.ofInt 64 ((n : Int) * 256)).toNat = 2 ^ 8 * n := by
    rw [BitVec.toNat_ofInt]
    omega
  have e2 : (BitVec.ofInt 64 (x : Int)).toNat = x := by
    rw [BitVec.toNat_ofInt]
    omega
  rw [BitVec.toNat_or, e1, e2, ← Nat.two_pow_add_eq_or_of_lt (by omega)]
theorem big_snoc : ∀ (a : B) (c : UInt8) (n : Nat), big (a ++ [c]) n = 256 * big a n + c.toNat
  | [], c, n => rfl
  | b :: a, c, n => big_snoc a c (256 * n + b.toNat)
theorem big_take {r : B} {i : Nat} (h : i < r.length) : big (r.take (i + 1)) 0 = 256 * big (r.take i) 0 + (r.getD i 0).toNat := by
  rw [List.take_add_one, List.getElem?_eq_getElem h]
  rw [show (some r[i]).toList = [r[i]] from rfl, big_snoc]
  simp [List.getD_eq_getElem?_getD, h]
theorem big_lt : ∀ (a : B) (n k : Nat), n < 256 ^ k → big a n < 256 ^ (k + a.length)
  | [], n, k, h => h
  | b :: a, n, k, h => by
    have hb := b.toNat_lt
    have := big_lt a (256 * n + b.toNat) (k + 1) (by rw [Nat.pow_succ]; omega)
    rw [List.length_cons, show k + (a.length + 1) = k + 1 + a.length by omega]
    exact this
theorem big_lt3 {r : B} (h : r.length ≤ 3) : big r 0 < 16777216 := by
  have := big_lt r 0 0 (by simp)
  rw [Nat.zero_add] at this
  exact Nat.lt_of_lt_of_le this (Nat.pow_le_pow_right (by omega) h)
def headR (t : UInt8) (r : B) (q : Nat) : DV := bif Nat.blt (big r 0) 128 then .tup [.int .i64 0, .int .i64 0, .int .i64 0, .int .i64 12] else .tup [.int .i64 t.toNat, .int .i64 (2 + q : Nat), .int .i64 (big r 0 : Nat), .int .i64 0]
theorem l_head (t : UInt8) (s r : B) (q : Nat) (hq : q ≤ 3) (hr : r.length ≤ 3) : ∀ m i, r.length - i = m → i ≤ r.length → LoopLim (tdF T0 136 none 2) (bodyF P0 T0 (fun _ => LoopLim) (Lt t_der_head) nY [] 136 none 2) (kontF P0 T0 (fun _ => LoopLim) (Lt t_der_head) nY [] 136 2) (stD 88 [(0, .v (.fz (byt (t :: s)))), (4, .v (.int .i64 (big (r.take i) 0 : Nat))), (6, .v (.int .i64 q)), (67, .v (.fz (byt r))), (68, .v (.int .i64 r.length)), (69, .v (.int .i64 i))] []) [] = some (ret (headR t r q)) := by
  have hc : Cons P0 T0 t_der_head := ⟨c_der_isTag, trivial⟩
  intro m
  induction m with
  | zero =>
    intro i hm hi
    have hie : i = r.length := by omega
    subst hie
    have hb := big_lt3 hr
    have ht := t.toNat_lt
    refine loop_step hc.cont ?_
    rw [b_der_head_2, Sx.ltF (Int.le_refl _), cond_false, List.take_length]
    refine Eq.trans ?_ ((x_der_head_2 (fun _ => LoopLim) (byt (t :: s)) (byt r) (big r 0) q r.length r.length).symm.trans ((x_der_head_2 (fun _ => LoopLim) (byt (t :: s)) (byt r) (big r 0) q r.length r.length).trans ?_))
    · (show _ = _; kernel_rfl)
    · unfold headR
      rcases Nat.lt_or_ge (big r 0) 128 with h | h
      · simp -implicitDefEqProofs (disch := (first | omega | (simp only [List.length_cons, List.length_append, List.length_nil, List.length_take, List.length_drop, List.length_replicate, byt_len, ofBytes_len, byts_len, Sx.tn, Sx.tn1, Sx.tnL]; done) | (simp only [List.length_cons, List.length_append, List.length_nil, List.length_take, List.length_drop, List.length_replicate, byt_len, ofBytes_len, byts_len, Sx.tn, Sx.tn1, Sx.tnL]; omega))) only [Sx.w64, Sx.wu8, Sx.idxI, Sx.upI, Sx.bleT, Sx.bleF, Sx.beqT, Sx.beqF, Sx.ltT, Sx.ltF, Sx.leT, Sx.leF, Sx.gtT, Sx.gtF, Sx.geT, Sx.geF, Sx.eqT, Sx.eqF, Sx.neT, Sx.neF, Sx.ofN, Sx.tn, Sx.tn1, cond_true, cond_false, Option.bind_some, Bool.true_and, Bool.and_true, Bool.false_and, Bool.and_false, Bool.and_self, Bool.not_true, Bool.not_false, Bool.or_false, Bool.or_true, Bool.false_or, Bool.true_or, decide_true, decide_false, Nat.zero_add, Nat.add_zero, Nat.mul_one, Nat.sub_zero, List.drop_zero, List.isEmpty_nil, Int.ofNat_eq_natCast, Sx.castN, Int.natCast_zero, Int.natCast_one, Sx.tnL, Int.sub_zero, Int.add_zero, Int.zero_add, Sx.takeAll, Sx.dropAll, List.drop_succ_cons, List.drop_zero, List.getD_cons_zero, List.getD_cons_succ, byt_len, ofBytes_len, byt_all, byt_flatten, byt_flat_len, Sx.byt_get, Sx.ofB_get, Sx.byt_take, Sx.byt_drop, Sx.byt_app, Sx.ofB_take, Sx.ofB_drop, Sx.ofB_app, Sx.ofB_snoc, Sx.chunkB, Sx.frozB, Sx.zeros, ofBytes_froz, toBytes_of, Sx.uncC, Sx.toI, Sx.toF, Sx.toS, Sx.toB, List.length_append, List.length_cons, List.length_nil, List.length_take, List.length_drop, List.length_replicate, Sx.sp11, Sx.sp11', Sx.ch1, Sx.ch2, Sx.ch3, Sx.ch4, Sx.dBs1, Sx.dBs2, Sx.dBs3, Sx.dBs4, List.flatten_cons, List.flatten_nil, List.append_nil, List.take_succ_cons, List.take_zero, Sx.l1c, Sx.l2c, Sx.l3c, Sx.l4c, Sx.frozC, Sx.bltT]
      · simp -implicitDefEqProofs (disch := (first | omega | (simp only [List.length_cons, List.length_append, List.length_nil, List.length_take, List.length_drop, List.length_replicate, byt_len, ofBytes_len, byts_len, Sx.tn, Sx.tn1, Sx.tnL]; done) | (simp only [List.length_cons, List.length_append, List.length_nil, List.length_take, List.length_drop, List.length_replicate, byt_len, ofBytes_len, byts_len, Sx.tn, Sx.tn1, Sx.tnL]; omega))) only [Sx.w64, Sx.wu8, Sx.idxI, Sx.upI, Sx.bleT, Sx.bleF, Sx.beqT, Sx.beqF, Sx.ltT, Sx.ltF, Sx.leT, Sx.leF, Sx.gtT, Sx.gtF, Sx.geT, Sx.geF, Sx.eqT, Sx.eqF, Sx.neT, Sx.neF, Sx.ofN, Sx.tn, Sx.tn1, cond_true, cond_false, Option.bind_some, Bool.true_and, Bool.and_true, Bool.false_and, Bool.and_false, Bool.and_self, Bool.not_true, Bool.not_false, Bool.or_false, Bool.or_true, Bool.false_or, Bool.true_or, decide_true, decide_false, Nat.zero_add, Nat.add_zero, Nat.mul_one, Nat.sub_zero, List.drop_zero, List.isEmpty_nil, Int.ofNat_eq_natCast, Sx.castN, Int.natCast_zero, Int.natCast_one, Sx.tnL, Int.sub_zero, Int.add_zero, Int.zero_add, Sx.takeAll, Sx.dropAll, List.drop_succ_cons, List.drop_zero, List.getD_cons_zero, List.getD_cons_succ, byt_len, ofBytes_len, byt_all, byt_flatten, byt_flat_len, Sx.byt_get, Sx.ofB_get, Sx.byt_take, Sx.byt_drop, Sx.byt_app, Sx.ofB_take, Sx.ofB_drop, Sx.ofB_app, Sx.ofB_snoc, Sx.chunkB, Sx.frozB, Sx.zeros, ofBytes_froz, toBytes_of, Sx.uncC, Sx.toI, Sx.toF, Sx.toS, Sx.toB, List.length_append, List.length_cons, List.length_nil, List.length_take, List.length_drop, List.length_replicate, Sx.sp11, Sx.sp11', Sx.ch1, Sx.ch2, Sx.ch3, Sx.ch4, Sx.dBs1, Sx.dBs2, Sx.dBs3, Sx.dBs4, List.flatten_cons, List.flatten_nil, List.append_nil, List.take_succ_cons, List.take_zero, Sx.l1c, Sx.l2c, Sx.l3c, Sx.l4c, Sx.frozC, Sx.bltF]
        rfl
  | succ m ih =>
    intro i hm hi
    have hil : i < r.length := by omega
    have hb : big (r.take i) 0 < 16777216 := big_lt3 (Nat.le_trans (List.length_take_le' i r) hr)
    have hx := (r.getD i 0).toNat_lt
    refine loop_step hc.cont ?_
    rw [b_der_head_2]
    simp -implicitDefEqProofs (disch := (first | omega | (simp only [List.length_cons, List.length_append, List.length_nil, List.length_take, List.length_drop, List.length_replicate, byt_len, ofBytes_len, byts_len, Sx.tn, Sx.tn1, Sx.tnL]; done) | (simp only [List.length_cons, List.length_append, List.length_nil, List.length_take, List.length_drop, List.length_replicate, byt_len, ofBytes_len, byts_len, Sx.tn, Sx.tn1, Sx.tnL]; omega))) only [Sx.w64, Sx.wu8, Sx.idxI, Sx.upI, Sx.bleT, Sx.bleF, Sx.beqT, Sx.beqF, Sx.ltT, Sx.ltF, Sx.leT, Sx.leF, Sx.gtT, Sx.gtF, Sx.geT, Sx.geF, Sx.eqT, Sx.eqF, Sx.neT, Sx.neF, Sx.ofN, Sx.tn, Sx.tn1, cond_true, cond_false, Option.bind_some, Bool.true_and, Bool.and_true, Bool.false_and, Bool.and_false, Bool.and_self, Bool.not_true, Bool.not_false, Bool.or_false, Bool.or_true, Bool.false_or, Bool.true_or, decide_true, decide_false, Nat.zero_add, Nat.add_zero, Nat.mul_one, Nat.sub_zero, List.drop_zero, List.isEmpty_nil, Int.ofNat_eq_natCast, Sx.castN, Int.natCast_zero, Int.natCast_one, Sx.tnL, Int.sub_zero, Int.add_zero, Int.zero_add, Sx.takeAll, Sx.dropAll, List.drop_succ_cons, List.drop_zero, List.getD_cons_zero, List.getD_cons_succ, byt_len, ofBytes_len, byt_all, byt_flatten, byt_flat_len, Sx.byt_get, Sx.ofB_get, Sx.byt_take, Sx.byt_drop, Sx.byt_app, Sx.ofB_take, Sx.ofB_drop, Sx.ofB_app, Sx.ofB_snoc, Sx.chunkB, Sx.frozB, Sx.zeros, ofBytes_froz, toBytes_of, Sx.uncC, Sx.toI, Sx.toF, Sx.toS, Sx.toB, List.length_append, List.length_cons, List.length_nil, List.length_take, List.length_drop, List.length_replicate, wor]
    refine leafT (X := true) (ih (i + 1) (by omega) hil) ?_ rfl ?_ rfl
    · (show _ = _; kernel_rfl)
    · rw [big_take hil]
      (show _ = _; kernel_rfl)
theorem head_form (t l : UInt8) (r : B) : head (t :: l :: r) = bif !isTag t.toNat then (11, 0, 0) else bif Nat.blt l.toNat 128 then (0, 2, l.toNat) else
        bif Nat.beq l.toNat 128 || Nat.blt 131 l.toNat || r.head? == some 0 then (12, 0, 0) else
        bif Nat.blt r.length (l.toNat - 128) then (10, 0, 0) else
        bif Nat.blt (big (r.take (l.toNat - 128)) 0) 128 then (12, 0, 0) else (0, 2 + (l.toNat - 128), big (r.take (l.toNat - 128)) 0) := rfl
theorem r_head (t l c : UInt8) (r : B) (k : Nat) (hl : r.length + 1 + 1 + 1 ≤ 1099511627776) (hT : isTag t.toNat = true) (hk : l.toNat = 128 + k) (hk3 : k ≤ 3) (hk1 : 1 ≤ k) (hc : (c == 0) = false) (hf : head (t :: l :: c :: r) = bif (c :: r).head? == some 0 then (12, 0, 0) else bif Nat.blt (c :: r).length k then (10, 0, 0) else bif Nat.blt (big ((c :: r).take k) 0) 128 then (12, 0, 0) else (0, 2 + k, big ((c :: r).take k) 0)) :
    run P0 T0 (fun _ => LoopLim) (Lt t_der_head) nY 136 [.fz (byt (t :: l :: c :: r))] = some (ret (.tup [.int .i64 (tagOf (t :: l :: c :: r)), .int .i64 ((head (t :: l :: c :: r)).2.1 : Nat), .int .i64 ((head (t :: l :: c :: r)).2.2 : Nat), .int .i64 (head (t :: l :: c :: r)).1])) := by
  have ht := t.toNat_lt
  rw [e_der_head]
  have e2 : ((c :: r).head? == some 0) = false := hc
  rw [e2, cond_false] at hf
  have hw : IntKind.i64.wrap ((128 + k : Nat) : Int) = ((128 + k : Nat) : Int) := Sx.w64 (by omega)
  have hw1 : IntKind.i64.wrap (((128 + k : Nat) : Int) - 128) = (k : Int) := by rw [Sx.w64 (by omega)]; omega
  have hw2 : IntKind.i64.wrap (2 + (k : Int)) = 2 + (k : Int) := Sx.w64 (by omega)
  have c1 : decide ((k : Int) < 0) = false := Sx.ltF (by omega)
  have c2 : ((k : Int) == 0) = false := Sx.eqF (by omega)
  have c3 : decide ((k : Int) > 3) = false := Sx.gtF (by omega)
  have c4 : decide (((r.length + 1 + 1 + 1 : Nat) : Int) > 2) = true := Sx.gtT (by omega)
  have c6 : (((r.length + 1 + 1 + 1 : Nat) : Int) == 0) = false := Sx.eqF (by omega)
  have c7 : (((r.length + 1 + 1 + 1 : Nat) : Int) == 1) = false := Sx.eqF (by omega)
  have i0 : idx 0 (r.length + 1 + 1 + 1) = some 0 := Sx.idxI (by omega)
  have i1 : idx 1 (r.length + 1 + 1 + 1) = some 1 := Sx.idxI (by omega)
  have i2 : idx 2 (r.length + 1 + 1 + 1) = some 2 := Sx.idxI (by omega)
  have b0 : (byt (t :: l :: c :: r))[0]? = some [.int .u8 t.toNat] := rfl
  have b1 : (byt (t :: l :: c :: r))[1]? = some [.int .u8 l.toNat] := rfl
  have b2 : (byt (t :: l :: c :: r))[2]? = some [.int .u8 c.toNat] := rfl
  have w0 : IntKind.i64.wrap (t.toNat : Int) = t.toNat := Sx.w64 (by omega)
  rcases Nat.lt_or_ge (c :: r).length k with h4 | h4
  · rw [Sx.bltT h4, cond_true] at hf
    simp only [List.length_cons] at h4
    have c5 : decide (((r.length + 1 + 1 + 1 : Nat) : Int) < 2 + (k : Int)) = true := Sx.ltT (by omega)
    simp -implicitDefEqProofs only [byt_len, List.length_cons, Sx.ofN, Sx.castN, Int.natCast_zero, Int.natCast_one, c6, i0, b0, Option.bind_some, Sx.uncC, Sx.toI, List.isEmpty_nil, cond_true, cond_false, w0, hT, Bool.not_true, c7, i1, b1, hk, hw, hw1, c1, c2, c3, c4, i2, b2, u8_zero, hc, hw2, c5, tagOf, hf]
    rfl
  · rw [Sx.bltF h4, cond_false] at hf
    simp only [List.length_cons] at h4
    have hlen : ((c :: r).take k).length = k := by rw [List.length_take]; simp; omega
    have hL := l_head t (l :: c :: r) ((c :: r).take k) k hk3 (by omega) ((c :: r).take k).length 0 (by omega) (by omega)
    have tk2 : ((2 : Int) + (k : Int)).toNat = k + 2 := by omega
    have hup : upTo (2 + (k : Int)) (r.length + 1 + 1 + 1) = some (k + 2) := by rw [Sx.upI (by omega), tk2]
    have hup2 : upTo 2 (k + 2) = some 2 := by rw [Sx.upI (by omega)]; rfl
    have hsl : List.drop 2 (List.take (k + 2) (t :: l :: c :: r)) = (c :: r).take k := rfl
    have c5 : decide (((r.length + 1 + 1 + 1 : Nat) : Int) < 2 + (k : Int)) = false := Sx.ltF (by omega)
    simp -implicitDefEqProofs only [byt_len, List.length_cons, Sx.ofN, Sx.castN, Int.natCast_zero, Int.natCast_one, c6, i0, b0, Option.bind_some, Sx.uncC, Sx.toI, List.isEmpty_nil, cond_true, cond_false, w0, hT, Bool.not_true, c7, i1, b1, hk, hw, hw1, c1, c2, c3, c4, i2, b2, u8_zero, hc, hw2, c5, hup, hup2, byt_all, Sx.byt_take, Sx.byt_drop, hsl]
    refine headT (hL.trans ?_) ?_
    · unfold headR tagOf
      rw [hf]
      rcases Nat.lt_or_ge (big ((c :: r).take k) 0) 128 with h5 | h5
      · rw [Sx.bltT h5]; rfl
      · rw [Sx.bltF h5]; rfl
    · rw [hlen]
      (show _ = _; kernel_rfl)
theorem c_der_head : Con P0 T0 136 S_der_head := con1 fun x s hx => by
  obtain ⟨rfl, hl⟩ := dB_inv hx
  refine Lx.of_in (tab := t_der_head) ⟨c_der_isTag, trivial⟩ ?_
  rw [e_der_head]
  unfold lim at hl
  clear hx
  show _ = some (ret (.tup [.int .i64 (tagOf s), .int .i64 ((head s).2.1 : Nat), .int .i64 ((head s).2.2 : Nat), .int .i64 (head s).1]))
  cases s with
  | nil => rfl
  | cons t s =>
    have ht := t.toNat_lt
    simp only [List.length_cons] at hl
    cases hT : isTag t.toNat with
    | false =>
      have hh : head (t :: s) = (11, 0, 0) := by cases s <;> simp [head, hT]
      simp -implicitDefEqProofs (disch := (first | omega | (simp only [List.length_cons, List.length_append, List.length_nil, List.length_take, List.length_drop, List.length_replicate, byt_len, ofBytes_len, byts_len, Sx.tn, Sx.tn1, Sx.tnL]; done) | (simp only [List.length_cons, List.length_append, List.length_nil, List.length_take, List.length_drop, List.length_replicate, byt_len, ofBytes_len, byts_len, Sx.tn, Sx.tn1, Sx.tnL]; omega))) only [Sx.w64, Sx.wu8, Sx.idxI, Sx.upI, Sx.bleT, Sx.bleF, Sx.beqT, Sx.beqF, Sx.ltT, Sx.ltF, Sx.leT, Sx.leF, Sx.gtT, Sx.gtF, Sx.geT, Sx.geF, Sx.eqT, Sx.eqF, Sx.neT, Sx.neF, Sx.ofN, Sx.tn, Sx.tn1, cond_true, cond_false, Option.bind_some, Bool.true_and, Bool.and_true, Bool.false_and, Bool.and_false, Bool.and_self, Bool.not_true, Bool.not_false, Bool.or_false, Bool.or_true, Bool.false_or, Bool.true_or, decide_true, decide_false, Nat.zero_add, Nat.add_zero, Nat.mul_one, Nat.sub_zero, List.drop_zero, List.isEmpty_nil, Int.ofNat_eq_natCast, Sx.castN, Int.natCast_zero, Int.natCast_one, Sx.tnL, Int.sub_zero, Int.add_zero, Int.zero_add, Sx.takeAll, Sx.dropAll, List.drop_succ_cons, List.drop_zero, List.getD_cons_zero, List.getD_cons_succ, byt_len, ofBytes_len, byt_all, byt_flatten, byt_flat_len, Sx.byt_get, Sx.ofB_get, Sx.byt_take, Sx.byt_drop, Sx.byt_app, Sx.ofB_take, Sx.ofB_drop, Sx.ofB_app, Sx.ofB_snoc, Sx.chunkB, Sx.frozB, Sx.zeros, ofBytes_froz, toBytes_of, Sx.uncC, Sx.toI, Sx.toF, Sx.toS, Sx.toB, List.length_append, List.length_cons, List.length_nil, List.length_take, List.length_drop, List.length_replicate, hT, tagOf, hh]
    | true =>
      cases s with
      | nil =>
        have hh : head [t] = (10, 0, 0) := by simp [head, hT]
        simp -implicitDefEqProofs (disch := (first | omega | (simp only [List.length_cons, List.length_append, List.length_nil, List.length_take, List.length_drop, List.length_replicate, byt_len, ofBytes_len, byts_len, Sx.tn, Sx.tn1, Sx.tnL]; done) | (simp only [List.length_cons, List.length_append, List.length_nil, List.length_take, List.length_drop, List.length_replicate, byt_len, ofBytes_len, byts_len, Sx.tn, Sx.tn1, Sx.tnL]; omega))) only [Sx.w64, Sx.wu8, Sx.idxI, Sx.upI, Sx.bleT, Sx.bleF, Sx.beqT, Sx.beqF, Sx.ltT, Sx.ltF, Sx.leT, Sx.leF, Sx.gtT, Sx.gtF, Sx.geT, Sx.geF, Sx.eqT, Sx.eqF, Sx.neT, Sx.neF, Sx.ofN, Sx.tn, Sx.tn1, cond_true, cond_false, Option.bind_some, Bool.true_and, Bool.and_true, Bool.false_and, Bool.and_false, Bool.and_self, Bool.not_true, Bool.not_false, Bool.or_false, Bool.or_true, Bool.false_or, Bool.true_or, decide_true, decide_false, Nat.zero_add, Nat.add_zero, Nat.mul_one, Nat.sub_zero, List.drop_zero, List.isEmpty_nil, Int.ofNat_eq_natCast, Sx.castN, Int.natCast_zero, Int.natCast_one, Sx.tnL, Int.sub_zero, Int.add_zero, Int.zero_add, Sx.takeAll, Sx.dropAll, List.drop_succ_cons, List.drop_zero, List.getD_cons_zero, List.getD_cons_succ, byt_len, ofBytes_len, byt_all, byt_flatten, byt_flat_len, Sx.byt_get, Sx.ofB_get, Sx.byt_take, Sx.byt_drop, Sx.byt_app, Sx.ofB_take, Sx.ofB_drop, Sx.ofB_app, Sx.ofB_snoc, Sx.chunkB, Sx.frozB, Sx.zeros, ofBytes_froz, toBytes_of, Sx.uncC, Sx.toI, Sx.toF, Sx.toS, Sx.toB, List.length_append, List.length_cons, List.length_nil, List.length_take, List.length_drop, List.length_replicate, hT, tagOf, hh]
      | cons l r =>
        have hlt := l.toNat_lt
        simp only [List.length_cons] at hl
        have hf := head_form t l r
        rw [hT, Bool.not_true, cond_false] at hf
        rcases Nat.lt_or_ge l.toNat 128 with h1 | h1
        · rw [Sx.bltT h1, cond_true] at hf
          simp -implicitDefEqProofs (disch := (first | omega | (simp only [List.length_cons, List.length_append, List.length_nil, List.length_take, List.length_drop, List.length_replicate, byt_len, ofBytes_len, byts_len, Sx.tn, Sx.tn1, Sx.tnL]; done) | (simp only [List.length_cons, List.length_append, List.length_nil, List.length_take, List.length_drop, List.length_replicate, byt_len, ofBytes_len, byts_len, Sx.tn, Sx.tn1, Sx.tnL]; omega))) only [Sx.w64, Sx.wu8, Sx.idxI, Sx.upI, Sx.bleT, Sx.bleF, Sx.beqT, Sx.beqF, Sx.ltT, Sx.ltF, Sx.leT, Sx.leF, Sx.gtT, Sx.gtF, Sx.geT, Sx.geF, Sx.eqT, Sx.eqF, Sx.neT, Sx.neF, Sx.ofN, Sx.tn, Sx.tn1, cond_true, cond_false, Option.bind_some, Bool.true_and, Bool.and_true, Bool.false_and, Bool.and_false, Bool.and_self, Bool.not_true, Bool.not_false, Bool.or_false, Bool.or_true, Bool.false_or, Bool.true_or, decide_true, decide_false, Nat.zero_add, Nat.add_zero, Nat.mul_one, Nat.sub_zero, List.drop_zero, List.isEmpty_nil, Int.ofNat_eq_natCast, Sx.castN, Int.natCast_zero, Int.natCast_one, Sx.tnL, Int.sub_zero, Int.add_zero, Int.zero_add, Sx.takeAll, Sx.dropAll, List.drop_succ_cons, List.drop_zero, List.getD_cons_zero, List.getD_cons_succ, byt_len, ofBytes_len, byt_all, byt_flatten, byt_flat_len, Sx.byt_get, Sx.ofB_get, Sx.byt_take, Sx.byt_drop, Sx.byt_app, Sx.ofB_take, Sx.ofB_drop, Sx.ofB_app, Sx.ofB_snoc, Sx.chunkB, Sx.frozB, Sx.zeros, ofBytes_froz, toBytes_of, Sx.uncC, Sx.toI, Sx.toF, Sx.toS, Sx.toB, List.length_append, List.length_cons, List.length_nil, List.length_take, List.length_drop, List.length_replicate, hT, tagOf, hf, List.headD_cons]
        · rw [Sx.bltF h1, cond_false] at hf
          rcases Nat.eq_or_lt_of_le h1 with h2 | h2
          · have e : Nat.beq l.toNat 128 = true := Sx.beqT h2.symm
            rw [e, Bool.true_or, Bool.true_or, cond_true] at hf
            simp -implicitDefEqProofs (disch := (first | omega | (simp only [List.length_cons, List.length_append, List.length_nil, List.length_take, List.length_drop, List.length_replicate, byt_len, ofBytes_len, byts_len, Sx.tn, Sx.tn1, Sx.tnL]; done) | (simp only [List.length_cons, List.length_append, List.length_nil, List.length_take, List.length_drop, List.length_replicate, byt_len, ofBytes_len, byts_len, Sx.tn, Sx.tn1, Sx.tnL]; omega))) only [Sx.w64, Sx.wu8, Sx.idxI, Sx.upI, Sx.bleT, Sx.bleF, Sx.beqT, Sx.beqF, Sx.ltT, Sx.ltF, Sx.leT, Sx.leF, Sx.gtT, Sx.gtF, Sx.geT, Sx.geF, Sx.eqT, Sx.eqF, Sx.neT, Sx.neF, Sx.ofN, Sx.tn, Sx.tn1, cond_true, cond_false, Option.bind_some, Bool.true_and, Bool.and_true, Bool.false_and, Bool.and_false, Bool.and_self, Bool.not_true, Bool.not_false, Bool.or_false, Bool.or_true, Bool.false_or, Bool.true_or, decide_true, decide_false, Nat.zero_add, Nat.add_zero, Nat.mul_one, Nat.sub_zero, List.drop_zero, List.isEmpty_nil, Int.ofNat_eq_natCast, Sx.castN, Int.natCast_zero, Int.natCast_one, Sx.tnL, Int.sub_zero, Int.add_zero, Int.zero_add, Sx.takeAll, Sx.dropAll, List.drop_succ_cons, List.drop_zero, List.getD_cons_zero, List.getD_cons_succ, byt_len, ofBytes_len, byt_all, byt_flatten, byt_flat_len, Sx.byt_get, Sx.ofB_get, Sx.byt_take, Sx.byt_drop, Sx.byt_app, Sx.ofB_take, Sx.ofB_drop, Sx.ofB_app, Sx.ofB_snoc, Sx.chunkB, Sx.frozB, Sx.zeros, ofBytes_froz, toBytes_of, Sx.uncC, Sx.toI, Sx.toF, Sx.toS, Sx.toB, List.length_append, List.length_cons, List.length_nil, List.length_take, List.length_drop, List.length_replicate, hT, tagOf, hf]
          · have e : Nat.beq l.toNat 128 = false := Sx.beqF (by omega)
            rw [e, Bool.false_or] at hf
            rcases Nat.lt_or_ge 131 l.toNat with h3 | h3
            · rw [Sx.bltT h3, Bool.true_or, cond_true] at hf
              simp -implicitDefEqProofs (disch := (first | omega | (simp only [List.length_cons, List.length_append, List.length_nil, List.length_take, List.length_drop, List.length_replicate, byt_len, ofBytes_len, byts_len, Sx.tn, Sx.tn1, Sx.tnL]; done) | (simp only [List.length_cons, List.length_append, List.length_nil, List.length_take, List.length_drop, List.length_replicate, byt_len, ofBytes_len, byts_len, Sx.tn, Sx.tn1, Sx.tnL]; omega))) only [Sx.w64, Sx.wu8, Sx.idxI, Sx.upI, Sx.bleT, Sx.bleF, Sx.beqT, Sx.beqF, Sx.ltT, Sx.ltF, Sx.leT, Sx.leF, Sx.gtT, Sx.gtF, Sx.geT, Sx.geF, Sx.eqT, Sx.eqF, Sx.neT, Sx.neF, Sx.ofN, Sx.tn, Sx.tn1, cond_true, cond_false, Option.bind_some, Bool.true_and, Bool.and_true, Bool.false_and, Bool.and_false, Bool.and_self, Bool.not_true, Bool.not_false, Bool.or_false, Bool.or_true, Bool.false_or, Bool.true_or, decide_true, decide_false, Nat.zero_add, Nat.add_zero, Nat.mul_one, Nat.sub_zero, List.drop_zero, List.isEmpty_nil, Int.ofNat_eq_natCast, Sx.castN, Int.natCast_zero, Int.natCast_one, Sx.tnL, Int.sub_zero, Int.add_zero, Int.zero_add, Sx.takeAll, Sx.dropAll, List.drop_succ_cons, List.drop_zero, List.getD_cons_zero, List.getD_cons_succ, byt_len, ofBytes_len, byt_all, byt_flatten, byt_flat_len, Sx.byt_get, Sx.ofB_get, Sx.byt_take, Sx.byt_drop, Sx.byt_app, Sx.ofB_take, Sx.ofB_drop, Sx.ofB_app, Sx.ofB_snoc, Sx.chunkB, Sx.frozB, Sx.zeros, ofBytes_froz, toBytes_of, Sx.uncC, Sx.toI, Sx.toF, Sx.toS, Sx.toB, List.length_append, List.length_cons, List.length_nil, List.length_take, List.length_drop, List.length_replicate, hT, tagOf, hf]
            · rw [Sx.bltF h3, Bool.false_or] at hf
              obtain ⟨k, hk⟩ : ∃ k, l.toNat = 128 + k := ⟨l.toNat - 128, by omega⟩
              have hk3 : k ≤ 3 := by omega
              have hk1 : 1 ≤ k := by omega
              rw [hk, Nat.add_sub_cancel_left] at hf
              cases r with
              | nil =>
                have e2 : (([] : B).head? == some 0) = false := rfl
                rw [e2, cond_false, Sx.bltT (by simp; omega), cond_true] at hf
                simp -implicitDefEqProofs (disch := (first | omega | (simp only [List.length_cons, List.length_append, List.length_nil, List.length_take, List.length_drop, List.length_replicate, byt_len, ofBytes_len, byts_len, Sx.tn, Sx.tn1, Sx.tnL]; done) | (simp only [List.length_cons, List.length_append, List.length_nil, List.length_take, List.length_drop, List.length_replicate, byt_len, ofBytes_len, byts_len, Sx.tn, Sx.tn1, Sx.tnL]; omega))) only [Sx.w64, Sx.wu8, Sx.idxI, Sx.upI, Sx.bleT, Sx.bleF, Sx.beqT, Sx.beqF, Sx.ltT, Sx.ltF, Sx.leT, Sx.leF, Sx.gtT, Sx.gtF, Sx.geT, Sx.geF, Sx.eqT, Sx.eqF, Sx.neT, Sx.neF, Sx.ofN, Sx.tn, Sx.tn1, cond_true, cond_false, Option.bind_some, Bool.true_and, Bool.and_true, Bool.false_and, Bool.and_false, Bool.and_self, Bool.not_true, Bool.not_false, Bool.or_false, Bool.or_true, Bool.false_or, Bool.true_or, decide_true, decide_false, Nat.zero_add, Nat.add_zero, Nat.mul_one, Nat.sub_zero, List.drop_zero, List.isEmpty_nil, Int.ofNat_eq_natCast, Sx.castN, Int.natCast_zero, Int.natCast_one, Sx.tnL, Int.sub_zero, Int.add_zero, Int.zero_add, Sx.takeAll, Sx.dropAll, List.drop_succ_cons, List.drop_zero, List.getD_cons_zero, List.getD_cons_succ, byt_len, ofBytes_len, byt_all, byt_flatten, byt_flat_len, Sx.byt_get, Sx.ofB_get, Sx.byt_take, Sx.byt_drop, Sx.byt_app, Sx.ofB_take, Sx.ofB_drop, Sx.ofB_app, Sx.ofB_snoc, Sx.chunkB, Sx.frozB, Sx.zeros, ofBytes_froz, toBytes_of, Sx.uncC, Sx.toI, Sx.toF, Sx.toS, Sx.toB, List.length_append, List.length_cons, List.length_nil, List.length_take, List.length_drop, List.length_replicate, hT, tagOf, hf, hk]
              | cons c r =>
                simp only [List.length_cons] at hl
                cases hc : (c == 0) with
                | true =>
                  have e2 : ((c :: r).head? == some 0) = true := hc
                  rw [e2, cond_true] at hf
                  simp -implicitDefEqProofs (disch := (first | omega | (simp only [List.length_cons, List.length_append, List.length_nil, List.length_take, List.length_drop, List.length_replicate, byt_len, ofBytes_len, byts_len, Sx.tn, Sx.tn1, Sx.tnL]; done) | (simp only [List.length_cons, List.length_append, List.length_nil, List.length_take, List.length_drop, List.length_replicate, byt_len, ofBytes_len, byts_len, Sx.tn, Sx.tn1, Sx.tnL]; omega))) only [Sx.w64, Sx.wu8, Sx.idxI, Sx.upI, Sx.bleT, Sx.bleF, Sx.beqT, Sx.beqF, Sx.ltT, Sx.ltF, Sx.leT, Sx.leF, Sx.gtT, Sx.gtF, Sx.geT, Sx.geF, Sx.eqT, Sx.eqF, Sx.neT, Sx.neF, Sx.ofN, Sx.tn, Sx.tn1, cond_true, cond_false, Option.bind_some, Bool.true_and, Bool.and_true, Bool.false_and, Bool.and_false, Bool.and_self, Bool.not_true, Bool.not_false, Bool.or_false, Bool.or_true, Bool.false_or, Bool.true_or, decide_true, decide_false, Nat.zero_add, Nat.add_zero, Nat.mul_one, Nat.sub_zero, List.drop_zero, List.isEmpty_nil, Int.ofNat_eq_natCast, Sx.castN, Int.natCast_zero, Int.natCast_one, Sx.tnL, Int.sub_zero, Int.add_zero, Int.zero_add, Sx.takeAll, Sx.dropAll, List.drop_succ_cons, List.drop_zero, List.getD_cons_zero, List.getD_cons_succ, byt_len, ofBytes_len, byt_all, byt_flatten, byt_flat_len, Sx.byt_get, Sx.ofB_get, Sx.byt_take, Sx.byt_drop, Sx.byt_app, Sx.ofB_take, Sx.ofB_drop, Sx.ofB_app, Sx.ofB_snoc, Sx.chunkB, Sx.frozB, Sx.zeros, ofBytes_froz, toBytes_of, Sx.uncC, Sx.toI, Sx.toF, Sx.toS, Sx.toB, List.length_append, List.length_cons, List.length_nil, List.length_take, List.length_drop, List.length_replicate, hT, tagOf, hf, hk, u8_zero, hc]
                | false =>
                  exact (e_der_head (fun _ => LoopLim) (byt (t :: l :: c :: r))).symm.trans (r_head t l c r k hl hT hk hk3 hk1 hc hf)
end Go.Dv
end
section
/- Elements as bytes: one, its size, its bytes. -/
namespace Go.Dv
open Go.Proofs Go.Dv.S
open Go.Pv (idx upTo)
theorem head_bound (b : B) : (head b).2.1 ≤ 5 ∧ (head b).2.2 < 16777216 := by
  match b with
  | [] => exact ⟨by decide, by decide⟩
  | [t] =>
    have hh : head [t] = bif !isTag t.toNat then (11, 0, 0) else (10, 0, 0) := rfl
    rw [hh]
    cases isTag t.toNat <;> exact ⟨by decide, by decide⟩
  | t :: l :: r =>
    have hlt := l.toNat_lt
    rw [head_form]
    cases isTag t.toNat with
    | false => rw [Bool.not_false, cond_true]; exact ⟨by decide, by decide⟩
    | true =>
      rcases Nat.lt_or_ge l.toNat 128 with h1 | h1
      · rw [Sx.bltT h1]
        exact ⟨by simp, by simp; omega⟩
      · rw [Sx.bltF h1]
        rcases Nat.lt_or_ge 131 l.toNat with h3 | h3
        · rw [Sx.bltT h3, Bool.or_true, Bool.true_or]
          exact ⟨by simp, by simp⟩
        · simp only [Bool.not_true, cond_false]
          cases (Nat.beq l.toNat 128 || Nat.blt 131 l.toNat || r.head? == some 0) with
          | true => exact ⟨by simp, by simp⟩
          | false =>
            simp only [cond_false]
            cases Nat.blt r.length (l.toNat - 128) with
            | true => exact ⟨by simp, by simp⟩
            | false =>
              simp only [cond_false]
              have hb : big (r.take (l.toNat - 128)) 0 < 16777216 := big_lt3 (by rw [List.length_take]; omega)
              cases Nat.blt (big (r.take (l.toNat - 128)) 0) 128 with
              | true => exact ⟨by simp, by simp⟩
              | false => exact ⟨by simp; omega, by simpa using hb⟩
theorem takeE_ne {b : B} (h : (head b).1 ≠ 0) : takeE b = (head b).1 := by
  unfold takeE
  rw [Sx.eqF h, Bool.false_and, cond_false]
theorem takeE_eq {b : B} (h : (head b).1 = 0) : takeE b = bif Nat.blt b.length ((head b).2.1 + (head b).2.2) then 10 else 0 := by
  unfold takeE
  rw [h]
  rfl
theorem take_bad {b : B} (h : takeE b ≠ 0) : takeC b = [] ∧ takeN b = 0 ∧ takeT b = 0 := by
  unfold takeC takeN takeT
  rw [Sx.eqF h]
  exact ⟨rfl, rfl, rfl⟩
theorem take_good {b : B} (h : takeE b = 0) : takeC b = (b.drop (head b).2.1).take (head b).2.2 ∧ takeN b = (head b).2.1 + (head b).2.2 ∧ takeT b = (b.headD 0).toNat := by
  unfold takeC takeN takeT
  rw [h]
  exact ⟨rfl, rfl, rfl⟩
theorem c_der_Take : Con P0 T0 99 S_der_Take := con1 fun x b hx => by
  have hx' := hx
  obtain ⟨rfl, hl⟩ := dB_inv hx
  refine Lx.of_in (tab := t_der_Take) ⟨c_der_head, c_slices_Clone_byte_byte, trivial⟩ ?_
  rw [e_der_Take]
  unfold lim at hl
  show _ = some (ret (.tup [eltV (takeT b, takeC b), .int .i64 (takeN b : Nat), .int .i64 (takeE b)]))
  obtain ⟨hb1, hb2⟩ := head_bound b
  simp only [hx', Option.bind_some, byt_len, Sx.ofN, Int.natCast_zero]
  by_cases h0 : (head b).1 = 0
  · have hE := takeE_eq h0
    have hsub : IntKind.i64.wrap ((b.length : Int) - ((head b).2.1 : Int)) = (b.length : Int) - ((head b).2.1 : Int) := Sx.w64 (by omega)
    rw [Sx.eqT h0, cond_true, hsub]
    rcases Nat.lt_or_ge b.length ((head b).2.1 + (head b).2.2) with h1 | h1
    · rw [Sx.bltT h1, cond_true] at hE
      obtain ⟨q1, q2, q3⟩ := take_bad (b := b) (by rw [hE]; decide)
      rw [Sx.ltT (by omega), cond_true, q1, q2, q3, hE]
      rfl
    · rw [Sx.bltF h1, cond_false] at hE
      obtain ⟨q1, q2, q3⟩ := take_good hE
      have htg : tagOf b = (b.headD 0).toNat := by unfold tagOf; rw [h0]; rfl
      rw [Sx.ltF (by omega), cond_false, Sx.neF h0, cond_false, q1, q2, q3, hE, htg]
      have hsum : IntKind.i64.wrap (((head b).2.1 : Int) + ((head b).2.2 : Int)) = (((head b).2.1 + (head b).2.2 : Nat) : Int) := by rw [Sx.w64 (by omega)]; omega
      have hdr : (b.take ((head b).2.1 + (head b).2.2)).drop (head b).2.1 = (b.drop (head b).2.1).take (head b).2.2 := by
        rw [List.drop_take, Nat.add_sub_cancel_left]
      have hdb : dB (.fz (byt ((b.drop (head b).2.1).take (head b).2.2))) = some ((b.drop (head b).2.1).take (head b).2.2) := dB_ok (by unfold lim; simp; omega)
      rw [hsum, Sx.upI (by omega), Option.bind_some, Sx.tn, Sx.upI (by omega), Option.bind_some, byt_all, cond_true, Sx.tn, Sx.byt_take, Sx.byt_drop, hdr, hdb]
      rfl
  · have hE := takeE_ne h0
    obtain ⟨q1, q2, q3⟩ := take_bad (b := b) (by rw [hE]; exact h0)
    rw [Sx.eqF h0, cond_false, Sx.neT h0, cond_true, q1, q2, q3, hE]
    rfl
theorem oneE_of {b : B} : oneE b = bif takeE b == 0 && Nat.blt (takeN b) b.length then 13 else takeE b := rfl
theorem c_der_One : Con P0 T0 47 S_der_One := con1 fun x b hx => by
  have hx' := hx
  obtain ⟨rfl, hl⟩ := dB_inv hx
  refine Lx.of_in (tab := t_der_One) ⟨c_der_Take, trivial⟩ ?_
  rw [e_der_One]
  show _ = some (ret (.tup [eltV (oneT b, oneC b), .int .i64 (oneE b)]))
  simp only [hx', Option.bind_some, byt_len, Sx.ofN, Int.natCast_zero]
  unfold oneT oneC
  rw [oneE_of]
  by_cases h0 : takeE b = 0
  · rw [h0]
    rcases Nat.lt_or_ge (takeN b) b.length with h1 | h1
    · rw [Sx.ltT (by omega), Sx.bltT h1]; rfl
    · rw [Sx.ltF (by omega), Sx.bltF h1]; rfl
  · obtain ⟨q1, q2, q3⟩ := take_bad h0
    simp only [Bool.false_and, cond_false, Sx.eqF h0, q1, q3]
    rfl
theorem c_der_Size : Con P0 T0 101 S_der_Size := con1 fun x n hx => by
  have hx' := hx
  obtain ⟨rfl, hn⟩ := dM_inv hx
  refine Lx.of_in (tab := t_der_Size) ⟨c_der_length, trivial⟩ ?_
  rw [e_der_Size]
  have h4 := (lenB_len n).1
  simp -implicitDefEqProofs (disch := (first | omega | (simp only [List.length_cons, List.length_append, List.length_nil, List.length_take, List.length_drop, List.length_replicate, byt_len, ofBytes_len, byts_len, Sx.tn, Sx.tn1, Sx.tnL]; done) | (simp only [List.length_cons, List.length_append, List.length_nil, List.length_take, List.length_drop, List.length_replicate, byt_len, ofBytes_len, byts_len, Sx.tn, Sx.tn1, Sx.tnL]; omega))) only [Sx.w64, Sx.wu8, Sx.idxI, Sx.upI, Sx.bleT, Sx.bleF, Sx.beqT, Sx.beqF, Sx.ltT, Sx.ltF, Sx.leT, Sx.leF, Sx.gtT, Sx.gtF, Sx.geT, Sx.geF, Sx.eqT, Sx.eqF, Sx.neT, Sx.neF, Sx.ofN, Sx.tn, Sx.tn1, cond_true, cond_false, Option.bind_some, Bool.true_and, Bool.and_true, Bool.false_and, Bool.and_false, Bool.and_self, Bool.not_true, Bool.not_false, Bool.or_false, Bool.or_true, Bool.false_or, Bool.true_or, decide_true, decide_false, Nat.zero_add, Nat.add_zero, Nat.mul_one, Nat.sub_zero, List.drop_zero, List.isEmpty_nil, Int.ofNat_eq_natCast, Sx.castN, Int.natCast_zero, Int.natCast_one, Sx.tnL, Int.sub_zero, Int.add_zero, Int.zero_add, Sx.takeAll, Sx.dropAll, List.drop_succ_cons, List.drop_zero, List.getD_cons_zero, List.getD_cons_succ, byt_len, ofBytes_len, byt_all, byt_flatten, byt_flat_len, Sx.byt_get, Sx.ofB_get, Sx.byt_take, Sx.byt_drop, Sx.byt_app, Sx.ofB_take, Sx.ofB_drop, Sx.ofB_app, Sx.ofB_snoc, Sx.chunkB, Sx.frozB, Sx.zeros, ofBytes_froz, toBytes_of, Sx.uncC, Sx.toI, Sx.toF, Sx.toS, Sx.toB, List.length_append, List.length_cons, List.length_nil, List.length_take, List.length_drop, List.length_replicate, hx']
  show _ = some (ret (.int .i64 ((1 + (lenB n).length : Nat) : Int)))
  rw [show ((1 + (lenB n).length : Nat) : Int) = 1 + ((lenB n).length : Int) by omega]
theorem c_der_Each : Con P0 T0 100 S_der_Each where
  nat R xs k := by
    unfold S_der_Each
    split
    · simp only [Option.bind_assoc, Option.bind_some]
    · rfl
  ok xs r h := by
    unfold S_der_Each at h
    split at h
    · obtain ⟨b, hb, h2⟩ := bnd' h
      have hb' := hb
      obtain ⟨he, hl⟩ := dB_inv hb
      cases he
      obtain rfl := Option.some.inj h2
      refine Lx.of_in (tab := t_der_Each) ⟨c_slices_Clone_byte_byte, trivial⟩ ?_
      rw [e_der_Each]
      simp only [hb', Option.bind_some]
    · cases h
end Go.Dv
end
section
/- Elements as bytes: the reference. -/
namespace Go.Dv
open Go.Proofs Go.Dv.S
open Go.Pv (idx upTo)
end Go.Dv
end
section
/- Elements as bytes: the reference's lengths and rows. -/
namespace Go.Dv
open Go.Proofs Go.Dv.S
open Go.Pv (idx upTo)
theorem dEl_inv {x : DV} {e : Elem} (h : dEl x = some e) : x = eltV e ∧ e.2.length ≤ lim := by
  unfold dEl at h
  split at h
  · obtain ⟨s, hs, h⟩ := bnd' h
    cases h
    obtain ⟨rfl, h2⟩ := unB_inv hs
    exact ⟨rfl, h2⟩
  · cases h
end Go.Dv
end
section
/- Elements as bytes: rows of elements, the reference. -/
namespace Go.Dv
open Go.Proofs Go.Dv.S
open Go.Pv (idx upTo)
theorem allE_nil : allE [] = 0 := by
  have h : takeE ([] : B) ≠ 0 := by decide
  unfold allE
  rw [rowN_no h]
  rfl
def ecs (l : List Elem) : List DV := (elts l).flatten
theorem ecs_len (l : List Elem) : (ecs l).length = l.length * 2 := by
  induction l with
  | nil => rfl
  | cons e l ih =>
    show (elt e ++ ecs l).length = _
    rw [List.length_append, ih]
    simp [elt]; omega
theorem ecs_froz (l : List Elem) : (ecs l).all froz = true := by
  induction l with
  | nil => rfl
  | cons e l ih =>
    show (true && (true && (ecs l).all froz)) = true
    rw [ih]; rfl
theorem ecs_chunks : ∀ l : List Elem, chunks 2 l.length (ecs l) = elts l
  | [] => rfl
  | e :: l => by
    show elt e :: chunks 2 l.length (ecs l) = _
    rw [ecs_chunks l]; rfl
theorem ecs_snoc (l : List Elem) (e : Elem) : ecs l ++ elt e = ecs (l ++ [e]) := by simp [ecs, elts]
theorem frozE (l : List Elem) : frozL (ecs l) = some (ecs l) := by unfold frozL; rw [ecs_froz, cond_true]
end Go.Dv
end
section
/- Elements are written in one way alone. -/
namespace Go.Dv.S
theorem b8_eq {n : Nat} {x : UInt8} (h : n % 256 = x.toNat) : b8 n = x := by
  refine UInt8.toNat_inj.1 ?_
  show (UInt8.ofNat n).toNat = x.toNat
  rw [UInt8.toNat_ofNat']
  exact h
theorem blt_no {a b : Nat} (h : Nat.blt a b = false) : b ≤ a := by
  rcases Nat.lt_or_ge a b with h3 | h3
  · rw [Sx.bltT h3] at h; cases h
  · exact h3
theorem blt_yes {a b : Nat} (h : Nat.blt a b = true) : a < b := Nat.le_of_ble_eq_true h
theorem lenB_1 {n : Nat} (h : n < 128) : lenB n = [b8 n] := by unfold lenB; rw [Sx.bltT h, cond_true]
theorem lenB_2 {n : Nat} (h : 128 ≤ n) (h' : n < 256) : lenB n = [129, b8 n] := by unfold lenB; rw [Sx.bltF h, cond_false, Sx.bltT h', cond_true]
theorem lenB_3 {n : Nat} (h : 256 ≤ n) (h' : n < 65536) : lenB n = [130, b8 (n / 256), b8 n] := by
  unfold lenB; rw [Sx.bltF (by omega : 128 ≤ n), cond_false, Sx.bltF h, cond_false, Sx.bltT h', cond_true]
theorem lenB_4 {n : Nat} (h : 65536 ≤ n) : lenB n = [131, b8 (n / 65536), b8 (n / 256), b8 n] := by
  unfold lenB; rw [Sx.bltF (by omega : 128 ≤ n), cond_false, Sx.bltF (by omega : 256 ≤ n), cond_false, Sx.bltF h, cond_false]
theorem head_canon {b : B} (h : (head b).1 = 0) : ∃ t r, b = t :: (lenB (head b).2.2 ++ r) ∧ isTag t.toNat = true ∧ (head b).2.1 = 1 + (lenB (head b).2.2).length ∧ (head b).2.2 ≤ maxC := by
  unfold head at h ⊢
  split
  · simp at h
  · rename_i t r
    cases ht : isTag t.toNat with
    | false => simp [ht] at h
    | true =>
      simp only [ht, Bool.not_true, cond_false] at h ⊢
      split
      · simp at h
      · rename_i l r
        have hl256 := l.toNat_lt
        cases h1 : Nat.blt l.toNat 128 with
        | true =>
          simp only [cond_true]
          have h1' := blt_yes h1
          rw [lenB_1 h1', b8_eq (x := l) (by omega)]
          exact ⟨t, r, rfl, ht, rfl, by unfold maxC; omega⟩
        | false =>
          have h1' := blt_no h1
          simp only [h1, cond_false] at h ⊢
          cases h2 : (Nat.beq l.toNat 128 || Nat.blt 131 l.toNat || r.head? == some 0) with
          | true => rw [h2] at h; simp at h
          | false =>
            rw [h2] at h
            simp only [cond_false] at h ⊢
            cases h3 : Nat.blt r.length (l.toNat - 128) with
            | true => rw [h3] at h; simp at h
            | false =>
              rw [h3] at h
              simp only [cond_false] at h ⊢
              cases h4 : Nat.blt (big (r.take (l.toNat - 128)) 0) 128 with
              | true => rw [h4] at h; simp at h
              | false =>
                simp only [cond_false]
                have h3' := blt_no h3
                have h4' := blt_no h4
                simp only [Bool.or_eq_false_iff] at h2
                obtain ⟨⟨h5, h6⟩, h7⟩ := h2
                have h5' : l.toNat ≠ 128 := fun e => by rw [e] at h5; cases h5
                have h6' := blt_no h6
                clear h h1 h3 h4 h5 h6
                obtain hk | hk | hk : l.toNat = 129 ∨ l.toNat = 130 ∨ l.toNat = 131 := by omega
                · rw [hk] at h3' h4' ⊢
                  obtain ⟨a, r, rfl⟩ : ∃ a r', r = a :: r' := by
                    cases r with
                    | nil => simp at h3'
                    | cons a r => exact ⟨a, r, rfl⟩
                  have ha := a.toNat_lt
                  have hb : big ((a :: r).take (129 - 128)) 0 = a.toNat := by simp [big]
                  rw [hb] at h4' ⊢
                  rw [lenB_2 h4' (by omega), b8_eq (x := a) (by omega)]
                  have hl : l = 129 := UInt8.toNat_inj.1 hk
                  exact ⟨t, r, by rw [hl]; rfl, ht, rfl, by unfold maxC; omega⟩
                · rw [hk] at h3' h4' ⊢
                  obtain ⟨a, a', r, rfl⟩ : ∃ a a' r', r = a :: a' :: r' := by
                    match r with
                    | [] => simp at h3'
                    | [_] => simp at h3'
                    | a :: a' :: r => exact ⟨a, a', r, rfl⟩
                  have ha := a.toNat_lt
                  have ha' := a'.toNat_lt
                  have hb : big ((a :: a' :: r).take (130 - 128)) 0 = 256 * a.toNat + a'.toNat := by simp [big]
                  have h0 : a.toNat ≠ 0 := fun e => by
                    have : a = 0 := UInt8.toNat_inj.1 e
                    rw [this] at h7; simp at h7
                  rw [hb] at h4' ⊢
                  have q1 : b8 ((256 * a.toNat + a'.toNat) / 256) = a := b8_eq (by omega)
                  have q2 : b8 (256 * a.toNat + a'.toNat) = a' := b8_eq (by omega)
                  rw [lenB_3 (by omega) (by omega), q1, q2]
                  have hl : l = 130 := UInt8.toNat_inj.1 hk
                  exact ⟨t, r, by rw [hl]; rfl, ht, rfl, by unfold maxC; omega⟩
                · rw [hk] at h3' h4' ⊢
                  obtain ⟨a, a', a'', r, rfl⟩ : ∃ a a' a'' r', r = a :: a' :: a'' :: r' := by
                    match r with
                    | [] => simp at h3'
                    | [_] => simp at h3'
                    | [_, _] => simp at h3'
                    | a :: a' :: a'' :: r => exact ⟨a, a', a'', r, rfl⟩
                  have ha := a.toNat_lt
                  have ha' := a'.toNat_lt
                  have ha'' := a''.toNat_lt
                  have hb : big ((a :: a' :: a'' :: r).take (131 - 128)) 0 = 256 * (256 * a.toNat + a'.toNat) + a''.toNat := by simp [big]
                  have h0 : a.toNat ≠ 0 := fun e => by
                    have : a = 0 := UInt8.toNat_inj.1 e
                    rw [this] at h7; simp at h7
                  rw [hb] at h4' ⊢
                  have q1 : b8 ((256 * (256 * a.toNat + a'.toNat) + a''.toNat) / 65536) = a := b8_eq (by omega)
                  have q2 : b8 ((256 * (256 * a.toNat + a'.toNat) + a''.toNat) / 256) = a' := b8_eq (by omega)
                  have q3 : b8 (256 * (256 * a.toNat + a'.toNat) + a''.toNat) = a'' := b8_eq (by omega)
                  rw [lenB_4 (by omega), q1, q2, q3]
                  have hl : l = 131 := UInt8.toNat_inj.1 hk
                  exact ⟨t, r, by rw [hl]; rfl, ht, rfl, by unfold maxC; omega⟩
/-- An element that is taken is what is written of it. -/
theorem take_canon {b : B} (h : takeE b = 0) : isTag (takeT b) = true ∧ (takeC b).length ≤ maxC ∧ takeN b = 1 + (lenB (takeC b).length).length + (takeC b).length ∧ b.take (takeN b) = elemB (b8 (takeT b).toNat) (takeC b) := by
  obtain ⟨h1, h2⟩ := takeE_head h
  obtain ⟨t, r, hb, ht, hn, hm⟩ := head_canon h1
  have hT : takeT b = (t.toNat : Int) := by unfold takeT; rw [h]; rw [hb]; rfl
  have hN : takeN b = (head b).2.1 + (head b).2.2 := by unfold takeN; rw [h]; rfl
  have hC : takeC b = (b.drop (head b).2.1).take (head b).2.2 := by unfold takeC; rw [h]; rfl
  have hr : b.drop (head b).2.1 = r := by
    rw [hn]
    conv => lhs; arg 2; rw [hb]
    rw [Nat.add_comm, List.drop_succ_cons]
    simp
  have hlen : (takeC b).length = (head b).2.2 := by
    rw [hC, List.length_take, List.length_drop]; omega
  refine ⟨by rw [hT]; exact ht, by omega, by rw [hN, hn, hlen], ?_⟩
  have e1 : b8 (takeT b).toNat = t := by rw [hT]; exact b8_eq (by have := t.toNat_lt; simp)
  unfold elemB
  rw [e1, hlen, hC, hr, hN, hn]
  conv => lhs; arg 2; rw [hb]
  rw [show 1 + (lenB (head b).2.2).length + (head b).2.2 = ((lenB (head b).2.2).length + (head b).2.2) + 1 by omega, List.take_succ_cons]
  congr 1
  rw [List.take_append, List.take_of_length_le (by omega)]
  congr 1
  congr 1
  omega
end Go.Dv.S
end
section
/- Rows of elements: a range over them. -/
namespace Go.Dv
namespace S
def stR_der_All (s c : List (List DV)) : DSt := stU 46 [(0, .v (.fz s)), (2, .v .nils), (3, .v (.int .i64 0)), (4, .v (.int .i64 0)), (5, .lp 5 0), (6, .lp 6 0), (12, .v (.fz s)), (13, .v (.func 137 [] [.fp false [.fz c]]))] [(5, .prom 0), (6, .prom 1)] []
def cs_der_All (s c : List (List DV)) : List DV := [.fz s, undef, .nils, .int .i64 0, .int .i64 0, .ptr 0 0, .ptr 1 0, undef, undef, undef, undef, undef, .fz s, .func 137 [] [.fp false [.fz c]]] ++ List.replicate 32 undef
noncomputable def lb_der_All (s c : List (List DV)) (st : LoopState) : DBlk := loopBlk (cs_der_All s c) (lrec T0 48 0 st none (List.replicate 46 false))
noncomputable def hn_der_All (s c : List (List DV)) (st : LoopState) : DHeap := [⟨[.nils], 93, false, false, true, none⟩, ⟨[.int .i64 0], 3, false, false, true, none⟩, dfrBlk, lb_der_All s c st]
noncomputable def hc_der_All (s c : List (List DV)) (st : LoopState) (n : Nat) (cs : List DV) (e : Int) : DHeap := [⟨[.sl 4 0 n 0 2], 93, false, false, true, none⟩, ⟨[.int .i64 e], 3, false, false, true, none⟩, dfrBlk, lb_der_All s c st, newBlk cs 90]
end S
end Go.Dv
end
section
/- What functions come to, path by path: printed by eqs2.py. -/
namespace Go.Dv
open Go.Proofs Go.Dv.S
abbrev t_der_All : List (FuncId × Spec) := [(100, S_der_Each), (99, S_der_Take), (101, S_der_Size)]
abbrev t_der_Each_1 : List (FuncId × Spec) := [(99, S_der_Take)]
theorem e_der_All (Lp : LpT) (Y : CallD) (s : List (List DV)) : run P0 T0 Lp (Lt t_der_All) Y 48 [.fz s] =
    (Option.bind (Go.Dv.S.dB (DV.fz s)) fun v0 => (((Y (Tgt.fn (137)) [(DV.yield (3)), (DV.fp (Bool.false) [(DV.fz (s))])] [(DBlk.mk [DV.nils] (93) (Bool.false) (Bool.false) (Bool.true) none), (DBlk.mk [(DV.int (IntKind.i64) (0 : Int))] (3) (Bool.false) (Bool.false) (Bool.true) none), (DBlk.mk [] (0) (Bool.false) (Bool.false) (Bool.false) (some DObj.dfr)), (DBlk.mk [(DV.fz (s)), (DV.tup []), DV.nils, (DV.int (IntKind.i64) (0 : Int)), (DV.int (IntKind.i64) (0 : Int)), (DV.ptr (0) (0)), (DV.ptr (1) (0)), (DV.tup []), (DV.tup []), (DV.tup []), (DV.tup []), (DV.tup []), (DV.fz (s)), (DV.func (137) [] [(DV.fp (Bool.false) [(DV.fz (s))])]), (DV.tup []), (DV.tup []), (DV.tup []), (DV.tup []), (DV.tup []), (DV.tup []), (DV.tup []), (DV.tup []), (DV.tup []), (DV.tup []), (DV.tup []), (DV.tup []), (DV.tup []), (DV.tup []), (DV.tup []), (DV.tup []), (DV.tup []), (DV.tup []), (DV.tup []), (DV.tup []), (DV.tup []), (DV.tup []), (DV.tup []), (DV.tup []), (DV.tup []), (DV.tup []), (DV.tup []), (DV.tup []), (DV.tup []), (DV.tup []), (DV.tup []), (DV.tup [])] (0) (Bool.false) (Bool.false) (Bool.false) (some (DObj.loop (lrec T0 48 0 Go.LoopState.ready none [(Bool.false), (Bool.false), (Bool.false), (Bool.false), (Bool.false), (Bool.false), (Bool.false), (Bool.false), (Bool.false), (Bool.false), (Bool.false), (Bool.false), (Bool.false), (Bool.false), (Bool.false), (Bool.false), (Bool.false), (Bool.false), (Bool.false), (Bool.false), (Bool.false), (Bool.false), (Bool.false), (Bool.false), (Bool.false), (Bool.false), (Bool.false), (Bool.false), (Bool.false), (Bool.false), (Bool.false), (Bool.false), (Bool.false), (Bool.false), (Bool.false), (Bool.false), (Bool.false), (Bool.false), (Bool.false), (Bool.false), (Bool.false), (Bool.false), (Bool.false), (Bool.false), (Bool.false), (Bool.false)]))))])).bind (rangeK 3 (stR_der_All s s) [.mark 2] (kontG P0 T0 Lp (Lt t_der_All) Y [] 48 0)))) := by kernel_rfl
theorem x_der_All_n (Lp : LpT) (Y : CallD) (s c : List (List DV)) : rangeK 3 (stR_der_All s c) [.mark 2] (kontG P0 T0 Lp (Lt t_der_All) Y [] 48 0) (.ret (.tup []), hn_der_All s c .ready) =
    (bif (Int.ofNat 0 == (↑s.length : Int)) then (some ((DRes.ret (DV.tup [(DV.fz []), (DV.int (IntKind.i64) (0 : Int)), (DV.int (IntKind.i64) (0 : Int))])), [])) else (bif (s.all fun (x : List Go.Dv.DV) => x.length.beq 1) then (Option.bind (Go.Dv.S.dB (DV.fz (List.drop 0 (List.take s.length s)))) fun v0 => (some ((DRes.ret (DV.tup [(DV.fz []), (DV.int (IntKind.i64) (0 : Int)), (DV.int (IntKind.i64) (Go.Dv.S.takeE v0))])), []))) else none)) := by kernel_rfl
theorem x_der_All_c (Lp : LpT) (Y : CallD) (s c : List (List DV)) (n : Nat) (cs : List DV) (e : Int) : rangeK 3 (stR_der_All s c) [.mark 2] (kontG P0 T0 Lp (Lt t_der_All) Y [] 48 0) (.ret (.tup []), hc_der_All s c .ready n cs e) =
    (bif (e == (↑s.length : Int)) then (Option.bind (Option.bind (Option.bind (Option.bind (bif ((0 + n * 2).ble cs.length) then (some (List.take (n * 2) (List.drop 0 cs))) else none) fun v0 => (Option.bind (Go.Dv.frozL v0) fun v1 => (some ((DV.fz (Go.Dv.chunks 2 n v1)), [(4)])))) fun v2 => (some ([(v2.fst), (DV.int (IntKind.i64) (e)), (DV.int (IntKind.i64) (0 : Int))], (v2.snd ++ ([] ++ ([] ++ [])))))) fun v3 => (some ((DV.tup (v3.fst)), (v3.snd)))) fun v4 => (some ((DRes.ret (v4.fst)), []))) else (Option.bind (Go.Pv.upTo e s.length) fun v5 => (bif (s.all fun (x : List Go.Dv.DV) => x.length.beq 1) then (Option.bind (Go.Dv.S.dB (DV.fz (List.drop v5 (List.take s.length s)))) fun v6 => (some ((DRes.ret (DV.tup [(DV.fz []), (DV.int (IntKind.i64) (e)), (DV.int (IntKind.i64) (Go.Dv.S.takeE v6))])), []))) else none))) := by kernel_rfl
theorem y_der_All_0n (Lp : LpT) (Y : CallD) (s c x : List (List DV)) (p t : Int) : runR P0 T0 Lp (Lt t_der_All) Y (.yield 3) [.int .i64 p, .agg [.int .i64 t, .fz x]] (hn_der_All s c .ready) =
    (Option.bind (Option.bind (Go.Dv.S.dM (DV.int Go.IntKind.i64 (↑x.length : Int))) fun v0 => (some ((DRes.ret (DV.bool (Bool.true))), [(DBlk.mk [(DV.sl (4) (0) (1) (0) (2))] (93) (Bool.false) (Bool.false) (Bool.true) none), (DBlk.mk [(DV.int (IntKind.i64) (IntKind.i64.wrap (IntKind.i64.wrap (p + (↑(1 + List.length (Go.Dv.S.lenB v0)) : Int)) + (↑x.length : Int))))] (3) (Bool.false) (Bool.false) (Bool.true) none), (DBlk.mk [] (0) (Bool.false) (Bool.false) (Bool.false) (some DObj.dfr)), (DBlk.mk [(DV.fz (s)), (DV.tup []), DV.nils, (DV.int (IntKind.i64) (0 : Int)), (DV.int (IntKind.i64) (0 : Int)), (DV.ptr (0) (0)), (DV.ptr (1) (0)), (DV.tup []), (DV.tup []), (DV.tup []), (DV.tup []), (DV.tup []), (DV.fz (s)), (DV.func (137) [] [(DV.fp (Bool.false) [(DV.fz (c))])]), (DV.tup []), (DV.tup []), (DV.tup []), (DV.tup []), (DV.tup []), (DV.tup []), (DV.tup []), (DV.tup []), (DV.tup []), (DV.tup []), (DV.tup []), (DV.tup []), (DV.tup []), (DV.tup []), (DV.tup []), (DV.tup []), (DV.tup []), (DV.tup []), (DV.tup []), (DV.tup []), (DV.tup []), (DV.tup []), (DV.tup []), (DV.tup []), (DV.tup []), (DV.tup []), (DV.tup []), (DV.tup []), (DV.tup []), (DV.tup []), (DV.tup []), (DV.tup [])] (0) (Bool.false) (Bool.false) (Bool.false) (some (DObj.loop (lrec T0 48 0 Go.LoopState.ready none [(Bool.false), (Bool.false), (Bool.false), (Bool.false), (Bool.false), (Bool.false), (Bool.false), (Bool.false), (Bool.false), (Bool.false), (Bool.false), (Bool.false), (Bool.false), (Bool.false), (Bool.false), (Bool.false), (Bool.false), (Bool.false), (Bool.false), (Bool.false), (Bool.false), (Bool.false), (Bool.false), (Bool.false), (Bool.false), (Bool.false), (Bool.false), (Bool.false), (Bool.false), (Bool.false), (Bool.false), (Bool.false), (Bool.false), (Bool.false), (Bool.false), (Bool.false), (Bool.false), (Bool.false), (Bool.false), (Bool.false), (Bool.false), (Bool.false), (Bool.false), (Bool.false), (Bool.false), (Bool.false)])))), (DBlk.mk [(DV.int (IntKind.i64) (t)), (DV.fz (x))] (90) (Bool.true) (Bool.false) (Bool.true) none)]))) fun v1 => (some (v1 ))) := by kernel_rfl
theorem y_der_All_0c (Lp : LpT) (Y : CallD) (s c x : List (List DV)) (p t e : Int) (n : Nat) (cs : List DV) : runR P0 T0 Lp (Lt t_der_All) Y (.yield 3) [.int .i64 p, .agg [.int .i64 t, .fz x]] (hc_der_All s c .ready n cs e) =
    (Option.bind (bif (((((n + 1) * 32).ble 140737488355328) && ((n + 1).ble 9223372036854775807)) && (Bool.true)) then (bif ((n * 2).beq cs.length) then (Option.bind (Go.Dv.S.dM (DV.int Go.IntKind.i64 (↑x.length : Int))) fun v0 => (some ((DRes.ret (DV.bool (Bool.true))), (Go.Dv.DSt.heap (bif (((cs ++ List.take 2 (List.drop 0 (Go.Dv.splice (Go.Dv.repeatCells [DV.int Go.IntKind.i64 (0 : Int), DV.nils] 1) 0 (List.take 2 (List.drop 0 (Go.Dv.splice [DV.int Go.IntKind.i64 (0 : Int), DV.nils] 0 [DV.int Go.IntKind.i64 t, DV.fz x])))))).all Go.Dv.froz) && (Bool.true)) then (DSt.mk [] [] [(DBlk.mk [(DV.sl (4) (0) (n + 1) (0) (2))] (93) (Bool.false) (Bool.false) (Bool.true) none), (DBlk.mk [(DV.int (IntKind.i64) (IntKind.i64.wrap (IntKind.i64.wrap (p + (↑(1 + List.length (Go.Dv.S.lenB v0)) : Int)) + (↑x.length : Int))))] (3) (Bool.false) (Bool.false) (Bool.true) none), (DBlk.mk [] (0) (Bool.false) (Bool.false) (Bool.false) (some DObj.dfr)), (DBlk.mk [(DV.fz (s)), (DV.tup []), DV.nils, (DV.int (IntKind.i64) (0 : Int)), (DV.int (IntKind.i64) (0 : Int)), (DV.ptr (0) (0)), (DV.ptr (1) (0)), (DV.tup []), (DV.tup []), (DV.tup []), (DV.tup []), (DV.tup []), (DV.fz (s)), (DV.func (137) [] [(DV.fp (Bool.false) [(DV.fz (c))])]), (DV.tup []), (DV.tup []), (DV.tup []), (DV.tup []), (DV.tup []), (DV.tup []), (DV.tup []), (DV.tup []), (DV.tup []), (DV.tup []), (DV.tup []), (DV.tup []), (DV.tup []), (DV.tup []), (DV.tup []), (DV.tup []), (DV.tup []), (DV.tup []), (DV.tup []), (DV.tup []), (DV.tup []), (DV.tup []), (DV.tup []), (DV.tup []), (DV.tup []), (DV.tup []), (DV.tup []), (DV.tup []), (DV.tup []), (DV.tup []), (DV.tup []), (DV.tup [])] (0) (Bool.false) (Bool.false) (Bool.false) (some (DObj.loop (lrec T0 48 0 Go.LoopState.ready none [(Bool.false), (Bool.false), (Bool.false), (Bool.false), (Bool.false), (Bool.false), (Bool.false), (Bool.false), (Bool.false), (Bool.false), (Bool.false), (Bool.false), (Bool.false), (Bool.false), (Bool.false), (Bool.false), (Bool.false), (Bool.false), (Bool.false), (Bool.false), (Bool.false), (Bool.false), (Bool.false), (Bool.false), (Bool.false), (Bool.false), (Bool.false), (Bool.false), (Bool.false), (Bool.false), (Bool.false), (Bool.false), (Bool.false), (Bool.false), (Bool.false), (Bool.false), (Bool.false), (Bool.false), (Bool.false), (Bool.false), (Bool.false), (Bool.false), (Bool.false), (Bool.false), (Bool.false), (Bool.false)])))), (DBlk.mk (cs ++ List.take 2 (List.drop 0 (Go.Dv.splice (Go.Dv.repeatCells [DV.int Go.IntKind.i64 (0 : Int), DV.nils] 1) 0 (List.take 2 (List.drop 0 (Go.Dv.splice [DV.int Go.IntKind.i64 (0 : Int), DV.nils] 0 [DV.int Go.IntKind.i64 t, DV.fz x])))))) (90) (Bool.true) (Bool.false) (Bool.true) none)]) else (DSt.mk [] [] [(DBlk.mk [(DV.sl (6) (0) (n + 1) (0) (2))] (93) (Bool.false) (Bool.false) (Bool.true) none), (DBlk.mk [(DV.int (IntKind.i64) (IntKind.i64.wrap (IntKind.i64.wrap (p + (↑(1 + List.length (Go.Dv.S.lenB v0)) : Int)) + (↑x.length : Int))))] (3) (Bool.false) (Bool.false) (Bool.true) none), (DBlk.mk [] (0) (Bool.false) (Bool.false) (Bool.false) (some DObj.dfr)), (DBlk.mk [(DV.fz (s)), (DV.tup []), DV.nils, (DV.int (IntKind.i64) (0 : Int)), (DV.int (IntKind.i64) (0 : Int)), (DV.ptr (0) (0)), (DV.ptr (1) (0)), (DV.tup []), (DV.tup []), (DV.tup []), (DV.tup []), (DV.tup []), (DV.fz (s)), (DV.func (137) [] [(DV.fp (Bool.false) [(DV.fz (c))])]), (DV.tup []), (DV.tup []), (DV.tup []), (DV.tup []), (DV.tup []), (DV.tup []), (DV.tup []), (DV.tup []), (DV.tup []), (DV.tup []), (DV.tup []), (DV.tup []), (DV.tup []), (DV.tup []), (DV.tup []), (DV.tup []), (DV.tup []), (DV.tup []), (DV.tup []), (DV.tup []), (DV.tup []), (DV.tup []), (DV.tup []), (DV.tup []), (DV.tup []), (DV.tup []), (DV.tup []), (DV.tup []), (DV.tup []), (DV.tup []), (DV.tup []), (DV.tup [])] (0) (Bool.false) (Bool.false) (Bool.false) (some (DObj.loop (lrec T0 48 0 Go.LoopState.ready none [(Bool.false), (Bool.false), (Bool.false), (Bool.false), (Bool.false), (Bool.false), (Bool.false), (Bool.false), (Bool.false), (Bool.false), (Bool.false), (Bool.false), (Bool.false), (Bool.false), (Bool.false), (Bool.false), (Bool.false), (Bool.false), (Bool.false), (Bool.false), (Bool.false), (Bool.false), (Bool.false), (Bool.false), (Bool.false), (Bool.false), (Bool.false), (Bool.false), (Bool.false), (Bool.false), (Bool.false), (Bool.false), (Bool.false), (Bool.false), (Bool.false), (Bool.false), (Bool.false), (Bool.false), (Bool.false), (Bool.false), (Bool.false), (Bool.false), (Bool.false), (Bool.false), (Bool.false), (Bool.false)])))), (DBlk.mk (cs) (90) (Bool.true) (Bool.false) (Bool.false) none), (DBlk.mk [(DV.int (IntKind.i64) (t)), (DV.fz (x))] (90) (Bool.true) (Bool.false) (Bool.true) none), (DBlk.mk (cs ++ List.take 2 (List.drop 0 (Go.Dv.splice (Go.Dv.repeatCells [DV.int Go.IntKind.i64 (0 : Int), DV.nils] 1) 0 (List.take 2 (List.drop 0 (Go.Dv.splice [DV.int Go.IntKind.i64 (0 : Int), DV.nils] 0 [DV.int Go.IntKind.i64 t, DV.fz x])))))) (90) (Bool.true) (Bool.false) (Bool.true) none)])))))) else none) else none) fun v1 => (some (v1 ))) := by kernel_rfl
theorem r_der_Each_1 (Lp : LpT) (Y : CallD) (s : List (List DV)) (h : DHeap) : runR P0 T0 Lp (Lt t_der_Each_1) Y (.fn 137) [.yield 3, .fp false [.fz s]] (h) =
    (Lp _ (tdF T0 137 none 0) ((bodyF P0 T0 Lp (Lt t_der_Each_1) Y [3] 137 none 0 : FX (DRes × DHeap))) (kontW P0 T0 Lp (Lt t_der_Each_1) Y [3] 137 0) (DSt.mk [(DSlot.v (DV.yield (3))), (DSlot.v (DV.fp (Bool.false) [(DV.fz (s))])), DSlot.dead, (DSlot.v (DV.int (IntKind.i64) (0 : Int))), DSlot.dead, DSlot.dead, DSlot.dead, DSlot.dead, DSlot.dead, DSlot.dead, DSlot.dead, DSlot.dead, DSlot.dead, DSlot.dead, DSlot.dead, DSlot.dead, DSlot.dead, DSlot.dead, DSlot.dead, DSlot.dead, DSlot.dead, DSlot.dead, DSlot.dead, DSlot.dead, DSlot.dead, DSlot.dead, DSlot.dead, DSlot.dead, DSlot.dead, DSlot.dead, DSlot.dead] [DBox.no, DBox.no, DBox.no, DBox.no, DBox.no, DBox.no, DBox.no, DBox.no, DBox.no, DBox.no, DBox.no, DBox.no, DBox.no, DBox.no, DBox.no, DBox.no, DBox.no, DBox.no, DBox.no, DBox.no, DBox.no, DBox.no, DBox.no, DBox.no, DBox.no, DBox.no, DBox.no, DBox.no, DBox.no, DBox.no, DBox.no] (h)) []) := by kernel_rfl
theorem b_der_Each_1_0 (Lp : LpT) (Y : CallD) (s : List (List DV)) (i : Int) (h : DHeap) (k : KX (DRes × DHeap)) : bodyF P0 T0 Lp (Lt t_der_Each_1) Y [3] 137 none 0 (stH 31 [(0, .v (.yield 3)), (1, .v (.fp false [.fz s])), (3, .v (.int .i64 i))] [] h) [] k =
    (bif (decide (i < (↑s.length : Int))) then (Option.bind (Go.Pv.upTo i s.length) fun v0 => (bif (s.all fun (x : List Go.Dv.DV) => x.length.beq 1) then (Option.bind (Go.Dv.S.dB (DV.fz (List.drop v0 (List.take s.length s)))) fun v1 => (bif (Go.Dv.S.takeE v1 != Int.ofNat 0) then (k DExit.ret (DSt.mk [(DSlot.v (DV.yield (3))), (DSlot.v (DV.fp (Bool.false) [(DV.fz (s))])), DSlot.dead, (DSlot.v (DV.int (IntKind.i64) (i))), (DSlot.lp (4) (0)), (DSlot.v (DV.int (IntKind.i64) ((↑(Go.Dv.S.takeN v1) : Int)))), (DSlot.v (DV.int (IntKind.i64) (Go.Dv.S.takeE v1))), (DSlot.v (DV.int (IntKind.i64) (i))), (DSlot.v (DV.fz (s))), (DSlot.v (DV.int (IntKind.i64) ((↑s.length : Int)))), (DSlot.v (DV.bool (decide (i < (↑s.length : Int))))), (DSlot.v (DV.tup [(DV.agg [(DV.int (IntKind.i64) (Go.Dv.S.takeT v1)), (DV.fz (Go.Dv.S.byt (Go.Dv.S.takeC v1)))]), (DV.int (IntKind.i64) ((↑(Go.Dv.S.takeN v1) : Int))), (DV.int (IntKind.i64) (Go.Dv.S.takeE v1))])), (DSlot.v (DV.fz (s))), (DSlot.v (DV.int (IntKind.i64) (i))), (DSlot.v (DV.fz (List.drop v0 (List.take s.length s)))), (DSlot.v (DV.tup [(DV.agg [(DV.int (IntKind.i64) (Go.Dv.S.takeT v1)), (DV.fz (Go.Dv.S.byt (Go.Dv.S.takeC v1)))]), (DV.int (IntKind.i64) ((↑(Go.Dv.S.takeN v1) : Int))), (DV.int (IntKind.i64) (Go.Dv.S.takeE v1))])), (DSlot.v (DV.agg [(DV.int (IntKind.i64) (Go.Dv.S.takeT v1)), (DV.fz (Go.Dv.S.byt (Go.Dv.S.takeC v1)))])), (DSlot.v (DV.int (IntKind.i64) ((↑(Go.Dv.S.takeN v1) : Int)))), (DSlot.v (DV.int (IntKind.i64) (Go.Dv.S.takeE v1))), (DSlot.v (DV.int (IntKind.i64) (Go.Dv.S.takeE v1))), (DSlot.v (DV.bool (Go.Dv.S.takeE v1 != Int.ofNat 0))), (DSlot.v (DV.bool (Bool.true))), (DSlot.v (DV.tup [])), (DSlot.v (DV.tup [])), (DSlot.v (DV.tup [])), (DSlot.v (DV.tup [])), (DSlot.v (DV.tup [])), (DSlot.v (DV.bool (Bool.true))), DSlot.dead, DSlot.dead, DSlot.dead] [DBox.no, DBox.no, DBox.no, DBox.no, (DBox.loc [(DV.int (IntKind.i64) (Go.Dv.S.takeT v1)), (DV.fz (Go.Dv.S.byt (Go.Dv.S.takeC v1)))] (90)), DBox.no, DBox.no, DBox.no, DBox.no, DBox.no, DBox.no, DBox.no, DBox.no, DBox.no, DBox.no, DBox.no, DBox.no, DBox.no, DBox.no, DBox.no, DBox.no, DBox.no, DBox.no, DBox.no, DBox.no, DBox.no, DBox.no, DBox.no, DBox.no, DBox.no, DBox.no] (h)) []) else (Option.bind (Y (Tgt.yield (3)) [(DV.int (IntKind.i64) (i)), (DV.agg [(DV.int (IntKind.i64) (Go.Dv.S.takeT v1)), (DV.fz (Go.Dv.S.byt (Go.Dv.S.takeC v1)))])] (h)) fun v2 => (match (v2.fst) with | DRes.ret v3 => (Option.bind (Go.Dv.toBool v3) fun v4 => (bif (!v4) then (k DExit.ret (DSt.mk [(DSlot.v (DV.yield (3))), (DSlot.v (DV.fp (Bool.false) [(DV.fz (s))])), DSlot.dead, (DSlot.v (DV.int (IntKind.i64) (i))), (DSlot.lp (4) (0)), (DSlot.v (DV.int (IntKind.i64) ((↑(Go.Dv.S.takeN v1) : Int)))), (DSlot.v (DV.int (IntKind.i64) (Go.Dv.S.takeE v1))), (DSlot.v (DV.int (IntKind.i64) (i))), (DSlot.v (DV.fz (s))), (DSlot.v (DV.int (IntKind.i64) ((↑s.length : Int)))), (DSlot.v (DV.bool (decide (i < (↑s.length : Int))))), (DSlot.v (DV.tup [(DV.agg [(DV.int (IntKind.i64) (Go.Dv.S.takeT v1)), (DV.fz (Go.Dv.S.byt (Go.Dv.S.takeC v1)))]), (DV.int (IntKind.i64) ((↑(Go.Dv.S.takeN v1) : Int))), (DV.int (IntKind.i64) (Go.Dv.S.takeE v1))])), (DSlot.v (DV.fz (s))), (DSlot.v (DV.int (IntKind.i64) (i))), (DSlot.v (DV.fz (List.drop v0 (List.take s.length s)))), (DSlot.v (DV.tup [(DV.agg [(DV.int (IntKind.i64) (Go.Dv.S.takeT v1)), (DV.fz (Go.Dv.S.byt (Go.Dv.S.takeC v1)))]), (DV.int (IntKind.i64) ((↑(Go.Dv.S.takeN v1) : Int))), (DV.int (IntKind.i64) (Go.Dv.S.takeE v1))])), (DSlot.v (DV.agg [(DV.int (IntKind.i64) (Go.Dv.S.takeT v1)), (DV.fz (Go.Dv.S.byt (Go.Dv.S.takeC v1)))])), (DSlot.v (DV.int (IntKind.i64) ((↑(Go.Dv.S.takeN v1) : Int)))), (DSlot.v (DV.int (IntKind.i64) (Go.Dv.S.takeE v1))), (DSlot.v (DV.int (IntKind.i64) (Go.Dv.S.takeE v1))), (DSlot.v (DV.bool (Go.Dv.S.takeE v1 != Int.ofNat 0))), (DSlot.v (DV.bool (Bool.false))), (DSlot.v (DV.yield (3))), (DSlot.v (DV.int (IntKind.i64) (i))), (DSlot.v (DV.agg [(DV.int (IntKind.i64) (Go.Dv.S.takeT v1)), (DV.fz (Go.Dv.S.byt (Go.Dv.S.takeC v1)))])), (DSlot.v (DV.bool (v4))), (DSlot.v (DV.bool (!v4))), (DSlot.v (DV.bool (!v4))), DSlot.dead, DSlot.dead, DSlot.dead] [DBox.no, DBox.no, DBox.no, DBox.no, (DBox.loc [(DV.int (IntKind.i64) (Go.Dv.S.takeT v1)), (DV.fz (Go.Dv.S.byt (Go.Dv.S.takeC v1)))] (90)), DBox.no, DBox.no, DBox.no, DBox.no, DBox.no, DBox.no, DBox.no, DBox.no, DBox.no, DBox.no, DBox.no, DBox.no, DBox.no, DBox.no, DBox.no, DBox.no, DBox.no, DBox.no, DBox.no, DBox.no, DBox.no, DBox.no, DBox.no, DBox.no, DBox.no, DBox.no] (v2.snd)) []) else (k DExit.normal (DSt.mk [(DSlot.v (DV.yield (3))), (DSlot.v (DV.fp (Bool.false) [(DV.fz (s))])), DSlot.dead, (DSlot.v (DV.int (IntKind.i64) (IntKind.i64.wrap (i + (↑(Go.Dv.S.takeN v1) : Int))))), (DSlot.lp (4) (0)), (DSlot.v (DV.int (IntKind.i64) ((↑(Go.Dv.S.takeN v1) : Int)))), (DSlot.v (DV.int (IntKind.i64) (Go.Dv.S.takeE v1))), (DSlot.v (DV.int (IntKind.i64) (i))), (DSlot.v (DV.fz (s))), (DSlot.v (DV.int (IntKind.i64) ((↑s.length : Int)))), (DSlot.v (DV.bool (decide (i < (↑s.length : Int))))), (DSlot.v (DV.tup [(DV.agg [(DV.int (IntKind.i64) (Go.Dv.S.takeT v1)), (DV.fz (Go.Dv.S.byt (Go.Dv.S.takeC v1)))]), (DV.int (IntKind.i64) ((↑(Go.Dv.S.takeN v1) : Int))), (DV.int (IntKind.i64) (Go.Dv.S.takeE v1))])), (DSlot.v (DV.fz (s))), (DSlot.v (DV.int (IntKind.i64) (i))), (DSlot.v (DV.fz (List.drop v0 (List.take s.length s)))), (DSlot.v (DV.tup [(DV.agg [(DV.int (IntKind.i64) (Go.Dv.S.takeT v1)), (DV.fz (Go.Dv.S.byt (Go.Dv.S.takeC v1)))]), (DV.int (IntKind.i64) ((↑(Go.Dv.S.takeN v1) : Int))), (DV.int (IntKind.i64) (Go.Dv.S.takeE v1))])), (DSlot.v (DV.agg [(DV.int (IntKind.i64) (Go.Dv.S.takeT v1)), (DV.fz (Go.Dv.S.byt (Go.Dv.S.takeC v1)))])), (DSlot.v (DV.int (IntKind.i64) ((↑(Go.Dv.S.takeN v1) : Int)))), (DSlot.v (DV.int (IntKind.i64) (Go.Dv.S.takeE v1))), (DSlot.v (DV.int (IntKind.i64) (Go.Dv.S.takeE v1))), (DSlot.v (DV.bool (Go.Dv.S.takeE v1 != Int.ofNat 0))), (DSlot.v (DV.bool (Bool.false))), (DSlot.v (DV.yield (3))), (DSlot.v (DV.int (IntKind.i64) (i))), (DSlot.v (DV.agg [(DV.int (IntKind.i64) (Go.Dv.S.takeT v1)), (DV.fz (Go.Dv.S.byt (Go.Dv.S.takeC v1)))])), (DSlot.v (DV.bool (v4))), (DSlot.v (DV.bool (!v4))), (DSlot.v (DV.bool (!v4))), (DSlot.v (DV.int (IntKind.i64) (i))), (DSlot.v (DV.int (IntKind.i64) ((↑(Go.Dv.S.takeN v1) : Int)))), (DSlot.v (DV.int (IntKind.i64) (IntKind.i64.wrap (i + (↑(Go.Dv.S.takeN v1) : Int)))))] [DBox.no, DBox.no, DBox.no, DBox.no, (DBox.loc [(DV.int (IntKind.i64) (Go.Dv.S.takeT v1)), (DV.fz (Go.Dv.S.byt (Go.Dv.S.takeC v1)))] (90)), DBox.no, DBox.no, DBox.no, DBox.no, DBox.no, DBox.no, DBox.no, DBox.no, DBox.no, DBox.no, DBox.no, DBox.no, DBox.no, DBox.no, DBox.no, DBox.no, DBox.no, DBox.no, DBox.no, DBox.no, DBox.no, DBox.no, DBox.no, DBox.no, DBox.no, DBox.no] (v2.snd)) []))) | DRes.pan v5 => (k (DExit.panic (v5 )) (DSt.mk [(DSlot.v (DV.yield (3))), (DSlot.v (DV.fp (Bool.false) [(DV.fz (s))])), DSlot.dead, (DSlot.v (DV.int (IntKind.i64) (i))), (DSlot.lp (4) (0)), (DSlot.v (DV.int (IntKind.i64) ((↑(Go.Dv.S.takeN v1) : Int)))), (DSlot.v (DV.int (IntKind.i64) (Go.Dv.S.takeE v1))), (DSlot.v (DV.int (IntKind.i64) (i))), (DSlot.v (DV.fz (s))), (DSlot.v (DV.int (IntKind.i64) ((↑s.length : Int)))), (DSlot.v (DV.bool (decide (i < (↑s.length : Int))))), (DSlot.v (DV.tup [(DV.agg [(DV.int (IntKind.i64) (Go.Dv.S.takeT v1)), (DV.fz (Go.Dv.S.byt (Go.Dv.S.takeC v1)))]), (DV.int (IntKind.i64) ((↑(Go.Dv.S.takeN v1) : Int))), (DV.int (IntKind.i64) (Go.Dv.S.takeE v1))])), (DSlot.v (DV.fz (s))), (DSlot.v (DV.int (IntKind.i64) (i))), (DSlot.v (DV.fz (List.drop v0 (List.take s.length s)))), (DSlot.v (DV.tup [(DV.agg [(DV.int (IntKind.i64) (Go.Dv.S.takeT v1)), (DV.fz (Go.Dv.S.byt (Go.Dv.S.takeC v1)))]), (DV.int (IntKind.i64) ((↑(Go.Dv.S.takeN v1) : Int))), (DV.int (IntKind.i64) (Go.Dv.S.takeE v1))])), (DSlot.v (DV.agg [(DV.int (IntKind.i64) (Go.Dv.S.takeT v1)), (DV.fz (Go.Dv.S.byt (Go.Dv.S.takeC v1)))])), (DSlot.v (DV.int (IntKind.i64) ((↑(Go.Dv.S.takeN v1) : Int)))), (DSlot.v (DV.int (IntKind.i64) (Go.Dv.S.takeE v1))), (DSlot.v (DV.int (IntKind.i64) (Go.Dv.S.takeE v1))), (DSlot.v (DV.bool (Go.Dv.S.takeE v1 != Int.ofNat 0))), (DSlot.v (DV.bool (Bool.false))), (DSlot.v (DV.yield (3))), (DSlot.v (DV.int (IntKind.i64) (i))), (DSlot.v (DV.agg [(DV.int (IntKind.i64) (Go.Dv.S.takeT v1)), (DV.fz (Go.Dv.S.byt (Go.Dv.S.takeC v1)))])), DSlot.dead, DSlot.dead, DSlot.dead, DSlot.dead, DSlot.dead, DSlot.dead] [DBox.no, DBox.no, DBox.no, DBox.no, (DBox.loc [(DV.int (IntKind.i64) (Go.Dv.S.takeT v1)), (DV.fz (Go.Dv.S.byt (Go.Dv.S.takeC v1)))] (90)), DBox.no, DBox.no, DBox.no, DBox.no, DBox.no, DBox.no, DBox.no, DBox.no, DBox.no, DBox.no, DBox.no, DBox.no, DBox.no, DBox.no, DBox.no, DBox.no, DBox.no, DBox.no, DBox.no, DBox.no, DBox.no, DBox.no, DBox.no, DBox.no, DBox.no, DBox.no] (v2.snd)) []))))) else none)) else (k (DExit.exit (0)) (DSt.mk [(DSlot.v (DV.yield (3))), (DSlot.v (DV.fp (Bool.false) [(DV.fz (s))])), DSlot.dead, (DSlot.v (DV.int (IntKind.i64) (i))), DSlot.dead, DSlot.dead, DSlot.dead, (DSlot.v (DV.int (IntKind.i64) (i))), (DSlot.v (DV.fz (s))), (DSlot.v (DV.int (IntKind.i64) ((↑s.length : Int)))), (DSlot.v (DV.bool (decide (i < (↑s.length : Int))))), DSlot.dead, DSlot.dead, DSlot.dead, DSlot.dead, DSlot.dead, DSlot.dead, DSlot.dead, DSlot.dead, DSlot.dead, DSlot.dead, DSlot.dead, DSlot.dead, DSlot.dead, DSlot.dead, DSlot.dead, DSlot.dead, DSlot.dead, DSlot.dead, DSlot.dead, DSlot.dead] [DBox.no, DBox.no, DBox.no, DBox.no, DBox.no, DBox.no, DBox.no, DBox.no, DBox.no, DBox.no, DBox.no, DBox.no, DBox.no, DBox.no, DBox.no, DBox.no, DBox.no, DBox.no, DBox.no, DBox.no, DBox.no, DBox.no, DBox.no, DBox.no, DBox.no, DBox.no, DBox.no, DBox.no, DBox.no, DBox.no, DBox.no] (h)) [])) := by kernel_rfl
theorem x_der_Each (Lp : LpT) (Y : CallD) (st : DSt) : kontW P0 T0 Lp (Lt t_der_Each_1) Y [3] 137 0 (.exit 0) st [] =
    (some ((DRes.ret (DV.tup [])), (Go.Dv.DSt.heap (st )))) := by kernel_rfl
theorem x_der_Each_r (Lp : LpT) (Y : CallD) (st : DSt) : kontW P0 T0 Lp (Lt t_der_Each_1) Y [3] 137 0 .ret st [] =
    (some ((DRes.ret (DV.tup [])), (Go.Dv.DSt.heap (st )))) := by kernel_rfl
end Go.Dv
end
section
/- Rows of elements: a range over them. -/
namespace Go.Dv
open Go.Proofs Go.Dv.S
open Go.Pv (idx upTo)
/-- What a round is told. -/
def rowA (b : B) (p : Nat) : List (List DV) :=
  if h : takeE b = 0 then [DV.int .i64 (p : Int), eltV (takeT b, takeC b)] :: rowA (b.drop (takeN b)) (p + takeN b) else []
 termination_by b.length
 decreasing_by exact takeN_drop h
theorem rowA_ok {b : B} (h : takeE b = 0) (p : Nat) : rowA b p = [DV.int .i64 (p : Int), eltV (takeT b, takeC b)] :: rowA (b.drop (takeN b)) (p + takeN b) := by rw [rowA, dif_pos h]
theorem rowA_no {b : B} (h : takeE b ≠ 0) (p : Nat) : rowA b p = [] := by rw [rowA, dif_neg h]
/-- What lies there between two rounds. -/
noncomputable def hE (s : List (List DV)) (l : List Elem) (e : Nat) : DHeap := match l with
  | [] => hn_der_All s s .ready
  | x :: l => hc_der_All s s .ready (x :: l).length (ecs (x :: l)) (e : Int)
theorem y_All_n (Y : CallD) (s : List (List DV)) (p n : Nat) (t : Int) (c : B) (hc : c.length ≤ maxC) (hn : n = 1 + (lenB c.length).length + c.length) (hp : p + n ≤ 1099511627776) :
    runR P0 T0 (fun _ => LoopLim) (Lt t_der_All) Y (.yield 3) [.int .i64 (p : Int), eltV (t, c)] (hn_der_All s s .ready) = some (.ret (.bool true), hE s [(t, c)] (p + n)) := by
  have hm : dM (.int .i64 (c.length : Int)) = some c.length := dM_ok hc
  have w1 : IntKind.i64.wrap (IntKind.i64.wrap ((p : Int) + ((1 + (lenB c.length).length : Nat) : Int)) + (c.length : Int)) = ((p + n : Nat) : Int) := by
    have w0 : IntKind.i64.wrap ((p : Int) + ((1 + (lenB c.length).length : Nat) : Int)) = (p : Int) + ((1 + (lenB c.length).length : Nat) : Int) := Sx.w64 (by omega)
    rw [w0, Sx.w64 (by omega)]; omega
  refine (y_der_All_0n _ Y s s (byt c) p t).trans ?_
  rw [byt_len, hm, Option.bind_some, Option.bind_some, w1]
  (show _ = _; kernel_rfl)
theorem y_All_c (Y : CallD) (s : List (List DV)) (p n : Nat) (x : Elem) (l : List Elem) (t : Int) (c : B) (hc : c.length ≤ maxC) (hn : n = 1 + (lenB c.length).length + c.length) (hp : p + n ≤ 1099511627776) (hl : (x :: l).length ≤ 1099511627776) :
    runR P0 T0 (fun _ => LoopLim) (Lt t_der_All) Y (.yield 3) [.int .i64 (p : Int), eltV (t, c)] (hE s (x :: l) p) = some (.ret (.bool true), hE s (x :: l ++ [(t, c)]) (p + n)) := by
  have hm : dM (.int .i64 (c.length : Int)) = some c.length := dM_ok hc
  have w1 : IntKind.i64.wrap (IntKind.i64.wrap ((p : Int) + ((1 + (lenB c.length).length : Nat) : Int)) + (c.length : Int)) = ((p + n : Nat) : Int) := by
    have w0 : IntKind.i64.wrap ((p : Int) + ((1 + (lenB c.length).length : Nat) : Int)) = (p : Int) + ((1 + (lenB c.length).length : Nat) : Int) := Sx.w64 (by omega)
    rw [w0, Sx.w64 (by omega)]; omega
  have hf := ecs_froz (x :: l ++ [(t, c)])
  have hcs : ecs (x :: l) ++ List.take 2 (List.drop 0 (splice (repeatCells [DV.int IntKind.i64 (0 : Int), DV.nils] 1) 0 (List.take 2 (List.drop 0 (splice [DV.int IntKind.i64 (0 : Int), DV.nils] 0 [DV.int IntKind.i64 t, DV.fz (byt c)]))))) = ecs (x :: l ++ [(t, c)]) := by
    rw [← ecs_snoc]; rfl
  refine (y_der_All_0c _ Y s s (byt c) p t p (x :: l).length (ecs (x :: l))).trans ?_
  rw [Sx.bleT (show ((x :: l).length + 1) * 32 ≤ 140737488355328 by omega), Sx.bleT (show (x :: l).length + 1 ≤ 9223372036854775807 by omega), Sx.beqT (ecs_len (x :: l)).symm, Bool.and_self, Bool.and_self, cond_true, cond_true, byt_len, hm, Option.bind_some, Option.bind_some, w1, hcs, hf]
  rw [show hE s (x :: l ++ [(t, c)]) (p + n) = hc_der_All s s .ready ((x :: l).length + 1) (ecs (x :: l ++ [(t, c)])) ((p + n : Nat) : Int) by
    show hc_der_All s s .ready (x :: (l ++ [(t, c)])).length _ _ = _
    rw [List.length_cons, List.length_append]; rfl]
  (show _ = _; kernel_rfl)
theorem rounds_All (s : List (List DV)) : ∀ (k : Nat) (b : B) (p : Nat) (l : List Elem), b.length ≤ k → p + b.length ≤ 1099511627776 → l.length ≤ p → 
    rounds (yinf P0 T0) 3 (rowA b p) (hE s l p) = some (.ret (.tup []), hE s (l ++ row b) (p + rowN b)) := by
  intro k
  induction k with
  | zero =>
    intro b p l hk hp hl
    have : b = [] := List.eq_nil_of_length_eq_zero (by omega)
    subst this
    rw [rowA_no (by decide), row_no (by decide), rowN_no (by decide), List.append_nil]
    rfl
  | succ k ih =>
    intro b p l hk hp hl
    by_cases h0 : takeE b = 0
    · obtain ⟨n1, n2⟩ := takeN_pos h0
      obtain ⟨q1, q2, q3, q4⟩ := take_canon h0
      have hcs : Cons P0 T0 t_der_All := ⟨c_der_Each, c_der_Take, c_der_Size, trivial⟩
      have hnx := ih (b.drop (takeN b)) (p + takeN b) (l ++ [(takeT b, takeC b)]) (by rw [List.length_drop]; omega) (by rw [List.length_drop]; omega) (by simp; omega)
      rw [rowA_ok h0, row_ok h0, rowN_ok h0]
      rw [List.append_assoc, Nat.add_assoc] at hnx
      have key : yinf P0 T0 (.yield 3) [.int .i64 (p : Int), eltV (takeT b, takeC b)] (hE s l p) = some (.ret (.bool true), hE s (l ++ [(takeT b, takeC b)]) (p + takeN b)) := by
        cases l with
        | nil => exact LxR.of_in hcs (y_All_n _ s p (takeN b) (takeT b) (takeC b) q2 q3 (by omega))
        | cons x l => exact LxR.of_in hcs (y_All_c _ s p (takeN b) x l (takeT b) (takeC b) q2 q3 (by omega) (by omega))
      show ((yinf P0 T0 (.yield 3) _ (hE s l p)).bind _) = _
      rw [key]
      exact hnx
    · rw [rowA_no h0, row_no h0, rowN_no h0, List.append_nil]
      rfl
end Go.Dv
end
section
/- Rows of elements: a range over them, the whole. -/
namespace Go.Dv
open Go.Proofs Go.Dv.S
open Go.Pv (idx upTo)
def stE (s : List (List DV)) (i : Int) (h : DHeap) : DSt := stH 31 [(0, .v (.yield 3)), (1, .v (.fp false [.fz s])), (3, .v (.int .i64 i))] [] h
theorem l_der_Each (Y : CallD) (s : B) (hs : s.length ≤ 1099511627776) : ∀ (n p : Nat) (h : DHeap) (r : DRes × DHeap), s.length - p ≤ n → p ≤ s.length → rounds Y 3 (rowA (s.drop p) p) h = some r →
    LoopLim (tdF T0 137 none 0) (bodyF P0 T0 (fun _ => LoopLim) (Lt t_der_Each_1) Y [3] 137 none 0) (kontW P0 T0 (fun _ => LoopLim) (Lt t_der_Each_1) Y [3] 137 0) (stE (byt s) (p : Int) h) [] = some r := by
  have hc : Cons P0 T0 t_der_Each_1 := ⟨c_der_Take, trivial⟩
  intro n
  induction n with
  | zero =>
    intro p h r hn hp hr
    have hpe : p = s.length := by omega
    subst hpe
    refine loop_step hc.cont ?_
    unfold stE
    rw [b_der_Each_1_0, byt_len, Sx.ltF (Int.le_refl _), cond_false]
    rw [List.drop_length, rowA_no (by decide)] at hr
    rw [← hr]
    show _ = some (DRes.ret (.tup []), h)
    exact x_der_Each _ _ _
  | succ n ih =>
    intro p h r hn hp hr
    rcases Nat.eq_or_lt_of_le hp with he | hlt
    · exact ih p h r (by omega) hp hr
    · have hdb : dB (.fz (byt (s.drop p))) = some (s.drop p) := dB_ok (by unfold lim; rw [List.length_drop]; omega)
      refine loop_step hc.cont ?_
      unfold stE
      rw [b_der_Each_1_0, byt_len, Sx.ltT (by omega), cond_true, Sx.upI (by omega), Option.bind_some, byt_all, cond_true, Sx.tn, Sx.byt_take, Sx.byt_drop, Sx.takeAll (Nat.le_refl _), hdb, Option.bind_some]
      by_cases h0 : takeE (s.drop p) = 0
      · obtain ⟨n1, n2⟩ := takeN_pos h0
        rw [List.length_drop] at n2
        rw [show (takeE (s.drop p) != Int.ofNat 0) = false from Sx.neF h0, cond_false]
        have nxt : ∀ (h' : DHeap), rounds Y 3 (rowA (s.drop (p + takeN (s.drop p))) (p + takeN (s.drop p))) h' = some r → _ := fun h' hh => ih (p + takeN (s.drop p)) h' r (by omega) (by omega) hh
        rw [rowA_ok h0, List.drop_drop] at hr
        simp only [rounds] at hr
        obtain ⟨q, hq, hr⟩ := bnd' hr
        obtain ⟨q1, q2⟩ := q
        have hq' : Y (.yield 3) [.int .i64 (p : Int), .agg [.int .i64 (takeT (s.drop p)), .fz (byt (takeC (s.drop p)))]] h = some (q1, q2) := hq
        rw [hq', Option.bind_some]
        cases q1 with
        | pan v =>
          simp only at hr ⊢
          refine Eq.trans ?_ hr
          (show _ = _; kernel_rfl)
        | ret v =>
          simp only at hr ⊢
          obtain ⟨b, hb, hr⟩ := bnd' hr
          rw [hb, Option.bind_some]
          cases b with
          | false =>
            rw [cond_false] at hr
            rw [Bool.not_false, cond_true]
            refine Eq.trans ?_ hr
            (show _ = _; kernel_rfl)
          | true =>
            rw [cond_true] at hr
            rw [Bool.not_true, cond_false]
            have w1 : IntKind.i64.wrap ((p : Int) + (takeN (s.drop p) : Int)) = ((p + takeN (s.drop p) : Nat) : Int) := by rw [Sx.w64 (by omega)]; omega
            rw [w1]
            refine headT (nxt q2 hr) ?_
            (show _ = _; kernel_rfl)
      · rw [show (takeE (s.drop p) != Int.ofNat 0) = true from Sx.neT h0, cond_true]
        rw [rowA_no h0] at hr
        rw [← hr]
        show _ = some (DRes.ret (.tup []), h)
        exact x_der_Each_r _ _ _
theorem bindR {α β : Type} {x : Option α} {f : α → Option β} {a : α} {r : β} (h : x = some a) (h2 : f a = some r) : x.bind f = some r := by rw [h]; exact h2
theorem row_nil {b : B} (h : row b = []) : rowN b = 0 := by
  by_cases h0 : takeE b = 0
  · rw [row_ok h0] at h; cases h
  · exact rowN_no h0
theorem c_der_All : Con P0 T0 48 S_der_All := con1 fun x b hx => by
  have hx' := hx
  obtain ⟨rfl, hl⟩ := dB_inv hx
  have hl2 : b.length ≤ 1099511627776 := hl
  have hcw : Cons P0 T0 t_der_Each_1 := ⟨c_der_Take, trivial⟩
  refine Lx.of_inY (tab := t_der_All) ⟨c_der_Each, c_der_Take, c_der_Size, trivial⟩ ?_
  rw [e_der_All]
  have hr : rounds (yinf P0 T0) 3 (rowA b 0) (hE (byt b) [] 0) = some (.ret (.tup []), hE (byt b) (row b) (rowN b)) := by
    have := rounds_All (byt b) b.length b 0 [] (Nat.le_refl _) (by omega) (Nat.zero_le _)
    rw [List.nil_append, Nat.zero_add] at this
    exact this
  have hit : yinf P0 T0 (.fn 137) [.yield 3, .fp false [.fz (byt b)]] (hn_der_All (byt b) (byt b) .ready) = some (.ret (.tup []), hE (byt b) (row b) (rowN b)) := by
    refine LxR.of_in hcw ?_
    rw [r_der_Each_1]
    have h1 := l_der_Each (yinf P0 T0) b hl2 b.length 0 (hE (byt b) [] 0) _ (by omega) (by omega) (by rw [List.drop_zero]; exact hr)
    refine headT h1 ?_
    (show _ = _; kernel_rfl)
  rw [hx', Option.bind_some]
  refine bindR (Eq.trans ?_ hit) ?_
  · (show _ = _; kernel_rfl)
  · show _ = some (ret (.tup [.fz (elts (allL b)), .int .i64 (rowN b : Nat), .int .i64 (allE b)]))
    have hle := rowN_le b
    cases hrow : row b with
    | nil =>
      have h0 := row_nil hrow
      refine (x_der_All_n _ _ (byt b) (byt b)).trans ?_
      by_cases hb : b = []
      · subst hb
        have h1 : allL ([] : B) = [] := by unfold allL; rw [hrow]; cases (Nat.beq (rowN ([] : B)) ([] : B).length) <;> rfl
        rw [h1, h0, allE_nil]
        rfl
      · have hpos := List.length_pos_iff.2 hb
        have h1 : allL b = [] := by unfold allL; rw [hrow]; cases (Nat.beq (rowN b) b.length) <;> rfl
        have h2 : allE b = takeE b := by unfold allE; rw [h0, Sx.beqF (by omega), cond_false, List.drop_zero]
        have h3 : (Int.ofNat 0 == (((byt b).length : Nat) : Int)) = false := by rw [byt_len]; simp; omega
        have h4 : dB (.fz (List.drop 0 (List.take (byt b).length (byt b)))) = some b := by rw [Sx.takeAll (Nat.le_refl _), List.drop_zero]; exact hx'
        rw [h3, cond_false, byt_all, cond_true, h4, Option.bind_some, h1, h0, h2]
        rfl
    | cons e l =>
      refine (x_der_All_c _ _ (byt b) (byt b) (e :: l).length (ecs (e :: l)) (rowN b : Int)).trans ?_
      by_cases he : rowN b = b.length
      · have h1 : allL b = e :: l := by unfold allL; rw [Sx.beqT he, cond_true, hrow]
        have h2 : allE b = 0 := by unfold allE; rw [Sx.beqT he, cond_true]
        have h3 : (((rowN b : Nat) : Int) == (((byt b).length : Nat) : Int)) = true := by rw [byt_len, he]; simp
        rw [h3, cond_true, h1, h2, Nat.zero_add, ← ecs_len (e :: l), Sx.bleT (Nat.le_refl _), cond_true, List.drop_zero, List.take_length, Option.bind_some, frozE, Option.bind_some, ecs_chunks]
        rfl
      · have h1 : allL b = [] := by unfold allL; rw [Sx.beqF he, cond_false]
        have h2 : allE b = takeE (b.drop (rowN b)) := by unfold allE; rw [Sx.beqF he, cond_false]
        have h3 : (((rowN b : Nat) : Int) == (((byt b).length : Nat) : Int)) = false := by rw [byt_len]; simp; omega
        have h4 : dB (.fz (byt (b.drop (rowN b)))) = some (b.drop (rowN b)) := dB_ok (by unfold lim; rw [List.length_drop]; omega)
        rw [h3, cond_false, byt_len, Sx.upI (by omega), Option.bind_some, Sx.tn, byt_all, cond_true, Sx.byt_take, Sx.byt_drop, Sx.takeAll (Nat.le_refl _), h4, Option.bind_some, h1, h2]
        rfl
end Go.Dv
end
section
/- Signatures as bytes: the forms of contracts. -/
namespace Go.Dv
namespace S
/-- So many bytes, listed. -/
def arr (n : Nat) (s : B) : List DV := (List.range n).map fun i => .int .u8 (s.getD i 0).toNat
def zer (n : Nat) : B := List.replicate n 0
def pad32 (c : B) : B := List.replicate (32 - c.length) 0 ++ c
/-- One of the two numbers. -/
def halfE (c : B) : Int := bif toNatE c == 0 then (bif Nat.blt 32 (toNatC c).length then 21 else 0) else toNatE c
def halfC (c : B) : B := bif halfE c == 0 then pad32 (toNatC c) else zer 32
def decE (b : B) : Int := bif oneE b == 0 then bif oneT b == 48 then bif allE (oneC b) == 0 then (match allL (oneC b) with
  | [x, y] => bif x.1 == 2 && y.1 == 2 then (bif halfE x.2 == 0 then halfE y.2 else halfE x.2) else 20
  | _ => 20) else allE (oneC b) else 20 else oneE b
def decC (b : B) : B := bif decE b == 0 then (match allL (oneC b) with
  | [x, y] => halfC x.2 ++ halfC y.2
  | _ => zer 64) else zer 64
def encB (s : B) : B := elemB 48 (elemB 2 (natB (s.take 32)) ++ elemB 2 (natB (s.drop 32)))
/-- Where what is written is short. -/
def dPut : List DV → Option (B × Int × List B)
  | [b, t, l] => (dBm b).bind fun b => (dI t).bind fun t => (dBs l).bind fun l => bif isTag t && Nat.ble l.flatten.length maxC then some (b, t, l) else none
  | _ => none
def S_sign_half : Spec := sp1 dEl fun e => .tup [.agg (arr 32 (halfC e.2)), .int .i64 (halfE e.2)]
def S_sign_Decode : Spec := sq1 dB fun b => .leaf (ret (.tup [.agg (arr 64 (decC b)), .int .i64 (decE b)]))
def S_sign_Encode : Spec := sq1 (dA 64) fun s => .leaf (ob (encB s))
/-- der.Put, where it goes. -/
def P_der_Put : Spec := fun R xs k => (dPut xs).bind fun p => k (obE (p.1 ++ elemB (b8 p.2.1.toNat) p.2.2.flatten) 0)
def order : B := [255, 255, 255, 255, 0, 0, 0, 0, 255, 255, 255, 255, 255, 255, 255, 255, 188, 230, 250, 173, 167, 23, 158, 132, 243, 185, 202, 194, 252, 99, 37, 81]
def S_curve_Order : Spec := fun R xs k => match xs with
  | [] => k (ret (.agg (ofBytes order)))
  | _ => none
def S_internal_bytealg_Compare : Spec := sp2 dB dB fun a b => .int .i64 (Lib.compareBytes a b)
def S_bytes_Compare : Spec := S_internal_bytealg_Compare
/-- The keys with which the laws ask whether one may be. -/
def dMay (x : DV) : Option Bool := (dA 32 x).bind fun s => bif s == zer 31 ++ [1] then some true else bif s == zer 32 then some false else none
def S_sign_May : Spec := sp1 dMay fun b => .bool b
end S
end Go.Dv
end
section
/- What is read as a signature has just these bytes: plain words. -/
namespace Go.Dv.S
theorem row_end (b : B) : takeE (b.drop (rowN b)) ≠ 0 := by
  induction hn : b.length using Nat.strongRecOn generalizing b with
  | _ n ih =>
    subst hn
    by_cases h : takeE b = 0
    · rw [rowN_ok h]
      have h2 := ih _ (takeN_drop h) (b.drop (takeN b)) rfl
      rw [List.drop_drop] at h2
      exact h2
    · rw [rowN_no h]; exact h
def elemE (e : Elem) : B := elemB (b8 e.1.toNat) e.2
theorem row_canon (b : B) : b.take (rowN b) = ((row b).map elemE).flatten := by
  induction hn : b.length using Nat.strongRecOn generalizing b with
  | _ n ih =>
    subst hn
    by_cases h : takeE b = 0
    · rw [rowN_ok h, row_ok h]
      have h2 := ih _ (takeN_drop h) (b.drop (takeN b)) rfl
      rw [List.take_add, (take_canon h).2.2.2, h2]
      rfl
    · rw [rowN_no h, row_no h]; rfl
theorem all_canon {b : B} (h : allE b = 0) : b = ((allL b).map elemE).flatten ∧ allL b = row b ∧ rowN b = b.length := by
  unfold allE at h
  unfold allL
  by_cases he : rowN b = b.length
  · rw [Sx.beqT he, cond_true, ← row_canon, he, List.take_length]
    exact ⟨rfl, rfl, rfl⟩
  · rw [Sx.beqF he, cond_false] at h
    exact absurd h (row_end b)
theorem row_tag {b : B} {e : Elem} (h : e ∈ row b) : isTag e.1 = true ∧ e.2.length ≤ maxC ∧ e.2.length ≤ b.length := by
  induction hn : b.length using Nat.strongRecOn generalizing b with
  | _ n ih =>
    subst hn
    by_cases h0 : takeE b = 0
    · rw [row_ok h0] at h
      rcases List.mem_cons.1 h with rfl | h
      · have := take_canon h0
        exact ⟨this.1, this.2.1, takeC_len b⟩
      · have h3 := ih _ (takeN_drop h0) h rfl
        have h4 := takeN_drop h0
        exact ⟨h3.1, h3.2.1, by omega⟩
    · rw [row_no h0] at h; cases h
theorem one_canon {b : B} (h : oneE b = 0) : isTag (oneT b) = true ∧ (oneC b).length ≤ maxC ∧ b = elemB (b8 (oneT b).toNat) (oneC b) := by
  have h' := h
  unfold oneE at h
  cases hc : (takeE b == 0 && Nat.blt (takeN b) b.length) with
  | true => rw [hc] at h; cases h
  | false =>
    rw [hc, cond_false] at h
    rw [h] at hc
    have h2 : b.length ≤ takeN b := blt_no hc
    have h3 := take_canon h
    have e1 : oneT b = takeT b := by unfold oneT; rw [h']; rfl
    have e2 : oneC b = takeC b := by unfold oneC; rw [h']; rfl
    rw [e1, e2]
    refine ⟨h3.1, h3.2.1, ?_⟩
    rw [← h3.2.2.2, List.take_of_length_le h2]
theorem bare_zeros (n : Nat) (c : B) : bare (List.replicate n 0 ++ c) = bare c := by
  induction n with
  | zero => rfl
  | succ n ih =>
    rw [List.replicate_succ, List.cons_append]
    unfold bare at ih ⊢
    rw [List.dropWhile_cons]
    exact ih
theorem bare_0 (s : B) : bare (0 :: s) = bare s := bare_zeros 1 s
theorem bare_n {a : UInt8} (s : B) (h : a ≠ 0) : bare (a :: s) = a :: s := by
  unfold bare
  rw [List.dropWhile_cons]
  simp [h]
theorem bare_bare (s : B) : bare (bare s) = bare s := by
  induction s with
  | nil => rfl
  | cons a s ih =>
    by_cases h : a = 0
    · subst h; rw [bare_0]; exact ih
    · rw [bare_n s h, bare_n s h]
theorem nat_canon {c : B} (h : toNatE c = 0) : natB (bare c) = c := by
  unfold toNatE at h
  cases hs : short c with
  | false => rw [hs] at h; cases h
  | true =>
    rw [hs] at h
    simp only [Bool.not_true, cond_false] at h
    have hd : ¬ 128 ≤ c.headD 0 := fun e => by simp only [e, decide_true, cond_true] at h; cases h
    unfold natB
    rw [bare_bare]
    match c, hs with
    | [], hs => cases hs
    | [a], hs =>
      by_cases ha : a = 0
      · subst ha; rfl
      · rw [bare_n [] ha]
        have : ¬ 128 ≤ a := hd
        simp [this]
    | a :: b :: r, hs =>
      by_cases ha : a = 0
      · subst ha
        have hb : ¬ b < 128 := fun e => by simp [short, e] at hs
        have hb2 : 128 ≤ b := UInt8.not_lt.1 hb
        have hb0 : b ≠ 0 := fun e => by rw [e] at hb2; exact absurd hb2 (by decide)
        rw [bare_0, bare_n r hb0]
        simp [hb2]
      · rw [bare_n _ ha]
        have : ¬ 128 ≤ a := hd
        simp [this]
theorem pad_len {c : B} (h : c.length ≤ 32) : (pad32 c).length = 32 := by
  unfold pad32; simp; omega
theorem half_len (c : B) : (halfC c).length = 32 := by
  unfold halfC
  cases hh : halfE c == 0 with
  | false => simp [zer]
  | true =>
    rw [cond_true]
    refine pad_len ?_
    rw [beq_iff_eq] at hh
    unfold halfE at hh
    cases h0 : toNatE c == 0 with
    | false => rw [h0, cond_false] at hh; rw [hh] at h0; cases h0
    | true =>
      rw [h0, cond_true] at hh
      cases h1 : Nat.blt 32 (toNatC c).length with
      | true => rw [h1] at hh; cases hh
      | false => exact blt_no h1
theorem half_canon {c : B} (h : halfE c = 0) : natB (halfC c) = c := by
  have h' := h
  unfold halfC
  rw [h]
  simp only [beq_self_eq_true, cond_true]
  unfold halfE at h
  cases h0 : toNatE c == 0 with
  | false => rw [h0, cond_false] at h; rw [h] at h0; cases h0
  | true =>
    have h1 : toNatE c = 0 := by simpa using h0
    have h2 : toNatC c = bare c := by unfold toNatC; rw [h1]; rfl
    have h3 := nat_canon h1
    rw [h2]
    unfold natB pad32 at *
    rw [bare_zeros]
    exact h3
theorem decC_len (b : B) : (decC b).length = 64 := by
  unfold decC
  cases decE b == 0 with
  | false => simp [zer]
  | true =>
    rw [cond_true]
    split
    · simp [half_len]
    · simp [zer]
/-- What is read as a signature has just these bytes. -/
theorem dec_canon {b : B} (h : decE b = 0) : encB (decC b) = b := by
  have h' := h
  unfold decE at h
  cases h1 : oneE b == 0 with
  | false => rw [h1, cond_false] at h; rw [h] at h1; cases h1
  | true =>
    rw [h1, cond_true] at h
    cases h2 : oneT b == 48 with
    | false => rw [h2] at h; cases h
    | true =>
      rw [h2, cond_true] at h
      cases h3 : allE (oneC b) == 0 with
      | false => rw [h3, cond_false] at h; rw [h] at h3; cases h3
      | true =>
        rw [h3, cond_true] at h
        have e1 : oneE b = 0 := by simpa using h1
        have e2 : oneT b = 48 := by simpa using h2
        have e3 : allE (oneC b) = 0 := by simpa using h3
        obtain ⟨_, _, hb⟩ := one_canon e1
        obtain ⟨hc, hl, _⟩ := all_canon e3
        unfold decC
        rw [h']
        simp only [beq_self_eq_true, cond_true]
        split at h
        · rename_i x y hxy
          cases h4 : (x.1 == 2 && y.1 == 2) with
          | false => rw [h4] at h; cases h
          | true =>
            rw [h4, cond_true] at h
            cases h5 : halfE x.2 == 0 with
            | false => rw [h5, cond_false] at h; rw [h] at h5; cases h5
            | true =>
              rw [h5, cond_true] at h
              have e5 : halfE x.2 = 0 := by simpa using h5
              simp only [Bool.and_eq_true, beq_iff_eq] at h4
              unfold encB
              rw [List.take_left' (half_len _), List.drop_left' (half_len _), half_canon e5, half_canon h]
              rw [hb, e2, hc, hxy]
              simp only [List.map_cons, List.map_nil, List.flatten_cons, List.flatten_nil, List.append_nil, elemE, h4.1, h4.2]
              rfl
        · cases h
end Go.Dv.S
end
section
/- What functions come to, path by path: printed by eqs2.py. -/
namespace Go.Dv
open Go.Proofs Go.Dv.S
abbrev t_sign_half : List (FuncId × Spec) := [(102, S_num_ToNat)]
abbrev t_sign_Decode : List (FuncId × Spec) := [(47, S_der_One), (48, S_der_All), (49, S_sign_half)]
abbrev t_curve_Order : List (FuncId × Spec) := []
theorem e_sign_half (Lp : LpT) (s : List (List DV)) (t : Int) : run P0 T0 Lp (Lt t_sign_half) nY 49 [.agg [.int .i64 t, .fz s]] =
    (Option.bind (Go.Dv.S.dB (DV.fz s)) fun v0 => (bif (Go.Dv.S.toNatE v0 != Int.ofNat 0) then (some ((DRes.ret (DV.tup [(DV.agg (List.replicate 32 ((DV.int (IntKind.u8) (0 : Int))))), (DV.int (IntKind.i64) (Go.Dv.S.toNatE v0))])), [])) else (bif (decide ((↑(Go.Dv.S.byt (Go.Dv.S.toNatC v0)).length : Int) > 32)) then (some ((DRes.ret (DV.tup [(DV.agg (List.replicate 32 ((DV.int (IntKind.u8) (0 : Int))))), (DV.int (IntKind.i64) (21 : Int))])), [])) else (Option.bind (Go.Pv.upTo (IntKind.i64.wrap (Int.ofNat 32 - (↑(Go.Dv.S.byt (Go.Dv.S.toNatC v0)).length : Int))) 32) fun v1 => (Option.bind (bif ((Go.Dv.S.byt (Go.Dv.S.toNatC v0)).all fun (x : List Go.Dv.DV) => x.length.beq 1) then (some (((Go.Dv.S.byt (Go.Dv.S.toNatC v0)).length), ((Go.Dv.S.byt (Go.Dv.S.toNatC v0)).flatten))) else none) fun v2 => (bif ((0 + v1 * 1 + (List.take (v2.fst.min (32 - v1) * 1) v2.snd).length).ble 32) then (bif (Nat.ble 32 (Go.Dv.splice (List.replicate 32 (DV.int Go.IntKind.u8 (0 : Int))) (0 + v1 * 1) (List.take (v2.fst.min (32 - v1) * 1) v2.snd)).length) then (bif ((List.take 32 (List.drop 0 (Go.Dv.splice (List.replicate 32 (DV.int Go.IntKind.u8 (0 : Int))) (0 + v1 * 1) (List.take (v2.fst.min (32 - v1) * 1) v2.snd)))).length.beq 32) then (bif ((0 + (List.take 32 (List.drop 0 (Go.Dv.splice (List.replicate 32 (DV.int Go.IntKind.u8 (0 : Int))) (0 + v1 * 1) (List.take (v2.fst.min (32 - v1) * 1) v2.snd)))).length).ble 32) then (bif (Nat.ble 32 (Go.Dv.splice (List.replicate 32 (DV.int Go.IntKind.u8 (0 : Int))) 0 (List.take 32 (List.drop 0 (Go.Dv.splice (List.replicate 32 (DV.int Go.IntKind.u8 (0 : Int))) (0 + v1 * 1) (List.take (v2.fst.min (32 - v1) * 1) v2.snd))))).length) then (Option.bind (Option.bind (Option.bind (Option.bind (Go.Dv.freezeWith (Go.Dv.freezeV 62 [(DBlk.mk (Go.Dv.splice (List.replicate 32 (DV.int Go.IntKind.u8 (0 : Int))) (0 + v1 * 1) (List.take (v2.fst.min (32 - v1) * 1) v2.snd)) (23) (Bool.false) (Bool.false) (Bool.true) none)]) (List.take 32 (List.drop 0 (Go.Dv.splice (List.replicate 32 (DV.int Go.IntKind.u8 (0 : Int))) 0 (List.take 32 (List.drop 0 (Go.Dv.splice (List.replicate 32 (DV.int Go.IntKind.u8 (0 : Int))) (0 + v1 * 1) (List.take (v2.fst.min (32 - v1) * 1) v2.snd)))))))) fun v3 => (some ((DV.agg (v3.fst)), (v3.snd)))) fun v4 => (some ([(v4.fst), (DV.int (IntKind.i64) (0 : Int))], (v4.snd ++ ([] ++ []))))) fun v5 => (some ((DV.tup (v5.fst)), (v5.snd)))) fun v6 => (some ((DRes.ret (v6.fst)), []))) else none) else none) else none) else none) else none)))))) := by kernel_rfl
theorem e_sign_Decode (Lp : LpT) (s : List (List DV)) : run P0 T0 Lp (Lt t_sign_Decode) nY 12 [.fz s] =
    (Option.bind (Go.Dv.S.dB (DV.fz s)) fun v0 => (bif (Go.Dv.S.oneE v0 != Int.ofNat 0) then (some ((DRes.ret (DV.tup [(DV.agg (List.replicate 64 ((DV.int (IntKind.u8) (0 : Int))))), (DV.int (IntKind.i64) (Go.Dv.S.oneE v0))])), [])) else (bif (Go.Dv.S.oneT v0 != Int.ofNat 48) then (some ((DRes.ret (DV.tup [(DV.agg (List.replicate 64 ((DV.int (IntKind.u8) (0 : Int))))), (DV.int (IntKind.i64) (20 : Int))])), [])) else (Option.bind (Go.Dv.S.dB (DV.fz (Go.Dv.S.byt (Go.Dv.S.oneC v0)))) fun v1 => (bif (Go.Dv.S.allE v1 != Int.ofNat 0) then (some ((DRes.ret (DV.tup [(DV.agg (List.replicate 64 ((DV.int (IntKind.u8) (0 : Int))))), (DV.int (IntKind.i64) (Go.Dv.S.allE v1))])), [])) else (bif ((↑(Go.Dv.S.elts (Go.Dv.S.allL v1)).length : Int) != Int.ofNat 2) then (some ((DRes.ret (DV.tup [(DV.agg (List.replicate 64 ((DV.int (IntKind.u8) (0 : Int))))), (DV.int (IntKind.i64) (20 : Int))])), [])) else (Option.bind (Go.Pv.idx (0 : Int) (Go.Dv.S.elts (Go.Dv.S.allL v1)).length) fun v2 => (Option.bind (Go.Dv.S.elts (Go.Dv.S.allL v1))[(v2)]? fun v3 => (Option.bind (Go.Dv.unc v3) fun v4 => (Option.bind (Go.Dv.toInt Go.IntKind.i64 v4.fst) fun v5 => (Option.bind (Go.Dv.unc v4.snd) fun v6 => (Option.bind (Go.Dv.toFz v6.fst) fun v7 => (bif (v6.snd.isEmpty) then (bif (v5 != Int.ofNat 2) then (some ((DRes.ret (DV.tup [(DV.agg (List.replicate 64 ((DV.int (IntKind.u8) (0 : Int))))), (DV.int (IntKind.i64) (20 : Int))])), [])) else (Option.bind (Go.Pv.idx (1 : Int) (Go.Dv.S.elts (Go.Dv.S.allL v1)).length) fun v8 => (Option.bind (Go.Dv.S.elts (Go.Dv.S.allL v1))[(v8)]? fun v9 => (Option.bind (Go.Dv.unc v9) fun v10 => (Option.bind (Go.Dv.toInt Go.IntKind.i64 v10.fst) fun v11 => (Option.bind (Go.Dv.unc v10.snd) fun v12 => (Option.bind (Go.Dv.toFz v12.fst) fun v13 => (bif (v12.snd.isEmpty) then (bif (v11 != Int.ofNat 2) then (some ((DRes.ret (DV.tup [(DV.agg (List.replicate 64 ((DV.int (IntKind.u8) (0 : Int))))), (DV.int (IntKind.i64) (20 : Int))])), [])) else (Option.bind (Go.Pv.idx (0 : Int) (Go.Dv.S.elts (Go.Dv.S.allL v1)).length) fun v14 => (Option.bind (Go.Dv.S.elts (Go.Dv.S.allL v1))[(v14)]? fun v15 => (Option.bind (Go.Dv.unc v15) fun v16 => (Option.bind (Go.Dv.toInt Go.IntKind.i64 v16.fst) fun v17 => (Option.bind (Go.Dv.unc v16.snd) fun v18 => (Option.bind (Go.Dv.toFz v18.fst) fun v19 => (bif (v18.snd.isEmpty) then (Option.bind (Go.Dv.S.dEl (DV.agg [DV.int Go.IntKind.i64 v17, DV.fz v19])) fun v20 => (bif (Go.Dv.S.halfE v20.snd != Int.ofNat 0) then (some ((DRes.ret (DV.tup [(DV.agg (List.replicate 64 ((DV.int (IntKind.u8) (0 : Int))))), (DV.int (IntKind.i64) (Go.Dv.S.halfE v20.snd))])), [])) else (Option.bind (Go.Pv.idx (1 : Int) (Go.Dv.S.elts (Go.Dv.S.allL v1)).length) fun v21 => (Option.bind (Go.Dv.S.elts (Go.Dv.S.allL v1))[(v21)]? fun v22 => (Option.bind (Go.Dv.unc v22) fun v23 => (Option.bind (Go.Dv.toInt Go.IntKind.i64 v23.fst) fun v24 => (Option.bind (Go.Dv.unc v23.snd) fun v25 => (Option.bind (Go.Dv.toFz v25.fst) fun v26 => (bif (v25.snd.isEmpty) then (Option.bind (Go.Dv.S.dEl (DV.agg [DV.int Go.IntKind.i64 v24, DV.fz v26])) fun v27 => (bif (Go.Dv.S.halfE v27.snd != Int.ofNat 0) then (some ((DRes.ret (DV.tup [(DV.agg (List.replicate 64 ((DV.int (IntKind.u8) (0 : Int))))), (DV.int (IntKind.i64) (Go.Dv.S.halfE v27.snd))])), [])) else (some ((DRes.ret (DV.tup [(DV.agg ((List.map (fun (i' : Nat) => (DV.int (IntKind.u8) ((↑(List.getD (Go.Dv.S.halfC v20.snd) i' 0).toNat : Int)))) (List.range 32)) ++ (List.map (fun (i' : Nat) => (DV.int (IntKind.u8) ((↑(List.getD (Go.Dv.S.halfC v27.snd) i' 0).toNat : Int)))) (List.range 32)))), (DV.int (IntKind.i64) (0 : Int))])), [])))) else none))))))))) else none)))))))) else none)))))))) else none))))))))))))) := by kernel_rfl
theorem e_curve_Order (Lp : LpT)  : run P0 T0 Lp (Lt t_curve_Order) nY 54 [] =
    (some ((DRes.ret (DV.agg ([(DV.int (IntKind.u8) (255 : Int)), (DV.int (IntKind.u8) (255 : Int)), (DV.int (IntKind.u8) (255 : Int)), (DV.int (IntKind.u8) (255 : Int)), (DV.int (IntKind.u8) (0 : Int)), (DV.int (IntKind.u8) (0 : Int)), (DV.int (IntKind.u8) (0 : Int)), (DV.int (IntKind.u8) (0 : Int))] ++ (List.replicate 8 ((DV.int (IntKind.u8) (255 : Int)))) ++ [(DV.int (IntKind.u8) (188 : Int)), (DV.int (IntKind.u8) (230 : Int)), (DV.int (IntKind.u8) (250 : Int)), (DV.int (IntKind.u8) (173 : Int)), (DV.int (IntKind.u8) (167 : Int)), (DV.int (IntKind.u8) (23 : Int)), (DV.int (IntKind.u8) (158 : Int)), (DV.int (IntKind.u8) (132 : Int)), (DV.int (IntKind.u8) (243 : Int)), (DV.int (IntKind.u8) (185 : Int)), (DV.int (IntKind.u8) (202 : Int)), (DV.int (IntKind.u8) (194 : Int)), (DV.int (IntKind.u8) (252 : Int)), (DV.int (IntKind.u8) (99 : Int)), (DV.int (IntKind.u8) (37 : Int)), (DV.int (IntKind.u8) (81 : Int))]))), [])) := by kernel_rfl
end Go.Dv
end
section
/- What functions come to, path by path: printed by eqs2.py. -/
namespace Go.Dv
open Go.Proofs Go.Dv.S
abbrev t_sign_Encode : List (FuncId × Spec) := [(44, S_num_Nat), (43, P_der_Put)]
theorem e_sign_Encode (Lp : LpT) (u : Nat → Int) : run P0 T0 Lp (Lt t_sign_Encode) nY 10 [.agg ((List.range 64).map fun i => .int .u8 (u i))] =
    (Option.bind (Go.Dv.S.dBm (DV.fz (Go.Dv.chunks 1 32 (List.map (fun (i' : Nat) => DV.int Go.IntKind.u8 (u i')) (List.range 32))))) fun v0 => (Option.bind (Go.Dv.S.dPut [DV.fz [], DV.int Go.IntKind.i64 (2 : Int), DV.fz (Go.Dv.chunks 1 1 [DV.fz (Go.Dv.S.byt (Go.Dv.S.natB v0))])]) fun v1 => (Option.bind (Go.Dv.S.dBm (DV.fz (Go.Dv.chunks 1 32 (List.map (fun (i' : Nat) => DV.int Go.IntKind.u8 (u (32 + i'))) (List.range 32))))) fun v2 => (Option.bind (Option.bind (Option.bind (bif ((0 + List.length (v1.fst ++ Go.Dv.S.elemB (Go.Dv.S.b8 v1.snd.fst.toNat) v1.snd.snd.flatten) * 1).ble (Go.Dv.ofBytes (v1.fst ++ Go.Dv.S.elemB (Go.Dv.S.b8 v1.snd.fst.toNat) v1.snd.snd.flatten)).length) then (some (List.take (List.length (v1.fst ++ Go.Dv.S.elemB (Go.Dv.S.b8 v1.snd.fst.toNat) v1.snd.snd.flatten) * 1) (List.drop 0 (Go.Dv.ofBytes (v1.fst ++ Go.Dv.S.elemB (Go.Dv.S.b8 v1.snd.fst.toNat) v1.snd.snd.flatten))))) else none) fun v3 => (Option.bind (Go.Dv.frozL v3) fun v4 => (some ((DV.fz (Go.Dv.chunks 1 (List.length (v1.fst ++ Go.Dv.S.elemB (Go.Dv.S.b8 v1.snd.fst.toNat) v1.snd.snd.flatten)) v4)), [(2)])))) fun v5 => (some ([(v5.fst), (DV.int (IntKind.i64) (2 : Int)), (DV.fz [[(DV.fz (Go.Dv.S.byt (Go.Dv.S.natB v2)))]])], (v5.snd ++ ([] ++ (3 :: ([] ++ []) ++ [])))))) fun v6 => (Option.bind (Go.Dv.S.dPut v6.fst) fun v7 => (Option.bind (Option.bind (Option.bind (Option.bind (Option.bind (Option.bind (Option.bind (bif ((0 + List.length (v7.fst ++ Go.Dv.S.elemB (Go.Dv.S.b8 v7.snd.fst.toNat) v7.snd.snd.flatten) * 1).ble (Go.Dv.ofBytes (v7.fst ++ Go.Dv.S.elemB (Go.Dv.S.b8 v7.snd.fst.toNat) v7.snd.snd.flatten)).length) then (some (List.take (List.length (v7.fst ++ Go.Dv.S.elemB (Go.Dv.S.b8 v7.snd.fst.toNat) v7.snd.snd.flatten) * 1) (List.drop 0 (Go.Dv.ofBytes (v7.fst ++ Go.Dv.S.elemB (Go.Dv.S.b8 v7.snd.fst.toNat) v7.snd.snd.flatten))))) else none) fun v8 => (Option.bind (Go.Dv.frozL v8) fun v9 => (some ((DV.fz (Go.Dv.chunks 1 (List.length (v7.fst ++ Go.Dv.S.elemB (Go.Dv.S.b8 v7.snd.fst.toNat) v7.snd.snd.flatten)) v9)), [(4)])))) fun v10 => (some ([(v10.fst)], (v10.snd ++ [])))) fun v11 => (some ((DV.fz [(List.take 1 v11.fst)]), ((5) :: (v11.snd))))) fun v12 => (some ([(v12.fst)], (v12.snd ++ [])))) fun v13 => (some (((DV.int (IntKind.i64) (48 : Int)) :: (v13.fst)), ([] ++ v13.snd)))) fun v14 => (some (((DV.fz []) :: (v14.fst)), ([] ++ v14.snd)))) fun v15 => (Option.bind (Go.Dv.S.dPut v15.fst) fun v16 => (Option.bind (bif ((Go.Dv.ofBytes (v16.fst ++ Go.Dv.S.elemB (Go.Dv.S.b8 v16.snd.fst.toNat) v16.snd.snd.flatten)).length.beq ((List.length (v16.fst ++ Go.Dv.S.elemB (Go.Dv.S.b8 v16.snd.fst.toNat) v16.snd.snd.flatten) + 0) * 1)) then (Option.bind (bif ((Go.Dv.ofBytes (v16.fst ++ Go.Dv.S.elemB (Go.Dv.S.b8 v16.snd.fst.toNat) v16.snd.snd.flatten)).all Go.Dv.froz) then (some (Go.Dv.ofBytes (v16.fst ++ Go.Dv.S.elemB (Go.Dv.S.b8 v16.snd.fst.toNat) v16.snd.snd.flatten))) else none) fun v17 => (some ([(DV.sl (0) (0) (List.length (v16.fst ++ Go.Dv.S.elemB (Go.Dv.S.b8 v16.snd.fst.toNat) v16.snd.snd.flatten)) (0) (1))], [(DBlk.mk (v17) (5) (Bool.true) (Bool.false) (Bool.true) none)]))) else none) fun v18 => (Option.bind (match (Go.Dv.unflat [Go.Dv.OwnT.one (some (5, 1))] v18.fst) with | List.nil  => none | List.cons v19 v20 => (some (v19 ))) fun v21 => (some ((DRes.ret (v21 )), (v18.snd)))))))))))) := by kernel_rfl
end Go.Dv
end

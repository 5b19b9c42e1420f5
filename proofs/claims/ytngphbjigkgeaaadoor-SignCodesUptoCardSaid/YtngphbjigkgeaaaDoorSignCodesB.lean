/- What the functions come to that the statement's law runs, and the statement itself. Parts: CoH, CoI, CoJ, CoK, CoL, CoM, CoN, CoO, SpB, CtE, EqE, CoP, CoQ, CtH, SpC, EqI, EqJ. -/
import Derived.KernelRfl
import Derived.Test.YtngphbjigkgeaaaDoorSignCodesA
set_option linter.unusedVariables false
set_option linter.unusedSimpArgs false
set_option linter.unusedSectionVars false
section
namespace Go.Dv
open Go.Proofs Go.Dv.S
open Go.Pv (idx upTo)
namespace Sx
theorem sp11 (x : DV) : List.take 1 (List.drop 0 (splice (repeatCells [DV.int IntKind.u8 0] 1) 0 [x])) = [x] := rfl
theorem sp11' (x : DV) : List.take 1 (splice (ofBytes (List.replicate 1 0)) 0 [x]) = [x] := rfl
theorem ch1 (x : DV) : chunks 1 1 [x] = [[x]] := rfl
theorem ch2 (x y : DV) : chunks 1 2 [x, y] = [[x], [y]] := rfl
theorem ch3 (x y z : DV) : chunks 1 3 [x, y, z] = [[x], [y], [z]] := rfl
theorem ch4 (x y z w : DV) : chunks 1 4 [x, y, z, w] = [[x], [y], [z], [w]] := rfl
theorem dBs1 {a : B} (h : a.length ≤ 1099511627776) : dBs (.fz [[.fz (byt a)]]) = some [a] := dBs_ok (l := [a]) (by unfold lim; simp) (by unfold lim; simpa using h)
theorem dBs2 {a b : B} (h : a.length + b.length ≤ 1099511627776) : dBs (.fz [[.fz (byt a)], [.fz (byt b)]]) = some [a, b] := dBs_ok (l := [a, b]) (by unfold lim; simp) (by unfold lim; simpa using h)
theorem dBs3 {a b c : B} (h : a.length + b.length + c.length ≤ 1099511627776) : dBs (.fz [[.fz (byt a)], [.fz (byt b)], [.fz (byt c)]]) = some [a, b, c] := dBs_ok (l := [a, b, c]) (by unfold lim; simp) (by unfold lim; simp; omega)
theorem dBs4 {a b c d : B} (h : a.length + b.length + c.length + d.length ≤ 1099511627776) : dBs (.fz [[.fz (byt a)], [.fz (byt b)], [.fz (byt c)], [.fz (byt d)]]) = some [a, b, c, d] := dBs_ok (l := [a, b, c, d]) (by unfold lim; simp) (by unfold lim; simp; omega)
theorem l1c (x : DV) : l1 [x] = some x := rfl
theorem l2c (x y : DV) : l2 [x, y] = some (x, y) := rfl
theorem l3c (x y z : DV) : l3 [x, y, z] = some (x, y, z) := rfl
theorem l4c (x y z w : DV) : l4 [x, y, z, w] = some (x, y, z, w) := rfl
theorem frozC (s : B) : (ofBytes s).all froz = true := ofBytes_froz s
end Sx
theorem byt1 (c : UInt8) : [[DV.int IntKind.u8 (c.toNat : Int)]] = byt [c] := rfl
theorem obE_mk (e : Int) {s s' : B} {n : Nat} (h2 : s = s') (h1 : n = s'.length) : some (DRes.ret (.tup [.sl 0 0 n 0 1, .int .i64 e]), [newBlk (ofBytes s) 5]) = some (obE s' e) := by
 subst h2 h1; rfl
theorem dBm_inv {x : DV} {s : B} (h : dBm x = some s) : x = .fz (byt s) ∧ s.length ≤ 274877906944 := by
 cases x <;> simp only [dBm] at h <;> try (cases h; done)
 obtain ⟨h1, h2⟩ := bif1 h
 obtain ⟨rfl, _⟩ := unB_inv h2
 rw [byt_len] at h1
 exact ⟨rfl, Nat.le_of_ble_eq_true h1⟩
theorem dBm_ok {s : B} (h : s.length ≤ 274877906944) : dBm (.fz (byt s)) = some s := by
 show (bif Nat.ble (byt s).length 274877906944 then unB (byt s) else none) = _
 rw [byt_len, Sx.bleT h, cond_true]
 exact unB_ok (by unfold lim; omega)
theorem l_Put (b : B) (l : List B) (n : Nat) (hn : isTag n = true) (hb : b.length ≤ 274877906944) (hf : l.flatten.length ≤ lim) (hl : l.length ≤ lim) : ∀ m i (t : Nat), l.length - i = m → i ≤ l.length → t + (l.drop i).flatten.length = l.flatten.length → t ≤ maxC →
  LoopLim (tdF T0 43 none 0) (bodyF P0 T0 (fun _ => LoopLim) (Lt t_der_Put) nY [] 43 none 0) (kontF P0 T0 (fun _ => LoopLim) (Lt t_der_Put) nY [] 43 0) (stD 44 [(0, .v (.fz (byt b))), (1, .v (.int .i64 n)), (2, .v (.fz (byts l))), (8, .v (.int .i64 t)), (15, .v (.fz (byts l))), (16, .v (.int .i64 l.length)), (17, .v (.int .i64 i))] []) [] = some (bif Nat.ble l.flatten.length maxC then obE (b ++ elemB (b8 n) l.flatten) 0 else obE [] 3) := by
 have hc : Cons P0 T0 t_der_Put := ⟨c_der_isTag, c_slices_Concat, c_der_length, trivial⟩
 intro m
 induction m with
 | zero =>
  intro i t hm hi ht htm
  have hie : i = l.length := by omega
  subst hie
  simp only [List.drop_length, List.flatten_nil, List.length_nil, Nat.add_zero] at ht
  subst ht
  refine loop_step hc.cont ?_
  rw [b_der_Put_0, Sx.ltF (Int.le_refl _), cond_false]
  refine Eq.trans ?_ ((x_der_Put_0 (fun _ => LoopLim) (byt b) (byts l) n l.flatten.length l.length l.length false).trans ?_)
  ·(show _ = _; kernel_rfl)
  ·have h3 := (lenB_len l.flatten.length).1
   have hfl : dBs (DV.fz (byts l)) = some l := dBs_ok hl hf
   unfold maxC at htm ⊢
   rw [dM_ok htm]
   simp (disch := (first | omega | (simp only [List.length_cons, List.length_append, List.length_nil, List.length_take, List.length_drop, List.length_replicate, byt_len, ofBytes_len, byts_len, Sx.tn, Sx.tn1, Sx.tnL]; done) | (simp only [List.length_cons, List.length_append, List.length_nil, List.length_take, List.length_drop, List.length_replicate, byt_len, ofBytes_len, byts_len, Sx.tn, Sx.tn1, Sx.tnL]; omega))) only [Option.bind_some, wb8, byt1, hfl, Sx.takeAll, Sx.dropAll, List.drop_succ_cons, List.drop_zero, List.getD_cons_zero, List.getD_cons_succ, byt_len, ofBytes_len, byt_all, byt_flatten, byt_flat_len, Sx.byt_get, Sx.ofB_get, Sx.byt_take, Sx.byt_drop, Sx.byt_app, Sx.ofB_take, Sx.ofB_drop, Sx.ofB_app, Sx.ofB_snoc, Sx.chunkB, Sx.frozB, Sx.zeros, ofBytes_froz, toBytes_of, Sx.uncC, Sx.toI, Sx.toF, Sx.toS, Sx.toB, List.length_append, List.length_cons, List.length_nil, List.length_take, List.length_drop, List.length_replicate, Sx.sp11, Sx.sp11', Sx.ch1, Sx.ch2, Sx.ch3, Sx.ch4, Sx.dBs1, Sx.dBs2, Sx.dBs3, Sx.dBs4, List.flatten_cons, List.flatten_nil, List.append_nil, List.take_succ_cons, List.take_zero, Sx.l1c, Sx.l2c, Sx.l3c, Sx.l4c, Sx.frozC, cond_true, Sx.bleT, Sx.dBs2, Sx.beqT, Nat.add_zero, Nat.mul_one]
   simp only [elemB, List.singleton_append, List.cons_append, List.append_assoc]
   exact obE_mk _ (by simp) (by simp; omega)
 | succ m ih =>
  intro i t hm hi ht htm
  have hil : i < l.length := by omega
  have hd := List.drop_eq_getElem_cons hil
  rw [hd, List.flatten_cons, List.length_append] at ht
  have hs' := hf
  have hl' := hl
  unfold lim at hs' hl'
  have htm' := htm
  unfold maxC at htm'
  refine loop_step hc.cont ?_
  rw [b_der_Put_0]
  rcases Nat.lt_or_ge (16777215 - t) l[i].length with h1 | h1
  ·simp (disch := (first | omega | (simp only [List.length_cons, List.length_append, List.length_nil, List.length_take, List.length_drop, List.length_replicate, byt_len, ofBytes_len, byts_len, Sx.tn, Sx.tn1, Sx.tnL]; done) | (simp only [List.length_cons, List.length_append, List.length_nil, List.length_take, List.length_drop, List.length_replicate, byt_len, ofBytes_len, byts_len, Sx.tn, Sx.tn1, Sx.tnL]; omega))) only [Sx.w64, Sx.wu8, Sx.idxI, Sx.upI, Sx.bleT, Sx.bleF, Sx.beqT, Sx.beqF, Sx.ltT, Sx.ltF, Sx.leT, Sx.leF, Sx.gtT, Sx.gtF, Sx.geT, Sx.geF, Sx.eqT, Sx.eqF, Sx.neT, Sx.neF, Sx.ofN, Sx.tn, Sx.tn1, cond_true, cond_false, Option.bind_some, Bool.true_and, Bool.and_true, Bool.false_and, Bool.and_false, Bool.and_self, Bool.not_true, Bool.not_false, Bool.or_false, Bool.or_true, Bool.false_or, Bool.true_or, decide_true, decide_false, Nat.zero_add, Nat.add_zero, Nat.mul_one, Nat.sub_zero, List.drop_zero, List.isEmpty_nil, Int.ofNat_eq_natCast, Sx.castN, Int.natCast_zero, Int.natCast_one, Sx.tnL, Int.sub_zero, Int.add_zero, Int.zero_add, Sx.takeAll, Sx.dropAll, List.drop_succ_cons, List.drop_zero, List.getD_cons_zero, List.getD_cons_succ, byt_len, ofBytes_len, byt_all, byt_flatten, byt_flat_len, Sx.byt_get, Sx.ofB_get, Sx.byt_take, Sx.byt_drop, Sx.byt_app, Sx.ofB_take, Sx.ofB_drop, Sx.ofB_app, Sx.ofB_snoc, Sx.chunkB, Sx.frozB, Sx.zeros, ofBytes_froz, toBytes_of, Sx.uncC, Sx.toI, Sx.toF, Sx.toS, Sx.toB, List.length_append, List.length_cons, List.length_nil, List.length_take, List.length_drop, List.length_replicate, byts_get]
   have h2 : Nat.ble l.flatten.length maxC = false := Sx.bleF (by unfold maxC; omega)
   rw [h2, cond_false]
   (show _ = _; kernel_rfl)
  ·have hnx := ih (i + 1) (t + l[i].length) (by omega) hil (by omega) (by unfold maxC; omega)
   simp (disch := (first | omega | (simp only [List.length_cons, List.length_append, List.length_nil, List.length_take, List.length_drop, List.length_replicate, byt_len, ofBytes_len, byts_len, Sx.tn, Sx.tn1, Sx.tnL]; done) | (simp only [List.length_cons, List.length_append, List.length_nil, List.length_take, List.length_drop, List.length_replicate, byt_len, ofBytes_len, byts_len, Sx.tn, Sx.tn1, Sx.tnL]; omega))) only [Sx.w64, Sx.wu8, Sx.idxI, Sx.upI, Sx.bleT, Sx.bleF, Sx.beqT, Sx.beqF, Sx.ltT, Sx.ltF, Sx.leT, Sx.leF, Sx.gtT, Sx.gtF, Sx.geT, Sx.geF, Sx.eqT, Sx.eqF, Sx.neT, Sx.neF, Sx.ofN, Sx.tn, Sx.tn1, cond_true, cond_false, Option.bind_some, Bool.true_and, Bool.and_true, Bool.false_and, Bool.and_false, Bool.and_self, Bool.not_true, Bool.not_false, Bool.or_false, Bool.or_true, Bool.false_or, Bool.true_or, decide_true, decide_false, Nat.zero_add, Nat.add_zero, Nat.mul_one, Nat.sub_zero, List.drop_zero, List.isEmpty_nil, Int.ofNat_eq_natCast, Sx.castN, Int.natCast_zero, Int.natCast_one, Sx.tnL, Int.sub_zero, Int.add_zero, Int.zero_add, Sx.takeAll, Sx.dropAll, List.drop_succ_cons, List.drop_zero, List.getD_cons_zero, List.getD_cons_succ, byt_len, ofBytes_len, byt_all, byt_flatten, byt_flat_len, Sx.byt_get, Sx.ofB_get, Sx.byt_take, Sx.byt_drop, Sx.byt_app, Sx.ofB_take, Sx.ofB_drop, Sx.ofB_app, Sx.ofB_snoc, Sx.chunkB, Sx.frozB, Sx.zeros, ofBytes_froz, toBytes_of, Sx.uncC, Sx.toI, Sx.toF, Sx.toS, Sx.toB, List.length_append, List.length_cons, List.length_nil, List.length_take, List.length_drop, List.length_replicate, byts_get]
   refine leafT (X := true) hnx ?_ rfl ?_ rfl
   ·(show _ = _; kernel_rfl)
   ·(show _ = _; kernel_rfl)
theorem c_der_Put : Con P0 T0 43 S_der_Put := coq3 fun x b y t z l hx hy hz => by
 obtain ⟨rfl, hb⟩ := dBm_inv hx
 obtain rfl := dI_inv hy
 obtain ⟨rfl, hl, hf⟩ := dBs_inv hz
 rcases Bool.eq_false_or_eq_true (isTag t) with ht | ht
 ·have ht' := ht
  unfold isTag at ht'
  simp only [Bool.and_eq_true, decide_eq_true_eq] at ht'
  obtain ⟨n, rfl⟩ := Int.eq_ofNat_of_zero_le ht'.1.1
  refine Lx.of_in (tab := t_der_Put) ⟨c_der_isTag, c_slices_Concat, c_der_length, trivial⟩ ?_
  rw [e_der_Put, ht, Bool.not_true, cond_false, byts_len]
  have h := l_Put b l n ht hb hf hl l.length 0 0 (by omega) (by omega) (by simp) (by omega)
  simp only [Bq.val, ht, cond_true, Int.toNat_natCast]
  refine headT (h.trans ?_) ?_
  ·cases Nat.ble l.flatten.length maxC <;> rfl
  ·(show _ = _; kernel_rfl)
 ·refine Lx.of_in (tab := t_der_Put) ⟨c_der_isTag, c_slices_Concat, c_der_length, trivial⟩ ?_
  rw [e_der_Put, ht]
  simp only [Bq.val, ht, cond_false]
  rfl
end Go.Dv
end
section
namespace Go.Dv
open Go.Proofs Go.Dv.S
open Go.Pv (idx upTo)
theorem u8_geI (c : UInt8) (n : Nat) (hn : n < 256) : decide ((c.toNat : Int) ≥ (n : Int)) = decide (UInt8.ofNat n ≤ c) := by
 rw [decide_eq_decide, UInt8.le_iff_toNat_le, UInt8.toNat_ofNat']
 omega
theorem u8_ltI (c : UInt8) (n : Nat) (hn : n < 256) : decide ((c.toNat : Int) < (n : Int)) = decide (c < UInt8.ofNat n) := by
 rw [decide_eq_decide, UInt8.lt_iff_toNat_lt, UInt8.toNat_ofNat']
 omega
theorem u8_128 (c : UInt8) : decide ((c.toNat : Int) ≥ 128) = decide (128 ≤ c) := u8_geI c 128 (by omega)
theorem u8_l128 (c : UInt8) : decide ((c.toNat : Int) < 128) = decide (c < 128) := u8_ltI c 128 (by omega)
theorem u8_eqI (c : UInt8) (n : Nat) (hn : n < 256) : ((c.toNat : Int) == (n : Int)) = (c == UInt8.ofNat n) := by
 rw [Bool.eq_iff_iff, beq_iff_eq, beq_iff_eq, ← UInt8.toNat_inj, UInt8.toNat_ofNat']
 omega
theorem u8_255 (c : UInt8) : ((c.toNat : Int) == 255) = (c == 255) := u8_eqI c 255 (by omega)
theorem byt10 : [[DV.int IntKind.u8 0]] = byt [0] := rfl
theorem c_num_Nat : Con P0 T0 44 S_num_Nat := con1 fun x s hx => by
 obtain ⟨rfl, hl⟩ := dBm_inv hx
 have hx' : dB (.fz (byt s)) = some s := dB_ok (by unfold lim; omega)
 refine Lx.of_in (tab := t_num_Nat) ⟨c_bytes_TrimLeft, c_slices_Concat, c_slices_Clone_byte_byte, trivial⟩ ?_
 rw [e_num_Nat]
 simp only [hx', Option.bind_some]
 have hb := bare_len s
 show _ = some (ret (.fz (byt (natB s))))
 unfold natB
 generalize bare s = t at hb
 cases t with
 | nil =>
  simp (disch := (first | omega | (simp only [List.length_cons, List.length_append, List.length_nil, List.length_take, List.length_drop, List.length_replicate, byt_len, ofBytes_len, byts_len, Sx.tn, Sx.tn1, Sx.tnL]; done) | (simp only [List.length_cons, List.length_append, List.length_nil, List.length_take, List.length_drop, List.length_replicate, byt_len, ofBytes_len, byts_len, Sx.tn, Sx.tn1, Sx.tnL]; omega))) only [Sx.w64, Sx.wu8, Sx.idxI, Sx.upI, Sx.bleT, Sx.bleF, Sx.beqT, Sx.beqF, Sx.ltT, Sx.ltF, Sx.leT, Sx.leF, Sx.gtT, Sx.gtF, Sx.geT, Sx.geF, Sx.eqT, Sx.eqF, Sx.neT, Sx.neF, Sx.ofN, Sx.tn, Sx.tn1, cond_true, cond_false, Option.bind_some, Bool.true_and, Bool.and_true, Bool.false_and, Bool.and_false, Bool.and_self, Bool.not_true, Bool.not_false, Bool.or_false, Bool.or_true, Bool.false_or, Bool.true_or, decide_true, decide_false, Nat.zero_add, Nat.add_zero, Nat.mul_one, Nat.sub_zero, List.drop_zero, List.isEmpty_nil, Int.ofNat_eq_natCast, Sx.castN, Int.natCast_zero, Int.natCast_one, Sx.tnL, Int.sub_zero, Int.add_zero, Int.zero_add, Sx.takeAll, Sx.dropAll, List.drop_succ_cons, List.drop_zero, List.getD_cons_zero, List.getD_cons_succ, byt_len, ofBytes_len, byt_all, byt_flatten, byt_flat_len, Sx.byt_get, Sx.ofB_get, Sx.byt_take, Sx.byt_drop, Sx.byt_app, Sx.ofB_take, Sx.ofB_drop, Sx.ofB_app, Sx.ofB_snoc, Sx.chunkB, Sx.frozB, Sx.zeros, ofBytes_froz, toBytes_of, Sx.uncC, Sx.toI, Sx.toF, Sx.toS, Sx.toB, List.length_append, List.length_cons, List.length_nil, List.length_take, List.length_drop, List.length_replicate, Sx.sp11, Sx.sp11', Sx.ch1, Sx.ch2, Sx.ch3, Sx.ch4, Sx.dBs1, Sx.dBs2, Sx.dBs3, Sx.dBs4, List.flatten_cons, List.flatten_nil, List.append_nil, List.take_succ_cons, List.take_zero, Sx.l1c, Sx.l2c, Sx.l3c, Sx.l4c, Sx.frozC, byt10]
 | cons c t =>
  simp only [List.length_cons] at hb
  have h2 : dB (DV.fz (byt (c :: t))) = some (c :: t) := dB_ok (by unfold lim; simp; omega)
  simp (disch := (first | omega | (simp only [List.length_cons, List.length_append, List.length_nil, List.length_take, List.length_drop, List.length_replicate, byt_len, ofBytes_len, byts_len, Sx.tn, Sx.tn1, Sx.tnL]; done) | (simp only [List.length_cons, List.length_append, List.length_nil, List.length_take, List.length_drop, List.length_replicate, byt_len, ofBytes_len, byts_len, Sx.tn, Sx.tn1, Sx.tnL]; omega))) only [Sx.w64, Sx.wu8, Sx.idxI, Sx.upI, Sx.bleT, Sx.bleF, Sx.beqT, Sx.beqF, Sx.ltT, Sx.ltF, Sx.leT, Sx.leF, Sx.gtT, Sx.gtF, Sx.geT, Sx.geF, Sx.eqT, Sx.eqF, Sx.neT, Sx.neF, Sx.ofN, Sx.tn, Sx.tn1, cond_true, cond_false, Option.bind_some, Bool.true_and, Bool.and_true, Bool.false_and, Bool.and_false, Bool.and_self, Bool.not_true, Bool.not_false, Bool.or_false, Bool.or_true, Bool.false_or, Bool.true_or, decide_true, decide_false, Nat.zero_add, Nat.add_zero, Nat.mul_one, Nat.sub_zero, List.drop_zero, List.isEmpty_nil, Int.ofNat_eq_natCast, Sx.castN, Int.natCast_zero, Int.natCast_one, Sx.tnL, Int.sub_zero, Int.add_zero, Int.zero_add, Sx.takeAll, Sx.dropAll, List.drop_succ_cons, List.drop_zero, List.getD_cons_zero, List.getD_cons_succ, byt_len, ofBytes_len, byt_all, byt_flatten, byt_flat_len, Sx.byt_get, Sx.ofB_get, Sx.byt_take, Sx.byt_drop, Sx.byt_app, Sx.ofB_take, Sx.ofB_drop, Sx.ofB_app, Sx.ofB_snoc, Sx.chunkB, Sx.frozB, Sx.zeros, ofBytes_froz, toBytes_of, Sx.uncC, Sx.toI, Sx.toF, Sx.toS, Sx.toB, List.length_append, List.length_cons, List.length_nil, List.length_take, List.length_drop, List.length_replicate, Sx.sp11, Sx.sp11', Sx.ch1, Sx.ch2, Sx.ch3, Sx.ch4, Sx.dBs1, Sx.dBs2, Sx.dBs3, Sx.dBs4, List.flatten_cons, List.flatten_nil, List.append_nil, List.take_succ_cons, List.take_zero, Sx.l1c, Sx.l2c, Sx.l3c, Sx.l4c, Sx.frozC, byt10, u8_128, h2, List.isEmpty_cons, List.headD_cons]
  by_cases hd : 128 ≤ c
  ·simp only [hd, decide_true, cond_true, List.singleton_append]
  ·simp only [hd, decide_false, cond_false]
theorem c_num_shortest : Con P0 T0 138 S_num_shortest := con1 fun x s hx => by
 have hx' := hx
 obtain ⟨rfl, hl⟩ := dB_inv hx
 refine Lx.of_in (tab := t_num_shortest) trivial ?_
 rw [e_num_shortest]
 unfold lim at hl
 clear hx hx'
 cases s with
 | nil => rfl
 | cons a s =>
  cases s with
  | nil => rfl
  | cons b s =>
   simp only [List.length_cons] at hl
   simp (disch := (first | omega | (simp only [List.length_cons, List.length_append, List.length_nil, List.length_take, List.length_drop, List.length_replicate, byt_len, ofBytes_len, byts_len, Sx.tn, Sx.tn1, Sx.tnL]; done) | (simp only [List.length_cons, List.length_append, List.length_nil, List.length_take, List.length_drop, List.length_replicate, byt_len, ofBytes_len, byts_len, Sx.tn, Sx.tn1, Sx.tnL]; omega))) only [Sx.w64, Sx.wu8, Sx.idxI, Sx.upI, Sx.bleT, Sx.bleF, Sx.beqT, Sx.beqF, Sx.ltT, Sx.ltF, Sx.leT, Sx.leF, Sx.gtT, Sx.gtF, Sx.geT, Sx.geF, Sx.eqT, Sx.eqF, Sx.neT, Sx.neF, Sx.ofN, Sx.tn, Sx.tn1, cond_true, cond_false, Option.bind_some, Bool.true_and, Bool.and_true, Bool.false_and, Bool.and_false, Bool.and_self, Bool.not_true, Bool.not_false, Bool.or_false, Bool.or_true, Bool.false_or, Bool.true_or, decide_true, decide_false, Nat.zero_add, Nat.add_zero, Nat.mul_one, Nat.sub_zero, List.drop_zero, List.isEmpty_nil, Int.ofNat_eq_natCast, Sx.castN, Int.natCast_zero, Int.natCast_one, Sx.tnL, Int.sub_zero, Int.add_zero, Int.zero_add, Sx.takeAll, Sx.dropAll, List.drop_succ_cons, List.drop_zero, List.getD_cons_zero, List.getD_cons_succ, byt_len, ofBytes_len, byt_all, byt_flatten, byt_flat_len, Sx.byt_get, Sx.ofB_get, Sx.byt_take, Sx.byt_drop, Sx.byt_app, Sx.ofB_take, Sx.ofB_drop, Sx.ofB_app, Sx.ofB_snoc, Sx.chunkB, Sx.frozB, Sx.zeros, ofBytes_froz, toBytes_of, Sx.uncC, Sx.toI, Sx.toF, Sx.toS, Sx.toB, List.length_append, List.length_cons, List.length_nil, List.length_take, List.length_drop, List.length_replicate, Sx.sp11, Sx.sp11', Sx.ch1, Sx.ch2, Sx.ch3, Sx.ch4, Sx.dBs1, Sx.dBs2, Sx.dBs3, Sx.dBs4, List.flatten_cons, List.flatten_nil, List.append_nil, List.take_succ_cons, List.take_zero, Sx.l1c, Sx.l2c, Sx.l3c, Sx.l4c, Sx.frozC, u8_128, u8_l128, u8_zero, u8_255, short]
   cases a == 0 <;> cases a == 255 <;> by_cases h1 : b < 128 <;> by_cases h2 : 128 ≤ b <;> simp only [h1, h2, decide_true, decide_false, cond_true, cond_false] <;> rfl
theorem c_num_ToNat : Con P0 T0 102 S_num_ToNat := con1 fun x s hx => by
 have hx' := hx
 obtain ⟨rfl, hl⟩ := dB_inv hx
 refine Lx.of_in (tab := t_num_ToNat) ⟨c_bytes_TrimLeft, c_num_shortest, c_slices_Clone_byte_byte, trivial⟩ ?_
 rw [e_num_ToNat]
 simp only [hx', Option.bind_some]
 have hb := bare_len s
 unfold lim at hl
 unfold toNatC toNatE
 cases hs : short s with
 | false => rfl
 | true =>
  cases s with
  | nil => cases hs
  | cons c s =>
   have h2 : dB (DV.fz (byt (bare (c :: s)))) = some (bare (c :: s)) := dB_ok (by unfold lim; omega)
   simp only [List.length_cons] at hl
   have hh : (c :: s).headD 0 = c := rfl
   simp (disch := (first | omega | (simp only [List.length_cons, List.length_append, List.length_nil, List.length_take, List.length_drop, List.length_replicate, byt_len, ofBytes_len, byts_len, Sx.tn, Sx.tn1, Sx.tnL]; done) | (simp only [List.length_cons, List.length_append, List.length_nil, List.length_take, List.length_drop, List.length_replicate, byt_len, ofBytes_len, byts_len, Sx.tn, Sx.tn1, Sx.tnL]; omega))) only [Sx.w64, Sx.wu8, Sx.idxI, Sx.upI, Sx.bleT, Sx.bleF, Sx.beqT, Sx.beqF, Sx.ltT, Sx.ltF, Sx.leT, Sx.leF, Sx.gtT, Sx.gtF, Sx.geT, Sx.geF, Sx.eqT, Sx.eqF, Sx.neT, Sx.neF, Sx.ofN, Sx.tn, Sx.tn1, cond_true, cond_false, Option.bind_some, Bool.true_and, Bool.and_true, Bool.false_and, Bool.and_false, Bool.and_self, Bool.not_true, Bool.not_false, Bool.or_false, Bool.or_true, Bool.false_or, Bool.true_or, decide_true, decide_false, Nat.zero_add, Nat.add_zero, Nat.mul_one, Nat.sub_zero, List.drop_zero, List.isEmpty_nil, Int.ofNat_eq_natCast, Sx.castN, Int.natCast_zero, Int.natCast_one, Sx.tnL, Int.sub_zero, Int.add_zero, Int.zero_add, Sx.takeAll, Sx.dropAll, List.drop_succ_cons, List.drop_zero, List.getD_cons_zero, List.getD_cons_succ, byt_len, ofBytes_len, byt_all, byt_flatten, byt_flat_len, Sx.byt_get, Sx.ofB_get, Sx.byt_take, Sx.byt_drop, Sx.byt_app, Sx.ofB_take, Sx.ofB_drop, Sx.ofB_app, Sx.ofB_snoc, Sx.chunkB, Sx.frozB, Sx.zeros, ofBytes_froz, toBytes_of, Sx.uncC, Sx.toI, Sx.toF, Sx.toS, Sx.toB, List.length_append, List.length_cons, List.length_nil, List.length_take, List.length_drop, List.length_replicate, Sx.sp11, Sx.sp11', Sx.ch1, Sx.ch2, Sx.ch3, Sx.ch4, Sx.dBs1, Sx.dBs2, Sx.dBs3, Sx.dBs4, List.flatten_cons, List.flatten_nil, List.append_nil, List.take_succ_cons, List.take_zero, Sx.l1c, Sx.l2c, Sx.l3c, Sx.l4c, Sx.frozC, u8_128, h2, hh]
   by_cases hd : 128 ≤ c
   ·simp only [hd, decide_true, cond_true]; rfl
   ·simp only [hd, decide_false, cond_false]; rfl
end Go.Dv
end
section
namespace Go.Dv
open Go.Proofs Go.Dv.S
open Go.Pv (idx upTo)
theorem c_chanceryref02_Shortest : Con P0 T0 105 S_chanceryref02_Shortest := con1 fun x s hx => by
 obtain ⟨rfl, hl⟩ := dB_inv hx
 refine Lx.of_in (tab := t_chanceryref02_Shortest) trivial ?_
 rw [e_chanceryref02_Shortest]
 unfold lim at hl
 clear hx
 cases s with
 | nil => rfl
 | cons a s =>
  cases s with
  | nil => rfl
  | cons b s =>
   simp only [List.length_cons] at hl
   have ha := a.toNat_lt
   have hb := b.toNat_lt
   have td : (b.toNat : Int).tdiv 128 = ((b.toNat / 128 : Nat) : Int) := (Int.ofNat_tdiv b.toNat 128).symm
   have e0 : (a == 0) = decide (a.toNat = 0) := by rw [Bool.eq_iff_iff, beq_iff_eq, ← UInt8.toNat_inj]; simp
   have e1 : (a == 255) = decide (a.toNat = 255) := by rw [Bool.eq_iff_iff, beq_iff_eq, ← UInt8.toNat_inj]; simp
   have e2 : decide (b < 128) = decide (b.toNat < 128) := by rw [decide_eq_decide, UInt8.lt_iff_toNat_lt]; simp
   have e3 : decide (128 ≤ b) = decide (128 ≤ b.toNat) := by rw [decide_eq_decide, UInt8.le_iff_toNat_le]; simp
   simp -implicitDefEqProofs (disch := (first | omega | (simp only [List.length_cons, List.length_append, List.length_nil, List.length_take, List.length_drop, List.length_replicate, byt_len, ofBytes_len, byts_len, Sx.tn, Sx.tn1, Sx.tnL]; done) | (simp only [List.length_cons, List.length_append, List.length_nil, List.length_take, List.length_drop, List.length_replicate, byt_len, ofBytes_len, byts_len, Sx.tn, Sx.tn1, Sx.tnL]; omega))) only [Sx.w64, Sx.wu8, Sx.idxI, Sx.upI, Sx.bleT, Sx.bleF, Sx.beqT, Sx.beqF, Sx.ltT, Sx.ltF, Sx.leT, Sx.leF, Sx.gtT, Sx.gtF, Sx.geT, Sx.geF, Sx.eqT, Sx.eqF, Sx.neT, Sx.neF, Sx.ofN, Sx.tn, Sx.tn1, cond_true, cond_false, Option.bind_some, Bool.true_and, Bool.and_true, Bool.false_and, Bool.and_false, Bool.and_self, Bool.not_true, Bool.not_false, Bool.or_false, Bool.or_true, Bool.false_or, Bool.true_or, decide_true, decide_false, Nat.zero_add, Nat.add_zero, Nat.mul_one, Nat.sub_zero, List.drop_zero, List.isEmpty_nil, Int.ofNat_eq_natCast, Sx.castN, Int.natCast_zero, Int.natCast_one, Sx.tnL, Int.sub_zero, Int.add_zero, Int.zero_add, Sx.takeAll, Sx.dropAll, List.drop_succ_cons, List.drop_zero, List.getD_cons_zero, List.getD_cons_succ, byt_len, ofBytes_len, byt_all, byt_flatten, byt_flat_len, Sx.byt_get, Sx.ofB_get, Sx.byt_take, Sx.byt_drop, Sx.byt_app, Sx.ofB_take, Sx.ofB_drop, Sx.ofB_app, Sx.ofB_snoc, Sx.chunkB, Sx.frozB, Sx.zeros, ofBytes_froz, toBytes_of, Sx.uncC, Sx.toI, Sx.toF, Sx.toS, Sx.toB, List.length_append, List.length_cons, List.length_nil, List.length_take, List.length_drop, List.length_replicate, Sx.sp11, Sx.sp11', Sx.ch1, Sx.ch2, Sx.ch3, Sx.ch4, Sx.dBs1, Sx.dBs2, Sx.dBs3, Sx.dBs4, List.flatten_cons, List.flatten_nil, List.append_nil, List.take_succ_cons, List.take_zero, Sx.l1c, Sx.l2c, Sx.l3c, Sx.l4c, Sx.frozC, td]
   show _ = some (ret (.bool (!(a == 0 && decide (b < 128) || a == 255 && decide (128 ≤ b)))))
   rw [e0, e1, e2, e3]
   by_cases h0 : a.toNat = 0
   ·by_cases h1 : b.toNat < 128
    ·simp -implicitDefEqProofs (disch := (first | omega | (simp only [List.length_cons, List.length_append, List.length_nil, List.length_take, List.length_drop, List.length_replicate, byt_len, ofBytes_len, byts_len, Sx.tn, Sx.tn1, Sx.tnL]; done) | (simp only [List.length_cons, List.length_append, List.length_nil, List.length_take, List.length_drop, List.length_replicate, byt_len, ofBytes_len, byts_len, Sx.tn, Sx.tn1, Sx.tnL]; omega))) only [Sx.w64, Sx.wu8, Sx.idxI, Sx.upI, Sx.bleT, Sx.bleF, Sx.beqT, Sx.beqF, Sx.ltT, Sx.ltF, Sx.leT, Sx.leF, Sx.gtT, Sx.gtF, Sx.geT, Sx.geF, Sx.eqT, Sx.eqF, Sx.neT, Sx.neF, Sx.ofN, Sx.tn, Sx.tn1, cond_true, cond_false, Option.bind_some, Bool.true_and, Bool.and_true, Bool.false_and, Bool.and_false, Bool.and_self, Bool.not_true, Bool.not_false, Bool.or_false, Bool.or_true, Bool.false_or, Bool.true_or, decide_true, decide_false, Nat.zero_add, Nat.add_zero, Nat.mul_one, Nat.sub_zero, List.drop_zero, List.isEmpty_nil, Int.ofNat_eq_natCast, Sx.castN, Int.natCast_zero, Int.natCast_one, Sx.tnL, Int.sub_zero, Int.add_zero, Int.zero_add, h0, h1, decide_true] <;> rfl
    ·have h2 : 128 ≤ b.toNat := by omega
     simp -implicitDefEqProofs (disch := (first | omega | (simp only [List.length_cons, List.length_append, List.length_nil, List.length_take, List.length_drop, List.length_replicate, byt_len, ofBytes_len, byts_len, Sx.tn, Sx.tn1, Sx.tnL]; done) | (simp only [List.length_cons, List.length_append, List.length_nil, List.length_take, List.length_drop, List.length_replicate, byt_len, ofBytes_len, byts_len, Sx.tn, Sx.tn1, Sx.tnL]; omega))) only [Sx.w64, Sx.wu8, Sx.idxI, Sx.upI, Sx.bleT, Sx.bleF, Sx.beqT, Sx.beqF, Sx.ltT, Sx.ltF, Sx.leT, Sx.leF, Sx.gtT, Sx.gtF, Sx.geT, Sx.geF, Sx.eqT, Sx.eqF, Sx.neT, Sx.neF, Sx.ofN, Sx.tn, Sx.tn1, cond_true, cond_false, Option.bind_some, Bool.true_and, Bool.and_true, Bool.false_and, Bool.and_false, Bool.and_self, Bool.not_true, Bool.not_false, Bool.or_false, Bool.or_true, Bool.false_or, Bool.true_or, decide_true, decide_false, Nat.zero_add, Nat.add_zero, Nat.mul_one, Nat.sub_zero, List.drop_zero, List.isEmpty_nil, Int.ofNat_eq_natCast, Sx.castN, Int.natCast_zero, Int.natCast_one, Sx.tnL, Int.sub_zero, Int.add_zero, Int.zero_add, h0, h1, h2, decide_true, decide_false] <;> rfl
   ·by_cases h1 : a.toNat = 255
    ·by_cases h2 : b.toNat < 128
     ·have h3 : ¬ 128 ≤ b.toNat := by omega
      simp -implicitDefEqProofs (disch := (first | omega | (simp only [List.length_cons, List.length_append, List.length_nil, List.length_take, List.length_drop, List.length_replicate, byt_len, ofBytes_len, byts_len, Sx.tn, Sx.tn1, Sx.tnL]; done) | (simp only [List.length_cons, List.length_append, List.length_nil, List.length_take, List.length_drop, List.length_replicate, byt_len, ofBytes_len, byts_len, Sx.tn, Sx.tn1, Sx.tnL]; omega))) only [Sx.w64, Sx.wu8, Sx.idxI, Sx.upI, Sx.bleT, Sx.bleF, Sx.beqT, Sx.beqF, Sx.ltT, Sx.ltF, Sx.leT, Sx.leF, Sx.gtT, Sx.gtF, Sx.geT, Sx.geF, Sx.eqT, Sx.eqF, Sx.neT, Sx.neF, Sx.ofN, Sx.tn, Sx.tn1, cond_true, cond_false, Option.bind_some, Bool.true_and, Bool.and_true, Bool.false_and, Bool.and_false, Bool.and_self, Bool.not_true, Bool.not_false, Bool.or_false, Bool.or_true, Bool.false_or, Bool.true_or, decide_true, decide_false, Nat.zero_add, Nat.add_zero, Nat.mul_one, Nat.sub_zero, List.drop_zero, List.isEmpty_nil, Int.ofNat_eq_natCast, Sx.castN, Int.natCast_zero, Int.natCast_one, Sx.tnL, Int.sub_zero, Int.add_zero, Int.zero_add, h0, h1, h2, h3, decide_true, decide_false] <;> rfl
     ·have h3 : 128 ≤ b.toNat := by omega
      simp -implicitDefEqProofs (disch := (first | omega | (simp only [List.length_cons, List.length_append, List.length_nil, List.length_take, List.length_drop, List.length_replicate, byt_len, ofBytes_len, byts_len, Sx.tn, Sx.tn1, Sx.tnL]; done) | (simp only [List.length_cons, List.length_append, List.length_nil, List.length_take, List.length_drop, List.length_replicate, byt_len, ofBytes_len, byts_len, Sx.tn, Sx.tn1, Sx.tnL]; omega))) only [Sx.w64, Sx.wu8, Sx.idxI, Sx.upI, Sx.bleT, Sx.bleF, Sx.beqT, Sx.beqF, Sx.ltT, Sx.ltF, Sx.leT, Sx.leF, Sx.gtT, Sx.gtF, Sx.geT, Sx.geF, Sx.eqT, Sx.eqF, Sx.neT, Sx.neF, Sx.ofN, Sx.tn, Sx.tn1, cond_true, cond_false, Option.bind_some, Bool.true_and, Bool.and_true, Bool.false_and, Bool.and_false, Bool.and_self, Bool.not_true, Bool.not_false, Bool.or_false, Bool.or_true, Bool.false_or, Bool.true_or, decide_true, decide_false, Nat.zero_add, Nat.add_zero, Nat.mul_one, Nat.sub_zero, List.drop_zero, List.isEmpty_nil, Int.ofNat_eq_natCast, Sx.castN, Int.natCast_zero, Int.natCast_one, Sx.tnL, Int.sub_zero, Int.add_zero, Int.zero_add, h0, h1, h2, h3, decide_true, decide_false] <;> rfl
    ·simp -implicitDefEqProofs (disch := (first | omega | (simp only [List.length_cons, List.length_append, List.length_nil, List.length_take, List.length_drop, List.length_replicate, byt_len, ofBytes_len, byts_len, Sx.tn, Sx.tn1, Sx.tnL]; done) | (simp only [List.length_cons, List.length_append, List.length_nil, List.length_take, List.length_drop, List.length_replicate, byt_len, ofBytes_len, byts_len, Sx.tn, Sx.tn1, Sx.tnL]; omega))) only [Sx.w64, Sx.wu8, Sx.idxI, Sx.upI, Sx.bleT, Sx.bleF, Sx.beqT, Sx.beqF, Sx.ltT, Sx.ltF, Sx.leT, Sx.leF, Sx.gtT, Sx.gtF, Sx.geT, Sx.geF, Sx.eqT, Sx.eqF, Sx.neT, Sx.neF, Sx.ofN, Sx.tn, Sx.tn1, cond_true, cond_false, Option.bind_some, Bool.true_and, Bool.and_true, Bool.false_and, Bool.and_false, Bool.and_self, Bool.not_true, Bool.not_false, Bool.or_false, Bool.or_true, Bool.false_or, Bool.true_or, decide_true, decide_false, Nat.zero_add, Nat.add_zero, Nat.mul_one, Nat.sub_zero, List.drop_zero, List.isEmpty_nil, Int.ofNat_eq_natCast, Sx.castN, Int.natCast_zero, Int.natCast_one, Sx.tnL, Int.sub_zero, Int.add_zero, Int.zero_add, h0, h1, decide_false] <;> rfl
theorem bare_drop {s : B} {i : Nat} (hi : i < s.length) : bare (s.drop i) = bif s[i] == 0 then bare (s.drop (i + 1)) else s.drop i := by
 rw [List.drop_eq_getElem_cons hi, bare_cons]
theorem l_ref_bare (s : B) (hs : s.length ≤ lim) : ∀ m i, s.length - i = m → i ≤ s.length → LoopLim (tdF T0 98 none 0) (bodyF P0 T0 (fun _ => LoopLim) (Lt t_chanceryref02_bare) nY [] 98 none 0) (kontF P0 T0 (fun _ => LoopLim) (Lt t_chanceryref02_bare) nY [] 98 0) (stD 22 [(0, .v (.fz (byt s))), (3, .v (.int .i64 i))] []) [] = some (ret (.fz (byt (bare (s.drop i))))) := by
 have hc : Cons P0 T0 t_chanceryref02_bare := trivial
 unfold lim at hs
 have out : ∀ i, i ≤ s.length → kontF P0 T0 (fun _ => LoopLim) (Lt t_chanceryref02_bare) nY [] 98 0 (.exit 0) (stD 22 [(0, .v (.fz (byt s))), (3, .v (.int .i64 i))] []) [] = some (ret (.fz (byt (s.drop i)))) := fun i hi => by
  refine (x_chanceryref02_bare_0 (fun _ => LoopLim) (byt s) i).trans ?_
  simp -implicitDefEqProofs (disch := (first | omega | (simp only [List.length_cons, List.length_append, List.length_nil, List.length_take, List.length_drop, List.length_replicate, byt_len, ofBytes_len, byts_len, Sx.tn, Sx.tn1, Sx.tnL]; done) | (simp only [List.length_cons, List.length_append, List.length_nil, List.length_take, List.length_drop, List.length_replicate, byt_len, ofBytes_len, byts_len, Sx.tn, Sx.tn1, Sx.tnL]; omega))) only [Sx.w64, Sx.wu8, Sx.idxI, Sx.upI, Sx.bleT, Sx.bleF, Sx.beqT, Sx.beqF, Sx.ltT, Sx.ltF, Sx.leT, Sx.leF, Sx.gtT, Sx.gtF, Sx.geT, Sx.geF, Sx.eqT, Sx.eqF, Sx.neT, Sx.neF, Sx.ofN, Sx.tn, Sx.tn1, cond_true, cond_false, Option.bind_some, Bool.true_and, Bool.and_true, Bool.false_and, Bool.and_false, Bool.and_self, Bool.not_true, Bool.not_false, Bool.or_false, Bool.or_true, Bool.false_or, Bool.true_or, decide_true, decide_false, Nat.zero_add, Nat.add_zero, Nat.mul_one, Nat.sub_zero, List.drop_zero, List.isEmpty_nil, Int.ofNat_eq_natCast, Sx.castN, Int.natCast_zero, Int.natCast_one, Sx.tnL, Int.sub_zero, Int.add_zero, Int.zero_add, Sx.takeAll, Sx.dropAll, List.drop_succ_cons, List.drop_zero, List.getD_cons_zero, List.getD_cons_succ, byt_len, ofBytes_len, byt_all, byt_flatten, byt_flat_len, Sx.byt_get, Sx.ofB_get, Sx.byt_take, Sx.byt_drop, Sx.byt_app, Sx.ofB_take, Sx.ofB_drop, Sx.ofB_app, Sx.ofB_snoc, Sx.chunkB, Sx.frozB, Sx.zeros, ofBytes_froz, toBytes_of, Sx.uncC, Sx.toI, Sx.toF, Sx.toS, Sx.toB, List.length_append, List.length_cons, List.length_nil, List.length_take, List.length_drop, List.length_replicate, Sx.sp11, Sx.sp11', Sx.ch1, Sx.ch2, Sx.ch3, Sx.ch4, Sx.dBs1, Sx.dBs2, Sx.dBs3, Sx.dBs4, List.flatten_cons, List.flatten_nil, List.append_nil, List.take_succ_cons, List.take_zero, Sx.l1c, Sx.l2c, Sx.l3c, Sx.l4c, Sx.frozC, repeatCells, List.nil_append]
 intro m
 induction m with
 | zero =>
  intro i hm hi
  have hie : i = s.length := by omega
  subst hie
  refine loop_step hc.cont ?_
  rw [b_chanceryref02_bare_0, byt_len, Sx.ltF (Int.le_refl _), cond_false, List.drop_length]
  have := out s.length (Nat.le_refl _)
  rw [List.drop_length] at this
  refine Eq.trans ?_ (((x_chanceryref02_bare_0 (fun _ => LoopLim) (byt s) s.length).symm.trans this))
  (show _ = _; kernel_rfl)
 | succ m ih =>
  intro i hm hi
  have hil : i < s.length := by omega
  have hg : s.getD i 0 = s[i] := by simp [List.getD_eq_getElem?_getD, hil]
  refine loop_step hc.cont ?_
  rw [b_chanceryref02_bare_0, bare_drop hil]
  simp -implicitDefEqProofs (disch := (first | omega | (simp only [List.length_cons, List.length_append, List.length_nil, List.length_take, List.length_drop, List.length_replicate, byt_len, ofBytes_len, byts_len, Sx.tn, Sx.tn1, Sx.tnL]; done) | (simp only [List.length_cons, List.length_append, List.length_nil, List.length_take, List.length_drop, List.length_replicate, byt_len, ofBytes_len, byts_len, Sx.tn, Sx.tn1, Sx.tnL]; omega))) only [Sx.w64, Sx.wu8, Sx.idxI, Sx.upI, Sx.bleT, Sx.bleF, Sx.beqT, Sx.beqF, Sx.ltT, Sx.ltF, Sx.leT, Sx.leF, Sx.gtT, Sx.gtF, Sx.geT, Sx.geF, Sx.eqT, Sx.eqF, Sx.neT, Sx.neF, Sx.ofN, Sx.tn, Sx.tn1, cond_true, cond_false, Option.bind_some, Bool.true_and, Bool.and_true, Bool.false_and, Bool.and_false, Bool.and_self, Bool.not_true, Bool.not_false, Bool.or_false, Bool.or_true, Bool.false_or, Bool.true_or, decide_true, decide_false, Nat.zero_add, Nat.add_zero, Nat.mul_one, Nat.sub_zero, List.drop_zero, List.isEmpty_nil, Int.ofNat_eq_natCast, Sx.castN, Int.natCast_zero, Int.natCast_one, Sx.tnL, Int.sub_zero, Int.add_zero, Int.zero_add, Sx.takeAll, Sx.dropAll, List.drop_succ_cons, List.drop_zero, List.getD_cons_zero, List.getD_cons_succ, byt_len, ofBytes_len, byt_all, byt_flatten, byt_flat_len, Sx.byt_get, Sx.ofB_get, Sx.byt_take, Sx.byt_drop, Sx.byt_app, Sx.ofB_take, Sx.ofB_drop, Sx.ofB_app, Sx.ofB_snoc, Sx.chunkB, Sx.frozB, Sx.zeros, ofBytes_froz, toBytes_of, Sx.uncC, Sx.toI, Sx.toF, Sx.toS, Sx.toB, List.length_append, List.length_cons, List.length_nil, List.length_take, List.length_drop, List.length_replicate, hg, u8_zero]
  cases hz : s[i] == 0 with
  | true =>
   simp only [cond_true]
   refine leafT (X := true) (ih (i + 1) (by omega) hil) ?_ rfl ?_ rfl
   ·(show _ = _; kernel_rfl)
   ·(show _ = _; kernel_rfl)
  | false =>
   simp only [cond_false]
   refine Eq.trans ?_ ((x_chanceryref02_bare_0 (fun _ => LoopLim) (byt s) i).symm.trans (out i hi))
   (show _ = _; kernel_rfl)
theorem c_chanceryref02_bare : Con P0 T0 98 S_chanceryref02_bare := con1 fun x s hx => by
 obtain ⟨rfl, hl⟩ := dB_inv hx
 refine Lx.of_in (tab := t_chanceryref02_bare) trivial ?_
 rw [e_chanceryref02_bare]
 have h := l_ref_bare s hl s.length 0 (by omega) (by omega)
 rw [List.drop_zero] at h
 refine headT h ?_
 (show _ = _; kernel_rfl)
theorem c_chanceryref02_Nat : Con P0 T0 46 S_chanceryref02_Nat := con1 fun x s hx => by
 obtain ⟨rfl, hl⟩ := dBm_inv hx
 have hx' : dB (.fz (byt s)) = some s := dB_ok (by unfold lim; omega)
 refine Lx.of_in (tab := t_chanceryref02_Nat) ⟨c_chanceryref02_bare, trivial⟩ ?_
 rw [e_chanceryref02_Nat]
 simp only [hx', Option.bind_some]
 have hb := bare_len s
 show _ = some (ret (.fz (byt (natB s))))
 unfold natB
 generalize bare s = t at hb
 have h0 : splice (ofBytes (List.replicate 1 0)) 0 [DV.int IntKind.u8 0] = ofBytes [0] := rfl
 cases t with
 | nil =>
  simp -implicitDefEqProofs (disch := (first | omega | (simp only [List.length_cons, List.length_append, List.length_nil, List.length_take, List.length_drop, List.length_replicate, byt_len, ofBytes_len, byts_len, Sx.tn, Sx.tn1, Sx.tnL]; done) | (simp only [List.length_cons, List.length_append, List.length_nil, List.length_take, List.length_drop, List.length_replicate, byt_len, ofBytes_len, byts_len, Sx.tn, Sx.tn1, Sx.tnL]; omega))) only [Sx.w64, Sx.wu8, Sx.idxI, Sx.upI, Sx.bleT, Sx.bleF, Sx.beqT, Sx.beqF, Sx.ltT, Sx.ltF, Sx.leT, Sx.leF, Sx.gtT, Sx.gtF, Sx.geT, Sx.geF, Sx.eqT, Sx.eqF, Sx.neT, Sx.neF, Sx.ofN, Sx.tn, Sx.tn1, cond_true, cond_false, Option.bind_some, Bool.true_and, Bool.and_true, Bool.false_and, Bool.and_false, Bool.and_self, Bool.not_true, Bool.not_false, Bool.or_false, Bool.or_true, Bool.false_or, Bool.true_or, decide_true, decide_false, Nat.zero_add, Nat.add_zero, Nat.mul_one, Nat.sub_zero, List.drop_zero, List.isEmpty_nil, Int.ofNat_eq_natCast, Sx.castN, Int.natCast_zero, Int.natCast_one, Sx.tnL, Int.sub_zero, Int.add_zero, Int.zero_add, Sx.takeAll, Sx.dropAll, List.drop_succ_cons, List.drop_zero, List.getD_cons_zero, List.getD_cons_succ, byt_len, ofBytes_len, byt_all, byt_flatten, byt_flat_len, Sx.byt_get, Sx.ofB_get, Sx.byt_take, Sx.byt_drop, Sx.byt_app, Sx.ofB_take, Sx.ofB_drop, Sx.ofB_app, Sx.ofB_snoc, Sx.chunkB, Sx.frozB, Sx.zeros, ofBytes_froz, toBytes_of, Sx.uncC, Sx.toI, Sx.toF, Sx.toS, Sx.toB, List.length_append, List.length_cons, List.length_nil, List.length_take, List.length_drop, List.length_replicate, Sx.sp11, Sx.sp11', Sx.ch1, Sx.ch2, Sx.ch3, Sx.ch4, Sx.dBs1, Sx.dBs2, Sx.dBs3, Sx.dBs4, List.flatten_cons, List.flatten_nil, List.append_nil, List.take_succ_cons, List.take_zero, Sx.l1c, Sx.l2c, Sx.l3c, Sx.l4c, Sx.frozC, h0, List.singleton_append]
 | cons c t =>
  simp only [List.length_cons] at hb
  simp -implicitDefEqProofs (disch := (first | omega | (simp only [List.length_cons, List.length_append, List.length_nil, List.length_take, List.length_drop, List.length_replicate, byt_len, ofBytes_len, byts_len, Sx.tn, Sx.tn1, Sx.tnL]; done) | (simp only [List.length_cons, List.length_append, List.length_nil, List.length_take, List.length_drop, List.length_replicate, byt_len, ofBytes_len, byts_len, Sx.tn, Sx.tn1, Sx.tnL]; omega))) only [Sx.w64, Sx.wu8, Sx.idxI, Sx.upI, Sx.bleT, Sx.bleF, Sx.beqT, Sx.beqF, Sx.ltT, Sx.ltF, Sx.leT, Sx.leF, Sx.gtT, Sx.gtF, Sx.geT, Sx.geF, Sx.eqT, Sx.eqF, Sx.neT, Sx.neF, Sx.ofN, Sx.tn, Sx.tn1, cond_true, cond_false, Option.bind_some, Bool.true_and, Bool.and_true, Bool.false_and, Bool.and_false, Bool.and_self, Bool.not_true, Bool.not_false, Bool.or_false, Bool.or_true, Bool.false_or, Bool.true_or, decide_true, decide_false, Nat.zero_add, Nat.add_zero, Nat.mul_one, Nat.sub_zero, List.drop_zero, List.isEmpty_nil, Int.ofNat_eq_natCast, Sx.castN, Int.natCast_zero, Int.natCast_one, Sx.tnL, Int.sub_zero, Int.add_zero, Int.zero_add, Sx.takeAll, Sx.dropAll, List.drop_succ_cons, List.drop_zero, List.getD_cons_zero, List.getD_cons_succ, byt_len, ofBytes_len, byt_all, byt_flatten, byt_flat_len, Sx.byt_get, Sx.ofB_get, Sx.byt_take, Sx.byt_drop, Sx.byt_app, Sx.ofB_take, Sx.ofB_drop, Sx.ofB_app, Sx.ofB_snoc, Sx.chunkB, Sx.frozB, Sx.zeros, ofBytes_froz, toBytes_of, Sx.uncC, Sx.toI, Sx.toF, Sx.toS, Sx.toB, List.length_append, List.length_cons, List.length_nil, List.length_take, List.length_drop, List.length_replicate, Sx.sp11, Sx.sp11', Sx.ch1, Sx.ch2, Sx.ch3, Sx.ch4, Sx.dBs1, Sx.dBs2, Sx.dBs3, Sx.dBs4, List.flatten_cons, List.flatten_nil, List.append_nil, List.take_succ_cons, List.take_zero, Sx.l1c, Sx.l2c, Sx.l3c, Sx.l4c, Sx.frozC, h0, u8_128, List.isEmpty_cons, List.headD_cons, List.singleton_append]
  by_cases hd : 128 ≤ c
  ·simp only [hd, decide_true, cond_true]
  ·simp only [hd, decide_false, cond_false]
theorem c_chanceryref02_ToNat : Con P0 T0 52 S_chanceryref02_ToNat := con1 fun x s hx => by
 have hx' := hx
 obtain ⟨rfl, hl⟩ := dB_inv hx
 refine Lx.of_in (tab := t_chanceryref02_ToNat) ⟨c_chanceryref02_bare, c_chanceryref02_Shortest, trivial⟩ ?_
 rw [e_chanceryref02_ToNat]
 simp only [hx', Option.bind_some]
 unfold lim at hl
 show _ = some (ret (.tup [.fz (byt (toNatC s)), .int .i64 (toNatE s)]))
 unfold toNatC toNatE
 cases hs : short s with
 | false => rfl
 | true =>
  cases s with
  | nil => cases hs
  | cons c s =>
   have hh : (c :: s).headD 0 = c := rfl
   simp only [List.length_cons] at hl
   simp -implicitDefEqProofs (disch := (first | omega | (simp only [List.length_cons, List.length_append, List.length_nil, List.length_take, List.length_drop, List.length_replicate, byt_len, ofBytes_len, byts_len, Sx.tn, Sx.tn1, Sx.tnL]; done) | (simp only [List.length_cons, List.length_append, List.length_nil, List.length_take, List.length_drop, List.length_replicate, byt_len, ofBytes_len, byts_len, Sx.tn, Sx.tn1, Sx.tnL]; omega))) only [Sx.w64, Sx.wu8, Sx.idxI, Sx.upI, Sx.bleT, Sx.bleF, Sx.beqT, Sx.beqF, Sx.ltT, Sx.ltF, Sx.leT, Sx.leF, Sx.gtT, Sx.gtF, Sx.geT, Sx.geF, Sx.eqT, Sx.eqF, Sx.neT, Sx.neF, Sx.ofN, Sx.tn, Sx.tn1, cond_true, cond_false, Option.bind_some, Bool.true_and, Bool.and_true, Bool.false_and, Bool.and_false, Bool.and_self, Bool.not_true, Bool.not_false, Bool.or_false, Bool.or_true, Bool.false_or, Bool.true_or, decide_true, decide_false, Nat.zero_add, Nat.add_zero, Nat.mul_one, Nat.sub_zero, List.drop_zero, List.isEmpty_nil, Int.ofNat_eq_natCast, Sx.castN, Int.natCast_zero, Int.natCast_one, Sx.tnL, Int.sub_zero, Int.add_zero, Int.zero_add, Sx.takeAll, Sx.dropAll, List.drop_succ_cons, List.drop_zero, List.getD_cons_zero, List.getD_cons_succ, byt_len, ofBytes_len, byt_all, byt_flatten, byt_flat_len, Sx.byt_get, Sx.ofB_get, Sx.byt_take, Sx.byt_drop, Sx.byt_app, Sx.ofB_take, Sx.ofB_drop, Sx.ofB_app, Sx.ofB_snoc, Sx.chunkB, Sx.frozB, Sx.zeros, ofBytes_froz, toBytes_of, Sx.uncC, Sx.toI, Sx.toF, Sx.toS, Sx.toB, List.length_append, List.length_cons, List.length_nil, List.length_take, List.length_drop, List.length_replicate, Sx.sp11, Sx.sp11', Sx.ch1, Sx.ch2, Sx.ch3, Sx.ch4, Sx.dBs1, Sx.dBs2, Sx.dBs3, Sx.dBs4, List.flatten_cons, List.flatten_nil, List.append_nil, List.take_succ_cons, List.take_zero, Sx.l1c, Sx.l2c, Sx.l3c, Sx.l4c, Sx.frozC, u8_128, hh]
   by_cases hd : 128 ≤ c
   ·simp only [hd, decide_true, cond_true] <;> rfl
   ·simp only [hd, decide_false, cond_false] <;> rfl
end Go.Dv
end
section
namespace Go.Dv
open Go.Proofs Go.Dv.S
open Go.Pv (idx upTo)
theorem wor {n x : Nat} (hn : n < 1099511627776) (hx : x < 256) : (BitVec.ofInt 64 ((n : Int) * 256) ||| BitVec.ofInt 64 (x : Int)).toNat = 256 * n + x := by
 have e1 : (BitVec.ofInt 64 ((n : Int) * 256)).toNat = 2 ^ 8 * n := by
  rw [BitVec.toNat_ofInt]
  omega
 have e2 : (BitVec.ofInt 64 (x : Int)).toNat = x := by
  rw [BitVec.toNat_ofInt]
  omega
 rw [BitVec.toNat_or, e1, e2, ← Nat.two_pow_add_eq_or_of_lt (by omega)]
theorem big_snoc : ∀ (a : B) (c : UInt8) (n : Nat), big (a ++ [c]) n = 256 * big a n + c.toNat
 | [], c, n => rfl
 | b :: a, c, n => big_snoc a c (256 * n + b.toNat)
theorem big_take {r : B} {i : Nat} (h : i < r.length) : big (r.take (i + 1)) 0 = 256 * big (r.take i) 0 + (r.getD i 0).toNat := by
 rw [List.take_add_one, List.getElem?_eq_getElem h]
 rw [show (some r[i]).toList = [r[i]] from rfl, big_snoc]
 simp [List.getD_eq_getElem?_getD, h]
theorem big_lt : ∀ (a : B) (n k : Nat), n < 256 ^ k → big a n < 256 ^ (k + a.length)
 | [], n, k, h => h
 | b :: a, n, k, h => by
  have hb := b.toNat_lt
  have := big_lt a (256 * n + b.toNat) (k + 1) (by rw [Nat.pow_succ]; omega)
  rw [List.length_cons, show k + (a.length + 1) = k + 1 + a.length by omega]
  exact this
theorem big_lt3 {r : B} (h : r.length ≤ 3) : big r 0 < 16777216 := by
 have := big_lt r 0 0 (by simp)
 rw [Nat.zero_add] at this
 exact Nat.lt_of_lt_of_le this (Nat.pow_le_pow_right (by omega) h)
def headR (t : UInt8) (r : B) (q : Nat) : DV := bif Nat.blt (big r 0) 128 then .tup [.int .i64 0, .int .i64 0, .int .i64 0, .int .i64 12] else .tup [.int .i64 t.toNat, .int .i64 (2 + q : Nat), .int .i64 (big r 0 : Nat), .int .i64 0]
theorem l_head (t : UInt8) (s r : B) (q : Nat) (hq : q ≤ 3) (hr : r.length ≤ 3) : ∀ m i, r.length - i = m → i ≤ r.length → LoopLim (tdF T0 136 none 2) (bodyF P0 T0 (fun _ => LoopLim) (Lt t_der_head) nY [] 136 none 2) (kontF P0 T0 (fun _ => LoopLim) (Lt t_der_head) nY [] 136 2) (stD 88 [(0, .v (.fz (byt (t :: s)))), (4, .v (.int .i64 (big (r.take i) 0 : Nat))), (6, .v (.int .i64 q)), (67, .v (.fz (byt r))), (68, .v (.int .i64 r.length)), (69, .v (.int .i64 i))] []) [] = some (ret (headR t r q)) := by
 have hc : Cons P0 T0 t_der_head := ⟨c_der_isTag, trivial⟩
 intro m
 induction m with
 | zero =>
  intro i hm hi
  have hie : i = r.length := by omega
  subst hie
  have hb := big_lt3 hr
  have ht := t.toNat_lt
  refine loop_step hc.cont ?_
  rw [b_der_head_2, Sx.ltF (Int.le_refl _), cond_false, List.take_length]
  refine Eq.trans ?_ ((x_der_head_2 (fun _ => LoopLim) (byt (t :: s)) (byt r) (big r 0) q r.length r.length).symm.trans ((x_der_head_2 (fun _ => LoopLim) (byt (t :: s)) (byt r) (big r 0) q r.length r.length).trans ?_))
  ·(show _ = _; kernel_rfl)
  ·unfold headR
   rcases Nat.lt_or_ge (big r 0) 128 with h | h
   ·simp -implicitDefEqProofs (disch := (first | omega | (simp only [List.length_cons, List.length_append, List.length_nil, List.length_take, List.length_drop, List.length_replicate, byt_len, ofBytes_len, byts_len, Sx.tn, Sx.tn1, Sx.tnL]; done) | (simp only [List.length_cons, List.length_append, List.length_nil, List.length_take, List.length_drop, List.length_replicate, byt_len, ofBytes_len, byts_len, Sx.tn, Sx.tn1, Sx.tnL]; omega))) only [Sx.w64, Sx.wu8, Sx.idxI, Sx.upI, Sx.bleT, Sx.bleF, Sx.beqT, Sx.beqF, Sx.ltT, Sx.ltF, Sx.leT, Sx.leF, Sx.gtT, Sx.gtF, Sx.geT, Sx.geF, Sx.eqT, Sx.eqF, Sx.neT, Sx.neF, Sx.ofN, Sx.tn, Sx.tn1, cond_true, cond_false, Option.bind_some, Bool.true_and, Bool.and_true, Bool.false_and, Bool.and_false, Bool.and_self, Bool.not_true, Bool.not_false, Bool.or_false, Bool.or_true, Bool.false_or, Bool.true_or, decide_true, decide_false, Nat.zero_add, Nat.add_zero, Nat.mul_one, Nat.sub_zero, List.drop_zero, List.isEmpty_nil, Int.ofNat_eq_natCast, Sx.castN, Int.natCast_zero, Int.natCast_one, Sx.tnL, Int.sub_zero, Int.add_zero, Int.zero_add, Sx.takeAll, Sx.dropAll, List.drop_succ_cons, List.drop_zero, List.getD_cons_zero, List.getD_cons_succ, byt_len, ofBytes_len, byt_all, byt_flatten, byt_flat_len, Sx.byt_get, Sx.ofB_get, Sx.byt_take, Sx.byt_drop, Sx.byt_app, Sx.ofB_take, Sx.ofB_drop, Sx.ofB_app, Sx.ofB_snoc, Sx.chunkB, Sx.frozB, Sx.zeros, ofBytes_froz, toBytes_of, Sx.uncC, Sx.toI, Sx.toF, Sx.toS, Sx.toB, List.length_append, List.length_cons, List.length_nil, List.length_take, List.length_drop, List.length_replicate, Sx.sp11, Sx.sp11', Sx.ch1, Sx.ch2, Sx.ch3, Sx.ch4, Sx.dBs1, Sx.dBs2, Sx.dBs3, Sx.dBs4, List.flatten_cons, List.flatten_nil, List.append_nil, List.take_succ_cons, List.take_zero, Sx.l1c, Sx.l2c, Sx.l3c, Sx.l4c, Sx.frozC, Sx.bltT]
   ·simp -implicitDefEqProofs (disch := (first | omega | (simp only [List.length_cons, List.length_append, List.length_nil, List.length_take, List.length_drop, List.length_replicate, byt_len, ofBytes_len, byts_len, Sx.tn, Sx.tn1, Sx.tnL]; done) | (simp only [List.length_cons, List.length_append, List.length_nil, List.length_take, List.length_drop, List.length_replicate, byt_len, ofBytes_len, byts_len, Sx.tn, Sx.tn1, Sx.tnL]; omega))) only [Sx.w64, Sx.wu8, Sx.idxI, Sx.upI, Sx.bleT, Sx.bleF, Sx.beqT, Sx.beqF, Sx.ltT, Sx.ltF, Sx.leT, Sx.leF, Sx.gtT, Sx.gtF, Sx.geT, Sx.geF, Sx.eqT, Sx.eqF, Sx.neT, Sx.neF, Sx.ofN, Sx.tn, Sx.tn1, cond_true, cond_false, Option.bind_some, Bool.true_and, Bool.and_true, Bool.false_and, Bool.and_false, Bool.and_self, Bool.not_true, Bool.not_false, Bool.or_false, Bool.or_true, Bool.false_or, Bool.true_or, decide_true, decide_false, Nat.zero_add, Nat.add_zero, Nat.mul_one, Nat.sub_zero, List.drop_zero, List.isEmpty_nil, Int.ofNat_eq_natCast, Sx.castN, Int.natCast_zero, Int.natCast_one, Sx.tnL, Int.sub_zero, Int.add_zero, Int.zero_add, Sx.takeAll, Sx.dropAll, List.drop_succ_cons, List.drop_zero, List.getD_cons_zero, List.getD_cons_succ, byt_len, ofBytes_len, byt_all, byt_flatten, byt_flat_len, Sx.byt_get, Sx.ofB_get, Sx.byt_take, Sx.byt_drop, Sx.byt_app, Sx.ofB_take, Sx.ofB_drop, Sx.ofB_app, Sx.ofB_snoc, Sx.chunkB, Sx.frozB, Sx.zeros, ofBytes_froz, toBytes_of, Sx.uncC, Sx.toI, Sx.toF, Sx.toS, Sx.toB, List.length_append, List.length_cons, List.length_nil, List.length_take, List.length_drop, List.length_replicate, Sx.sp11, Sx.sp11', Sx.ch1, Sx.ch2, Sx.ch3, Sx.ch4, Sx.dBs1, Sx.dBs2, Sx.dBs3, Sx.dBs4, List.flatten_cons, List.flatten_nil, List.append_nil, List.take_succ_cons, List.take_zero, Sx.l1c, Sx.l2c, Sx.l3c, Sx.l4c, Sx.frozC, Sx.bltF]
    rfl
 | succ m ih =>
  intro i hm hi
  have hil : i < r.length := by omega
  have hb : big (r.take i) 0 < 16777216 := big_lt3 (Nat.le_trans (List.length_take_le' i r) hr)
  have hx := (r.getD i 0).toNat_lt
  refine loop_step hc.cont ?_
  rw [b_der_head_2]
  simp -implicitDefEqProofs (disch := (first | omega | (simp only [List.length_cons, List.length_append, List.length_nil, List.length_take, List.length_drop, List.length_replicate, byt_len, ofBytes_len, byts_len, Sx.tn, Sx.tn1, Sx.tnL]; done) | (simp only [List.length_cons, List.length_append, List.length_nil, List.length_take, List.length_drop, List.length_replicate, byt_len, ofBytes_len, byts_len, Sx.tn, Sx.tn1, Sx.tnL]; omega))) only [Sx.w64, Sx.wu8, Sx.idxI, Sx.upI, Sx.bleT, Sx.bleF, Sx.beqT, Sx.beqF, Sx.ltT, Sx.ltF, Sx.leT, Sx.leF, Sx.gtT, Sx.gtF, Sx.geT, Sx.geF, Sx.eqT, Sx.eqF, Sx.neT, Sx.neF, Sx.ofN, Sx.tn, Sx.tn1, cond_true, cond_false, Option.bind_some, Bool.true_and, Bool.and_true, Bool.false_and, Bool.and_false, Bool.and_self, Bool.not_true, Bool.not_false, Bool.or_false, Bool.or_true, Bool.false_or, Bool.true_or, decide_true, decide_false, Nat.zero_add, Nat.add_zero, Nat.mul_one, Nat.sub_zero, List.drop_zero, List.isEmpty_nil, Int.ofNat_eq_natCast, Sx.castN, Int.natCast_zero, Int.natCast_one, Sx.tnL, Int.sub_zero, Int.add_zero, Int.zero_add, Sx.takeAll, Sx.dropAll, List.drop_succ_cons, List.drop_zero, List.getD_cons_zero, List.getD_cons_succ, byt_len, ofBytes_len, byt_all, byt_flatten, byt_flat_len, Sx.byt_get, Sx.ofB_get, Sx.byt_take, Sx.byt_drop, Sx.byt_app, Sx.ofB_take, Sx.ofB_drop, Sx.ofB_app, Sx.ofB_snoc, Sx.chunkB, Sx.frozB, Sx.zeros, ofBytes_froz, toBytes_of, Sx.uncC, Sx.toI, Sx.toF, Sx.toS, Sx.toB, List.length_append, List.length_cons, List.length_nil, List.length_take, List.length_drop, List.length_replicate, wor]
  refine leafT (X := true) (ih (i + 1) (by omega) hil) ?_ rfl ?_ rfl
  ·(show _ = _; kernel_rfl)
  ·rw [big_take hil]
   (show _ = _; kernel_rfl)
theorem head_form (t l : UInt8) (r : B) : head (t :: l :: r) = bif !isTag t.toNat then (11, 0, 0) else bif Nat.blt l.toNat 128 then (0, 2, l.toNat) else
        bif Nat.beq l.toNat 128 || Nat.blt 131 l.toNat || r.head? == some 0 then (12, 0, 0) else
        bif Nat.blt r.length (l.toNat - 128) then (10, 0, 0) else
        bif Nat.blt (big (r.take (l.toNat - 128)) 0) 128 then (12, 0, 0) else (0, 2 + (l.toNat - 128), big (r.take (l.toNat - 128)) 0) := rfl
theorem r_head (t l c : UInt8) (r : B) (k : Nat) (hl : r.length + 1 + 1 + 1 ≤ 1099511627776) (hT : isTag t.toNat = true) (hk : l.toNat = 128 + k) (hk3 : k ≤ 3) (hk1 : 1 ≤ k) (hc : (c == 0) = false) (hf : head (t :: l :: c :: r) = bif (c :: r).head? == some 0 then (12, 0, 0) else bif Nat.blt (c :: r).length k then (10, 0, 0) else bif Nat.blt (big ((c :: r).take k) 0) 128 then (12, 0, 0) else (0, 2 + k, big ((c :: r).take k) 0)) :
  run P0 T0 (fun _ => LoopLim) (Lt t_der_head) nY 136 [.fz (byt (t :: l :: c :: r))] = some (ret (.tup [.int .i64 (tagOf (t :: l :: c :: r)), .int .i64 ((head (t :: l :: c :: r)).2.1 : Nat), .int .i64 ((head (t :: l :: c :: r)).2.2 : Nat), .int .i64 (head (t :: l :: c :: r)).1])) := by
 have ht := t.toNat_lt
 rw [e_der_head]
 have e2 : ((c :: r).head? == some 0) = false := hc
 rw [e2, cond_false] at hf
 have hw : IntKind.i64.wrap ((128 + k : Nat) : Int) = ((128 + k : Nat) : Int) := Sx.w64 (by omega)
 have hw1 : IntKind.i64.wrap (((128 + k : Nat) : Int) - 128) = (k : Int) := by rw [Sx.w64 (by omega)]; omega
 have hw2 : IntKind.i64.wrap (2 + (k : Int)) = 2 + (k : Int) := Sx.w64 (by omega)
 have c1 : decide ((k : Int) < 0) = false := Sx.ltF (by omega)
 have c2 : ((k : Int) == 0) = false := Sx.eqF (by omega)
 have c3 : decide ((k : Int) > 3) = false := Sx.gtF (by omega)
 have c4 : decide (((r.length + 1 + 1 + 1 : Nat) : Int) > 2) = true := Sx.gtT (by omega)
 have c6 : (((r.length + 1 + 1 + 1 : Nat) : Int) == 0) = false := Sx.eqF (by omega)
 have c7 : (((r.length + 1 + 1 + 1 : Nat) : Int) == 1) = false := Sx.eqF (by omega)
 have i0 : idx 0 (r.length + 1 + 1 + 1) = some 0 := Sx.idxI (by omega)
 have i1 : idx 1 (r.length + 1 + 1 + 1) = some 1 := Sx.idxI (by omega)
 have i2 : idx 2 (r.length + 1 + 1 + 1) = some 2 := Sx.idxI (by omega)
 have b0 : (byt (t :: l :: c :: r))[0]? = some [.int .u8 t.toNat] := rfl
 have b1 : (byt (t :: l :: c :: r))[1]? = some [.int .u8 l.toNat] := rfl
 have b2 : (byt (t :: l :: c :: r))[2]? = some [.int .u8 c.toNat] := rfl
 have w0 : IntKind.i64.wrap (t.toNat : Int) = t.toNat := Sx.w64 (by omega)
 rcases Nat.lt_or_ge (c :: r).length k with h4 | h4
 ·rw [Sx.bltT h4, cond_true] at hf
  simp only [List.length_cons] at h4
  have c5 : decide (((r.length + 1 + 1 + 1 : Nat) : Int) < 2 + (k : Int)) = true := Sx.ltT (by omega)
  simp -implicitDefEqProofs only [byt_len, List.length_cons, Sx.ofN, Sx.castN, Int.natCast_zero, Int.natCast_one, c6, i0, b0, Option.bind_some, Sx.uncC, Sx.toI, List.isEmpty_nil, cond_true, cond_false, w0, hT, Bool.not_true, c7, i1, b1, hk, hw, hw1, c1, c2, c3, c4, i2, b2, u8_zero, hc, hw2, c5, tagOf, hf]
  rfl
 ·rw [Sx.bltF h4, cond_false] at hf
  simp only [List.length_cons] at h4
  have hlen : ((c :: r).take k).length = k := by rw [List.length_take]; simp; omega
  have hL := l_head t (l :: c :: r) ((c :: r).take k) k hk3 (by omega) ((c :: r).take k).length 0 (by omega) (by omega)
  have tk2 : ((2 : Int) + (k : Int)).toNat = k + 2 := by omega
  have hup : upTo (2 + (k : Int)) (r.length + 1 + 1 + 1) = some (k + 2) := by rw [Sx.upI (by omega), tk2]
  have hup2 : upTo 2 (k + 2) = some 2 := by rw [Sx.upI (by omega)]; rfl
  have hsl : List.drop 2 (List.take (k + 2) (t :: l :: c :: r)) = (c :: r).take k := rfl
  have c5 : decide (((r.length + 1 + 1 + 1 : Nat) : Int) < 2 + (k : Int)) = false := Sx.ltF (by omega)
  simp -implicitDefEqProofs only [byt_len, List.length_cons, Sx.ofN, Sx.castN, Int.natCast_zero, Int.natCast_one, c6, i0, b0, Option.bind_some, Sx.uncC, Sx.toI, List.isEmpty_nil, cond_true, cond_false, w0, hT, Bool.not_true, c7, i1, b1, hk, hw, hw1, c1, c2, c3, c4, i2, b2, u8_zero, hc, hw2, c5, hup, hup2, byt_all, Sx.byt_take, Sx.byt_drop, hsl]
  refine headT (hL.trans ?_) ?_
  ·unfold headR tagOf
   rw [hf]
   rcases Nat.lt_or_ge (big ((c :: r).take k) 0) 128 with h5 | h5
   ·rw [Sx.bltT h5]; rfl
   ·rw [Sx.bltF h5]; rfl
  ·rw [hlen]
   (show _ = _; kernel_rfl)
theorem c_der_head : Con P0 T0 136 S_der_head := con1 fun x s hx => by
 obtain ⟨rfl, hl⟩ := dB_inv hx
 refine Lx.of_in (tab := t_der_head) ⟨c_der_isTag, trivial⟩ ?_
 rw [e_der_head]
 unfold lim at hl
 clear hx
 show _ = some (ret (.tup [.int .i64 (tagOf s), .int .i64 ((head s).2.1 : Nat), .int .i64 ((head s).2.2 : Nat), .int .i64 (head s).1]))
 cases s with
 | nil => rfl
 | cons t s =>
  have ht := t.toNat_lt
  simp only [List.length_cons] at hl
  cases hT : isTag t.toNat with
  | false =>
   have hh : head (t :: s) = (11, 0, 0) := by cases s <;> simp [head, hT]
   simp -implicitDefEqProofs (disch := (first | omega | (simp only [List.length_cons, List.length_append, List.length_nil, List.length_take, List.length_drop, List.length_replicate, byt_len, ofBytes_len, byts_len, Sx.tn, Sx.tn1, Sx.tnL]; done) | (simp only [List.length_cons, List.length_append, List.length_nil, List.length_take, List.length_drop, List.length_replicate, byt_len, ofBytes_len, byts_len, Sx.tn, Sx.tn1, Sx.tnL]; omega))) only [Sx.w64, Sx.wu8, Sx.idxI, Sx.upI, Sx.bleT, Sx.bleF, Sx.beqT, Sx.beqF, Sx.ltT, Sx.ltF, Sx.leT, Sx.leF, Sx.gtT, Sx.gtF, Sx.geT, Sx.geF, Sx.eqT, Sx.eqF, Sx.neT, Sx.neF, Sx.ofN, Sx.tn, Sx.tn1, cond_true, cond_false, Option.bind_some, Bool.true_and, Bool.and_true, Bool.false_and, Bool.and_false, Bool.and_self, Bool.not_true, Bool.not_false, Bool.or_false, Bool.or_true, Bool.false_or, Bool.true_or, decide_true, decide_false, Nat.zero_add, Nat.add_zero, Nat.mul_one, Nat.sub_zero, List.drop_zero, List.isEmpty_nil, Int.ofNat_eq_natCast, Sx.castN, Int.natCast_zero, Int.natCast_one, Sx.tnL, Int.sub_zero, Int.add_zero, Int.zero_add, Sx.takeAll, Sx.dropAll, List.drop_succ_cons, List.drop_zero, List.getD_cons_zero, List.getD_cons_succ, byt_len, ofBytes_len, byt_all, byt_flatten, byt_flat_len, Sx.byt_get, Sx.ofB_get, Sx.byt_take, Sx.byt_drop, Sx.byt_app, Sx.ofB_take, Sx.ofB_drop, Sx.ofB_app, Sx.ofB_snoc, Sx.chunkB, Sx.frozB, Sx.zeros, ofBytes_froz, toBytes_of, Sx.uncC, Sx.toI, Sx.toF, Sx.toS, Sx.toB, List.length_append, List.length_cons, List.length_nil, List.length_take, List.length_drop, List.length_replicate, hT, tagOf, hh]
  | true =>
   cases s with
   | nil =>
    have hh : head [t] = (10, 0, 0) := by simp [head, hT]
    simp -implicitDefEqProofs (disch := (first | omega | (simp only [List.length_cons, List.length_append, List.length_nil, List.length_take, List.length_drop, List.length_replicate, byt_len, ofBytes_len, byts_len, Sx.tn, Sx.tn1, Sx.tnL]; done) | (simp only [List.length_cons, List.length_append, List.length_nil, List.length_take, List.length_drop, List.length_replicate, byt_len, ofBytes_len, byts_len, Sx.tn, Sx.tn1, Sx.tnL]; omega))) only [Sx.w64, Sx.wu8, Sx.idxI, Sx.upI, Sx.bleT, Sx.bleF, Sx.beqT, Sx.beqF, Sx.ltT, Sx.ltF, Sx.leT, Sx.leF, Sx.gtT, Sx.gtF, Sx.geT, Sx.geF, Sx.eqT, Sx.eqF, Sx.neT, Sx.neF, Sx.ofN, Sx.tn, Sx.tn1, cond_true, cond_false, Option.bind_some, Bool.true_and, Bool.and_true, Bool.false_and, Bool.and_false, Bool.and_self, Bool.not_true, Bool.not_false, Bool.or_false, Bool.or_true, Bool.false_or, Bool.true_or, decide_true, decide_false, Nat.zero_add, Nat.add_zero, Nat.mul_one, Nat.sub_zero, List.drop_zero, List.isEmpty_nil, Int.ofNat_eq_natCast, Sx.castN, Int.natCast_zero, Int.natCast_one, Sx.tnL, Int.sub_zero, Int.add_zero, Int.zero_add, Sx.takeAll, Sx.dropAll, List.drop_succ_cons, List.drop_zero, List.getD_cons_zero, List.getD_cons_succ, byt_len, ofBytes_len, byt_all, byt_flatten, byt_flat_len, Sx.byt_get, Sx.ofB_get, Sx.byt_take, Sx.byt_drop, Sx.byt_app, Sx.ofB_take, Sx.ofB_drop, Sx.ofB_app, Sx.ofB_snoc, Sx.chunkB, Sx.frozB, Sx.zeros, ofBytes_froz, toBytes_of, Sx.uncC, Sx.toI, Sx.toF, Sx.toS, Sx.toB, List.length_append, List.length_cons, List.length_nil, List.length_take, List.length_drop, List.length_replicate, hT, tagOf, hh]
   | cons l r =>
    have hlt := l.toNat_lt
    simp only [List.length_cons] at hl
    have hf := head_form t l r
    rw [hT, Bool.not_true, cond_false] at hf
    rcases Nat.lt_or_ge l.toNat 128 with h1 | h1
    ·rw [Sx.bltT h1, cond_true] at hf
     simp -implicitDefEqProofs (disch := (first | omega | (simp only [List.length_cons, List.length_append, List.length_nil, List.length_take, List.length_drop, List.length_replicate, byt_len, ofBytes_len, byts_len, Sx.tn, Sx.tn1, Sx.tnL]; done) | (simp only [List.length_cons, List.length_append, List.length_nil, List.length_take, List.length_drop, List.length_replicate, byt_len, ofBytes_len, byts_len, Sx.tn, Sx.tn1, Sx.tnL]; omega))) only [Sx.w64, Sx.wu8, Sx.idxI, Sx.upI, Sx.bleT, Sx.bleF, Sx.beqT, Sx.beqF, Sx.ltT, Sx.ltF, Sx.leT, Sx.leF, Sx.gtT, Sx.gtF, Sx.geT, Sx.geF, Sx.eqT, Sx.eqF, Sx.neT, Sx.neF, Sx.ofN, Sx.tn, Sx.tn1, cond_true, cond_false, Option.bind_some, Bool.true_and, Bool.and_true, Bool.false_and, Bool.and_false, Bool.and_self, Bool.not_true, Bool.not_false, Bool.or_false, Bool.or_true, Bool.false_or, Bool.true_or, decide_true, decide_false, Nat.zero_add, Nat.add_zero, Nat.mul_one, Nat.sub_zero, List.drop_zero, List.isEmpty_nil, Int.ofNat_eq_natCast, Sx.castN, Int.natCast_zero, Int.natCast_one, Sx.tnL, Int.sub_zero, Int.add_zero, Int.zero_add, Sx.takeAll, Sx.dropAll, List.drop_succ_cons, List.drop_zero, List.getD_cons_zero, List.getD_cons_succ, byt_len, ofBytes_len, byt_all, byt_flatten, byt_flat_len, Sx.byt_get, Sx.ofB_get, Sx.byt_take, Sx.byt_drop, Sx.byt_app, Sx.ofB_take, Sx.ofB_drop, Sx.ofB_app, Sx.ofB_snoc, Sx.chunkB, Sx.frozB, Sx.zeros, ofBytes_froz, toBytes_of, Sx.uncC, Sx.toI, Sx.toF, Sx.toS, Sx.toB, List.length_append, List.length_cons, List.length_nil, List.length_take, List.length_drop, List.length_replicate, hT, tagOf, hf, List.headD_cons]
    ·rw [Sx.bltF h1, cond_false] at hf
     rcases Nat.eq_or_lt_of_le h1 with h2 | h2
     ·have e : Nat.beq l.toNat 128 = true := Sx.beqT h2.symm
      rw [e, Bool.true_or, Bool.true_or, cond_true] at hf
      simp -implicitDefEqProofs (disch := (first | omega | (simp only [List.length_cons, List.length_append, List.length_nil, List.length_take, List.length_drop, List.length_replicate, byt_len, ofBytes_len, byts_len, Sx.tn, Sx.tn1, Sx.tnL]; done) | (simp only [List.length_cons, List.length_append, List.length_nil, List.length_take, List.length_drop, List.length_replicate, byt_len, ofBytes_len, byts_len, Sx.tn, Sx.tn1, Sx.tnL]; omega))) only [Sx.w64, Sx.wu8, Sx.idxI, Sx.upI, Sx.bleT, Sx.bleF, Sx.beqT, Sx.beqF, Sx.ltT, Sx.ltF, Sx.leT, Sx.leF, Sx.gtT, Sx.gtF, Sx.geT, Sx.geF, Sx.eqT, Sx.eqF, Sx.neT, Sx.neF, Sx.ofN, Sx.tn, Sx.tn1, cond_true, cond_false, Option.bind_some, Bool.true_and, Bool.and_true, Bool.false_and, Bool.and_false, Bool.and_self, Bool.not_true, Bool.not_false, Bool.or_false, Bool.or_true, Bool.false_or, Bool.true_or, decide_true, decide_false, Nat.zero_add, Nat.add_zero, Nat.mul_one, Nat.sub_zero, List.drop_zero, List.isEmpty_nil, Int.ofNat_eq_natCast, Sx.castN, Int.natCast_zero, Int.natCast_one, Sx.tnL, Int.sub_zero, Int.add_zero, Int.zero_add, Sx.takeAll, Sx.dropAll, List.drop_succ_cons, List.drop_zero, List.getD_cons_zero, List.getD_cons_succ, byt_len, ofBytes_len, byt_all, byt_flatten, byt_flat_len, Sx.byt_get, Sx.ofB_get, Sx.byt_take, Sx.byt_drop, Sx.byt_app, Sx.ofB_take, Sx.ofB_drop, Sx.ofB_app, Sx.ofB_snoc, Sx.chunkB, Sx.frozB, Sx.zeros, ofBytes_froz, toBytes_of, Sx.uncC, Sx.toI, Sx.toF, Sx.toS, Sx.toB, List.length_append, List.length_cons, List.length_nil, List.length_take, List.length_drop, List.length_replicate, hT, tagOf, hf]
     ·have e : Nat.beq l.toNat 128 = false := Sx.beqF (by omega)
      rw [e, Bool.false_or] at hf
      rcases Nat.lt_or_ge 131 l.toNat with h3 | h3
      ·rw [Sx.bltT h3, Bool.true_or, cond_true] at hf
       simp -implicitDefEqProofs (disch := (first | omega | (simp only [List.length_cons, List.length_append, List.length_nil, List.length_take, List.length_drop, List.length_replicate, byt_len, ofBytes_len, byts_len, Sx.tn, Sx.tn1, Sx.tnL]; done) | (simp only [List.length_cons, List.length_append, List.length_nil, List.length_take, List.length_drop, List.length_replicate, byt_len, ofBytes_len, byts_len, Sx.tn, Sx.tn1, Sx.tnL]; omega))) only [Sx.w64, Sx.wu8, Sx.idxI, Sx.upI, Sx.bleT, Sx.bleF, Sx.beqT, Sx.beqF, Sx.ltT, Sx.ltF, Sx.leT, Sx.leF, Sx.gtT, Sx.gtF, Sx.geT, Sx.geF, Sx.eqT, Sx.eqF, Sx.neT, Sx.neF, Sx.ofN, Sx.tn, Sx.tn1, cond_true, cond_false, Option.bind_some, Bool.true_and, Bool.and_true, Bool.false_and, Bool.and_false, Bool.and_self, Bool.not_true, Bool.not_false, Bool.or_false, Bool.or_true, Bool.false_or, Bool.true_or, decide_true, decide_false, Nat.zero_add, Nat.add_zero, Nat.mul_one, Nat.sub_zero, List.drop_zero, List.isEmpty_nil, Int.ofNat_eq_natCast, Sx.castN, Int.natCast_zero, Int.natCast_one, Sx.tnL, Int.sub_zero, Int.add_zero, Int.zero_add, Sx.takeAll, Sx.dropAll, List.drop_succ_cons, List.drop_zero, List.getD_cons_zero, List.getD_cons_succ, byt_len, ofBytes_len, byt_all, byt_flatten, byt_flat_len, Sx.byt_get, Sx.ofB_get, Sx.byt_take, Sx.byt_drop, Sx.byt_app, Sx.ofB_take, Sx.ofB_drop, Sx.ofB_app, Sx.ofB_snoc, Sx.chunkB, Sx.frozB, Sx.zeros, ofBytes_froz, toBytes_of, Sx.uncC, Sx.toI, Sx.toF, Sx.toS, Sx.toB, List.length_append, List.length_cons, List.length_nil, List.length_take, List.length_drop, List.length_replicate, hT, tagOf, hf]
      ·rw [Sx.bltF h3, Bool.false_or] at hf
       obtain ⟨k, hk⟩ : ∃ k, l.toNat = 128 + k := ⟨l.toNat - 128, by omega⟩
       have hk3 : k ≤ 3 := by omega
       have hk1 : 1 ≤ k := by omega
       rw [hk, Nat.add_sub_cancel_left] at hf
       cases r with
       | nil =>
        have e2 : (([] : B).head? == some 0) = false := rfl
        rw [e2, cond_false, Sx.bltT (by simp; omega), cond_true] at hf
        simp -implicitDefEqProofs (disch := (first | omega | (simp only [List.length_cons, List.length_append, List.length_nil, List.length_take, List.length_drop, List.length_replicate, byt_len, ofBytes_len, byts_len, Sx.tn, Sx.tn1, Sx.tnL]; done) | (simp only [List.length_cons, List.length_append, List.length_nil, List.length_take, List.length_drop, List.length_replicate, byt_len, ofBytes_len, byts_len, Sx.tn, Sx.tn1, Sx.tnL]; omega))) only [Sx.w64, Sx.wu8, Sx.idxI, Sx.upI, Sx.bleT, Sx.bleF, Sx.beqT, Sx.beqF, Sx.ltT, Sx.ltF, Sx.leT, Sx.leF, Sx.gtT, Sx.gtF, Sx.geT, Sx.geF, Sx.eqT, Sx.eqF, Sx.neT, Sx.neF, Sx.ofN, Sx.tn, Sx.tn1, cond_true, cond_false, Option.bind_some, Bool.true_and, Bool.and_true, Bool.false_and, Bool.and_false, Bool.and_self, Bool.not_true, Bool.not_false, Bool.or_false, Bool.or_true, Bool.false_or, Bool.true_or, decide_true, decide_false, Nat.zero_add, Nat.add_zero, Nat.mul_one, Nat.sub_zero, List.drop_zero, List.isEmpty_nil, Int.ofNat_eq_natCast, Sx.castN, Int.natCast_zero, Int.natCast_one, Sx.tnL, Int.sub_zero, Int.add_zero, Int.zero_add, Sx.takeAll, Sx.dropAll, List.drop_succ_cons, List.drop_zero, List.getD_cons_zero, List.getD_cons_succ, byt_len, ofBytes_len, byt_all, byt_flatten, byt_flat_len, Sx.byt_get, Sx.ofB_get, Sx.byt_take, Sx.byt_drop, Sx.byt_app, Sx.ofB_take, Sx.ofB_drop, Sx.ofB_app, Sx.ofB_snoc, Sx.chunkB, Sx.frozB, Sx.zeros, ofBytes_froz, toBytes_of, Sx.uncC, Sx.toI, Sx.toF, Sx.toS, Sx.toB, List.length_append, List.length_cons, List.length_nil, List.length_take, List.length_drop, List.length_replicate, hT, tagOf, hf, hk]
       | cons c r =>
        simp only [List.length_cons] at hl
        cases hc : (c == 0) with
        | true =>
         have e2 : ((c :: r).head? == some 0) = true := hc
         rw [e2, cond_true] at hf
         simp -implicitDefEqProofs (disch := (first | omega | (simp only [List.length_cons, List.length_append, List.length_nil, List.length_take, List.length_drop, List.length_replicate, byt_len, ofBytes_len, byts_len, Sx.tn, Sx.tn1, Sx.tnL]; done) | (simp only [List.length_cons, List.length_append, List.length_nil, List.length_take, List.length_drop, List.length_replicate, byt_len, ofBytes_len, byts_len, Sx.tn, Sx.tn1, Sx.tnL]; omega))) only [Sx.w64, Sx.wu8, Sx.idxI, Sx.upI, Sx.bleT, Sx.bleF, Sx.beqT, Sx.beqF, Sx.ltT, Sx.ltF, Sx.leT, Sx.leF, Sx.gtT, Sx.gtF, Sx.geT, Sx.geF, Sx.eqT, Sx.eqF, Sx.neT, Sx.neF, Sx.ofN, Sx.tn, Sx.tn1, cond_true, cond_false, Option.bind_some, Bool.true_and, Bool.and_true, Bool.false_and, Bool.and_false, Bool.and_self, Bool.not_true, Bool.not_false, Bool.or_false, Bool.or_true, Bool.false_or, Bool.true_or, decide_true, decide_false, Nat.zero_add, Nat.add_zero, Nat.mul_one, Nat.sub_zero, List.drop_zero, List.isEmpty_nil, Int.ofNat_eq_natCast, Sx.castN, Int.natCast_zero, Int.natCast_one, Sx.tnL, Int.sub_zero, Int.add_zero, Int.zero_add, Sx.takeAll, Sx.dropAll, List.drop_succ_cons, List.drop_zero, List.getD_cons_zero, List.getD_cons_succ, byt_len, ofBytes_len, byt_all, byt_flatten, byt_flat_len, Sx.byt_get, Sx.ofB_get, Sx.byt_take, Sx.byt_drop, Sx.byt_app, Sx.ofB_take, Sx.ofB_drop, Sx.ofB_app, Sx.ofB_snoc, Sx.chunkB, Sx.frozB, Sx.zeros, ofBytes_froz, toBytes_of, Sx.uncC, Sx.toI, Sx.toF, Sx.toS, Sx.toB, List.length_append, List.length_cons, List.length_nil, List.length_take, List.length_drop, List.length_replicate, hT, tagOf, hf, hk, u8_zero, hc]
        | false =>
         exact (e_der_head (fun _ => LoopLim) (byt (t :: l :: c :: r))).symm.trans (r_head t l c r k hl hT hk hk3 hk1 hc hf)
end Go.Dv
end
section
namespace Go.Dv
open Go.Proofs Go.Dv.S
open Go.Pv (idx upTo)
theorem head_bound (b : B) : (head b).2.1 ≤ 5 ∧ (head b).2.2 < 16777216 := by
 match b with
 | [] => exact ⟨by decide, by decide⟩
 | [t] =>
  have hh : head [t] = bif !isTag t.toNat then (11, 0, 0) else (10, 0, 0) := rfl
  rw [hh]
  cases isTag t.toNat <;> exact ⟨by decide, by decide⟩
 | t :: l :: r =>
  have hlt := l.toNat_lt
  rw [head_form]
  cases isTag t.toNat with
  | false => rw [Bool.not_false, cond_true]; exact ⟨by decide, by decide⟩
  | true =>
   rcases Nat.lt_or_ge l.toNat 128 with h1 | h1
   ·rw [Sx.bltT h1]
    exact ⟨by simp, by simp; omega⟩
   ·rw [Sx.bltF h1]
    rcases Nat.lt_or_ge 131 l.toNat with h3 | h3
    ·rw [Sx.bltT h3, Bool.or_true, Bool.true_or]
     exact ⟨by simp, by simp⟩
    ·simp only [Bool.not_true, cond_false]
     cases (Nat.beq l.toNat 128 || Nat.blt 131 l.toNat || r.head? == some 0) with
     | true => exact ⟨by simp, by simp⟩
     | false =>
      simp only [cond_false]
      cases Nat.blt r.length (l.toNat - 128) with
      | true => exact ⟨by simp, by simp⟩
      | false =>
       simp only [cond_false]
       have hb : big (r.take (l.toNat - 128)) 0 < 16777216 := big_lt3 (by rw [List.length_take]; omega)
       cases Nat.blt (big (r.take (l.toNat - 128)) 0) 128 with
       | true => exact ⟨by simp, by simp⟩
       | false => exact ⟨by simp; omega, by simpa using hb⟩
theorem takeE_ne {b : B} (h : (head b).1 ≠ 0) : takeE b = (head b).1 := by
 unfold takeE
 rw [Sx.eqF h, Bool.false_and, cond_false]
theorem takeE_eq {b : B} (h : (head b).1 = 0) : takeE b = bif Nat.blt b.length ((head b).2.1 + (head b).2.2) then 10 else 0 := by
 unfold takeE
 rw [h]
 rfl
theorem take_bad {b : B} (h : takeE b ≠ 0) : takeC b = [] ∧ takeN b = 0 ∧ takeT b = 0 := by
 unfold takeC takeN takeT
 rw [Sx.eqF h]
 exact ⟨rfl, rfl, rfl⟩
theorem take_good {b : B} (h : takeE b = 0) : takeC b = (b.drop (head b).2.1).take (head b).2.2 ∧ takeN b = (head b).2.1 + (head b).2.2 ∧ takeT b = (b.headD 0).toNat := by
 unfold takeC takeN takeT
 rw [h]
 exact ⟨rfl, rfl, rfl⟩
theorem c_der_Take : Con P0 T0 99 S_der_Take := con1 fun x b hx => by
 have hx' := hx
 obtain ⟨rfl, hl⟩ := dB_inv hx
 refine Lx.of_in (tab := t_der_Take) ⟨c_der_head, c_slices_Clone_byte_byte, trivial⟩ ?_
 rw [e_der_Take]
 unfold lim at hl
 show _ = some (ret (.tup [eltV (takeT b, takeC b), .int .i64 (takeN b : Nat), .int .i64 (takeE b)]))
 obtain ⟨hb1, hb2⟩ := head_bound b
 simp only [hx', Option.bind_some, byt_len, Sx.ofN, Int.natCast_zero]
 by_cases h0 : (head b).1 = 0
 ·have hE := takeE_eq h0
  have hsub : IntKind.i64.wrap ((b.length : Int) - ((head b).2.1 : Int)) = (b.length : Int) - ((head b).2.1 : Int) := Sx.w64 (by omega)
  rw [Sx.eqT h0, cond_true, hsub]
  rcases Nat.lt_or_ge b.length ((head b).2.1 + (head b).2.2) with h1 | h1
  ·rw [Sx.bltT h1, cond_true] at hE
   obtain ⟨q1, q2, q3⟩ := take_bad (b := b) (by rw [hE]; decide)
   rw [Sx.ltT (by omega), cond_true, q1, q2, q3, hE]
   rfl
  ·rw [Sx.bltF h1, cond_false] at hE
   obtain ⟨q1, q2, q3⟩ := take_good hE
   have htg : tagOf b = (b.headD 0).toNat := by unfold tagOf; rw [h0]; rfl
   rw [Sx.ltF (by omega), cond_false, Sx.neF h0, cond_false, q1, q2, q3, hE, htg]
   have hsum : IntKind.i64.wrap (((head b).2.1 : Int) + ((head b).2.2 : Int)) = (((head b).2.1 + (head b).2.2 : Nat) : Int) := by rw [Sx.w64 (by omega)]; omega
   have hdr : (b.take ((head b).2.1 + (head b).2.2)).drop (head b).2.1 = (b.drop (head b).2.1).take (head b).2.2 := by
    rw [List.drop_take, Nat.add_sub_cancel_left]
   have hdb : dB (.fz (byt ((b.drop (head b).2.1).take (head b).2.2))) = some ((b.drop (head b).2.1).take (head b).2.2) := dB_ok (by unfold lim; simp; omega)
   rw [hsum, Sx.upI (by omega), Option.bind_some, Sx.tn, Sx.upI (by omega), Option.bind_some, byt_all, cond_true, Sx.tn, Sx.byt_take, Sx.byt_drop, hdr, hdb]
   rfl
 ·have hE := takeE_ne h0
  obtain ⟨q1, q2, q3⟩ := take_bad (b := b) (by rw [hE]; exact h0)
  rw [Sx.eqF h0, cond_false, Sx.neT h0, cond_true, q1, q2, q3, hE]
  rfl
theorem oneE_of {b : B} : oneE b = bif takeE b == 0 && Nat.blt (takeN b) b.length then 13 else takeE b := rfl
theorem c_der_One : Con P0 T0 47 S_der_One := con1 fun x b hx => by
 have hx' := hx
 obtain ⟨rfl, hl⟩ := dB_inv hx
 refine Lx.of_in (tab := t_der_One) ⟨c_der_Take, trivial⟩ ?_
 rw [e_der_One]
 show _ = some (ret (.tup [eltV (oneT b, oneC b), .int .i64 (oneE b)]))
 simp only [hx', Option.bind_some, byt_len, Sx.ofN, Int.natCast_zero]
 unfold oneT oneC
 rw [oneE_of]
 by_cases h0 : takeE b = 0
 ·rw [h0]
  rcases Nat.lt_or_ge (takeN b) b.length with h1 | h1
  ·rw [Sx.ltT (by omega), Sx.bltT h1]; rfl
  ·rw [Sx.ltF (by omega), Sx.bltF h1]; rfl
 ·obtain ⟨q1, q2, q3⟩ := take_bad h0
  simp only [Bool.false_and, cond_false, Sx.eqF h0, q1, q3]
  rfl
theorem c_der_Size : Con P0 T0 101 S_der_Size := con1 fun x n hx => by
 have hx' := hx
 obtain ⟨rfl, hn⟩ := dM_inv hx
 refine Lx.of_in (tab := t_der_Size) ⟨c_der_length, trivial⟩ ?_
 rw [e_der_Size]
 have h4 := (lenB_len n).1
 simp -implicitDefEqProofs (disch := (first | omega | (simp only [List.length_cons, List.length_append, List.length_nil, List.length_take, List.length_drop, List.length_replicate, byt_len, ofBytes_len, byts_len, Sx.tn, Sx.tn1, Sx.tnL]; done) | (simp only [List.length_cons, List.length_append, List.length_nil, List.length_take, List.length_drop, List.length_replicate, byt_len, ofBytes_len, byts_len, Sx.tn, Sx.tn1, Sx.tnL]; omega))) only [Sx.w64, Sx.wu8, Sx.idxI, Sx.upI, Sx.bleT, Sx.bleF, Sx.beqT, Sx.beqF, Sx.ltT, Sx.ltF, Sx.leT, Sx.leF, Sx.gtT, Sx.gtF, Sx.geT, Sx.geF, Sx.eqT, Sx.eqF, Sx.neT, Sx.neF, Sx.ofN, Sx.tn, Sx.tn1, cond_true, cond_false, Option.bind_some, Bool.true_and, Bool.and_true, Bool.false_and, Bool.and_false, Bool.and_self, Bool.not_true, Bool.not_false, Bool.or_false, Bool.or_true, Bool.false_or, Bool.true_or, decide_true, decide_false, Nat.zero_add, Nat.add_zero, Nat.mul_one, Nat.sub_zero, List.drop_zero, List.isEmpty_nil, Int.ofNat_eq_natCast, Sx.castN, Int.natCast_zero, Int.natCast_one, Sx.tnL, Int.sub_zero, Int.add_zero, Int.zero_add, Sx.takeAll, Sx.dropAll, List.drop_succ_cons, List.drop_zero, List.getD_cons_zero, List.getD_cons_succ, byt_len, ofBytes_len, byt_all, byt_flatten, byt_flat_len, Sx.byt_get, Sx.ofB_get, Sx.byt_take, Sx.byt_drop, Sx.byt_app, Sx.ofB_take, Sx.ofB_drop, Sx.ofB_app, Sx.ofB_snoc, Sx.chunkB, Sx.frozB, Sx.zeros, ofBytes_froz, toBytes_of, Sx.uncC, Sx.toI, Sx.toF, Sx.toS, Sx.toB, List.length_append, List.length_cons, List.length_nil, List.length_take, List.length_drop, List.length_replicate, hx']
 show _ = some (ret (.int .i64 ((1 + (lenB n).length : Nat) : Int)))
 rw [show ((1 + (lenB n).length : Nat) : Int) = 1 + ((lenB n).length : Int) by omega]
theorem c_der_Each : Con P0 T0 100 S_der_Each where
 nat R xs k := by
  unfold S_der_Each
  split
  ·simp only [Option.bind_assoc, Option.bind_some]
  ·rfl
 ok xs r h := by
  unfold S_der_Each at h
  split at h
  ·obtain ⟨b, hb, h2⟩ := bnd' h
   have hb' := hb
   obtain ⟨he, hl⟩ := dB_inv hb
   cases he
   obtain rfl := Option.some.inj h2
   refine Lx.of_in (tab := t_der_Each) ⟨c_slices_Clone_byte_byte, trivial⟩ ?_
   rw [e_der_Each]
   simp only [hb', Option.bind_some]
  ·cases h
end Go.Dv
end
section
namespace Go.Dv
open Go.Proofs Go.Dv.S
open Go.Pv (idx upTo)
def takeV (b : B) (n f : Nat) : DV := bif Nat.blt b.length (f + n) then .tup [.agg [.int .i64 0, .fz []], .int .i64 0, .int .i64 10] else .tup [.agg [.int .i64 (b.headD 0).toNat, .fz (byt ((b.drop f).take n))], .int .i64 (f + n : Nat), .int .i64 0]
def rTakeV (b : B) (n q : Nat) : DV := bif Nat.blt n 128 then .tup [.agg [.int .i64 0, .fz []], .int .i64 0, .int .i64 12] else takeV b n (2 + q)
theorem drop_take_eq (b : B) (f n : Nat) : (b.take (f + n)).drop f = (b.drop f).take n := by
 rw [List.drop_take, Nat.add_sub_cancel_left]
theorem k_rTake (b : B) (n q : Nat) (hq : q ≤ 3) (h2 : 2 + q ≤ b.length) (hl : b.length ≤ 1099511627776) (hn : n < 16777216) (i : Int) : kontF P0 T0 (fun _ => LoopLim) (Lt t_chanceryref01_Take) nY [] 103 0 (.exit 0) (stD 97 [(0, .v (.fz (byt b))), (2, .lp 2 0), (5, .v (.int .i64 n)), (7, .v (.int .i64 q)), (8, .v (.int .i64 i))] [(2, .loc [.int .i64 0, .nils] 89)]) [] = some (ret (rTakeV b n q)) := by
 rw [x_chanceryref01_Take_0]
 unfold rTakeV takeV
 cases b with
 | nil => simp at h2
 | cons c b =>
  have hc := c.toNat_lt
  rcases Nat.lt_or_ge n 128 with h | h
  ·rw [Sx.ltT (by omega), cond_true, Sx.bltT h, cond_true]
  ·rw [Sx.ltF (by omega), cond_false, Sx.bltF h, cond_false]
   have w1 : IntKind.i64.wrap (2 + (q : Int)) = ((2 + q : Nat) : Int) := by rw [Sx.w64 (by omega)]; omega
   have w2 : IntKind.i64.wrap (((2 + q : Nat) : Int) + (n : Int)) = ((2 + q + n : Nat) : Int) := by rw [Sx.w64 (by omega)]; omega
   have w3 : IntKind.i64.wrap (((c :: b).length : Int) - ((2 + q : Nat) : Int)) = ((c :: b).length : Int) - ((2 + q : Nat) : Int) := Sx.w64 (by omega)
   have hw0 : IntKind.i64.wrap (c.toNat : Int) = c.toNat := Sx.w64 (by omega)
   simp only [byt_len, Sx.ofN, Sx.castN, w1, w2, w3]
   rcases Nat.lt_or_ge (c :: b).length (2 + q + n) with h1 | h1
   ·rw [Sx.ltT (by omega), cond_true, Sx.bltT h1, cond_true]
   ·rw [Sx.ltF (by omega), cond_false, Sx.bltF h1, cond_false]
    have i0 : idx 0 (c :: b).length = some 0 := Sx.idxI (by omega)
    have b0 : (byt (c :: b))[0]? = some [.int .u8 c.toNat] := rfl
    have u1 : upTo ((2 + q + n : Nat) : Int) (c :: b).length = some (2 + q + n) := Sx.upI (by omega)
    have u2 : upTo ((2 + q : Nat) : Int) (2 + q + n) = some (2 + q) := Sx.upI (by omega)
    have hlen : (((c :: b).drop (2 + q)).take n).length = n := by rw [List.length_take, List.length_drop]; omega
    simp only [i0, b0, u1, u2, Option.bind_some, Sx.uncC, Sx.toI, List.isEmpty_nil, cond_true, byt_all, Sx.byt_take, Sx.byt_drop, drop_take_eq, byt_len, byt_flatten, hw0]
    simp -implicitDefEqProofs (disch := (first | omega | (simp only [List.length_cons, List.length_append, List.length_nil, List.length_take, List.length_drop, List.length_replicate, byt_len, ofBytes_len, byts_len, Sx.tn, Sx.tn1, Sx.tnL]; done) | (simp only [List.length_cons, List.length_append, List.length_nil, List.length_take, List.length_drop, List.length_replicate, byt_len, ofBytes_len, byts_len, Sx.tn, Sx.tn1, Sx.tnL]; omega))) only [hlen, Sx.bleT, Sx.beqF, Bool.and_self, cond_true, cond_false, Nat.mul_one, Nat.zero_add, ofBytes_len, List.drop_zero, Sx.takeAll, Option.bind_some, Sx.frozB, Sx.chunkB]
    rfl
theorem l_rTake (b : B) (q : Nat) (hq : q ≤ 3) (h2 : 2 + q ≤ b.length) (hl : b.length ≤ 1099511627776) : ∀ m i, q - i = m → i ≤ q → LoopLim (tdF T0 103 none 0) (bodyF P0 T0 (fun _ => LoopLim) (Lt t_chanceryref01_Take) nY [] 103 none 0) (kontF P0 T0 (fun _ => LoopLim) (Lt t_chanceryref01_Take) nY [] 103 0) (stD 97 [(0, .v (.fz (byt b))), (2, .lp 2 0), (5, .v (.int .i64 (big ((b.drop 2).take i) 0 : Nat))), (7, .v (.int .i64 q)), (8, .v (.int .i64 i))] [(2, .loc [.int .i64 0, .nils] 89)]) [] = some (ret (rTakeV b (big ((b.drop 2).take q) 0) q)) := by
 have hc : Cons P0 T0 t_chanceryref01_Take := ⟨c_chanceryref01_IsTag, trivial⟩
 intro m
 induction m with
 | zero =>
  intro i hm hi
  have hie : i = q := by omega
  subst hie
  refine loop_step hc.cont ?_
  rw [b_chanceryref01_Take_0, Sx.ltF (Int.le_refl _), cond_false]
  have hb : big ((b.drop 2).take i) 0 < 16777216 := big_lt3 (by rw [List.length_take]; omega)
  refine Eq.trans ?_ ((x_chanceryref01_Take_0 (fun _ => LoopLim) (byt b) (big ((b.drop 2).take i) 0) i i).symm.trans (k_rTake b (big ((b.drop 2).take i) 0) i hq h2 hl hb i))
  (show _ = _; kernel_rfl)
 | succ m ih =>
  intro i hm hi
  have hil : i < q := by omega
  have hld : i < (b.drop 2).length := by rw [List.length_drop]; omega
  have hb : big ((b.drop 2).take i) 0 < 16777216 := big_lt3 (by rw [List.length_take]; omega)
  have hx := (b.getD (2 + i) 0).toNat_lt
  have hg : (b.drop 2).getD i 0 = b.getD (2 + i) 0 := by simp [List.getD_eq_getElem?_getD]
  refine loop_step hc.cont ?_
  rw [b_chanceryref01_Take_0, Sx.ltT (by omega), cond_true]
  have w1 : IntKind.i64.wrap (2 + (i : Int)) = ((2 + i : Nat) : Int) := by rw [Sx.w64 (by omega)]; omega
  have w2 : IntKind.i64.wrap (256 * (big ((b.drop 2).take i) 0 : Int)) = 256 * (big ((b.drop 2).take i) 0 : Int) := Sx.w64 (by omega)
  have w3 : IntKind.i64.wrap ((b.getD (2 + i) 0).toNat : Int) = ((b.getD (2 + i) 0).toNat : Int) := Sx.w64 (by omega)
  have w4 : IntKind.i64.wrap (256 * (big ((b.drop 2).take i) 0 : Int) + ((b.getD (2 + i) 0).toNat : Int)) = ((256 * big ((b.drop 2).take i) 0 + (b.getD (2 + i) 0).toNat : Nat) : Int) := by rw [Sx.w64 (by omega)]; omega
  have w5 : IntKind.i64.wrap ((i : Int) + 1) = ((i + 1 : Nat) : Int) := by rw [Sx.w64 (by omega)]; omega
  have u1 : idx ((2 + i : Nat) : Int) b.length = some (2 + i) := Sx.idxI (by omega)
  have u2 : (byt b)[2 + i]? = some [.int .u8 (b.getD (2 + i) 0).toNat] := Sx.byt_get (by omega)
  simp only [Sx.ofN, Sx.castN, Int.natCast_one, byt_len, w1, w2, u1, u2, Option.bind_some, Sx.uncC, Sx.toI, List.isEmpty_nil, cond_true, w3, w4, w5]
  refine leafT (X := true) (ih (i + 1) (by omega) hil) ?_ rfl ?_ rfl
  ·(show _ = _; kernel_rfl)
  ·rw [big_take hld, hg]
   (show _ = _; kernel_rfl)
def takeTup (b : B) : DV := .tup [eltV (takeT b, takeC b), .int .i64 (takeN b : Nat), .int .i64 (takeE b)]
def badTup (e : Int) : DV := .tup [.agg [.int .i64 0, .fz []], .int .i64 0, .int .i64 e]
theorem takeTup_bad {b : B} {e : Int} (h : (head b).1 = e) (he : e ≠ 0) : takeTup b = badTup e := by
 have hE := takeE_ne (b := b) (by rw [h]; exact he)
 obtain ⟨q1, q2, q3⟩ := take_bad (b := b) (by rw [hE, h]; exact he)
 unfold takeTup badTup
 rw [q1, q2, q3, hE, h]
 rfl
theorem takeTup_ok {b : B} {f n : Nat} (h : head b = (0, f, n)) : takeTup b = takeV b n f := by
 have hE := takeE_eq (b := b) (by rw [h])
 rw [h] at hE
 unfold takeTup takeV
 rcases Nat.lt_or_ge b.length (f + n) with h1 | h1
 ·rw [Sx.bltT h1, cond_true] at hE ⊢
  obtain ⟨q1, q2, q3⟩ := take_bad (b := b) (by rw [hE]; decide)
  rw [q1, q2, q3, hE]
  rfl
 ·rw [Sx.bltF h1, cond_false] at hE ⊢
  obtain ⟨q1, q2, q3⟩ := take_good hE
  rw [q1, q2, q3, hE, h]
  rfl
theorem r_rTake_short (t l : UInt8) (r : B) (hl : r.length + 1 + 1 ≤ 1099511627776) (hT : isTag t.toNat = true) (h1 : l.toNat < 128) :
  run P0 T0 (fun _ => LoopLim) (Lt t_chanceryref01_Take) nY 103 [.fz (byt (t :: l :: r))] = some (ret (takeV (t :: l :: r) l.toNat 2)) := by
 have ht := t.toNat_lt
 rw [e_chanceryref01_Take]
 unfold takeV
 have hlen0 : (t :: l :: r).length = r.length + 2 := by simp
 have i0 : idx 0 (t :: l :: r).length = some 0 := Sx.idxI (by omega)
 have i1 : idx 1 (t :: l :: r).length = some 1 := Sx.idxI (by omega)
 have b0 : (byt (t :: l :: r))[0]? = some [.int .u8 t.toNat] := rfl
 have b1 : (byt (t :: l :: r))[1]? = some [.int .u8 l.toNat] := rfl
 have w0 : IntKind.i64.wrap (t.toNat : Int) = t.toNat := Sx.w64 (by omega)
 have w1 : IntKind.i64.wrap (l.toNat : Int) = l.toNat := Sx.w64 (by omega)
 have w2 : IntKind.i64.wrap (((t :: l :: r).length : Int) - 2) = ((t :: l :: r).length : Int) - 2 := Sx.w64 (by omega)
 have w3 : IntKind.i64.wrap (2 + (l.toNat : Int)) = ((2 + l.toNat : Nat) : Int) := by rw [Sx.w64 (by omega)]; omega
 have c6 : (((t :: l :: r).length : Int) == 0) = false := Sx.eqF (by omega)
 have c7 : (((t :: l :: r).length : Int) == 1) = false := Sx.eqF (by omega)
 have c1 : ((l.toNat : Int) == 128) = false := Sx.eqF (by omega)
 have c2 : decide ((l.toNat : Int) > 131) = false := Sx.gtF (by omega)
 have c3 : decide ((l.toNat : Int) > 128) = false := Sx.gtF (by omega)
 simp only [byt_len, Sx.ofN, Sx.castN, Int.natCast_zero, Int.natCast_one, c6, i0, b0, Option.bind_some, Sx.uncC, Sx.toI, List.isEmpty_nil, cond_true, cond_false, w0, hT, Bool.not_true, c7, i1, b1, w1, c1, c2, c3, w2]
 rcases Nat.lt_or_ge (t :: l :: r).length (2 + l.toNat) with h2 | h2
 ·rw [Sx.ltT (by omega), cond_true, Sx.bltT h2, cond_true]
 ·rw [Sx.ltF (by omega), cond_false, Sx.bltF h2, cond_false]
  have u1 : upTo ((2 + l.toNat : Nat) : Int) (t :: l :: r).length = some (2 + l.toNat) := Sx.upI (by omega)
  have u2 : upTo 2 (2 + l.toNat) = some 2 := by rw [Sx.upI (by omega)]; rfl
  have hlen : (((t :: l :: r).drop 2).take l.toNat).length = l.toNat := by rw [List.length_take, List.length_drop]; omega
  simp only [w3, u1, u2, Option.bind_some, byt_all, cond_true, Sx.byt_take, Sx.byt_drop, drop_take_eq, byt_len, byt_flatten, hlen]
  rcases Nat.eq_zero_or_pos l.toNat with h0 | h0
  ·rw [h0]
   rfl
  ·simp -implicitDefEqProofs (disch := (first | omega | (simp only [List.length_cons, List.length_append, List.length_nil, List.length_take, List.length_drop, List.length_replicate, byt_len, ofBytes_len, byts_len, Sx.tn, Sx.tn1, Sx.tnL]; done) | (simp only [List.length_cons, List.length_append, List.length_nil, List.length_take, List.length_drop, List.length_replicate, byt_len, ofBytes_len, byts_len, Sx.tn, Sx.tn1, Sx.tnL]; omega))) only [hlen, Sx.bleT, Sx.beqF, Bool.and_self, cond_true, cond_false, Nat.mul_one, Nat.zero_add, ofBytes_len, List.drop_zero, Sx.takeAll, Option.bind_some, Sx.frozB, Sx.chunkB]
   rfl
theorem r_rTake_long (t l : UInt8) (r : B) (k : Nat) (hl : r.length + 1 + 1 ≤ 1099511627776) (hT : isTag t.toNat = true) (hk : l.toNat = 128 + k) (hk3 : k ≤ 3) (hk1 : 1 ≤ k) :
  run P0 T0 (fun _ => LoopLim) (Lt t_chanceryref01_Take) nY 103 [.fz (byt (t :: l :: r))] = some (ret (bif r.head? == some 0 then badTup 12 else bif Nat.blt r.length k then badTup 10 else rTakeV (t :: l :: r) (big (r.take k) 0) k)) := by
 have ht := t.toNat_lt
 rw [e_chanceryref01_Take]
 have hlen0 : (t :: l :: r).length = r.length + 2 := by simp
 have i0 : idx 0 (t :: l :: r).length = some 0 := Sx.idxI (by omega)
 have i1 : idx 1 (t :: l :: r).length = some 1 := Sx.idxI (by omega)
 have b0 : (byt (t :: l :: r))[0]? = some [.int .u8 t.toNat] := rfl
 have b1 : (byt (t :: l :: r))[1]? = some [.int .u8 l.toNat] := rfl
 have w0 : IntKind.i64.wrap (t.toNat : Int) = t.toNat := Sx.w64 (by omega)
 have w1 : IntKind.i64.wrap (l.toNat : Int) = l.toNat := Sx.w64 (by omega)
 have w2 : IntKind.i64.wrap ((l.toNat : Int) - 128) = (k : Int) := by rw [Sx.w64 (by omega)]; omega
 have w3 : IntKind.i64.wrap (2 + (k : Int)) = ((2 + k : Nat) : Int) := by rw [Sx.w64 (by omega)]; omega
 have c6 : (((t :: l :: r).length : Int) == 0) = false := Sx.eqF (by omega)
 have c7 : (((t :: l :: r).length : Int) == 1) = false := Sx.eqF (by omega)
 have c1 : ((l.toNat : Int) == 128) = false := Sx.eqF (by omega)
 have c2 : decide ((l.toNat : Int) > 131) = false := Sx.gtF (by omega)
 have c3 : decide ((l.toNat : Int) > 128) = true := Sx.gtT (by omega)
 simp only [byt_len, Sx.ofN, Sx.castN, Int.natCast_zero, Int.natCast_one, c6, i0, b0, Option.bind_some, Sx.uncC, Sx.toI, List.isEmpty_nil, cond_true, cond_false, w0, hT, Bool.not_true, c7, i1, b1, w1, c1, c2, c3, w2, w3]
 have loop : 2 + k ≤ (t :: l :: r).length → LoopLim (tdF T0 103 none 0) (bodyF P0 T0 (fun _ => LoopLim) (Lt t_chanceryref01_Take) nY [] 103 none 0) (kontF P0 T0 (fun _ => LoopLim) (Lt t_chanceryref01_Take) nY [] 103 0) (stD 97 [(0, .v (.fz (byt (t :: l :: r)))), (2, .lp 2 0), (5, .v (.int .i64 ((0 : Nat) : Int))), (7, .v (.int .i64 k)), (8, .v (.int .i64 ((0 : Nat) : Int)))] [(2, .loc [.int .i64 0, .nils] 89)]) [] = some (ret (rTakeV (t :: l :: r) (big (r.take k) 0) k)) := fun h =>
  l_rTake (t :: l :: r) k hk3 h (by omega) k 0 (by omega) (by omega)
 cases r with
 | nil =>
  have d1 : decide ((([t, l] : B).length : Int) > 2) = false := Sx.gtF (by simp)
  have d2 : decide ((([t, l] : B).length : Int) < ((2 + k : Nat) : Int)) = true := Sx.ltT (by simp; omega)
  have e2 : (([] : B).head? == some 0) = false := rfl
  rw [d1, cond_false, d2, cond_true, e2, cond_false, Sx.bltT (show ([] : B).length < k from hk1), cond_true]
  rfl
 | cons c r =>
  have i2 : idx 2 (t :: l :: c :: r).length = some 2 := Sx.idxI (by simp; omega)
  have b2 : (byt (t :: l :: c :: r))[2]? = some [.int .u8 c.toNat] := rfl
  have d1 : decide (((t :: l :: c :: r).length : Int) > 2) = true := Sx.gtT (by simp only [List.length_cons]; omega)
  have e2 : ((c :: r).head? == some 0) = (c == 0) := rfl
  simp only [d1, cond_true, i2, b2, Option.bind_some, Sx.uncC, Sx.toI, List.isEmpty_nil, u8_zero, e2]
  cases hc : c == 0 with
  | true => rw [cond_true, cond_true]; rfl
  | false =>
   rw [cond_false, cond_false]
   rcases Nat.lt_or_ge (c :: r).length k with h4 | h4
   ·rw [Sx.bltT h4, cond_true, Sx.ltT (by simp only [List.length_cons] at h4 ⊢; omega), cond_true]
    rfl
   ·rw [Sx.bltF h4, cond_false, Sx.ltF (by simp only [List.length_cons] at h4 ⊢; omega), cond_false]
    refine headT (loop (by simp at h4 ⊢; omega)) ?_
    (show _ = _; kernel_rfl)
theorem c_chanceryref01_Take : Con P0 T0 103 S_chanceryref01_Take := con1 fun x b hx => by
 obtain ⟨rfl, hl⟩ := dB_inv hx
 refine Lx.of_in (tab := t_chanceryref01_Take) ⟨c_chanceryref01_IsTag, trivial⟩ ?_
 unfold lim at hl
 clear hx
 show _ = some (ret (takeTup b))
 cases b with
 | nil => rw [e_chanceryref01_Take]; rfl
 | cons t s =>
  have ht := t.toNat_lt
  have w0 : IntKind.i64.wrap (t.toNat : Int) = t.toNat := Sx.w64 (by omega)
  simp only [List.length_cons] at hl
  have i0 : ∀ s : B, s.length + 1 ≤ 1099511627776 → idx 0 (t :: s).length = some 0 := fun s hs => Sx.idxI (by simp only [List.length_cons]; omega)
  have b0 : ∀ s : B, (byt (t :: s))[0]? = some [.int .u8 t.toNat] := fun s => rfl
  have c6 : ∀ s : B, (((t :: s).length : Int) == 0) = false := fun s => Sx.eqF (by simp; omega)
  cases hT : isTag t.toNat with
  | false =>
   have hh : (head (t :: s)).1 = 11 := by cases s <;> simp [head, hT]
   rw [takeTup_bad hh (by decide), e_chanceryref01_Take]
   simp only [byt_len, Sx.ofN, Sx.castN, Int.natCast_zero, Int.natCast_one, c6, i0 s hl, b0, Option.bind_some, Sx.uncC, Sx.toI, List.isEmpty_nil, cond_true, cond_false, w0, hT, Bool.not_false]
   rfl
  | true =>
   cases s with
   | nil =>
    have hh : (head [t]).1 = 10 := by simp [head, hT]
    rw [takeTup_bad hh (by decide), e_chanceryref01_Take]
    simp only [byt_len, Sx.ofN, Sx.castN, Int.natCast_zero, Int.natCast_one, c6, i0 [] hl, b0, Option.bind_some, Sx.uncC, Sx.toI, List.isEmpty_nil, cond_true, cond_false, w0, hT, Bool.not_true]
    rfl
   | cons l r =>
    have hlt := l.toNat_lt
    simp only [List.length_cons] at hl
    have hf := head_form t l r
    rw [hT, Bool.not_true, cond_false] at hf
    rcases Nat.lt_or_ge l.toNat 128 with h1 | h1
    ·rw [Sx.bltT h1, cond_true] at hf
     rw [takeTup_ok hf]
     exact r_rTake_short t l r hl hT h1
    ·rw [Sx.bltF h1, cond_false] at hf
     by_cases h2 : l.toNat = 128 ∨ 131 < l.toNat
     ·have e : (Nat.beq l.toNat 128 || Nat.blt 131 l.toNat) = true := by
       rcases h2 with h2 | h2
       ·rw [Sx.beqT h2]; rfl
       ·rw [Sx.bltT h2, Bool.or_true]
      rw [e, Bool.true_or, cond_true] at hf
      have hh : (head (t :: l :: r)).1 = 12 := by rw [hf]
      rw [takeTup_bad hh (by decide), e_chanceryref01_Take]
      have i1 : idx 1 (t :: l :: r).length = some 1 := Sx.idxI (by simp; omega)
      have b1 : (byt (t :: l :: r))[1]? = some [.int .u8 l.toNat] := rfl
      have w1 : IntKind.i64.wrap (l.toNat : Int) = l.toNat := Sx.w64 (by omega)
      have c7 : (((t :: l :: r).length : Int) == 1) = false := Sx.eqF (by simp; omega)
      simp only [byt_len, Sx.ofN, Sx.castN, Int.natCast_zero, Int.natCast_one, c6, i0 (l :: r) (by simpa using hl), b0, Option.bind_some, Sx.uncC, Sx.toI, List.isEmpty_nil, cond_true, cond_false, w0, hT, Bool.not_true, c7, i1, b1, w1]
      rcases h2 with h2 | h2
      ·rw [Sx.eqT (by omega), cond_true]; rfl
      ·rw [Sx.eqF (by omega), cond_false, Sx.gtT (by omega), cond_true]; rfl
     ·have e : (Nat.beq l.toNat 128 || Nat.blt 131 l.toNat) = false := by
       rw [Sx.beqF (by omega), Sx.bltF (by omega)]; rfl
      obtain ⟨k, hk⟩ : ∃ k, l.toNat = 128 + k := ⟨l.toNat - 128, by omega⟩
      rw [e, Bool.false_or, hk, Nat.add_sub_cancel_left] at hf
      refine (r_rTake_long t l r k hl hT hk (by omega) (by omega)).trans ?_
      cases hz : r.head? == some 0 with
      | true =>
       rw [hz, cond_true] at hf
       rw [takeTup_bad (e := 12) (by rw [hf]) (by decide), cond_true]
      | false =>
       rw [hz, cond_false] at hf
       rw [cond_false]
       rcases Nat.lt_or_ge r.length k with h4 | h4
       ·rw [Sx.bltT h4, cond_true] at hf ⊢
        rw [takeTup_bad (e := 10) (by rw [hf]) (by decide)]
       ·rw [Sx.bltF h4, cond_false] at hf ⊢
        unfold rTakeV
        rcases Nat.lt_or_ge (big (r.take k) 0) 128 with h5 | h5
        ·rw [Sx.bltT h5, cond_true] at hf ⊢
         rw [takeTup_bad (e := 12) (by rw [hf]) (by decide)]
         rfl
        ·rw [Sx.bltF h5, cond_false] at hf ⊢
         rw [takeTup_ok hf]
theorem c_chanceryref01_One : Con P0 T0 50 S_chanceryref01_One := con1 fun x b hx => by
 have hx' := hx
 obtain ⟨rfl, hl⟩ := dB_inv hx
 refine Lx.of_in (tab := t_chanceryref01_One) ⟨c_chanceryref01_Take, trivial⟩ ?_
 rw [e_chanceryref01_One]
 show _ = some (ret (.tup [eltV (oneT b, oneC b), .int .i64 (oneE b)]))
 simp only [hx', Option.bind_some, byt_len, Sx.ofN, Int.natCast_zero]
 unfold oneT oneC
 rw [oneE_of]
 by_cases h0 : takeE b = 0
 ·have hp := takeN_pos h0
  rw [h0]
  rcases Nat.lt_or_ge (takeN b) b.length with h1 | h1
  ·rw [Sx.neT (by omega), Sx.bltT h1]; rfl
  ·rw [Sx.neF (by omega), Sx.bltF h1]; rfl
 ·obtain ⟨q1, q2, q3⟩ := take_bad h0
  simp only [Bool.false_and, cond_false, Sx.eqF h0, q1, q3]
  rfl
end Go.Dv
end
section
namespace Go.Dv
open Go.Proofs Go.Dv.S
open Go.Pv (idx upTo)
def lenR (n : Nat) (s : B) : B := if h : n = 0 then b8 (128 + s.length) :: s else lenR (n / 256) (b8 n :: s)
 termination_by n
 decreasing_by omega
theorem lenR_zero (s : B) : lenR 0 s = b8 (128 + s.length) :: s := by rw [lenR, dif_pos rfl]
theorem lenR_pos {n : Nat} (h : n ≠ 0) (s : B) : lenR n s = lenR (n / 256) (b8 n :: s) := by rw [lenR, dif_neg h]
theorem lenR_eq {n : Nat} (h1 : 128 ≤ n) (h2 : n ≤ 16777215) : lenR n [] = lenB n := by
 unfold lenB
 rw [Sx.bltF h1, cond_false, lenR_pos (by omega)]
 rcases Nat.lt_or_ge n 256 with h3 | h3
 ·rw [Sx.bltT h3, cond_true, show n / 256 = 0 by omega, lenR_zero]
  rfl
 ·rw [Sx.bltF h3, cond_false, lenR_pos (by omega)]
  rcases Nat.lt_or_ge n 65536 with h4 | h4
  ·rw [Sx.bltT h4, cond_true, show n / 256 / 256 = 0 by omega, lenR_zero]
   rfl
  ·rw [Sx.bltF h4, cond_false, lenR_pos (by omega), show n / 256 / 256 / 256 = 0 by omega, lenR_zero, show n / 256 / 256 = n / 65536 by omega]
   rfl
theorem wtm (n : Nat) : IntKind.u8.wrap ((n : Int).tmod 256) = ((b8 n).toNat : Int) := by
 rw [show (n : Int).tmod 256 = ((n % 256 : Nat) : Int) from (Int.ofNat_tmod n 256).symm, Sx.wu8m, b8_toNat]
 omega
theorem l_Length : ∀ (m n : Nat) (s : B), n ≤ m → n ≤ 16777215 → s.length + n ≤ 16777216 + 16 → LoopLim (tdF T0 97 none 0) (bodyF P0 T0 (fun _ => LoopLim) (Lt t_chanceryref01_Length) nY [] 97 none 0) (kontF P0 T0 (fun _ => LoopLim) (Lt t_chanceryref01_Length) nY [] 97 0) (stH 26 [(0, .v (.int .i64 n)), (3, .v (.sl 0 0 s.length 0 1))] [] [newBlk (ofBytes s) 5]) [] = some (ret (.fz (byt (lenR n s)))) := by
 have hc : Cons P0 T0 t_chanceryref01_Length := trivial
 intro m
 induction m with
 | zero =>
  intro n s hm hn hs
  have h0 : n = 0 := by omega
  subst h0
  refine loop_step hc.cont ?_
  rw [b_chanceryref01_Length_0, Sx.gtF (by omega), cond_false, lenR_zero]
  have w1 : IntKind.u8.wrap (IntKind.i64.wrap (128 + (s.length : Int))) = ((b8 (128 + s.length)).toNat : Int) := by
   rw [Sx.w64 (by omega), show (128 : Int) + (s.length : Int) = ((128 + s.length : Nat) : Int) by omega, wb8]
  have hx : kontF P0 T0 (fun _ => LoopLim) (Lt t_chanceryref01_Length) nY [] 97 0 (.exit 0) (stH 26 [(0, .v (.int .i64 ((0 : Nat) : Int))), (3, .v (.sl 0 0 s.length 0 1))] [] [newBlk (ofBytes s) 5]) [] = some (ret (.fz (byt (b8 (128 + s.length) :: s)))) := by
   rw [x_chanceryref01_Length_0]
   have h0 : ∀ c : UInt8, splice (ofBytes (List.replicate 1 0)) 0 [DV.int IntKind.u8 c.toNat] = ofBytes [c] := fun c => rfl
   simp -implicitDefEqProofs (disch := (first | omega | (simp only [List.length_cons, List.length_append, List.length_nil, List.length_take, List.length_drop, List.length_replicate, byt_len, ofBytes_len, byts_len, Sx.tn, Sx.tn1, Sx.tnL]; done) | (simp only [List.length_cons, List.length_append, List.length_nil, List.length_take, List.length_drop, List.length_replicate, byt_len, ofBytes_len, byts_len, Sx.tn, Sx.tn1, Sx.tnL]; omega))) only [Sx.bleT, cond_true, Option.bind_some, Sx.ofN, Sx.castN, w1, ofBytes_len, Nat.mul_one, Nat.zero_add, Nat.add_zero, List.drop_zero, Sx.takeAll, Bool.and_self, Sx.zeros, h0, Sx.ofB_app, Sx.frozB, Sx.chunkB, List.singleton_append, List.length_cons, List.length_append, List.length_nil]
  refine Eq.trans ?_ ((x_chanceryref01_Length_0 (fun _ => LoopLim) ((0 : Nat) : Int) s.length (ofBytes s)).symm.trans hx)
  (show _ = _; kernel_rfl)
 | succ m ih =>
  intro n s hm hn hs
  rcases Nat.eq_zero_or_pos n with h0 | h0
  ·exact ih n s (by omega) hn hs
  ·have td : (n : Int).tdiv 256 = ((n / 256 : Nat) : Int) := (Int.ofNat_tdiv n 256).symm
   have w2 : IntKind.i64.wrap ((n / 256 : Nat) : Int) = ((n / 256 : Nat) : Int) := Sx.w64 (by omega)
   refine loop_step hc.cont ?_
   rw [b_chanceryref01_Length_0, Sx.gtT (by omega), cond_true, lenR_pos (by omega)]
   have hnx := ih (n / 256) (b8 n :: s) (by omega) (by omega) (by simp only [List.length_cons]; omega)
   simp -implicitDefEqProofs (disch := (first | omega | (simp only [List.length_cons, List.length_append, List.length_nil, List.length_take, List.length_drop, List.length_replicate, byt_len, ofBytes_len, byts_len, Sx.tn, Sx.tn1, Sx.tnL]; done) | (simp only [List.length_cons, List.length_append, List.length_nil, List.length_take, List.length_drop, List.length_replicate, byt_len, ofBytes_len, byts_len, Sx.tn, Sx.tn1, Sx.tnL]; omega))) only [td, w2, wtm, Sx.bleT, cond_true, Option.bind_some, ofBytes_len, Nat.mul_one, Nat.zero_add, List.drop_zero, Sx.takeAll, Bool.and_self]
   refine leafT (X := ((ofBytes s).all froz && ((ofBytes (b8 n :: s)).all froz && true))) hnx ?_ ?_ ?_ rfl
   ·(show _ = _; kernel_rfl)
   ·rw [ofBytes_froz, ofBytes_froz]; rfl
   ·rw [Nat.add_comm 1 s.length]
    (show _ = _; kernel_rfl)
theorem c_chanceryref01_Length : Con P0 T0 97 S_chanceryref01_Length := con1 fun x n hx => by
 obtain ⟨rfl, hn⟩ := dM_inv hx
 refine Lx.of_in (tab := t_chanceryref01_Length) trivial ?_
 rw [e_chanceryref01_Length]
 rcases Nat.lt_or_ge n 128 with h | h
 ·rw [Sx.ltT (by omega), cond_true, wb8]
  show _ = some (ret (.fz (byt (lenB n))))
  unfold lenB
  rw [Sx.bltT h]
  rfl
 ·rw [Sx.ltF (by omega), cond_false, ← lenR_eq h hn]
  refine headT (l_Length n n [] (Nat.le_refl _) hn (by simp; omega)) ?_
  (show _ = _; kernel_rfl)
theorem dEl_inv {x : DV} {e : Elem} (h : dEl x = some e) : x = eltV e ∧ e.2.length ≤ lim := by
 unfold dEl at h
 split at h
 ·obtain ⟨s, hs, h⟩ := bnd' h
  cases h
  obtain ⟨rfl, h2⟩ := unB_inv hs
  exact ⟨rfl, h2⟩
 ·cases h
theorem c_chanceryref01_Bytes : Con P0 T0 45 S_chanceryref01_Bytes := coq1 fun x e hx => by
 unfold dElb at hx
 obtain ⟨e', he, hx⟩ := bnd' hx
 obtain ⟨hc, hx⟩ := bif1 hx
 cases hx
 obtain ⟨rfl, hl⟩ := dEl_inv he
 obtain ⟨t, s⟩ := e
 simp only [Bool.and_eq_true, decide_eq_true_eq] at hc
 obtain ⟨⟨h0, h1⟩, h2⟩ := hc
 have h2 : s.length ≤ 16777215 := Nat.le_of_ble_eq_true h2
 obtain ⟨n, rfl⟩ := Int.eq_ofNat_of_zero_le h0
 refine Lx.of_in (tab := t_chanceryref01_Bytes) ⟨c_chanceryref01_Length, trivial⟩ ?_
 refine (e_chanceryref01_Bytes _ (byt s) n).trans ?_
 have h4 := (lenB_len s.length).1
 have h5 : ∀ c : UInt8, splice (ofBytes (List.replicate 1 0)) 0 [DV.int IntKind.u8 c.toNat] = ofBytes [c] := fun c => rfl
 simp -implicitDefEqProofs (disch := (first | omega | (simp only [List.length_cons, List.length_append, List.length_nil, List.length_take, List.length_drop, List.length_replicate, byt_len, ofBytes_len, byts_len, Sx.tn, Sx.tn1, Sx.tnL]; done) | (simp only [List.length_cons, List.length_append, List.length_nil, List.length_take, List.length_drop, List.length_replicate, byt_len, ofBytes_len, byts_len, Sx.tn, Sx.tn1, Sx.tnL]; omega))) only [byt_len, dM_ok h2, Option.bind_some, byt_all, cond_true, byt_flatten, wb8, Sx.zeros, h5, Sx.bleT, Sx.beqT, ofBytes_len, Nat.mul_one, Nat.zero_add, List.drop_zero, Sx.takeAll, Bool.and_self, Sx.ofB_app, Sx.frozB, Sx.chunkB, List.length_append, List.length_cons, List.length_nil, List.singleton_append]
 simp only [elemB, Int.toNat_natCast, List.cons_append]
 rw [ofBytes_froz, cond_true]
 exact ob_eq (by simp; omega)
end Go.Dv
end
section
namespace Go.Dv
open Go.Proofs Go.Dv.S
open Go.Pv (idx upTo)
theorem allE_ok {b : B} (h : takeE b = 0) : allE b = allE (b.drop (takeN b)) := by
 have hp := takeN_pos h
 have hr := rowN_le (b.drop (takeN b))
 unfold allE
 rw [rowN_ok h, ← List.drop_drop, List.length_drop]
 rw [List.length_drop] at hr
 by_cases he : rowN (b.drop (takeN b)) = b.length - takeN b
 ·rw [Sx.beqT (by omega), Sx.beqT he]
 ·rw [Sx.beqF (by omega), Sx.beqF he]
theorem allE_nil : allE [] = 0 := by
 have h : takeE ([] : B) ≠ 0 := by decide
 unfold allE
 rw [rowN_no h]
 rfl
theorem allE_no {b : B} (h : takeE b ≠ 0) (hb : b ≠ []) : allE b = takeE b := by
 unfold allE
 have := List.length_pos_iff.2 hb
 rw [rowN_no h, Sx.beqF (by omega), cond_false, List.drop_zero]
theorem rowP_ok {b : B} (h : takeE b = 0) (p : Nat) : rowP b p = p :: rowP (b.drop (takeN b)) (p + takeN b) := by rw [rowP, dif_pos h]
theorem rowP_no {b : B} (h : takeE b ≠ 0) (p : Nat) : rowP b p = [] := by rw [rowP, dif_neg h]
def ecs (l : List Elem) : List DV := (elts l).flatten
def ics (l : List Nat) : List DV := (ints l).flatten
theorem ecs_len (l : List Elem) : (ecs l).length = l.length * 2 := by
 induction l with
 | nil => rfl
 | cons e l ih =>
  show (elt e ++ ecs l).length = _
  rw [List.length_append, ih]
  simp [elt]; omega
theorem ics_len (l : List Nat) : (ics l).length = l.length := by
 induction l with
 | nil => rfl
 | cons e l ih =>
  show ((ics l).length + 1) = _
  rw [ih]; rfl
theorem ecs_froz (l : List Elem) : (ecs l).all froz = true := by
 induction l with
 | nil => rfl
 | cons e l ih =>
  show (true && (true && (ecs l).all froz)) = true
  rw [ih]; rfl
theorem ics_froz (l : List Nat) : (ics l).all froz = true := by
 induction l with
 | nil => rfl
 | cons e l ih =>
  show (true && (ics l).all froz) = true
  rw [ih]; rfl
theorem ecs_chunks : ∀ l : List Elem, chunks 2 l.length (ecs l) = elts l
 | [] => rfl
 | e :: l => by
  show elt e :: chunks 2 l.length (ecs l) = _
  rw [ecs_chunks l]; rfl
theorem ics_chunks : ∀ l : List Nat, chunks 1 l.length (ics l) = ints l
 | [] => rfl
 | e :: l => by
  show [DV.int .i64 (e : Int)] :: chunks 1 l.length (ics l) = _
  rw [ics_chunks l]; rfl
theorem ecs_snoc (l : List Elem) (e : Elem) : ecs l ++ elt e = ecs (l ++ [e]) := by simp [ecs, elts]
theorem ics_snoc (l : List Nat) (n : Nat) : ics l ++ [DV.int .i64 (n : Int)] = ics (l ++ [n]) := by simp [ics, ints]
theorem frozE (l : List Elem) : frozL (ecs l) = some (ecs l) := by unfold frozL; rw [ecs_froz, cond_true]
theorem frozI (l : List Nat) : frozL (ics l) = some (ics l) := by unfold frozL; rw [ics_froz, cond_true]
def rowV (l : List Elem) (ps : List Nat) (n : Nat) (e : Int) : DV := .tup [.fz (elts l), .fz (ints ps), .int .i64 n, .int .i64 e]
theorem k_Row (s : List (List DV)) (p e : Int) (l : List Elem) (ps : List Nat) : kontF P0 T0 (fun _ => LoopLim) (Lt t_chanceryref01_Row) nY [] 104 0 .ret (stH 44 [(0, .v (.fz s)), (2, .v (.sl 0 0 l.length 0 2)), (3, .v (.sl 1 0 ps.length 0 1)), (4, .v (.int .i64 p)), (5, .v (.int .i64 e))] [] [newBlk (ecs l) 89, newBlk (ics ps) 3]) [] = some (ret (.tup [.fz (elts l), .fz (ints ps), .int .i64 p, .int .i64 e])) := by
 rw [x_chanceryref01_Row_0r]
 simp -implicitDefEqProofs only [Nat.zero_add, Nat.mul_one, ecs_len, ics_len, Sx.bleT (Nat.le_refl _), cond_true, List.drop_zero, Sx.takeAll (Nat.le_of_eq (ecs_len l)), Sx.takeAll (Nat.le_of_eq (ics_len ps)), Option.bind_some, frozE, frozI, ecs_chunks, ics_chunks]
theorem k_Row0 (s : List (List DV)) (p : Int) (l : List Elem) (ps : List Nat) : kontF P0 T0 (fun _ => LoopLim) (Lt t_chanceryref01_Row) nY [] 104 0 (.exit 0) (stH 44 [(0, .v (.fz s)), (6, .v (.sl 0 0 l.length 0 2)), (7, .v (.sl 1 0 ps.length 0 1)), (8, .v (.int .i64 p))] [] [newBlk (ecs l) 89, newBlk (ics ps) 3]) [] = some (ret (.tup [.fz (elts l), .fz (ints ps), .int .i64 p, .int .i64 0])) := by
 rw [x_chanceryref01_Row_0]
 simp -implicitDefEqProofs only [Nat.zero_add, Nat.mul_one, ecs_len, ics_len, Sx.bleT (Nat.le_refl _), cond_true, List.drop_zero, Sx.takeAll (Nat.le_of_eq (ecs_len l)), Sx.takeAll (Nat.le_of_eq (ics_len ps)), Option.bind_some, frozE, frozI, ecs_chunks, ics_chunks]
theorem l_Row (s : B) (hs : s.length ≤ 1099511627776) : ∀ (k p : Nat) (l : List Elem) (ps : List Nat), s.length - p ≤ k → p ≤ s.length → l.length ≤ p → ps.length ≤ p →
  LoopLim (tdF T0 104 none 0) (bodyF P0 T0 (fun _ => LoopLim) (Lt t_chanceryref01_Row) nY [] 104 none 0) (kontF P0 T0 (fun _ => LoopLim) (Lt t_chanceryref01_Row) nY [] 104 0) (stH 44 [(0, .v (.fz (byt s))), (6, .v (.sl 0 0 l.length 0 2)), (7, .v (.sl 1 0 ps.length 0 1)), (8, .v (.int .i64 p))] [] [newBlk (ecs l) 89, newBlk (ics ps) 3]) [] =
   some (ret (rowV (l ++ row (s.drop p)) (ps ++ rowP (s.drop p) p) (p + rowN (s.drop p)) (allE (s.drop p)))) := by
 have hc : Cons P0 T0 t_chanceryref01_Row := ⟨c_chanceryref01_Take, trivial⟩
 intro k
 induction k with
 | zero =>
  intro p l ps hk hp hl hps
  have hpe : p = s.length := by omega
  subst hpe
  refine loop_step hc.cont ?_
  rw [b_chanceryref01_Row_0, byt_len, Sx.ltF (Int.le_refl _), cond_false, List.drop_length, row_no (by decide), rowP_no (by decide), rowN_no (by decide), allE_nil, List.append_nil, List.append_nil]
  refine Eq.trans ?_ ((x_chanceryref01_Row_0 (fun _ => LoopLim) (byt s) s.length l.length ps.length (ecs l) (ics ps)).symm.trans (k_Row0 (byt s) s.length l ps))
  (show _ = _; kernel_rfl)
 | succ k ih =>
  intro p l ps hk hp hl hps
  rcases Nat.eq_or_lt_of_le hp with he | hlt
  ·exact ih p l ps (by omega) hp hl hps
  ·have hd : s.drop p ≠ [] := fun h => by
    have := congrArg List.length h
    rw [List.length_drop] at this
    simp at this
    omega
   have hdb : dB (.fz (byt (s.drop p))) = some (s.drop p) := dB_ok (by unfold lim; rw [List.length_drop]; omega)
   refine loop_step hc.cont ?_
   rw [b_chanceryref01_Row_0, byt_len, Sx.ltT (by omega), cond_true, Sx.upI (by omega), Option.bind_some, byt_all, cond_true, Sx.tn, Sx.byt_take, Sx.byt_drop, Sx.takeAll (Nat.le_refl _), hdb, Option.bind_some]
   by_cases h0 : takeE (s.drop p) = 0
   ·obtain ⟨n1, n2⟩ := takeN_pos h0
    rw [List.length_drop] at n2
    have hnx := ih (p + takeN (s.drop p)) (l ++ [(takeT (s.drop p), takeC (s.drop p))]) (ps ++ [p]) (by omega) (by omega) (by simp; omega) (by simp; omega)
    rw [show (takeE (s.drop p) != Int.ofNat 0) = false from Sx.neF h0, cond_false, row_ok h0, rowP_ok h0, rowN_ok h0, allE_ok h0, List.drop_drop]
    rw [List.append_assoc, List.append_assoc, Nat.add_assoc] at hnx
    have w1 : IntKind.i64.wrap ((p : Int) + (takeN (s.drop p) : Int)) = ((p + takeN (s.drop p) : Nat) : Int) := by rw [Sx.w64 (by omega)]; omega
    rw [w1, Sx.bleT (show (l.length + 1) * 32 ≤ 140737488355328 by omega), Sx.bleT (show l.length + 1 ≤ 9223372036854775807 by omega), Sx.beqT (ecs_len l).symm, Sx.bleT (show (ps.length + 1) * 8 ≤ 140737488355328 by omega), Sx.bleT (show ps.length + 1 ≤ 9223372036854775807 by omega), Sx.beqT (show ps.length * 1 = (ics ps).length by rw [ics_len, Nat.mul_one])]
    simp only [Bool.and_self, cond_true]
    refine leafT (X := ((ecs (l ++ [(takeT (s.drop p), takeC (s.drop p))])).all froz && ((ics (ps ++ [p])).all froz && true))) hnx ?_ ?_ ?_ rfl
    ·rw [← ecs_snoc, ← ics_snoc]
     (show _ = _; kernel_rfl)
    ·rw [ecs_froz, ics_froz]; rfl
    ·rw [← ecs_snoc, ← ics_snoc, List.length_append, List.length_append]
     (show _ = _; kernel_rfl)
   ·rw [show (takeE (s.drop p) != Int.ofNat 0) = true from Sx.neT h0, cond_true, row_no h0, rowP_no h0, rowN_no h0, allE_no h0 hd, List.append_nil, List.append_nil]
    refine Eq.trans ?_ ((x_chanceryref01_Row_0r (fun _ => LoopLim) (byt s) p (takeE (s.drop p)) l.length ps.length (ecs l) (ics ps)).symm.trans (k_Row (byt s) p (takeE (s.drop p)) l ps))
    (show _ = _; kernel_rfl)
theorem c_chanceryref01_Row : Con P0 T0 104 S_chanceryref01_Row := con1 fun x b hx => by
 obtain ⟨rfl, hl⟩ := dB_inv hx
 refine Lx.of_in (tab := t_chanceryref01_Row) ⟨c_chanceryref01_Take, trivial⟩ ?_
 rw [e_chanceryref01_Row]
 have h := l_Row b hl b.length 0 [] [] (by omega) (by omega) (by simp) (by simp)
 rw [List.drop_zero, List.nil_append, List.nil_append, Nat.zero_add] at h
 refine headT h ?_
 (show _ = _; kernel_rfl)
theorem c_chanceryref01_All : Con P0 T0 51 S_chanceryref01_All := con1 fun x b hx => by
 have hx' := hx
 obtain ⟨rfl, hl⟩ := dB_inv hx
 refine Lx.of_in (tab := t_chanceryref01_All) ⟨c_chanceryref01_Row, trivial⟩ ?_
 rw [e_chanceryref01_All]
 simp only [hx', Option.bind_some]
 show _ = some (ret (.tup [.fz (elts (allL b)), .int .i64 (rowN b : Nat), .int .i64 (allE b)]))
 by_cases h : rowN b = b.length
 ·have h1 : allE b = 0 := by unfold allE; rw [Sx.beqT h, cond_true]
  have h2 : allL b = row b := by unfold allL; rw [Sx.beqT h, cond_true]
  rw [h1, h2]; rfl
 ·have h2 : allL b = [] := by unfold allL; rw [Sx.beqF h, cond_false]
  have h1 : allE b ≠ 0 := by
   unfold allE
   rw [Sx.beqF h, cond_false]
   intro hh
   have key : ∀ n (b : B), b.length ≤ n → takeE (b.drop (rowN b)) ≠ 0 := by
    intro n
    induction n with
    | zero =>
     intro b hb
     have : b = [] := List.eq_nil_of_length_eq_zero (by omega)
     subst this
     rw [rowN_no (by decide)]
     decide
    | succ n ih =>
     intro b hb
     by_cases h0 : takeE b = 0
     ·rw [rowN_ok h0, ← List.drop_drop]
      have hp := takeN_pos h0
      exact ih _ (by rw [List.length_drop]; omega)
     ·rw [rowN_no h0, List.drop_zero]; exact h0
   exact key b.length b (Nat.le_refl _) hh
  rw [show (allE b != Int.ofNat 0) = true from Sx.neT h1, cond_true, h2]; rfl
end Go.Dv
end
section
namespace Go.Dv.S
theorem b8_eq {n : Nat} {x : UInt8} (h : n % 256 = x.toNat) : b8 n = x := by
 refine UInt8.toNat_inj.1 ?_
 show (UInt8.ofNat n).toNat = x.toNat
 rw [UInt8.toNat_ofNat']
 exact h
theorem blt_no {a b : Nat} (h : Nat.blt a b = false) : b ≤ a := by
 rcases Nat.lt_or_ge a b with h3 | h3
 ·rw [Sx.bltT h3] at h; cases h
 ·exact h3
theorem blt_yes {a b : Nat} (h : Nat.blt a b = true) : a < b := Nat.le_of_ble_eq_true h
theorem lenB_1 {n : Nat} (h : n < 128) : lenB n = [b8 n] := by unfold lenB; rw [Sx.bltT h, cond_true]
theorem lenB_2 {n : Nat} (h : 128 ≤ n) (h' : n < 256) : lenB n = [129, b8 n] := by unfold lenB; rw [Sx.bltF h, cond_false, Sx.bltT h', cond_true]
theorem lenB_3 {n : Nat} (h : 256 ≤ n) (h' : n < 65536) : lenB n = [130, b8 (n / 256), b8 n] := by
 unfold lenB; rw [Sx.bltF (by omega : 128 ≤ n), cond_false, Sx.bltF h, cond_false, Sx.bltT h', cond_true]
theorem lenB_4 {n : Nat} (h : 65536 ≤ n) : lenB n = [131, b8 (n / 65536), b8 (n / 256), b8 n] := by
 unfold lenB; rw [Sx.bltF (by omega : 128 ≤ n), cond_false, Sx.bltF (by omega : 256 ≤ n), cond_false, Sx.bltF h, cond_false]
theorem head_canon {b : B} (h : (head b).1 = 0) : ∃ t r, b = t :: (lenB (head b).2.2 ++ r) ∧ isTag t.toNat = true ∧ (head b).2.1 = 1 + (lenB (head b).2.2).length ∧ (head b).2.2 ≤ maxC := by
 unfold head at h ⊢
 split
 ·simp at h
 ·rename_i t r
  cases ht : isTag t.toNat with
  | false => simp [ht] at h
  | true =>
   simp only [ht, Bool.not_true, cond_false] at h ⊢
   split
   ·simp at h
   ·rename_i l r
    have hl256 := l.toNat_lt
    cases h1 : Nat.blt l.toNat 128 with
    | true =>
     simp only [cond_true]
     have h1' := blt_yes h1
     rw [lenB_1 h1', b8_eq (x := l) (by omega)]
     exact ⟨t, r, rfl, ht, rfl, by unfold maxC; omega⟩
    | false =>
     have h1' := blt_no h1
     simp only [h1, cond_false] at h ⊢
     cases h2 : (Nat.beq l.toNat 128 || Nat.blt 131 l.toNat || r.head? == some 0) with
     | true => rw [h2] at h; simp at h
     | false =>
      rw [h2] at h
      simp only [cond_false] at h ⊢
      cases h3 : Nat.blt r.length (l.toNat - 128) with
      | true => rw [h3] at h; simp at h
      | false =>
       rw [h3] at h
       simp only [cond_false] at h ⊢
       cases h4 : Nat.blt (big (r.take (l.toNat - 128)) 0) 128 with
       | true => rw [h4] at h; simp at h
       | false =>
        simp only [cond_false]
        have h3' := blt_no h3
        have h4' := blt_no h4
        simp only [Bool.or_eq_false_iff] at h2
        obtain ⟨⟨h5, h6⟩, h7⟩ := h2
        have h5' : l.toNat ≠ 128 := fun e => by rw [e] at h5; cases h5
        have h6' := blt_no h6
        clear h h1 h3 h4 h5 h6
        obtain hk | hk | hk : l.toNat = 129 ∨ l.toNat = 130 ∨ l.toNat = 131 := by omega
        ·rw [hk] at h3' h4' ⊢
         obtain ⟨a, r, rfl⟩ : ∃ a r', r = a :: r' := by
          cases r with
          | nil => simp at h3'
          | cons a r => exact ⟨a, r, rfl⟩
         have ha := a.toNat_lt
         have hb : big ((a :: r).take (129 - 128)) 0 = a.toNat := by simp [big]
         rw [hb] at h4' ⊢
         rw [lenB_2 h4' (by omega), b8_eq (x := a) (by omega)]
         have hl : l = 129 := UInt8.toNat_inj.1 hk
         exact ⟨t, r, by rw [hl]; rfl, ht, rfl, by unfold maxC; omega⟩
        ·rw [hk] at h3' h4' ⊢
         obtain ⟨a, a', r, rfl⟩ : ∃ a a' r', r = a :: a' :: r' := by
          match r with
          | [] => simp at h3'
          | [_] => simp at h3'
          | a :: a' :: r => exact ⟨a, a', r, rfl⟩
         have ha := a.toNat_lt
         have ha' := a'.toNat_lt
         have hb : big ((a :: a' :: r).take (130 - 128)) 0 = 256 * a.toNat + a'.toNat := by simp [big]
         have h0 : a.toNat ≠ 0 := fun e => by
          have : a = 0 := UInt8.toNat_inj.1 e
          rw [this] at h7; simp at h7
         rw [hb] at h4' ⊢
         have q1 : b8 ((256 * a.toNat + a'.toNat) / 256) = a := b8_eq (by omega)
         have q2 : b8 (256 * a.toNat + a'.toNat) = a' := b8_eq (by omega)
         rw [lenB_3 (by omega) (by omega), q1, q2]
         have hl : l = 130 := UInt8.toNat_inj.1 hk
         exact ⟨t, r, by rw [hl]; rfl, ht, rfl, by unfold maxC; omega⟩
        ·rw [hk] at h3' h4' ⊢
         obtain ⟨a, a', a'', r, rfl⟩ : ∃ a a' a'' r', r = a :: a' :: a'' :: r' := by
          match r with
          | [] => simp at h3'
          | [_] => simp at h3'
          | [_, _] => simp at h3'
          | a :: a' :: a'' :: r => exact ⟨a, a', a'', r, rfl⟩
         have ha := a.toNat_lt
         have ha' := a'.toNat_lt
         have ha'' := a''.toNat_lt
         have hb : big ((a :: a' :: a'' :: r).take (131 - 128)) 0 = 256 * (256 * a.toNat + a'.toNat) + a''.toNat := by simp [big]
         have h0 : a.toNat ≠ 0 := fun e => by
          have : a = 0 := UInt8.toNat_inj.1 e
          rw [this] at h7; simp at h7
         rw [hb] at h4' ⊢
         have q1 : b8 ((256 * (256 * a.toNat + a'.toNat) + a''.toNat) / 65536) = a := b8_eq (by omega)
         have q2 : b8 ((256 * (256 * a.toNat + a'.toNat) + a''.toNat) / 256) = a' := b8_eq (by omega)
         have q3 : b8 (256 * (256 * a.toNat + a'.toNat) + a''.toNat) = a'' := b8_eq (by omega)
         rw [lenB_4 (by omega), q1, q2, q3]
         have hl : l = 131 := UInt8.toNat_inj.1 hk
         exact ⟨t, r, by rw [hl]; rfl, ht, rfl, by unfold maxC; omega⟩
theorem take_canon {b : B} (h : takeE b = 0) : isTag (takeT b) = true ∧ (takeC b).length ≤ maxC ∧ takeN b = 1 + (lenB (takeC b).length).length + (takeC b).length ∧ b.take (takeN b) = elemB (b8 (takeT b).toNat) (takeC b) := by
 obtain ⟨h1, h2⟩ := takeE_head h
 obtain ⟨t, r, hb, ht, hn, hm⟩ := head_canon h1
 have hT : takeT b = (t.toNat : Int) := by unfold takeT; rw [h]; rw [hb]; rfl
 have hN : takeN b = (head b).2.1 + (head b).2.2 := by unfold takeN; rw [h]; rfl
 have hC : takeC b = (b.drop (head b).2.1).take (head b).2.2 := by unfold takeC; rw [h]; rfl
 have hr : b.drop (head b).2.1 = r := by
  rw [hn]
  conv => lhs; arg 2; rw [hb]
  rw [Nat.add_comm, List.drop_succ_cons]
  simp
 have hlen : (takeC b).length = (head b).2.2 := by
  rw [hC, List.length_take, List.length_drop]; omega
 refine ⟨by rw [hT]; exact ht, by omega, by rw [hN, hn, hlen], ?_⟩
 have e1 : b8 (takeT b).toNat = t := by rw [hT]; exact b8_eq (by have := t.toNat_lt; simp)
 unfold elemB
 rw [e1, hlen, hC, hr, hN, hn]
 conv => lhs; arg 2; rw [hb]
 rw [show 1 + (lenB (head b).2.2).length + (head b).2.2 = ((lenB (head b).2.2).length + (head b).2.2) + 1 by omega, List.take_succ_cons]
 congr 1
 rw [List.take_append, List.take_of_length_le (by omega)]
 congr 1
 congr 1
 omega
end Go.Dv.S
end
section
namespace Go.Dv
namespace S
def stR_der_All (s c : List (List DV)) : DSt := stU 46 [(0, .v (.fz s)), (2, .v .nils), (3, .v (.int .i64 0)), (4, .v (.int .i64 0)), (5, .lp 5 0), (6, .lp 6 0), (12, .v (.fz s)), (13, .v (.func 137 [] [.fp false [.fz c]]))] [(5, .prom 0), (6, .prom 1)] []
def cs_der_All (s c : List (List DV)) : List DV := [.fz s, undef, .nils, .int .i64 0, .int .i64 0, .ptr 0 0, .ptr 1 0, undef, undef, undef, undef, undef, .fz s, .func 137 [] [.fp false [.fz c]]] ++ List.replicate 32 undef
noncomputable def lb_der_All (s c : List (List DV)) (st : LoopState) : DBlk := loopBlk (cs_der_All s c) (lrec T0 48 0 st none (List.replicate 46 false))
noncomputable def hn_der_All (s c : List (List DV)) (st : LoopState) : DHeap := [⟨[.nils], 93, false, false, true, none⟩, ⟨[.int .i64 0], 3, false, false, true, none⟩, dfrBlk, lb_der_All s c st]
noncomputable def hc_der_All (s c : List (List DV)) (st : LoopState) (n : Nat) (cs : List DV) (e : Int) : DHeap := [⟨[.sl 4 0 n 0 2], 93, false, false, true, none⟩, ⟨[.int .i64 e], 3, false, false, true, none⟩, dfrBlk, lb_der_All s c st, newBlk cs 90]
end S
end Go.Dv
end
section
namespace Go.Dv
open Go.Proofs Go.Dv.S
abbrev t_der_All : List (FuncId × Spec) := [(100, S_der_Each), (99, S_der_Take), (101, S_der_Size)]
abbrev t_der_Each_1 : List (FuncId × Spec) := [(99, S_der_Take)]
theorem e_der_All (Lp : LpT) (Y : CallD) (s : List (List DV)) : run P0 T0 Lp (Lt t_der_All) Y 48 [.fz s] =
  (Option.bind (Go.Dv.S.dB (DV.fz s)) fun v0 => (((Y (Tgt.fn (137)) [(DV.yield (3)), (DV.fp (Bool.false) [(DV.fz (s))])] [(DBlk.mk [DV.nils] (93) (Bool.false) (Bool.false) (Bool.true) none), (DBlk.mk [(DV.int (IntKind.i64) (0 : Int))] (3) (Bool.false) (Bool.false) (Bool.true) none), (DBlk.mk [] (0) (Bool.false) (Bool.false) (Bool.false) (some DObj.dfr)), (DBlk.mk ([(DV.fz (s)), (DV.tup []), DV.nils, (DV.int (IntKind.i64) (0 : Int)), (DV.int (IntKind.i64) (0 : Int)), (DV.ptr (0) (0)), (DV.ptr (1) (0)), (DV.tup []), (DV.tup []), (DV.tup []), (DV.tup []), (DV.tup []), (DV.fz (s)), (DV.func (137) [] [(DV.fp (Bool.false) [(DV.fz (s))])])] ++ (List.replicate 32 ((DV.tup [])))) (0) (Bool.false) (Bool.false) (Bool.false) (some (DObj.loop (lrec T0 48 0 Go.LoopState.ready none (List.replicate 46 ((Bool.false)))))))])).bind (rangeK 3 (stR_der_All s s) [.mark 2] (kontG P0 T0 Lp (Lt t_der_All) Y [] 48 0)))) := by kernel_rfl
theorem x_der_All_n (Lp : LpT) (Y : CallD) (s c : List (List DV)) : rangeK 3 (stR_der_All s c) [.mark 2] (kontG P0 T0 Lp (Lt t_der_All) Y [] 48 0) (.ret (.tup []), hn_der_All s c .ready) =
  (bif (Int.ofNat 0 == (↑s.length : Int)) then (some ((DRes.ret (DV.tup [(DV.fz []), (DV.int (IntKind.i64) (0 : Int)), (DV.int (IntKind.i64) (0 : Int))])), [])) else (bif (s.all fun (x : List Go.Dv.DV) => x.length.beq 1) then (Option.bind (Go.Dv.S.dB (DV.fz (List.drop 0 (List.take s.length s)))) fun v0 => (some ((DRes.ret (DV.tup [(DV.fz []), (DV.int (IntKind.i64) (0 : Int)), (DV.int (IntKind.i64) (Go.Dv.S.takeE v0))])), []))) else none)) := by kernel_rfl
theorem x_der_All_c (Lp : LpT) (Y : CallD) (s c : List (List DV)) (n : Nat) (cs : List DV) (e : Int) : rangeK 3 (stR_der_All s c) [.mark 2] (kontG P0 T0 Lp (Lt t_der_All) Y [] 48 0) (.ret (.tup []), hc_der_All s c .ready n cs e) =
  (bif (e == (↑s.length : Int)) then (Option.bind (Option.bind (Option.bind (Option.bind (bif ((0 + n * 2).ble cs.length) then (some (List.take (n * 2) (List.drop 0 cs))) else none) fun v0 => (Option.bind (Go.Dv.frozL v0) fun v1 => (some ((DV.fz (Go.Dv.chunks 2 n v1)), [(4)])))) fun v2 => (some ([(v2.fst), (DV.int (IntKind.i64) (e)), (DV.int (IntKind.i64) (0 : Int))], (v2.snd ++ ([] ++ ([] ++ [])))))) fun v3 => (some ((DV.tup (v3.fst)), (v3.snd)))) fun v4 => (some ((DRes.ret (v4.fst)), []))) else (Option.bind (Go.Pv.upTo e s.length) fun v5 => (bif (s.all fun (x : List Go.Dv.DV) => x.length.beq 1) then (Option.bind (Go.Dv.S.dB (DV.fz (List.drop v5 (List.take s.length s)))) fun v6 => (some ((DRes.ret (DV.tup [(DV.fz []), (DV.int (IntKind.i64) (e)), (DV.int (IntKind.i64) (Go.Dv.S.takeE v6))])), []))) else none))) := by kernel_rfl
theorem y_der_All_0n (Lp : LpT) (Y : CallD) (s c x : List (List DV)) (p t : Int) : runR P0 T0 Lp (Lt t_der_All) Y (.yield 3) [.int .i64 p, .agg [.int .i64 t, .fz x]] (hn_der_All s c .ready) =
  (Option.bind (Option.bind (Go.Dv.S.dM (DV.int Go.IntKind.i64 (↑x.length : Int))) fun v0 => (some ((DRes.ret (DV.bool (Bool.true))), [(DBlk.mk [(DV.sl (4) (0) (1) (0) (2))] (93) (Bool.false) (Bool.false) (Bool.true) none), (DBlk.mk [(DV.int (IntKind.i64) (IntKind.i64.wrap (IntKind.i64.wrap (p + (↑(1 + List.length (Go.Dv.S.lenB v0)) : Int)) + (↑x.length : Int))))] (3) (Bool.false) (Bool.false) (Bool.true) none), (DBlk.mk [] (0) (Bool.false) (Bool.false) (Bool.false) (some DObj.dfr)), (DBlk.mk ([(DV.fz (s)), (DV.tup []), DV.nils, (DV.int (IntKind.i64) (0 : Int)), (DV.int (IntKind.i64) (0 : Int)), (DV.ptr (0) (0)), (DV.ptr (1) (0)), (DV.tup []), (DV.tup []), (DV.tup []), (DV.tup []), (DV.tup []), (DV.fz (s)), (DV.func (137) [] [(DV.fp (Bool.false) [(DV.fz (c))])])] ++ (List.replicate 32 ((DV.tup [])))) (0) (Bool.false) (Bool.false) (Bool.false) (some (DObj.loop (lrec T0 48 0 Go.LoopState.ready none (List.replicate 46 ((Bool.false))))))), (DBlk.mk [(DV.int (IntKind.i64) (t)), (DV.fz (x))] (90) (Bool.true) (Bool.false) (Bool.true) none)]))) fun v1 => (some (v1 ))) := by kernel_rfl
theorem y_der_All_0c (Lp : LpT) (Y : CallD) (s c x : List (List DV)) (p t e : Int) (n : Nat) (cs : List DV) : runR P0 T0 Lp (Lt t_der_All) Y (.yield 3) [.int .i64 p, .agg [.int .i64 t, .fz x]] (hc_der_All s c .ready n cs e) =
  (Option.bind (bif (((((n + 1) * 32).ble 140737488355328) && ((n + 1).ble 9223372036854775807)) && (Bool.true)) then (bif ((n * 2).beq cs.length) then (Option.bind (Go.Dv.S.dM (DV.int Go.IntKind.i64 (↑x.length : Int))) fun v0 => (some ((DRes.ret (DV.bool (Bool.true))), (Go.Dv.DSt.heap (bif (((cs ++ List.take 2 (List.drop 0 (Go.Dv.splice (Go.Dv.repeatCells [DV.int Go.IntKind.i64 (0 : Int), DV.nils] 1) 0 (List.take 2 (List.drop 0 (Go.Dv.splice [DV.int Go.IntKind.i64 (0 : Int), DV.nils] 0 [DV.int Go.IntKind.i64 t, DV.fz x])))))).all Go.Dv.froz) && (Bool.true)) then (Go.Dv.S.stH 0 [] [] [(DBlk.mk [(DV.sl (4) (0) (n + 1) (0) (2))] (93) (Bool.false) (Bool.false) (Bool.true) none), (DBlk.mk [(DV.int (IntKind.i64) (IntKind.i64.wrap (IntKind.i64.wrap (p + (↑(1 + List.length (Go.Dv.S.lenB v0)) : Int)) + (↑x.length : Int))))] (3) (Bool.false) (Bool.false) (Bool.true) none), (DBlk.mk [] (0) (Bool.false) (Bool.false) (Bool.false) (some DObj.dfr)), (DBlk.mk ([(DV.fz (s)), (DV.tup []), DV.nils, (DV.int (IntKind.i64) (0 : Int)), (DV.int (IntKind.i64) (0 : Int)), (DV.ptr (0) (0)), (DV.ptr (1) (0)), (DV.tup []), (DV.tup []), (DV.tup []), (DV.tup []), (DV.tup []), (DV.fz (s)), (DV.func (137) [] [(DV.fp (Bool.false) [(DV.fz (c))])])] ++ (List.replicate 32 ((DV.tup [])))) (0) (Bool.false) (Bool.false) (Bool.false) (some (DObj.loop (lrec T0 48 0 Go.LoopState.ready none (List.replicate 46 ((Bool.false))))))), (DBlk.mk (cs ++ List.take 2 (List.drop 0 (Go.Dv.splice (Go.Dv.repeatCells [DV.int Go.IntKind.i64 (0 : Int), DV.nils] 1) 0 (List.take 2 (List.drop 0 (Go.Dv.splice [DV.int Go.IntKind.i64 (0 : Int), DV.nils] 0 [DV.int Go.IntKind.i64 t, DV.fz x])))))) (90) (Bool.true) (Bool.false) (Bool.true) none)]) else (Go.Dv.S.stH 0 [] [] [(DBlk.mk [(DV.sl (6) (0) (n + 1) (0) (2))] (93) (Bool.false) (Bool.false) (Bool.true) none), (DBlk.mk [(DV.int (IntKind.i64) (IntKind.i64.wrap (IntKind.i64.wrap (p + (↑(1 + List.length (Go.Dv.S.lenB v0)) : Int)) + (↑x.length : Int))))] (3) (Bool.false) (Bool.false) (Bool.true) none), (DBlk.mk [] (0) (Bool.false) (Bool.false) (Bool.false) (some DObj.dfr)), (DBlk.mk ([(DV.fz (s)), (DV.tup []), DV.nils, (DV.int (IntKind.i64) (0 : Int)), (DV.int (IntKind.i64) (0 : Int)), (DV.ptr (0) (0)), (DV.ptr (1) (0)), (DV.tup []), (DV.tup []), (DV.tup []), (DV.tup []), (DV.tup []), (DV.fz (s)), (DV.func (137) [] [(DV.fp (Bool.false) [(DV.fz (c))])])] ++ (List.replicate 32 ((DV.tup [])))) (0) (Bool.false) (Bool.false) (Bool.false) (some (DObj.loop (lrec T0 48 0 Go.LoopState.ready none (List.replicate 46 ((Bool.false))))))), (DBlk.mk (cs) (90) (Bool.true) (Bool.false) (Bool.false) none), (DBlk.mk [(DV.int (IntKind.i64) (t)), (DV.fz (x))] (90) (Bool.true) (Bool.false) (Bool.true) none), (DBlk.mk (cs ++ List.take 2 (List.drop 0 (Go.Dv.splice (Go.Dv.repeatCells [DV.int Go.IntKind.i64 (0 : Int), DV.nils] 1) 0 (List.take 2 (List.drop 0 (Go.Dv.splice [DV.int Go.IntKind.i64 (0 : Int), DV.nils] 0 [DV.int Go.IntKind.i64 t, DV.fz x])))))) (90) (Bool.true) (Bool.false) (Bool.true) none)])))))) else none) else none) fun v1 => (some (v1 ))) := by kernel_rfl
theorem r_der_Each_1 (Lp : LpT) (Y : CallD) (s : List (List DV)) (h : DHeap) : runR P0 T0 Lp (Lt t_der_Each_1) Y (.fn 137) [.yield 3, .fp false [.fz s]] (h) =
  (Lp _ (tdF T0 137 none 0) ((bodyF P0 T0 Lp (Lt t_der_Each_1) Y [3] 137 none 0 : FX (DRes × DHeap))) (kontW P0 T0 Lp (Lt t_der_Each_1) Y [3] 137 0) (Go.Dv.S.stH 31 [(0, (DSlot.v (DV.yield (3)))), (1, (DSlot.v (DV.fp (Bool.false) [(DV.fz (s))]))), (3, (DSlot.v (DV.int (IntKind.i64) (0 : Int))))] [] (h)) []) := by kernel_rfl
theorem b_der_Each_1_0 (Lp : LpT) (Y : CallD) (s : List (List DV)) (i : Int) (h : DHeap) (k : KX (DRes × DHeap)) : bodyF P0 T0 Lp (Lt t_der_Each_1) Y [3] 137 none 0 (stH 31 [(0, .v (.yield 3)), (1, .v (.fp false [.fz s])), (3, .v (.int .i64 i))] [] h) [] k =
  (bif (decide (i < (↑s.length : Int))) then (Option.bind (Go.Pv.upTo i s.length) fun v0 => (bif (s.all fun (x : List Go.Dv.DV) => x.length.beq 1) then (Option.bind (Go.Dv.S.dB (DV.fz (List.drop v0 (List.take s.length s)))) fun v1 => (bif (Go.Dv.S.takeE v1 != Int.ofNat 0) then (k DExit.ret (Go.Dv.S.stU 31 [(0, (DSlot.v (DV.yield (3)))), (1, (DSlot.v (DV.fp (Bool.false) [(DV.fz (s))]))), (2, DSlot.dead), (3, (DSlot.v (DV.int (IntKind.i64) (i)))), (4, (DSlot.lp (4) (0))), (5, (DSlot.v (DV.int (IntKind.i64) ((↑(Go.Dv.S.takeN v1) : Int))))), (6, (DSlot.v (DV.int (IntKind.i64) (Go.Dv.S.takeE v1)))), (7, (DSlot.v (DV.int (IntKind.i64) (i)))), (8, (DSlot.v (DV.fz (s)))), (9, (DSlot.v (DV.int (IntKind.i64) ((↑s.length : Int))))), (10, (DSlot.v (DV.bool (decide (i < (↑s.length : Int)))))), (11, (DSlot.v (DV.tup [(DV.agg [(DV.int (IntKind.i64) (Go.Dv.S.takeT v1)), (DV.fz (Go.Dv.S.byt (Go.Dv.S.takeC v1)))]), (DV.int (IntKind.i64) ((↑(Go.Dv.S.takeN v1) : Int))), (DV.int (IntKind.i64) (Go.Dv.S.takeE v1))]))), (12, (DSlot.v (DV.fz (s)))), (13, (DSlot.v (DV.int (IntKind.i64) (i)))), (14, (DSlot.v (DV.fz (List.drop v0 (List.take s.length s))))), (15, (DSlot.v (DV.tup [(DV.agg [(DV.int (IntKind.i64) (Go.Dv.S.takeT v1)), (DV.fz (Go.Dv.S.byt (Go.Dv.S.takeC v1)))]), (DV.int (IntKind.i64) ((↑(Go.Dv.S.takeN v1) : Int))), (DV.int (IntKind.i64) (Go.Dv.S.takeE v1))]))), (16, (DSlot.v (DV.agg [(DV.int (IntKind.i64) (Go.Dv.S.takeT v1)), (DV.fz (Go.Dv.S.byt (Go.Dv.S.takeC v1)))]))), (17, (DSlot.v (DV.int (IntKind.i64) ((↑(Go.Dv.S.takeN v1) : Int))))), (18, (DSlot.v (DV.int (IntKind.i64) (Go.Dv.S.takeE v1)))), (19, (DSlot.v (DV.int (IntKind.i64) (Go.Dv.S.takeE v1)))), (20, (DSlot.v (DV.bool (Go.Dv.S.takeE v1 != Int.ofNat 0)))), (21, (DSlot.v (DV.bool (Bool.true)))), (27, (DSlot.v (DV.bool (Bool.true)))), (28, DSlot.dead), (29, DSlot.dead), (30, DSlot.dead)] [(4, (DBox.loc [(DV.int (IntKind.i64) (Go.Dv.S.takeT v1)), (DV.fz (Go.Dv.S.byt (Go.Dv.S.takeC v1)))] (90)))] (h)) []) else (Option.bind (Y (Tgt.yield (3)) [(DV.int (IntKind.i64) (i)), (DV.agg [(DV.int (IntKind.i64) (Go.Dv.S.takeT v1)), (DV.fz (Go.Dv.S.byt (Go.Dv.S.takeC v1)))])] (h)) fun v2 => (match (v2.fst) with | DRes.ret v3 => (Option.bind (Go.Dv.toBool v3) fun v4 => (bif (!v4) then (k DExit.ret (Go.Dv.S.stH 31 [(0, (DSlot.v (DV.yield (3)))), (1, (DSlot.v (DV.fp (Bool.false) [(DV.fz (s))]))), (3, (DSlot.v (DV.int (IntKind.i64) (i)))), (4, (DSlot.lp (4) (0))), (5, (DSlot.v (DV.int (IntKind.i64) ((↑(Go.Dv.S.takeN v1) : Int))))), (6, (DSlot.v (DV.int (IntKind.i64) (Go.Dv.S.takeE v1)))), (7, (DSlot.v (DV.int (IntKind.i64) (i)))), (8, (DSlot.v (DV.fz (s)))), (9, (DSlot.v (DV.int (IntKind.i64) ((↑s.length : Int))))), (10, (DSlot.v (DV.bool (decide (i < (↑s.length : Int)))))), (11, (DSlot.v (DV.tup [(DV.agg [(DV.int (IntKind.i64) (Go.Dv.S.takeT v1)), (DV.fz (Go.Dv.S.byt (Go.Dv.S.takeC v1)))]), (DV.int (IntKind.i64) ((↑(Go.Dv.S.takeN v1) : Int))), (DV.int (IntKind.i64) (Go.Dv.S.takeE v1))]))), (12, (DSlot.v (DV.fz (s)))), (13, (DSlot.v (DV.int (IntKind.i64) (i)))), (14, (DSlot.v (DV.fz (List.drop v0 (List.take s.length s))))), (15, (DSlot.v (DV.tup [(DV.agg [(DV.int (IntKind.i64) (Go.Dv.S.takeT v1)), (DV.fz (Go.Dv.S.byt (Go.Dv.S.takeC v1)))]), (DV.int (IntKind.i64) ((↑(Go.Dv.S.takeN v1) : Int))), (DV.int (IntKind.i64) (Go.Dv.S.takeE v1))]))), (16, (DSlot.v (DV.agg [(DV.int (IntKind.i64) (Go.Dv.S.takeT v1)), (DV.fz (Go.Dv.S.byt (Go.Dv.S.takeC v1)))]))), (17, (DSlot.v (DV.int (IntKind.i64) ((↑(Go.Dv.S.takeN v1) : Int))))), (18, (DSlot.v (DV.int (IntKind.i64) (Go.Dv.S.takeE v1)))), (19, (DSlot.v (DV.int (IntKind.i64) (Go.Dv.S.takeE v1)))), (20, (DSlot.v (DV.bool (Go.Dv.S.takeE v1 != Int.ofNat 0)))), (21, (DSlot.v (DV.bool (Bool.false)))), (22, (DSlot.v (DV.yield (3)))), (23, (DSlot.v (DV.int (IntKind.i64) (i)))), (24, (DSlot.v (DV.agg [(DV.int (IntKind.i64) (Go.Dv.S.takeT v1)), (DV.fz (Go.Dv.S.byt (Go.Dv.S.takeC v1)))]))), (25, (DSlot.v (DV.bool (v4)))), (26, (DSlot.v (DV.bool (!v4)))), (27, (DSlot.v (DV.bool (!v4))))] [(4, (DBox.loc [(DV.int (IntKind.i64) (Go.Dv.S.takeT v1)), (DV.fz (Go.Dv.S.byt (Go.Dv.S.takeC v1)))] (90)))] (v2.snd)) []) else (k DExit.normal (Go.Dv.S.stH 31 [(0, (DSlot.v (DV.yield (3)))), (1, (DSlot.v (DV.fp (Bool.false) [(DV.fz (s))]))), (3, (DSlot.v (DV.int (IntKind.i64) (IntKind.i64.wrap (i + (↑(Go.Dv.S.takeN v1) : Int)))))), (4, (DSlot.lp (4) (0))), (5, (DSlot.v (DV.int (IntKind.i64) ((↑(Go.Dv.S.takeN v1) : Int))))), (6, (DSlot.v (DV.int (IntKind.i64) (Go.Dv.S.takeE v1)))), (7, (DSlot.v (DV.int (IntKind.i64) (i)))), (8, (DSlot.v (DV.fz (s)))), (9, (DSlot.v (DV.int (IntKind.i64) ((↑s.length : Int))))), (10, (DSlot.v (DV.bool (decide (i < (↑s.length : Int)))))), (11, (DSlot.v (DV.tup [(DV.agg [(DV.int (IntKind.i64) (Go.Dv.S.takeT v1)), (DV.fz (Go.Dv.S.byt (Go.Dv.S.takeC v1)))]), (DV.int (IntKind.i64) ((↑(Go.Dv.S.takeN v1) : Int))), (DV.int (IntKind.i64) (Go.Dv.S.takeE v1))]))), (12, (DSlot.v (DV.fz (s)))), (13, (DSlot.v (DV.int (IntKind.i64) (i)))), (14, (DSlot.v (DV.fz (List.drop v0 (List.take s.length s))))), (15, (DSlot.v (DV.tup [(DV.agg [(DV.int (IntKind.i64) (Go.Dv.S.takeT v1)), (DV.fz (Go.Dv.S.byt (Go.Dv.S.takeC v1)))]), (DV.int (IntKind.i64) ((↑(Go.Dv.S.takeN v1) : Int))), (DV.int (IntKind.i64) (Go.Dv.S.takeE v1))]))), (16, (DSlot.v (DV.agg [(DV.int (IntKind.i64) (Go.Dv.S.takeT v1)), (DV.fz (Go.Dv.S.byt (Go.Dv.S.takeC v1)))]))), (17, (DSlot.v (DV.int (IntKind.i64) ((↑(Go.Dv.S.takeN v1) : Int))))), (18, (DSlot.v (DV.int (IntKind.i64) (Go.Dv.S.takeE v1)))), (19, (DSlot.v (DV.int (IntKind.i64) (Go.Dv.S.takeE v1)))), (20, (DSlot.v (DV.bool (Go.Dv.S.takeE v1 != Int.ofNat 0)))), (21, (DSlot.v (DV.bool (Bool.false)))), (22, (DSlot.v (DV.yield (3)))), (23, (DSlot.v (DV.int (IntKind.i64) (i)))), (24, (DSlot.v (DV.agg [(DV.int (IntKind.i64) (Go.Dv.S.takeT v1)), (DV.fz (Go.Dv.S.byt (Go.Dv.S.takeC v1)))]))), (25, (DSlot.v (DV.bool (v4)))), (26, (DSlot.v (DV.bool (!v4)))), (27, (DSlot.v (DV.bool (!v4)))), (28, (DSlot.v (DV.int (IntKind.i64) (i)))), (29, (DSlot.v (DV.int (IntKind.i64) ((↑(Go.Dv.S.takeN v1) : Int))))), (30, (DSlot.v (DV.int (IntKind.i64) (IntKind.i64.wrap (i + (↑(Go.Dv.S.takeN v1) : Int))))))] [(4, (DBox.loc [(DV.int (IntKind.i64) (Go.Dv.S.takeT v1)), (DV.fz (Go.Dv.S.byt (Go.Dv.S.takeC v1)))] (90)))] (v2.snd)) []))) | DRes.pan v5 => (k (DExit.panic (v5 )) (Go.Dv.S.stH 31 [(0, (DSlot.v (DV.yield (3)))), (1, (DSlot.v (DV.fp (Bool.false) [(DV.fz (s))]))), (3, (DSlot.v (DV.int (IntKind.i64) (i)))), (4, (DSlot.lp (4) (0))), (5, (DSlot.v (DV.int (IntKind.i64) ((↑(Go.Dv.S.takeN v1) : Int))))), (6, (DSlot.v (DV.int (IntKind.i64) (Go.Dv.S.takeE v1)))), (7, (DSlot.v (DV.int (IntKind.i64) (i)))), (8, (DSlot.v (DV.fz (s)))), (9, (DSlot.v (DV.int (IntKind.i64) ((↑s.length : Int))))), (10, (DSlot.v (DV.bool (decide (i < (↑s.length : Int)))))), (11, (DSlot.v (DV.tup [(DV.agg [(DV.int (IntKind.i64) (Go.Dv.S.takeT v1)), (DV.fz (Go.Dv.S.byt (Go.Dv.S.takeC v1)))]), (DV.int (IntKind.i64) ((↑(Go.Dv.S.takeN v1) : Int))), (DV.int (IntKind.i64) (Go.Dv.S.takeE v1))]))), (12, (DSlot.v (DV.fz (s)))), (13, (DSlot.v (DV.int (IntKind.i64) (i)))), (14, (DSlot.v (DV.fz (List.drop v0 (List.take s.length s))))), (15, (DSlot.v (DV.tup [(DV.agg [(DV.int (IntKind.i64) (Go.Dv.S.takeT v1)), (DV.fz (Go.Dv.S.byt (Go.Dv.S.takeC v1)))]), (DV.int (IntKind.i64) ((↑(Go.Dv.S.takeN v1) : Int))), (DV.int (IntKind.i64) (Go.Dv.S.takeE v1))]))), (16, (DSlot.v (DV.agg [(DV.int (IntKind.i64) (Go.Dv.S.takeT v1)), (DV.fz (Go.Dv.S.byt (Go.Dv.S.takeC v1)))]))), (17, (DSlot.v (DV.int (IntKind.i64) ((↑(Go.Dv.S.takeN v1) : Int))))), (18, (DSlot.v (DV.int (IntKind.i64) (Go.Dv.S.takeE v1)))), (19, (DSlot.v (DV.int (IntKind.i64) (Go.Dv.S.takeE v1)))), (20, (DSlot.v (DV.bool (Go.Dv.S.takeE v1 != Int.ofNat 0)))), (21, (DSlot.v (DV.bool (Bool.false)))), (22, (DSlot.v (DV.yield (3)))), (23, (DSlot.v (DV.int (IntKind.i64) (i)))), (24, (DSlot.v (DV.agg [(DV.int (IntKind.i64) (Go.Dv.S.takeT v1)), (DV.fz (Go.Dv.S.byt (Go.Dv.S.takeC v1)))])))] [(4, (DBox.loc [(DV.int (IntKind.i64) (Go.Dv.S.takeT v1)), (DV.fz (Go.Dv.S.byt (Go.Dv.S.takeC v1)))] (90)))] (v2.snd)) []))))) else none)) else (k (DExit.exit (0)) (Go.Dv.S.stH 31 [(0, (DSlot.v (DV.yield (3)))), (1, (DSlot.v (DV.fp (Bool.false) [(DV.fz (s))]))), (3, (DSlot.v (DV.int (IntKind.i64) (i)))), (7, (DSlot.v (DV.int (IntKind.i64) (i)))), (8, (DSlot.v (DV.fz (s)))), (9, (DSlot.v (DV.int (IntKind.i64) ((↑s.length : Int))))), (10, (DSlot.v (DV.bool (decide (i < (↑s.length : Int))))))] [] (h)) [])) := by kernel_rfl
theorem x_der_Each (Lp : LpT) (Y : CallD) (st : DSt) : kontW P0 T0 Lp (Lt t_der_Each_1) Y [3] 137 0 (.exit 0) st [] =
  (some ((DRes.ret (DV.tup [])), (Go.Dv.DSt.heap (st )))) := by kernel_rfl
theorem x_der_Each_r (Lp : LpT) (Y : CallD) (st : DSt) : kontW P0 T0 Lp (Lt t_der_Each_1) Y [3] 137 0 .ret st [] =
  (some ((DRes.ret (DV.tup [])), (Go.Dv.DSt.heap (st )))) := by kernel_rfl
end Go.Dv
end
section
namespace Go.Dv
open Go.Proofs Go.Dv.S
open Go.Pv (idx upTo)
def rowA (b : B) (p : Nat) : List (List DV) :=
 if h : takeE b = 0 then [DV.int .i64 (p : Int), eltV (takeT b, takeC b)] :: rowA (b.drop (takeN b)) (p + takeN b) else []
 termination_by b.length
 decreasing_by exact takeN_drop h
theorem rowA_ok {b : B} (h : takeE b = 0) (p : Nat) : rowA b p = [DV.int .i64 (p : Int), eltV (takeT b, takeC b)] :: rowA (b.drop (takeN b)) (p + takeN b) := by rw [rowA, dif_pos h]
theorem rowA_no {b : B} (h : takeE b ≠ 0) (p : Nat) : rowA b p = [] := by rw [rowA, dif_neg h]
noncomputable def hE (s : List (List DV)) (l : List Elem) (e : Nat) : DHeap := match l with
 | [] => hn_der_All s s .ready
 | x :: l => hc_der_All s s .ready (x :: l).length (ecs (x :: l)) (e : Int)
theorem y_All_n (Y : CallD) (s : List (List DV)) (p n : Nat) (t : Int) (c : B) (hc : c.length ≤ maxC) (hn : n = 1 + (lenB c.length).length + c.length) (hp : p + n ≤ 1099511627776) :
  runR P0 T0 (fun _ => LoopLim) (Lt t_der_All) Y (.yield 3) [.int .i64 (p : Int), eltV (t, c)] (hn_der_All s s .ready) = some (.ret (.bool true), hE s [(t, c)] (p + n)) := by
 have hm : dM (.int .i64 (c.length : Int)) = some c.length := dM_ok hc
 have w1 : IntKind.i64.wrap (IntKind.i64.wrap ((p : Int) + ((1 + (lenB c.length).length : Nat) : Int)) + (c.length : Int)) = ((p + n : Nat) : Int) := by
  have w0 : IntKind.i64.wrap ((p : Int) + ((1 + (lenB c.length).length : Nat) : Int)) = (p : Int) + ((1 + (lenB c.length).length : Nat) : Int) := Sx.w64 (by omega)
  rw [w0, Sx.w64 (by omega)]; omega
 refine (y_der_All_0n _ Y s s (byt c) p t).trans ?_
 rw [byt_len, hm, Option.bind_some, Option.bind_some, w1]
 (show _ = _; kernel_rfl)
theorem y_All_c (Y : CallD) (s : List (List DV)) (p n : Nat) (x : Elem) (l : List Elem) (t : Int) (c : B) (hc : c.length ≤ maxC) (hn : n = 1 + (lenB c.length).length + c.length) (hp : p + n ≤ 1099511627776) (hl : (x :: l).length ≤ 1099511627776) :
  runR P0 T0 (fun _ => LoopLim) (Lt t_der_All) Y (.yield 3) [.int .i64 (p : Int), eltV (t, c)] (hE s (x :: l) p) = some (.ret (.bool true), hE s (x :: l ++ [(t, c)]) (p + n)) := by
 have hm : dM (.int .i64 (c.length : Int)) = some c.length := dM_ok hc
 have w1 : IntKind.i64.wrap (IntKind.i64.wrap ((p : Int) + ((1 + (lenB c.length).length : Nat) : Int)) + (c.length : Int)) = ((p + n : Nat) : Int) := by
  have w0 : IntKind.i64.wrap ((p : Int) + ((1 + (lenB c.length).length : Nat) : Int)) = (p : Int) + ((1 + (lenB c.length).length : Nat) : Int) := Sx.w64 (by omega)
  rw [w0, Sx.w64 (by omega)]; omega
 have hf := ecs_froz (x :: l ++ [(t, c)])
 have hcs : ecs (x :: l) ++ List.take 2 (List.drop 0 (splice (repeatCells [DV.int IntKind.i64 (0 : Int), DV.nils] 1) 0 (List.take 2 (List.drop 0 (splice [DV.int IntKind.i64 (0 : Int), DV.nils] 0 [DV.int IntKind.i64 t, DV.fz (byt c)]))))) = ecs (x :: l ++ [(t, c)]) := by
  rw [← ecs_snoc]; rfl
 refine (y_der_All_0c _ Y s s (byt c) p t p (x :: l).length (ecs (x :: l))).trans ?_
 rw [Sx.bleT (show ((x :: l).length + 1) * 32 ≤ 140737488355328 by omega), Sx.bleT (show (x :: l).length + 1 ≤ 9223372036854775807 by omega), Sx.beqT (ecs_len (x :: l)).symm, Bool.and_self, Bool.and_self, cond_true, cond_true, byt_len, hm, Option.bind_some, Option.bind_some, w1, hcs, hf]
 rw [show hE s (x :: l ++ [(t, c)]) (p + n) = hc_der_All s s .ready ((x :: l).length + 1) (ecs (x :: l ++ [(t, c)])) ((p + n : Nat) : Int) by
  show hc_der_All s s .ready (x :: (l ++ [(t, c)])).length _ _ = _
  rw [List.length_cons, List.length_append]; rfl]
 (show _ = _; kernel_rfl)
theorem rounds_All (s : List (List DV)) : ∀ (k : Nat) (b : B) (p : Nat) (l : List Elem), b.length ≤ k → p + b.length ≤ 1099511627776 → l.length ≤ p → 
  rounds (yinf P0 T0) 3 (rowA b p) (hE s l p) = some (.ret (.tup []), hE s (l ++ row b) (p + rowN b)) := by
 intro k
 induction k with
 | zero =>
  intro b p l hk hp hl
  have : b = [] := List.eq_nil_of_length_eq_zero (by omega)
  subst this
  rw [rowA_no (by decide), row_no (by decide), rowN_no (by decide), List.append_nil]
  rfl
 | succ k ih =>
  intro b p l hk hp hl
  by_cases h0 : takeE b = 0
  ·obtain ⟨n1, n2⟩ := takeN_pos h0
   obtain ⟨q1, q2, q3, q4⟩ := take_canon h0
   have hcs : Cons P0 T0 t_der_All := ⟨c_der_Each, c_der_Take, c_der_Size, trivial⟩
   have hnx := ih (b.drop (takeN b)) (p + takeN b) (l ++ [(takeT b, takeC b)]) (by rw [List.length_drop]; omega) (by rw [List.length_drop]; omega) (by simp; omega)
   rw [rowA_ok h0, row_ok h0, rowN_ok h0]
   rw [List.append_assoc, Nat.add_assoc] at hnx
   have key : yinf P0 T0 (.yield 3) [.int .i64 (p : Int), eltV (takeT b, takeC b)] (hE s l p) = some (.ret (.bool true), hE s (l ++ [(takeT b, takeC b)]) (p + takeN b)) := by
    cases l with
    | nil => exact LxR.of_in hcs (y_All_n _ s p (takeN b) (takeT b) (takeC b) q2 q3 (by omega))
    | cons x l => exact LxR.of_in hcs (y_All_c _ s p (takeN b) x l (takeT b) (takeC b) q2 q3 (by omega) (by omega))
   show ((yinf P0 T0 (.yield 3) _ (hE s l p)).bind _) = _
   rw [key]
   exact hnx
  ·rw [rowA_no h0, row_no h0, rowN_no h0, List.append_nil]
   rfl
end Go.Dv
end
section
namespace Go.Dv
open Go.Proofs Go.Dv.S
open Go.Pv (idx upTo)
def stE (s : List (List DV)) (i : Int) (h : DHeap) : DSt := stH 31 [(0, .v (.yield 3)), (1, .v (.fp false [.fz s])), (3, .v (.int .i64 i))] [] h
theorem l_der_Each (Y : CallD) (s : B) (hs : s.length ≤ 1099511627776) : ∀ (n p : Nat) (h : DHeap) (r : DRes × DHeap), s.length - p ≤ n → p ≤ s.length → rounds Y 3 (rowA (s.drop p) p) h = some r →
  LoopLim (tdF T0 137 none 0) (bodyF P0 T0 (fun _ => LoopLim) (Lt t_der_Each_1) Y [3] 137 none 0) (kontW P0 T0 (fun _ => LoopLim) (Lt t_der_Each_1) Y [3] 137 0) (stE (byt s) (p : Int) h) [] = some r := by
 have hc : Cons P0 T0 t_der_Each_1 := ⟨c_der_Take, trivial⟩
 intro n
 induction n with
 | zero =>
  intro p h r hn hp hr
  have hpe : p = s.length := by omega
  subst hpe
  refine loop_step hc.cont ?_
  unfold stE
  rw [b_der_Each_1_0, byt_len, Sx.ltF (Int.le_refl _), cond_false]
  rw [List.drop_length, rowA_no (by decide)] at hr
  rw [← hr]
  show _ = some (DRes.ret (.tup []), h)
  exact x_der_Each _ _ _
 | succ n ih =>
  intro p h r hn hp hr
  rcases Nat.eq_or_lt_of_le hp with he | hlt
  ·exact ih p h r (by omega) hp hr
  ·have hdb : dB (.fz (byt (s.drop p))) = some (s.drop p) := dB_ok (by unfold lim; rw [List.length_drop]; omega)
   refine loop_step hc.cont ?_
   unfold stE
   rw [b_der_Each_1_0, byt_len, Sx.ltT (by omega), cond_true, Sx.upI (by omega), Option.bind_some, byt_all, cond_true, Sx.tn, Sx.byt_take, Sx.byt_drop, Sx.takeAll (Nat.le_refl _), hdb, Option.bind_some]
   by_cases h0 : takeE (s.drop p) = 0
   ·obtain ⟨n1, n2⟩ := takeN_pos h0
    rw [List.length_drop] at n2
    rw [show (takeE (s.drop p) != Int.ofNat 0) = false from Sx.neF h0, cond_false]
    have nxt : ∀ (h' : DHeap), rounds Y 3 (rowA (s.drop (p + takeN (s.drop p))) (p + takeN (s.drop p))) h' = some r → _ := fun h' hh => ih (p + takeN (s.drop p)) h' r (by omega) (by omega) hh
    rw [rowA_ok h0, List.drop_drop] at hr
    simp only [rounds] at hr
    obtain ⟨q, hq, hr⟩ := bnd' hr
    obtain ⟨q1, q2⟩ := q
    have hq' : Y (.yield 3) [.int .i64 (p : Int), .agg [.int .i64 (takeT (s.drop p)), .fz (byt (takeC (s.drop p)))]] h = some (q1, q2) := hq
    rw [hq', Option.bind_some]
    cases q1 with
    | pan v =>
     simp only at hr ⊢
     refine Eq.trans ?_ hr
     (show _ = _; kernel_rfl)
    | ret v =>
     simp only at hr ⊢
     obtain ⟨b, hb, hr⟩ := bnd' hr
     rw [hb, Option.bind_some]
     cases b with
     | false =>
      rw [cond_false] at hr
      rw [Bool.not_false, cond_true]
      refine Eq.trans ?_ hr
      (show _ = _; kernel_rfl)
     | true =>
      rw [cond_true] at hr
      rw [Bool.not_true, cond_false]
      have w1 : IntKind.i64.wrap ((p : Int) + (takeN (s.drop p) : Int)) = ((p + takeN (s.drop p) : Nat) : Int) := by rw [Sx.w64 (by omega)]; omega
      rw [w1]
      refine headT (nxt q2 hr) ?_
      (show _ = _; kernel_rfl)
   ·rw [show (takeE (s.drop p) != Int.ofNat 0) = true from Sx.neT h0, cond_true]
    rw [rowA_no h0] at hr
    rw [← hr]
    show _ = some (DRes.ret (.tup []), h)
    exact x_der_Each_r _ _ _
theorem bindR {α β : Type} {x : Option α} {f : α → Option β} {a : α} {r : β} (h : x = some a) (h2 : f a = some r) : x.bind f = some r := by rw [h]; exact h2
theorem row_nil {b : B} (h : row b = []) : rowN b = 0 := by
 by_cases h0 : takeE b = 0
 ·rw [row_ok h0] at h; cases h
 ·exact rowN_no h0
theorem c_der_All : Con P0 T0 48 S_der_All := con1 fun x b hx => by
 have hx' := hx
 obtain ⟨rfl, hl⟩ := dB_inv hx
 have hl2 : b.length ≤ 1099511627776 := hl
 have hcw : Cons P0 T0 t_der_Each_1 := ⟨c_der_Take, trivial⟩
 refine Lx.of_inY (tab := t_der_All) ⟨c_der_Each, c_der_Take, c_der_Size, trivial⟩ ?_
 rw [e_der_All]
 have hr : rounds (yinf P0 T0) 3 (rowA b 0) (hE (byt b) [] 0) = some (.ret (.tup []), hE (byt b) (row b) (rowN b)) := by
  have := rounds_All (byt b) b.length b 0 [] (Nat.le_refl _) (by omega) (Nat.zero_le _)
  rw [List.nil_append, Nat.zero_add] at this
  exact this
 have hit : yinf P0 T0 (.fn 137) [.yield 3, .fp false [.fz (byt b)]] (hn_der_All (byt b) (byt b) .ready) = some (.ret (.tup []), hE (byt b) (row b) (rowN b)) := by
  refine LxR.of_in hcw ?_
  rw [r_der_Each_1]
  have h1 := l_der_Each (yinf P0 T0) b hl2 b.length 0 (hE (byt b) [] 0) _ (by omega) (by omega) (by rw [List.drop_zero]; exact hr)
  refine headT h1 ?_
  (show _ = _; kernel_rfl)
 rw [hx', Option.bind_some]
 refine bindR (Eq.trans ?_ hit) ?_
 ·(show _ = _; kernel_rfl)
 ·show _ = some (ret (.tup [.fz (elts (allL b)), .int .i64 (rowN b : Nat), .int .i64 (allE b)]))
  have hle := rowN_le b
  cases hrow : row b with
  | nil =>
   have h0 := row_nil hrow
   refine (x_der_All_n _ _ (byt b) (byt b)).trans ?_
   by_cases hb : b = []
   ·subst hb
    have h1 : allL ([] : B) = [] := by unfold allL; rw [hrow]; cases (Nat.beq (rowN ([] : B)) ([] : B).length) <;> rfl
    rw [h1, h0, allE_nil]
    rfl
   ·have hpos := List.length_pos_iff.2 hb
    have h1 : allL b = [] := by unfold allL; rw [hrow]; cases (Nat.beq (rowN b) b.length) <;> rfl
    have h2 : allE b = takeE b := by unfold allE; rw [h0, Sx.beqF (by omega), cond_false, List.drop_zero]
    have h3 : (Int.ofNat 0 == (((byt b).length : Nat) : Int)) = false := by rw [byt_len]; simp; omega
    have h4 : dB (.fz (List.drop 0 (List.take (byt b).length (byt b)))) = some b := by rw [Sx.takeAll (Nat.le_refl _), List.drop_zero]; exact hx'
    rw [h3, cond_false, byt_all, cond_true, h4, Option.bind_some, h1, h0, h2]
    rfl
  | cons e l =>
   refine (x_der_All_c _ _ (byt b) (byt b) (e :: l).length (ecs (e :: l)) (rowN b : Int)).trans ?_
   by_cases he : rowN b = b.length
   ·have h1 : allL b = e :: l := by unfold allL; rw [Sx.beqT he, cond_true, hrow]
    have h2 : allE b = 0 := by unfold allE; rw [Sx.beqT he, cond_true]
    have h3 : (((rowN b : Nat) : Int) == (((byt b).length : Nat) : Int)) = true := by rw [byt_len, he]; simp
    rw [h3, cond_true, h1, h2, Nat.zero_add, ← ecs_len (e :: l), Sx.bleT (Nat.le_refl _), cond_true, List.drop_zero, List.take_length, Option.bind_some, frozE, Option.bind_some, ecs_chunks]
    rfl
   ·have h1 : allL b = [] := by unfold allL; rw [Sx.beqF he, cond_false]
    have h2 : allE b = takeE (b.drop (rowN b)) := by unfold allE; rw [Sx.beqF he, cond_false]
    have h3 : (((rowN b : Nat) : Int) == (((byt b).length : Nat) : Int)) = false := by rw [byt_len]; simp; omega
    have h4 : dB (.fz (byt (b.drop (rowN b)))) = some (b.drop (rowN b)) := dB_ok (by unfold lim; rw [List.length_drop]; omega)
    rw [h3, cond_false, byt_len, Sx.upI (by omega), Option.bind_some, Sx.tn, byt_all, cond_true, Sx.byt_take, Sx.byt_drop, Sx.takeAll (Nat.le_refl _), h4, Option.bind_some, h1, h2]
    rfl
end Go.Dv
end
section
namespace Go.Dv
namespace S
def arr (n : Nat) (s : B) : List DV := (List.range n).map fun i => .int .u8 (s.getD i 0).toNat
def zer (n : Nat) : B := List.replicate n 0
def pad32 (c : B) : B := List.replicate (32 - c.length) 0 ++ c
def halfE (c : B) : Int := bif toNatE c == 0 then (bif Nat.blt 32 (toNatC c).length then 21 else 0) else toNatE c
def halfC (c : B) : B := bif halfE c == 0 then pad32 (toNatC c) else zer 32
def decE (b : B) : Int := bif oneE b == 0 then bif oneT b == 48 then bif allE (oneC b) == 0 then (match allL (oneC b) with
 | [x, y] => bif x.1 == 2 && y.1 == 2 then (bif halfE x.2 == 0 then halfE y.2 else halfE x.2) else 20
 | _ => 20) else allE (oneC b) else 20 else oneE b
def decC (b : B) : B := bif decE b == 0 then (match allL (oneC b) with
 | [x, y] => halfC x.2 ++ halfC y.2
 | _ => zer 64) else zer 64
def encB (s : B) : B := elemB 48 (elemB 2 (natB (s.take 32)) ++ elemB 2 (natB (s.drop 32)))
def dPut : List DV → Option (B × Int × List B)
 | [b, t, l] => (dBm b).bind fun b => (dI t).bind fun t => (dBs l).bind fun l => bif isTag t && Nat.ble l.flatten.length maxC then some (b, t, l) else none
 | _ => none
def S_sign_half : Spec := sp1 dEl fun e => .tup [.agg (arr 32 (halfC e.2)), .int .i64 (halfE e.2)]
def S_sign_Decode : Spec := sq1 dB fun b => .leaf (ret (.tup [.agg (arr 64 (decC b)), .int .i64 (decE b)]))
def S_chanceryref11_Decode : Spec := S_sign_Decode
def S_sign_Encode : Spec := sq1 (dA 64) fun s => .leaf (ob (encB s))
def S_chanceryref11_Encode : Spec := sp1 (dA 64) fun s => .fz (byt (encB s))
def P_der_Put : Spec := fun R xs k => (dPut xs).bind fun p => k (obE (p.1 ++ elemB (b8 p.2.1.toNat) p.2.2.flatten) 0)
def order : B := [255, 255, 255, 255, 0, 0, 0, 0, 255, 255, 255, 255, 255, 255, 255, 255, 188, 230, 250, 173, 167, 23, 158, 132, 243, 185, 202, 194, 252, 99, 37, 81]
def S_curve_Order : Spec := fun R xs k => match xs with
 | [] => k (ret (.agg (ofBytes order)))
 | _ => none
def S_internal_bytealg_Compare : Spec := sp2 dB dB fun a b => .int .i64 (Lib.compareBytes a b)
def S_bytes_Compare : Spec := S_internal_bytealg_Compare
def dMay (x : DV) : Option Bool := (dA 32 x).bind fun s => bif s == zer 31 ++ [1] then some true else bif s == zer 32 then some false else none
def S_sign_May : Spec := sp1 dMay fun b => .bool b
def S_chancerylaw11_names : Spec := fun R xs k => match xs with
 | [] => k (ret (.bool true))
 | _ => none
def S_chancerylaw11_works : Spec := S_chancerylaw11_names
end S
end Go.Dv
end
section
namespace Go.Dv.S
theorem row_tag {b : B} {e : Elem} (h : e ∈ row b) : isTag e.1 = true ∧ e.2.length ≤ maxC ∧ e.2.length ≤ b.length := by
 induction hn : b.length using Nat.strongRecOn generalizing b with
 | _ n ih =>
  subst hn
  by_cases h0 : takeE b = 0
  ·rw [row_ok h0] at h
   rcases List.mem_cons.1 h with rfl | h
   ·have := take_canon h0
    exact ⟨this.1, this.2.1, takeC_len b⟩
   ·have h3 := ih _ (takeN_drop h0) h rfl
    have h4 := takeN_drop h0
    exact ⟨h3.1, h3.2.1, by omega⟩
  ·rw [row_no h0] at h; cases h
theorem pad_len {c : B} (h : c.length ≤ 32) : (pad32 c).length = 32 := by
 unfold pad32; simp; omega
theorem half_len (c : B) : (halfC c).length = 32 := by
 unfold halfC
 cases hh : halfE c == 0 with
 | false => simp [zer]
 | true =>
  rw [cond_true]
  refine pad_len ?_
  rw [beq_iff_eq] at hh
  unfold halfE at hh
  cases h0 : toNatE c == 0 with
  | false => rw [h0, cond_false] at hh; rw [hh] at h0; cases h0
  | true =>
   rw [h0, cond_true] at hh
   cases h1 : Nat.blt 32 (toNatC c).length with
   | true => rw [h1] at hh; cases hh
   | false => exact blt_no h1
theorem decC_len (b : B) : (decC b).length = 64 := by
 unfold decC
 cases decE b == 0 with
 | false => simp [zer]
 | true =>
  rw [cond_true]
  split
  ·simp [half_len]
  ·simp [zer]
end Go.Dv.S
end
section
namespace Go.Dv
open Go.Proofs Go.Dv.S
abbrev t_sign_half : List (FuncId × Spec) := [(102, S_num_ToNat)]
abbrev t_sign_Decode : List (FuncId × Spec) := [(47, S_der_One), (48, S_der_All), (49, S_sign_half)]
abbrev t_curve_Order : List (FuncId × Spec) := []
abbrev t_chanceryref11_Encode : List (FuncId × Spec) := [(45, S_chanceryref01_Bytes), (46, S_chanceryref02_Nat)]
theorem e_sign_half (Lp : LpT) (s : List (List DV)) (t : Int) : run P0 T0 Lp (Lt t_sign_half) nY 49 [.agg [.int .i64 t, .fz s]] =
  (Option.bind (Go.Dv.S.dB (DV.fz s)) fun v0 => (bif (Go.Dv.S.toNatE v0 != Int.ofNat 0) then (some ((DRes.ret (DV.tup [(DV.agg (List.replicate 32 ((DV.int (IntKind.u8) (0 : Int))))), (DV.int (IntKind.i64) (Go.Dv.S.toNatE v0))])), [])) else (bif (decide ((↑(Go.Dv.S.byt (Go.Dv.S.toNatC v0)).length : Int) > 32)) then (some ((DRes.ret (DV.tup [(DV.agg (List.replicate 32 ((DV.int (IntKind.u8) (0 : Int))))), (DV.int (IntKind.i64) (21 : Int))])), [])) else (Option.bind (Go.Pv.upTo (IntKind.i64.wrap (Int.ofNat 32 - (↑(Go.Dv.S.byt (Go.Dv.S.toNatC v0)).length : Int))) 32) fun v1 => (Option.bind (bif ((Go.Dv.S.byt (Go.Dv.S.toNatC v0)).all fun (x : List Go.Dv.DV) => x.length.beq 1) then (some (((Go.Dv.S.byt (Go.Dv.S.toNatC v0)).length), ((Go.Dv.S.byt (Go.Dv.S.toNatC v0)).flatten))) else none) fun v2 => (bif ((0 + v1 * 1 + (List.take (v2.fst.min (32 - v1) * 1) v2.snd).length).ble 32) then (bif (Nat.ble 32 (Go.Dv.splice (List.replicate 32 (DV.int Go.IntKind.u8 (0 : Int))) (0 + v1 * 1) (List.take (v2.fst.min (32 - v1) * 1) v2.snd)).length) then (bif ((List.take 32 (List.drop 0 (Go.Dv.splice (List.replicate 32 (DV.int Go.IntKind.u8 (0 : Int))) (0 + v1 * 1) (List.take (v2.fst.min (32 - v1) * 1) v2.snd)))).length.beq 32) then (bif ((0 + (List.take 32 (List.drop 0 (Go.Dv.splice (List.replicate 32 (DV.int Go.IntKind.u8 (0 : Int))) (0 + v1 * 1) (List.take (v2.fst.min (32 - v1) * 1) v2.snd)))).length).ble 32) then (bif (Nat.ble 32 (Go.Dv.splice (List.replicate 32 (DV.int Go.IntKind.u8 (0 : Int))) 0 (List.take 32 (List.drop 0 (Go.Dv.splice (List.replicate 32 (DV.int Go.IntKind.u8 (0 : Int))) (0 + v1 * 1) (List.take (v2.fst.min (32 - v1) * 1) v2.snd))))).length) then (Option.bind (Option.bind (Option.bind (Option.bind (Go.Dv.freezeWith (Go.Dv.freezeV 62 [(DBlk.mk (Go.Dv.splice (List.replicate 32 (DV.int Go.IntKind.u8 (0 : Int))) (0 + v1 * 1) (List.take (v2.fst.min (32 - v1) * 1) v2.snd)) (23) (Bool.false) (Bool.false) (Bool.true) none)]) (List.take 32 (List.drop 0 (Go.Dv.splice (List.replicate 32 (DV.int Go.IntKind.u8 (0 : Int))) 0 (List.take 32 (List.drop 0 (Go.Dv.splice (List.replicate 32 (DV.int Go.IntKind.u8 (0 : Int))) (0 + v1 * 1) (List.take (v2.fst.min (32 - v1) * 1) v2.snd)))))))) fun v3 => (some ((DV.agg (v3.fst)), (v3.snd)))) fun v4 => (some ([(v4.fst), (DV.int (IntKind.i64) (0 : Int))], (v4.snd ++ ([] ++ []))))) fun v5 => (some ((DV.tup (v5.fst)), (v5.snd)))) fun v6 => (some ((DRes.ret (v6.fst)), []))) else none) else none) else none) else none) else none)))))) := by kernel_rfl
theorem e_sign_Decode (Lp : LpT) (s : List (List DV)) : run P0 T0 Lp (Lt t_sign_Decode) nY 12 [.fz s] =
  (Option.bind (Go.Dv.S.dB (DV.fz s)) fun v0 => (bif (Go.Dv.S.oneE v0 != Int.ofNat 0) then (some ((DRes.ret (DV.tup [(DV.agg (List.replicate 64 ((DV.int (IntKind.u8) (0 : Int))))), (DV.int (IntKind.i64) (Go.Dv.S.oneE v0))])), [])) else (bif (Go.Dv.S.oneT v0 != Int.ofNat 48) then (some ((DRes.ret (DV.tup [(DV.agg (List.replicate 64 ((DV.int (IntKind.u8) (0 : Int))))), (DV.int (IntKind.i64) (20 : Int))])), [])) else (Option.bind (Go.Dv.S.dB (DV.fz (Go.Dv.S.byt (Go.Dv.S.oneC v0)))) fun v1 => (bif (Go.Dv.S.allE v1 != Int.ofNat 0) then (some ((DRes.ret (DV.tup [(DV.agg (List.replicate 64 ((DV.int (IntKind.u8) (0 : Int))))), (DV.int (IntKind.i64) (Go.Dv.S.allE v1))])), [])) else (bif ((↑(Go.Dv.S.elts (Go.Dv.S.allL v1)).length : Int) != Int.ofNat 2) then (some ((DRes.ret (DV.tup [(DV.agg (List.replicate 64 ((DV.int (IntKind.u8) (0 : Int))))), (DV.int (IntKind.i64) (20 : Int))])), [])) else (Option.bind (Go.Pv.idx (0 : Int) (Go.Dv.S.elts (Go.Dv.S.allL v1)).length) fun v2 => (Option.bind (Go.Dv.S.elts (Go.Dv.S.allL v1))[(v2)]? fun v3 => (Option.bind (Go.Dv.unc v3) fun v4 => (Option.bind (Go.Dv.toInt Go.IntKind.i64 v4.fst) fun v5 => (Option.bind (Go.Dv.unc v4.snd) fun v6 => (Option.bind (Go.Dv.toFz v6.fst) fun v7 => (bif (v6.snd.isEmpty) then (bif (v5 != Int.ofNat 2) then (some ((DRes.ret (DV.tup [(DV.agg (List.replicate 64 ((DV.int (IntKind.u8) (0 : Int))))), (DV.int (IntKind.i64) (20 : Int))])), [])) else (Option.bind (Go.Pv.idx (1 : Int) (Go.Dv.S.elts (Go.Dv.S.allL v1)).length) fun v8 => (Option.bind (Go.Dv.S.elts (Go.Dv.S.allL v1))[(v8)]? fun v9 => (Option.bind (Go.Dv.unc v9) fun v10 => (Option.bind (Go.Dv.toInt Go.IntKind.i64 v10.fst) fun v11 => (Option.bind (Go.Dv.unc v10.snd) fun v12 => (Option.bind (Go.Dv.toFz v12.fst) fun v13 => (bif (v12.snd.isEmpty) then (bif (v11 != Int.ofNat 2) then (some ((DRes.ret (DV.tup [(DV.agg (List.replicate 64 ((DV.int (IntKind.u8) (0 : Int))))), (DV.int (IntKind.i64) (20 : Int))])), [])) else (Option.bind (Go.Pv.idx (0 : Int) (Go.Dv.S.elts (Go.Dv.S.allL v1)).length) fun v14 => (Option.bind (Go.Dv.S.elts (Go.Dv.S.allL v1))[(v14)]? fun v15 => (Option.bind (Go.Dv.unc v15) fun v16 => (Option.bind (Go.Dv.toInt Go.IntKind.i64 v16.fst) fun v17 => (Option.bind (Go.Dv.unc v16.snd) fun v18 => (Option.bind (Go.Dv.toFz v18.fst) fun v19 => (bif (v18.snd.isEmpty) then (Option.bind (Go.Dv.S.dEl (DV.agg [DV.int Go.IntKind.i64 v17, DV.fz v19])) fun v20 => (bif (Go.Dv.S.halfE v20.snd != Int.ofNat 0) then (some ((DRes.ret (DV.tup [(DV.agg (List.replicate 64 ((DV.int (IntKind.u8) (0 : Int))))), (DV.int (IntKind.i64) (Go.Dv.S.halfE v20.snd))])), [])) else (Option.bind (Go.Pv.idx (1 : Int) (Go.Dv.S.elts (Go.Dv.S.allL v1)).length) fun v21 => (Option.bind (Go.Dv.S.elts (Go.Dv.S.allL v1))[(v21)]? fun v22 => (Option.bind (Go.Dv.unc v22) fun v23 => (Option.bind (Go.Dv.toInt Go.IntKind.i64 v23.fst) fun v24 => (Option.bind (Go.Dv.unc v23.snd) fun v25 => (Option.bind (Go.Dv.toFz v25.fst) fun v26 => (bif (v25.snd.isEmpty) then (Option.bind (Go.Dv.S.dEl (DV.agg [DV.int Go.IntKind.i64 v24, DV.fz v26])) fun v27 => (bif (Go.Dv.S.halfE v27.snd != Int.ofNat 0) then (some ((DRes.ret (DV.tup [(DV.agg (List.replicate 64 ((DV.int (IntKind.u8) (0 : Int))))), (DV.int (IntKind.i64) (Go.Dv.S.halfE v27.snd))])), [])) else (some ((DRes.ret (DV.tup [(DV.agg ((List.map (fun (i' : Nat) => (DV.int (IntKind.u8) ((↑(List.getD (Go.Dv.S.halfC v20.snd) i' 0).toNat : Int)))) (List.range 32)) ++ (List.map (fun (i' : Nat) => (DV.int (IntKind.u8) ((↑(List.getD (Go.Dv.S.halfC v27.snd) i' 0).toNat : Int)))) (List.range 32)))), (DV.int (IntKind.i64) (0 : Int))])), [])))) else none))))))))) else none)))))))) else none)))))))) else none))))))))))))) := by kernel_rfl
theorem e_curve_Order (Lp : LpT)  : run P0 T0 Lp (Lt t_curve_Order) nY 54 [] =
  (some ((DRes.ret (DV.agg ([(DV.int (IntKind.u8) (255 : Int)), (DV.int (IntKind.u8) (255 : Int)), (DV.int (IntKind.u8) (255 : Int)), (DV.int (IntKind.u8) (255 : Int)), (DV.int (IntKind.u8) (0 : Int)), (DV.int (IntKind.u8) (0 : Int)), (DV.int (IntKind.u8) (0 : Int)), (DV.int (IntKind.u8) (0 : Int))] ++ (List.replicate 8 ((DV.int (IntKind.u8) (255 : Int)))) ++ [(DV.int (IntKind.u8) (188 : Int)), (DV.int (IntKind.u8) (230 : Int)), (DV.int (IntKind.u8) (250 : Int)), (DV.int (IntKind.u8) (173 : Int)), (DV.int (IntKind.u8) (167 : Int)), (DV.int (IntKind.u8) (23 : Int)), (DV.int (IntKind.u8) (158 : Int)), (DV.int (IntKind.u8) (132 : Int)), (DV.int (IntKind.u8) (243 : Int)), (DV.int (IntKind.u8) (185 : Int)), (DV.int (IntKind.u8) (202 : Int)), (DV.int (IntKind.u8) (194 : Int)), (DV.int (IntKind.u8) (252 : Int)), (DV.int (IntKind.u8) (99 : Int)), (DV.int (IntKind.u8) (37 : Int)), (DV.int (IntKind.u8) (81 : Int))]))), [])) := by kernel_rfl
theorem e_chanceryref11_Encode (Lp : LpT) (u : Nat → Int) : run P0 T0 Lp (Lt t_chanceryref11_Encode) nY 11 [.agg ((List.range 64).map fun i => .int .u8 (u i))] =
  (Option.bind (Go.Dv.S.dBm (DV.fz (Go.Dv.chunks 1 32 (List.map (fun (i' : Nat) => DV.int Go.IntKind.u8 (u i')) (List.range 32))))) fun v0 => (Option.bind (Go.Dv.S.dElb (DV.agg [DV.int Go.IntKind.i64 (2 : Int), DV.fz (Go.Dv.S.byt (Go.Dv.S.natB v0))])) fun v1 => (Option.bind (Go.Dv.S.dBm (DV.fz (Go.Dv.chunks 1 32 (List.map (fun (i' : Nat) => DV.int Go.IntKind.u8 (u (32 + i'))) (List.range 32))))) fun v2 => (Option.bind (Go.Dv.S.dElb (DV.agg [DV.int Go.IntKind.i64 (2 : Int), DV.fz (Go.Dv.S.byt (Go.Dv.S.natB v2))])) fun v3 => (Option.bind (Option.bind (bif ((0 + List.length (Go.Dv.S.elemB (Go.Dv.S.b8 v3.fst.toNat) v3.snd) * 1).ble (Go.Dv.ofBytes (Go.Dv.S.elemB (Go.Dv.S.b8 v3.fst.toNat) v3.snd)).length) then (some (List.take (List.length (Go.Dv.S.elemB (Go.Dv.S.b8 v3.fst.toNat) v3.snd) * 1) (List.drop 0 (Go.Dv.ofBytes (Go.Dv.S.elemB (Go.Dv.S.b8 v3.fst.toNat) v3.snd))))) else none) fun v4 => (some ((List.length (Go.Dv.S.elemB (Go.Dv.S.b8 v3.fst.toNat) v3.snd)), (v4)))) fun v5 => (bif (((((List.length (Go.Dv.S.elemB (Go.Dv.S.b8 v1.fst.toNat) v1.snd) + v5.fst) * 1).ble 140737488355328) && ((List.length (Go.Dv.S.elemB (Go.Dv.S.b8 v1.fst.toNat) v1.snd) + v5.fst).ble 9223372036854775807)) && (Bool.true)) then (bif ((List.length (Go.Dv.S.elemB (Go.Dv.S.b8 v1.fst.toNat) v1.snd) * 1).beq (Go.Dv.ofBytes (Go.Dv.S.elemB (Go.Dv.S.b8 v1.fst.toNat) v1.snd)).length) then (Option.bind (Option.bind (Option.bind (Option.bind (Option.bind (Option.bind (bif ((0 + (List.length (Go.Dv.S.elemB (Go.Dv.S.b8 v1.fst.toNat) v1.snd) + v5.fst) * 1).ble (Go.Dv.ofBytes (Go.Dv.S.elemB (Go.Dv.S.b8 v1.fst.toNat) v1.snd) ++ v5.snd).length) then (some (List.take ((List.length (Go.Dv.S.elemB (Go.Dv.S.b8 v1.fst.toNat) v1.snd) + v5.fst) * 1) (List.drop 0 (Go.Dv.ofBytes (Go.Dv.S.elemB (Go.Dv.S.b8 v1.fst.toNat) v1.snd) ++ v5.snd)))) else none) fun v6 => (Option.bind (Go.Dv.frozL v6) fun v7 => (some ((DV.fz (Go.Dv.chunks 1 (List.length (Go.Dv.S.elemB (Go.Dv.S.b8 v1.fst.toNat) v1.snd) + v5.fst) v7)), [(3)])))) fun v8 => (some ([(v8.fst)], (v8.snd ++ [])))) fun v9 => (some (((DV.int (IntKind.i64) (48 : Int)) :: (v9.fst)), ([] ++ v9.snd)))) fun v10 => (some ((DV.agg (v10.fst)), (v10.snd)))) fun v11 => (some ([(v11.fst)], (v11.snd ++ [])))) fun v12 => (Option.bind (Go.Dv.S.l1 v12.fst) fun v13 => (Option.bind (Go.Dv.S.dElb v13) fun v14 => (Option.bind (Option.bind (bif ((0 + List.length (Go.Dv.S.elemB (Go.Dv.S.b8 v14.fst.toNat) v14.snd) * 1).ble (Go.Dv.ofBytes (Go.Dv.S.elemB (Go.Dv.S.b8 v14.fst.toNat) v14.snd)).length) then (some (List.take (List.length (Go.Dv.S.elemB (Go.Dv.S.b8 v14.fst.toNat) v14.snd) * 1) (List.drop 0 (Go.Dv.ofBytes (Go.Dv.S.elemB (Go.Dv.S.b8 v14.fst.toNat) v14.snd))))) else none) fun v15 => (Option.bind (Go.Dv.frozL v15) fun v16 => (some ((DV.fz (Go.Dv.chunks 1 (List.length (Go.Dv.S.elemB (Go.Dv.S.b8 v14.fst.toNat) v14.snd)) v16)), [(4)])))) fun v17 => (some ((DRes.ret (v17.fst)), [])))))) else none) else none)))))) := by kernel_rfl
end Go.Dv
end
section
namespace Go.Dv
open Go.Proofs Go.Dv.S
abbrev t_sign_Encode : List (FuncId × Spec) := [(44, S_num_Nat), (43, P_der_Put)]
theorem e_sign_Encode (Lp : LpT) (u : Nat → Int) : run P0 T0 Lp (Lt t_sign_Encode) nY 10 [.agg ((List.range 64).map fun i => .int .u8 (u i))] =
  (Option.bind (Go.Dv.S.dBm (DV.fz (Go.Dv.chunks 1 32 (List.map (fun (i' : Nat) => DV.int Go.IntKind.u8 (u i')) (List.range 32))))) fun v0 => (Option.bind (Go.Dv.S.dPut [DV.fz [], DV.int Go.IntKind.i64 (2 : Int), DV.fz (Go.Dv.chunks 1 1 [DV.fz (Go.Dv.S.byt (Go.Dv.S.natB v0))])]) fun v1 => (Option.bind (Go.Dv.S.dBm (DV.fz (Go.Dv.chunks 1 32 (List.map (fun (i' : Nat) => DV.int Go.IntKind.u8 (u (32 + i'))) (List.range 32))))) fun v2 => (Option.bind (Option.bind (Option.bind (bif ((0 + List.length (v1.fst ++ Go.Dv.S.elemB (Go.Dv.S.b8 v1.snd.fst.toNat) v1.snd.snd.flatten) * 1).ble (Go.Dv.ofBytes (v1.fst ++ Go.Dv.S.elemB (Go.Dv.S.b8 v1.snd.fst.toNat) v1.snd.snd.flatten)).length) then (some (List.take (List.length (v1.fst ++ Go.Dv.S.elemB (Go.Dv.S.b8 v1.snd.fst.toNat) v1.snd.snd.flatten) * 1) (List.drop 0 (Go.Dv.ofBytes (v1.fst ++ Go.Dv.S.elemB (Go.Dv.S.b8 v1.snd.fst.toNat) v1.snd.snd.flatten))))) else none) fun v3 => (Option.bind (Go.Dv.frozL v3) fun v4 => (some ((DV.fz (Go.Dv.chunks 1 (List.length (v1.fst ++ Go.Dv.S.elemB (Go.Dv.S.b8 v1.snd.fst.toNat) v1.snd.snd.flatten)) v4)), [(2)])))) fun v5 => (some ([(v5.fst), (DV.int (IntKind.i64) (2 : Int)), (DV.fz [[(DV.fz (Go.Dv.S.byt (Go.Dv.S.natB v2)))]])], (v5.snd ++ ([] ++ (3 :: ([] ++ []) ++ [])))))) fun v6 => (Option.bind (Go.Dv.S.dPut v6.fst) fun v7 => (Option.bind (Option.bind (Option.bind (Option.bind (Option.bind (Option.bind (Option.bind (bif ((0 + List.length (v7.fst ++ Go.Dv.S.elemB (Go.Dv.S.b8 v7.snd.fst.toNat) v7.snd.snd.flatten) * 1).ble (Go.Dv.ofBytes (v7.fst ++ Go.Dv.S.elemB (Go.Dv.S.b8 v7.snd.fst.toNat) v7.snd.snd.flatten)).length) then (some (List.take (List.length (v7.fst ++ Go.Dv.S.elemB (Go.Dv.S.b8 v7.snd.fst.toNat) v7.snd.snd.flatten) * 1) (List.drop 0 (Go.Dv.ofBytes (v7.fst ++ Go.Dv.S.elemB (Go.Dv.S.b8 v7.snd.fst.toNat) v7.snd.snd.flatten))))) else none) fun v8 => (Option.bind (Go.Dv.frozL v8) fun v9 => (some ((DV.fz (Go.Dv.chunks 1 (List.length (v7.fst ++ Go.Dv.S.elemB (Go.Dv.S.b8 v7.snd.fst.toNat) v7.snd.snd.flatten)) v9)), [(4)])))) fun v10 => (some ([(v10.fst)], (v10.snd ++ [])))) fun v11 => (some ((DV.fz [(List.take 1 v11.fst)]), ((5) :: (v11.snd))))) fun v12 => (some ([(v12.fst)], (v12.snd ++ [])))) fun v13 => (some (((DV.int (IntKind.i64) (48 : Int)) :: (v13.fst)), ([] ++ v13.snd)))) fun v14 => (some (((DV.fz []) :: (v14.fst)), ([] ++ v14.snd)))) fun v15 => (Option.bind (Go.Dv.S.dPut v15.fst) fun v16 => (Option.bind (bif ((Go.Dv.ofBytes (v16.fst ++ Go.Dv.S.elemB (Go.Dv.S.b8 v16.snd.fst.toNat) v16.snd.snd.flatten)).length.beq ((List.length (v16.fst ++ Go.Dv.S.elemB (Go.Dv.S.b8 v16.snd.fst.toNat) v16.snd.snd.flatten) + 0) * 1)) then (Option.bind (bif ((Go.Dv.ofBytes (v16.fst ++ Go.Dv.S.elemB (Go.Dv.S.b8 v16.snd.fst.toNat) v16.snd.snd.flatten)).all Go.Dv.froz) then (some (Go.Dv.ofBytes (v16.fst ++ Go.Dv.S.elemB (Go.Dv.S.b8 v16.snd.fst.toNat) v16.snd.snd.flatten))) else none) fun v17 => (some ([(DV.sl (0) (0) (List.length (v16.fst ++ Go.Dv.S.elemB (Go.Dv.S.b8 v16.snd.fst.toNat) v16.snd.snd.flatten)) (0) (1))], [(DBlk.mk (v17) (5) (Bool.true) (Bool.false) (Bool.true) none)]))) else none) fun v18 => (Option.bind (match (Go.Dv.unflat [Go.Dv.OwnT.one (some (5, 1))] v18.fst) with | List.nil  => none | List.cons v19 v20 => (some (v19 ))) fun v21 => (some ((DRes.ret (v21 )), (v18.snd)))))))))))) := by kernel_rfl
end Go.Dv
end

/- What the functions come to that the statement's law runs, and the statement itself. Parts: CoR, RwE, EqK, CoS, CoT, CoU, RwSignCodes. -/
import Derived.KernelRfl
import Derived.Test.YtngphbjigkgeaaaDoorSignCodesB
set_option linter.unusedVariables false
set_option linter.unusedSimpArgs false
set_option linter.unusedSectionVars false
section
namespace Go.Dv
open Go.Proofs Go.Dv.S
open Go.Pv (idx upTo)
theorem range_ofB {s : B} {n : Nat} (h : s.length = n) : (List.range n).map (fun i => DV.int IntKind.u8 ((s.getD i 0).toNat : Int)) = ofBytes s := by
 subst h
 refine List.ext_getElem (by simp [ofBytes]) fun i h1 h2 => ?_
 simp only [List.length_map, List.length_range] at h1
 simp [ofBytes, List.getD_eq_getElem?_getD, h1]
theorem arr_ofB {s : B} {n : Nat} (h : s.length = n) : arr n s = ofBytes s := range_ofB h
theorem range_take {s : B} {n : Nat} (h : n ≤ s.length) : (List.range n).map (fun i => DV.int IntKind.u8 ((s.getD i 0).toNat : Int)) = ofBytes (s.take n) := by
 refine List.ext_getElem (by simp [ofBytes]; omega) fun i h1 h2 => ?_
 simp only [List.length_map, List.length_range] at h1
 have : i < s.length := by omega
 simp [ofBytes, List.getD_eq_getElem?_getD, this]
theorem range_drop {s : B} {a n : Nat} (h : a + n = s.length) : (List.range n).map (fun i => DV.int IntKind.u8 ((s.getD (a + i) 0).toNat : Int)) = ofBytes (s.drop a) := by
 refine List.ext_getElem (by simp [ofBytes]; omega) fun i h1 h2 => ?_
 simp only [List.length_map, List.length_range] at h1
 have : a + i < s.length := by omega
 simp [ofBytes, List.getD_eq_getElem?_getD, this]
theorem unC_inv : ∀ {cs : List DV} {s : B}, unC cs = some s → cs = ofBytes s
 | [], s, h => by cases h; rfl
 | x :: cs, s, h => by
  unfold unC at h
  split at h
  ·rename_i heq; cases heq
  ·rename_i heq
   cases heq
   obtain ⟨h1, h⟩ := bif1 h
   obtain ⟨m, hm, rfl⟩ := Option.map_eq_some_iff.1 h
   rw [unC_inv hm]
   simp only [Bool.and_eq_true, decide_eq_true_eq] at h1
   show _ = DV.int IntKind.u8 ((UInt8.ofNat _).toNat : Int) :: ofBytes m
   rw [Sx.u8_ofI h1]
  ·cases h
theorem unC_ok (s : B) : unC (ofBytes s) = some s := by
 induction s with
 | nil => rfl
 | cons c s ih =>
  have hc := c.toNat_lt
  show (bif decide ((0 : Int) ≤ (c.toNat : Int)) && decide ((c.toNat : Int) < 256) then (unC (ofBytes s)).map (UInt8.ofNat (c.toNat : Int).toNat :: ·) else none) = _
  rw [Sx.leT (by omega), Sx.ltT (by omega), ih]
  simp
theorem dA_inv {n : Nat} {x : DV} {s : B} (h : dA n x = some s) : x = .agg (ofBytes s) ∧ s.length = n := by
 cases x <;> simp only [dA] at h <;> try (cases h; done)
 obtain ⟨h1, h⟩ := bif1 h
 have h2 := unC_inv h
 subst h2
 exact ⟨rfl, by rw [← ofBytes_len]; exact Nat.eq_of_beq_eq_true h1⟩
theorem dA_ok {n : Nat} {s : B} (h : s.length = n) : dA n (.agg (ofBytes s)) = some s := by
 show (bif Nat.beq (ofBytes s).length n then unC (ofBytes s) else none) = _
 rw [ofBytes_len, Sx.beqT h, cond_true, unC_ok]
theorem p_der_Put : Con P0 T0 43 P_der_Put where
 nat R xs k := by unfold P_der_Put; rw [Option.bind_assoc]; rfl
 ok xs r h := by
  unfold P_der_Put at h
  obtain ⟨p, hp, h⟩ := bnd' h
  cases h
  unfold dPut at hp
  split at hp
  ·rename_i b t l
   obtain ⟨b', hb, hp⟩ := bnd' hp
   obtain ⟨t', ht, hp⟩ := bnd' hp
   obtain ⟨l', hl, hp⟩ := bnd' hp
   obtain ⟨hc, hp⟩ := bif1 hp
   cases hp
   simp only [Bool.and_eq_true] at hc
   refine c_der_Put.ok _ _ ?_
   show ((dBm b).bind fun b => (dI t).bind fun t => (dBs l).bind fun l => Bq.run some (.cnd (isTag t) (.cnd (Nat.ble l.flatten.length maxC) (.leaf (obE (b ++ elemB (b8 t.toNat) l.flatten) 0)) (.leaf (obE [] 3))) (.leaf (obE [] 2)))) = _
   rw [hb, ht, hl]
   simp only [Option.bind_some, Bq.run, hc.1, hc.2, cond_true]
  ·cases hp
theorem dPut1 {b c : B} {t : Int} (hb : b.length ≤ 274877906944) (ht : isTag t = true) (hc : c.length ≤ 16777215) : dPut [.fz (byt b), .int .i64 t, .fz [[.fz (byt c)]]] = some (b, t, [c]) := by
 show ((dBm (.fz (byt b))).bind fun b => (dI (.int .i64 t)).bind fun t => (dBs (.fz [[.fz (byt c)]])).bind fun l => bif isTag t && Nat.ble l.flatten.length maxC then some (b, t, l) else none) = _
 rw [dBm_ok hb, Sx.dBs1 (by omega)]
 show (bif isTag t && Nat.ble [c].flatten.length maxC then some (b, t, [c]) else none) = _
 rw [ht, Sx.bleT (by simpa [maxC] using hc)]
 rfl
theorem natB_len (s : B) : (natB s).length ≤ s.length + 1 := by
 have := bare_len s
 unfold natB
 cases ((bare s).isEmpty || decide (128 ≤ (bare s).headD 0)) with
 | true => simpa using this
 | false => show (bare s).length ≤ _; omega
theorem c_sign_Encode : Con P0 T0 10 S_sign_Encode := coq1 fun x s hx => by
 obtain ⟨rfl, hl⟩ := dA_inv hx
 refine Lx.of_in (tab := t_sign_Encode) ⟨c_num_Nat, p_der_Put, trivial⟩ ?_
 rw [← range_ofB hl]
 refine (e_sign_Encode _ (fun i => ((s.getD i 0).toNat : Int))).trans ?_
 have l1 : (s.take 32).length = 32 := by simp; omega
 have l2 : (s.drop 32).length = 32 := by simp; omega
 have h1 := natB_len (s.take 32)
 have h2 := natB_len (s.drop 32)
 have e1 : chunks 1 1 [DV.fz (byt (natB (s.take 32)))] = [[.fz (byt (natB (s.take 32)))]] := rfl
 have n1 : [] = byt [] := rfl
 have g1 := elemB_len 2 (natB (s.take 32))
 have g2 := elemB_len 2 (natB (s.drop 32))
 have g3 := (lenB_len (natB (s.take 32)).length).1
 have g4 := (lenB_len (natB (s.drop 32)).length).1
 have i2 : isTag 2 = true := by decide
 have i48 : isTag 48 = true := by decide
 rw [range_take (by omega), range_drop (by omega), Sx.chunkB l1.symm, Sx.chunkB l2.symm, dBm_ok (by omega), Option.bind_some, e1]
 have q1 : dPut [DV.fz [], DV.int IntKind.i64 2, DV.fz [[DV.fz (byt (natB (s.take 32)))]]] = some ([], 2, [natB (s.take 32)]) := dPut1 (b := []) (by simp) i2 (by omega)
 rw [q1, Option.bind_some, dBm_ok (by omega)]
 simp only [Option.bind_some, List.nil_append, List.flatten_cons, List.flatten_nil, List.append_nil]
 have z2 : b8 (2 : Int).toNat = 2 := rfl
 rw [z2]
 have q2 : dPut [.fz (byt (elemB 2 (natB (s.take 32)))), .int .i64 2, .fz [[.fz (byt (natB (s.drop 32)))]]] = some (elemB 2 (natB (s.take 32)), 2, [natB (s.drop 32)]) := dPut1 (by omega) i2 (by omega)
 have q3 : dPut [.fz [], .int .i64 48, .fz [[.fz (byt (elemB 2 (natB (s.take 32)) ++ elemB 2 (natB (s.drop 32))))]]] = some ([], 48, [elemB 2 (natB (s.take 32)) ++ elemB 2 (natB (s.drop 32))]) := dPut1 (b := []) (by simp) i48 (by simp; omega)
 have z48 : b8 (48 : Int).toNat = 48 := rfl
 have t1 : ∀ x : DV, List.take 1 [x] = [x] := fun _ => rfl
 show _ = some (ob (encB s))
 unfold encB
 have y2 : b8 2 = 2 := rfl
 have y48 : b8 48 = 48 := rfl
 simp -implicitDefEqProofs (disch := (first | omega | (simp only [List.length_cons, List.length_append, List.length_nil, List.length_take, List.length_drop, List.length_replicate, byt_len, ofBytes_len, byts_len, Sx.tn, Sx.tn1, Sx.tnL]; done) | (simp only [List.length_cons, List.length_append, List.length_nil, List.length_take, List.length_drop, List.length_replicate, byt_len, ofBytes_len, byts_len, Sx.tn, Sx.tn1, Sx.tnL]; omega))) only [Sx.w64, Sx.wu8, Sx.idxI, Sx.upI, Sx.bleT, Sx.bleF, Sx.beqT, Sx.beqF, Sx.ltT, Sx.ltF, Sx.leT, Sx.leF, Sx.gtT, Sx.gtF, Sx.geT, Sx.geF, Sx.eqT, Sx.eqF, Sx.neT, Sx.neF, Sx.ofN, Sx.tn, Sx.tn1, cond_true, cond_false, Option.bind_some, Bool.true_and, Bool.and_true, Bool.false_and, Bool.and_false, Bool.and_self, Bool.not_true, Bool.not_false, Bool.or_false, Bool.or_true, Bool.false_or, Bool.true_or, decide_true, decide_false, Nat.zero_add, Nat.add_zero, Nat.mul_one, Nat.sub_zero, List.drop_zero, List.isEmpty_nil, Int.ofNat_eq_natCast, Sx.castN, Int.natCast_zero, Int.natCast_one, Sx.tnL, Int.sub_zero, Int.add_zero, Int.zero_add, Sx.takeAll, Sx.dropAll, List.drop_succ_cons, List.drop_zero, List.getD_cons_zero, List.getD_cons_succ, byt_len, ofBytes_len, byt_all, byt_flatten, byt_flat_len, Sx.byt_get, Sx.ofB_get, Sx.byt_take, Sx.byt_drop, Sx.byt_app, Sx.ofB_take, Sx.ofB_drop, Sx.ofB_app, Sx.ofB_snoc, Sx.chunkB, Sx.frozB, Sx.zeros, ofBytes_froz, toBytes_of, Sx.uncC, Sx.toI, Sx.toF, Sx.toS, Sx.toB, List.length_append, List.length_cons, List.length_nil, List.length_take, List.length_drop, List.length_replicate, Sx.sp11, Sx.sp11', Sx.ch1, Sx.ch2, Sx.ch3, Sx.ch4, Sx.dBs1, Sx.dBs2, Sx.dBs3, Sx.dBs4, List.flatten_cons, List.flatten_nil, List.append_nil, List.take_succ_cons, List.take_zero, Sx.l1c, Sx.l2c, Sx.l3c, Sx.l4c, Sx.frozC, q2, q3, t1, y2, y48, List.nil_append, List.append_nil]
 rfl
theorem dElb_ok {t : Int} {s : B} (h0 : 0 ≤ t) (h1 : t < 256) (h2 : s.length ≤ 16777215) : dElb (.agg [.int .i64 t, .fz (byt s)]) = some (t, s) := by
 unfold dElb
 have h3 : dEl (.agg [.int .i64 t, .fz (byt s)]) = some (t, s) := by
  show ((unB (byt s)).bind fun s => some (t, s)) = _
  rw [unB_ok (by unfold lim; omega)]
  rfl
 rw [h3, Option.bind_some, Sx.leT h0, Sx.ltT h1]
 show (bif Nat.ble s.length maxC then some (t, s) else none) = _
 rw [Sx.bleT (by unfold maxC; exact h2), cond_true]
theorem c_chanceryref11_Encode : Con P0 T0 11 S_chanceryref11_Encode := con1 fun x s hx => by
 obtain ⟨rfl, hl⟩ := dA_inv hx
 refine Lx.of_in (tab := t_chanceryref11_Encode) ⟨c_chanceryref01_Bytes, c_chanceryref02_Nat, trivial⟩ ?_
 rw [← range_ofB hl]
 refine (e_chanceryref11_Encode _ (fun i => ((s.getD i 0).toNat : Int))).trans ?_
 have l1 : (s.take 32).length = 32 := by simp; omega
 have l2 : (s.drop 32).length = 32 := by simp; omega
 have h1 := natB_len (s.take 32)
 have h2 := natB_len (s.drop 32)
 have g1 := elemB_len 2 (natB (s.take 32))
 have g2 := elemB_len 2 (natB (s.drop 32))
 have g3 := (lenB_len (natB (s.take 32)).length).1
 have g4 := (lenB_len (natB (s.drop 32)).length).1
 rw [range_take (by omega), range_drop (by omega), Sx.chunkB l1.symm, Sx.chunkB l2.symm, dBm_ok (by omega), Option.bind_some, dBm_ok (by omega)]
 have q1 : dElb (.agg [.int .i64 2, .fz (byt (natB (s.take 32)))]) = some (2, natB (s.take 32)) := dElb_ok (by omega) (by omega) (by omega)
 have q2 : dElb (.agg [.int .i64 2, .fz (byt (natB (s.drop 32)))]) = some (2, natB (s.drop 32)) := dElb_ok (by omega) (by omega) (by omega)
 have q3 : dElb (.agg [.int .i64 48, .fz (byt (elemB 2 (natB (s.take 32)) ++ elemB 2 (natB (s.drop 32))))]) = some (48, elemB 2 (natB (s.take 32)) ++ elemB 2 (natB (s.drop 32))) := dElb_ok (by omega) (by omega) (by simp; omega)
 have y2 : b8 2 = 2 := rfl
 have y48 : b8 48 = 48 := rfl
 show _ = some (ret (.fz (byt (encB s))))
 unfold encB
 have g5 := elemB_len 48 (elemB 2 (natB (s.take 32)) ++ elemB 2 (natB (s.drop 32)))
 have g6 := (lenB_len (elemB 2 (natB (s.take 32)) ++ elemB 2 (natB (s.drop 32))).length).1
 simp -implicitDefEqProofs (disch := (first | omega | (simp only [List.length_cons, List.length_append, List.length_nil, List.length_take, List.length_drop, List.length_replicate, byt_len, ofBytes_len, byts_len, Sx.tn, Sx.tn1, Sx.tnL]; done) | (simp only [List.length_cons, List.length_append, List.length_nil, List.length_take, List.length_drop, List.length_replicate, byt_len, ofBytes_len, byts_len, Sx.tn, Sx.tn1, Sx.tnL]; omega))) only [Sx.w64, Sx.wu8, Sx.idxI, Sx.upI, Sx.bleT, Sx.bleF, Sx.beqT, Sx.beqF, Sx.ltT, Sx.ltF, Sx.leT, Sx.leF, Sx.gtT, Sx.gtF, Sx.geT, Sx.geF, Sx.eqT, Sx.eqF, Sx.neT, Sx.neF, Sx.ofN, Sx.tn, Sx.tn1, cond_true, cond_false, Option.bind_some, Bool.true_and, Bool.and_true, Bool.false_and, Bool.and_false, Bool.and_self, Bool.not_true, Bool.not_false, Bool.or_false, Bool.or_true, Bool.false_or, Bool.true_or, decide_true, decide_false, Nat.zero_add, Nat.add_zero, Nat.mul_one, Nat.sub_zero, List.drop_zero, List.isEmpty_nil, Int.ofNat_eq_natCast, Sx.castN, Int.natCast_zero, Int.natCast_one, Sx.tnL, Int.sub_zero, Int.add_zero, Int.zero_add, Sx.takeAll, Sx.dropAll, List.drop_succ_cons, List.drop_zero, List.getD_cons_zero, List.getD_cons_succ, byt_len, ofBytes_len, byt_all, byt_flatten, byt_flat_len, Sx.byt_get, Sx.ofB_get, Sx.byt_take, Sx.byt_drop, Sx.byt_app, Sx.ofB_take, Sx.ofB_drop, Sx.ofB_app, Sx.ofB_snoc, Sx.chunkB, Sx.frozB, Sx.zeros, ofBytes_froz, toBytes_of, Sx.uncC, Sx.toI, Sx.toF, Sx.toS, Sx.toB, List.length_append, List.length_cons, List.length_nil, List.length_take, List.length_drop, List.length_replicate, Sx.sp11, Sx.sp11', Sx.ch1, Sx.ch2, Sx.ch3, Sx.ch4, Sx.dBs1, Sx.dBs2, Sx.dBs3, Sx.dBs4, List.flatten_cons, List.flatten_nil, List.append_nil, List.take_succ_cons, List.take_zero, Sx.l1c, Sx.l2c, Sx.l3c, Sx.l4c, Sx.frozC, q1, q2, q3, y2, y48, List.nil_append, List.append_nil]
theorem c_curve_Order : Con P0 T0 54 S_curve_Order where
 nat R xs k := by unfold S_curve_Order; split <;> rfl
 ok xs r h := by
  unfold S_curve_Order at h
  split at h
  ·cases h
   exact Lx.of_in (tab := []) trivial (e_curve_Order _)
  ·cases h
theorem elts_get {l : List Elem} {i : Nat} {e : Elem} (h : l[i]? = some e) : (elts l)[i]? = some (elt e) := by
 unfold elts
 rw [List.getElem?_map, h]
 rfl
theorem elts_len (l : List Elem) : (elts l).length = l.length := by simp [elts]
theorem dEl_ok {t : Int} {s : B} (h : s.length ≤ lim) : dEl (.agg [.int .i64 t, .fz (byt s)]) = some (t, s) := by
 show ((unB (byt s)).bind fun s => some (t, s)) = _
 rw [unB_ok h]
 rfl
theorem oneC_len (b : B) : (oneC b).length ≤ b.length := by
 have := takeC_len b
 unfold oneC
 cases oneE b == 0 with
 | true => exact this
 | false => simp
theorem allL_mem {b : B} {e : Elem} (h : e ∈ allL b) : isTag e.1 = true ∧ e.2.length ≤ maxC ∧ e.2.length ≤ b.length := by
 unfold allL at h
 cases hc : Nat.beq (rowN b) b.length with
 | true => rw [hc] at h; exact row_tag h
 | false => rw [hc] at h; cases h
theorem c_sign_half : Con P0 T0 49 S_sign_half := con1 fun x e hx => by
 obtain ⟨rfl, hl⟩ := dEl_inv hx
 obtain ⟨t, c⟩ := e
 have hl : c.length ≤ lim := hl
 refine Lx.of_in (tab := t_sign_half) ⟨c_num_ToNat, trivial⟩ ?_
 refine (e_sign_half _ (byt c) t).trans ?_
 rw [dB_ok hl, Option.bind_some, Sx.ofN, Int.natCast_zero]
 show _ = some (ret (.tup [.agg (arr 32 (halfC c)), .int .i64 (halfE c)]))
 rw [arr_ofB (half_len c)]
 by_cases h0 : toNatE c = 0
 ·have hE : halfE c = bif Nat.blt 32 (toNatC c).length then 21 else 0 := by unfold halfE; rw [Sx.eqT h0, cond_true]
  rw [Sx.neF h0, cond_false]
  unfold halfC
  have hb : (toNatC c).length ≤ c.length := by
   unfold toNatC
   rw [h0]
   exact bare_len c
  unfold lim at hl
  rcases Nat.lt_or_ge 32 (toNatC c).length with h1 | h1
  ·rw [Sx.bltT h1, cond_true] at hE
   rw [hE, byt_len, Sx.gtT (by omega), cond_true]
   rfl
  ·rw [Sx.bltF h1, cond_false] at hE
   rw [hE, byt_len, Sx.gtF (by omega), cond_false]
   have z1 : List.replicate 32 (DV.int IntKind.u8 0) = ofBytes (zer 32) := rfl
   have z2 : (zer 32).length = 32 := rfl
   have hw : IntKind.i64.wrap (((32 : Nat) : Int) - ((toNatC c).length : Int)) = ((32 - (toNatC c).length : Nat) : Int) := by rw [Sx.w64 (by omega)]; omega
   rw [Sx.ofN, hw, Sx.upI (by omega), Option.bind_some, Sx.tn, byt_all, cond_true, Option.bind_some, byt_flatten]
   have hm : ((toNatC c).length.min (32 - (32 - (toNatC c).length)) * 1) = (toNatC c).length := (Nat.mul_one _).trans (Nat.min_eq_left (by omega))
   simp only [hm, z1, Nat.zero_add, Nat.mul_one, Sx.ofB_take, Sx.takeAll (Nat.le_refl _), Sx.spl_ofB, ofBytes_len, List.drop_zero]
   have hp : List.take (32 - (toNatC c).length) (zer 32) ++ toNatC c ++ List.drop (32 - (toNatC c).length + (toNatC c).length) (zer 32) = pad32 (toNatC c) := by
    unfold pad32 zer
    rw [List.take_replicate, List.drop_replicate, Nat.sub_add_cancel h1, Nat.min_eq_left (by omega), Nat.sub_self]
    simp
   have hp2 := pad_len h1
   have hp3 : List.take 32 (pad32 (toNatC c)) = pad32 (toNatC c) := Sx.takeAll (by omega)
   have hp4 : List.drop 32 (zer 32) = [] := rfl
   rw [Nat.sub_add_cancel h1] at hp ⊢
   rw [hp4, List.append_nil] at hp
   simp only [hp, hp3, hp2, hp4, List.take_zero, List.nil_append, List.append_nil, freezeWith_froz, ofBytes_froz]
   rfl
 ·have hE : halfE c = toNatE c := by unfold halfE; rw [Sx.eqF h0, cond_false]
  rw [Sx.neT h0, cond_true, hE]
  unfold halfC
  rw [hE, Sx.eqF h0, cond_false]
  rfl
theorem c_sign_Decode : Con P0 T0 12 S_sign_Decode := coq1 fun x b hx => by
 have hx' := hx
 obtain ⟨rfl, hl⟩ := dB_inv hx
 refine Lx.of_in (tab := t_sign_Decode) ⟨c_der_One, c_der_All, c_sign_half, trivial⟩ ?_
 refine (e_sign_Decode _ (byt b)).trans ?_
 have ho := oneC_len b
 have hd : dB (.fz (byt (oneC b))) = some (oneC b) := dB_ok (by omega)
 show _ = some (ret (.tup [.agg (arr 64 (decC b)), .int .i64 (decE b)]))
 rw [arr_ofB (decC_len b), hx', Option.bind_some]
 have z64 : List.replicate 64 (DV.int IntKind.u8 0) = ofBytes (zer 64) := rfl
 unfold decC decE
 simp only [Sx.ofN, Sx.castN, Int.natCast_zero, hd, Option.bind_some, elts_len, z64]
 by_cases h1 : oneE b = 0
 ·rw [Sx.neF h1, Sx.eqT h1, cond_false, cond_true]
  by_cases h2 : oneT b = 48
  ·rw [Sx.neF h2, Sx.eqT h2, cond_false, cond_true]
   by_cases h3 : allE (oneC b) = 0
   ·rw [Sx.neF h3, Sx.eqT h3, cond_false, cond_true]
    match hL : allL (oneC b) with
    | [] => rfl
    | [x] => rfl
    | x :: y :: z :: r =>
     simp only
     rw [Sx.neT (by simp only [List.length_cons]; omega)]
     rfl
    | [x, y] =>
     have mx := allL_mem (b := oneC b) (e := x) (by rw [hL]; simp)
     have my := allL_mem (b := oneC b) (e := y) (by rw [hL]; simp)
     have dx : dEl (.agg [.int .i64 x.1, .fz (byt x.2)]) = some x := dEl_ok (by omega)
     have dy : dEl (.agg [.int .i64 y.1, .fz (byt y.2)]) = some y := dEl_ok (by omega)
     have u0 : (elts [x, y])[0]? = some [.int .i64 x.1, .fz (byt x.2)] := rfl
     have u1 : (elts [x, y])[1]? = some [.int .i64 y.1, .fz (byt y.2)] := rfl
     have i0 : idx 0 [x, y].length = some 0 := rfl
     have i1 : idx 1 [x, y].length = some 1 := rfl
     have hlen : ((([x, y] : List Elem).length : Int) != 2) = false := Sx.neF rfl
     have e2 : ∀ z : Int, (z == 2) = !(z != 2) := fun z => by simp [bne]
     have e0 : ∀ z : Int, (z == 0) = !(z != 0) := fun z => by simp [bne]
     have ux : ∀ e : Elem, unc [DV.int .i64 e.1, .fz (byt e.2)] = some (.int .i64 e.1, [.fz (byt e.2)]) := fun _ => rfl
     have uy : ∀ e : Elem, unc [DV.fz (byt e.2)] = some (.fz (byt e.2), []) := fun _ => rfl
     simp -implicitDefEqProofs only [hlen, cond_false, i0, i1, u0, u1, Option.bind_some, ux, uy, Sx.toI, Sx.toF, List.isEmpty_nil, cond_true, dx, dy, e2, e0]
     cases x.1 != 2 with
     | true => rfl
     | false =>
      cases y.1 != 2 with
      | true => rfl
      | false =>
       simp only [cond_false, Bool.not_false, Bool.and_self, cond_true]
       cases hx0 : halfE x.2 != 0 with
       | true =>
        simp only [cond_true, Bool.not_true, cond_false, hx0]
       | false =>
        simp only [cond_true, Bool.not_false, cond_false]
        cases hy0 : halfE y.2 != 0 with
        | true => rfl
        | false =>
         rw [range_ofB (half_len _), range_ofB (half_len _), Sx.ofB_app]
         have : halfE y.2 = 0 := by simpa using hy0
         rw [this]
         rfl
   ·rw [Sx.neT h3, Sx.eqF h3, cond_true, cond_false, Sx.eqF h3, cond_false]
  ·rw [Sx.neT h2, Sx.eqF h2, cond_true, cond_false]
   rfl
 ·rw [Sx.neT h1, Sx.eqF h1, cond_true, cond_false, Sx.eqF h1, cond_false]
end Go.Dv
end
section
namespace Go.Dv
open Go.Proofs Go.Dv.S
section
variable {H : Type} {K : Bulk H}
theorem rd_bytes {x : List DV} {d : DataW H} (r : Tr P0 26 x d) (hb : K.B d ≤ lim) : ∃ s l, x = [.fz l] ∧ dB (.fz l) = some s := by
 obtain ⟨s, h1, h2⟩ := r.bytes (K := K) (e := 5) (by kernel_rfl) (by kernel_rfl)
 exact ⟨s, _, h1, dB_ok (by omega)⟩
end
end Go.Dv
namespace Go.Dv
open Go.Proofs Go.Dv.S
section
variable {H : Type} {K : Bulk H}
theorem Tr.arr' {P : Program} {t e : TypeId} {n : Nat} {xs : List DV} {d : DataW H} (r : Tr P t xs d) (ht : P.underlying t = some (.array n e)) (he : P.underlying e = some (.int .u8)) (h1 : P.cellsOf e = 1) : ∃ s : B, xs = ofBytes s ∧ s.length = n := by
 cases r with
 | struct t fs' xs parts h => rw [ht] at h; cases h
 | bool t b h => rw [ht] at h; cases h
 | int t k n h hn => rw [ht] at h; cases h
 | str t s h => rw [ht] at h; cases h
 | nil t e h => rw [ht] at h; cases h
 | slice t e' xss elems rest h => rw [ht] at h; cases h
 | array t e' n' xs parts h hc hk hn hx =>
  rw [ht] at h
  cases h
  rw [h1, Nat.mul_one] at hk
  have hl : xs.length = n := by rw [hc, ← hk]
  have key : ∀ i (hi : i < xs.length), ∃ c : UInt8, xs[i] = .int .u8 c.toNat := fun i hi => by
   have hi' : i < parts.length := by omega
   have h2 := hx i _ (List.getElem?_eq_getElem hi')
   rw [h1, Nat.mul_one] at h2
   obtain ⟨k, hk2, hw⟩ := Tr.int' h2 he
   have e1 : (xs.drop i).take 1 = [xs[i]] := by
    rw [List.drop_eq_getElem_cons hi]; rfl
   rw [e1] at hk2
   have e2 : xs[i] = .int .u8 k := List.head_eq_of_cons_eq hk2
   have h3 : 0 ≤ k ∧ k < 256 := by
    have m0 : IntKind.u8.min = 0 := rfl
    have m1 : IntKind.u8.max = 255 := rfl
    simp [Lit.wf, m0, m1] at hw
    omega
   exact ⟨UInt8.ofNat k.toNat, by rw [e2, Sx.u8_ofI h3]⟩
  refine ⟨(List.range n).map fun i => if h : i < xs.length then (key i h).choose else 0, ?_, by simp⟩
  refine List.ext_getElem (by simp [ofBytes, hl]) fun i a b => ?_
  rw [(key i a).choose_spec]
  simp [ofBytes, a]
theorem Tr.len {P : Program} {t : TypeId} {xs : List DV} {d : DataW H} (r : Tr P t xs d) (ha : aggT P t = true) {n : Nat} (hn : P.cellsOf t = n) : xs.length = n := by
 subst hn
 unfold aggT at ha
 cases r with
 | struct t fs' xs parts ht hc hrow hn he => exact hc
 | array t e n xs parts h hc hk hn he => exact hc
 | bool t b h => rw [h] at ha; cases ha
 | int t k n h => rw [h] at ha; cases ha
 | str t s h => rw [h] at ha; cases ha
 | nil t e h => rw [h] at ha; cases ha
 | slice t e xss elems rest h => rw [h] at ha; cases ha
theorem rd_sig (K : Bulk H) {x : List DV} {d : DataW H} (r : Tr P0 25 x d) : ∃ s : B, dA 64 (.agg x) = some s := by
 obtain ⟨d1, h1, _⟩ := r.at (K := K) 0 0 23 32 (by kernel_rfl)
 obtain ⟨d2, h2, _⟩ := r.at (K := K) 1 32 23 32 (by kernel_rfl)
 obtain ⟨a, ha, la⟩ := h1.arr' (e := 5) (n := 32) (by kernel_rfl) (by kernel_rfl) (by kernel_rfl)
 obtain ⟨b, hb, lb⟩ := h2.arr' (e := 5) (n := 32) (by kernel_rfl) (by kernel_rfl) (by kernel_rfl)
 have hl : x.length = 64 := r.len (by kernel_rfl) (by kernel_rfl)
 have hx : x = ofBytes (a ++ b) := by
  rw [← Sx.ofB_app, ← ha, ← hb, List.drop_zero, List.take_of_length_le (l := x.drop 32) (by simp; omega), List.take_append_drop]
 exact ⟨a ++ b, by rw [hx]; exact dA_ok (by simp [la, lb])⟩
end
end Go.Dv
end
section
namespace Go.Dv
open Go.Proofs Go.Dv.S
abbrev t_chanceryref11_Decode : List (FuncId × Spec) := [(50, S_chanceryref01_One), (51, S_chanceryref01_All), (52, S_chanceryref02_ToNat)]
abbrev t_bytes_Compare : List (FuncId × Spec) := [(106, S_internal_bytealg_Compare)]
abbrev t_sign_May : List (FuncId × Spec) := [(54, S_curve_Order), (55, S_bytes_Compare)]
abbrev t_chancerylaw11_names : List (FuncId × Spec) := []
abbrev t_chancerylaw11_works : List (FuncId × Spec) := [(15, S_sign_May), (53, S_chancerylaw11_names)]
abbrev t_chancerylaw11_SignCodes : List (FuncId × Spec) := [(10, S_sign_Encode), (11, S_chanceryref11_Encode), (12, S_sign_Decode), (13, S_chanceryref11_Decode), (14, S_chancerylaw11_works)]
theorem e_chanceryref11_Decode (Lp : LpT) (s : List (List DV)) : run P0 T0 Lp (Lt t_chanceryref11_Decode) nY 13 [.fz s] =
  (Option.bind (Go.Dv.S.dB (DV.fz s)) fun v0 => (bif (Go.Dv.S.oneE v0 != Int.ofNat 0) then (some ((DRes.ret (DV.tup [(DV.agg (List.replicate 64 ((DV.int (IntKind.u8) (0 : Int))))), (DV.int (IntKind.i64) (Go.Dv.S.oneE v0))])), [])) else (bif (Go.Dv.S.oneT v0 != Int.ofNat 48) then (some ((DRes.ret (DV.tup [(DV.agg (List.replicate 64 ((DV.int (IntKind.u8) (0 : Int))))), (DV.int (IntKind.i64) (20 : Int))])), [])) else (Option.bind (Go.Dv.S.dB (DV.fz (Go.Dv.S.byt (Go.Dv.S.oneC v0)))) fun v1 => (bif (Go.Dv.S.allE v1 != Int.ofNat 0) then (some ((DRes.ret (DV.tup [(DV.agg (List.replicate 64 ((DV.int (IntKind.u8) (0 : Int))))), (DV.int (IntKind.i64) (Go.Dv.S.allE v1))])), [])) else (bif ((↑(Go.Dv.S.elts (Go.Dv.S.allL v1)).length : Int) != Int.ofNat 2) then (some ((DRes.ret (DV.tup [(DV.agg (List.replicate 64 ((DV.int (IntKind.u8) (0 : Int))))), (DV.int (IntKind.i64) (20 : Int))])), [])) else (Option.bind (Go.Pv.idx (0 : Int) (Go.Dv.S.elts (Go.Dv.S.allL v1)).length) fun v2 => (Option.bind (Go.Dv.S.elts (Go.Dv.S.allL v1))[(v2)]? fun v3 => (Option.bind (Go.Dv.unc v3) fun v4 => (Option.bind (Go.Dv.toInt Go.IntKind.i64 v4.fst) fun v5 => (Option.bind (Go.Dv.unc v4.snd) fun v6 => (Option.bind (Go.Dv.toFz v6.fst) fun v7 => (bif (v6.snd.isEmpty) then (bif (v5 != Int.ofNat 2) then (some ((DRes.ret (DV.tup [(DV.agg (List.replicate 64 ((DV.int (IntKind.u8) (0 : Int))))), (DV.int (IntKind.i64) (20 : Int))])), [])) else (Option.bind (Go.Pv.idx (1 : Int) (Go.Dv.S.elts (Go.Dv.S.allL v1)).length) fun v8 => (Option.bind (Go.Dv.S.elts (Go.Dv.S.allL v1))[(v8)]? fun v9 => (Option.bind (Go.Dv.unc v9) fun v10 => (Option.bind (Go.Dv.toInt Go.IntKind.i64 v10.fst) fun v11 => (Option.bind (Go.Dv.unc v10.snd) fun v12 => (Option.bind (Go.Dv.toFz v12.fst) fun v13 => (bif (v12.snd.isEmpty) then (bif (v11 != Int.ofNat 2) then (some ((DRes.ret (DV.tup [(DV.agg (List.replicate 64 ((DV.int (IntKind.u8) (0 : Int))))), (DV.int (IntKind.i64) (20 : Int))])), [])) else (Lp _ (tdF T0 13 none 0) ((bodyF P0 T0 Lp (Lt t_chanceryref11_Decode) nY [] 13 none 0 : FX (DRes × DHeap))) (kontF P0 T0 Lp (Lt t_chanceryref11_Decode) nY [] 13 0) (Go.Dv.S.stH 99 [(2, (DSlot.lp (2) (0))), (6, (DSlot.v (DV.fz (Go.Dv.S.elts (Go.Dv.S.allL v1))))), (8, (DSlot.lp (8) (0))), (9, (DSlot.v (DV.int (IntKind.i64) (0 : Int))))] [(2, (DBox.loc (List.replicate 64 ((DV.int (IntKind.u8) (0 : Int)))) (30))), (8, (DBox.loc (List.replicate 64 ((DV.int (IntKind.u8) (0 : Int)))) (103)))] []) [])) else none)))))))) else none))))))))))))) := by kernel_rfl
theorem b_chanceryref11_Decode_0 (Lp : LpT) (l : List (List DV)) (i : Int) (cs : List DV) (k : KX (DRes × DHeap)) : bodyF P0 T0 Lp (Lt t_chanceryref11_Decode) nY [] 13 none 0 (stH 99 [(2, .lp 2 0), (6, .v (.fz l)), (8, .lp 8 0), (9, .v (.int .i64 i))] [(2, .loc (List.replicate 64 (.int .u8 0)) 30), (8, .loc cs 103)] []) [] k =
  (bif (decide (i < 2)) then (Option.bind (Go.Pv.idx i l.length) fun v0 => (Option.bind (l)[(v0)]? fun v1 => (Option.bind (Go.Dv.unc v1) fun v2 => (Option.bind (Go.Dv.toInt Go.IntKind.i64 v2.fst) fun v3 => (Option.bind (Go.Dv.unc v2.snd) fun v4 => (Option.bind (Go.Dv.toFz v4.fst) fun v5 => (bif (v4.snd.isEmpty) then (Option.bind (Go.Dv.S.dB (DV.fz v5)) fun v6 => (bif (Go.Dv.S.toNatE v6 != Int.ofNat 0) then (k DExit.ret (Go.Dv.S.stH 99 [(2, (DSlot.lp (2) (0))), (3, (DSlot.v (DV.int (IntKind.i64) (Go.Dv.S.toNatE v6)))), (6, (DSlot.v (DV.fz (l)))), (8, (DSlot.lp (8) (0))), (9, (DSlot.v (DV.int (IntKind.i64) (i)))), (10, (DSlot.v (DV.fz (Go.Dv.S.byt (Go.Dv.S.toNatC v6))))), (11, (DSlot.v (DV.int (IntKind.i64) (Go.Dv.S.toNatE v6)))), (55, (DSlot.v (DV.int (IntKind.i64) (i)))), (56, (DSlot.v (DV.bool (decide (i < 2))))), (59, (DSlot.v (DV.tup [(DV.fz (Go.Dv.S.byt (Go.Dv.S.toNatC v6))), (DV.int (IntKind.i64) (Go.Dv.S.toNatE v6))]))), (60, (DSlot.v (DV.fz (l)))), (61, (DSlot.v (DV.int (IntKind.i64) (i)))), (62, (DSlot.v (DV.fp (Bool.true) [(DV.int (IntKind.i64) (v3)), (DV.fz (v5))]))), (63, (DSlot.v (DV.fp (Bool.true) [(DV.fz (v5))]))), (64, (DSlot.v (DV.fz (v5)))), (65, (DSlot.v (DV.tup [(DV.fz (Go.Dv.S.byt (Go.Dv.S.toNatC v6))), (DV.int (IntKind.i64) (Go.Dv.S.toNatE v6))]))), (66, (DSlot.v (DV.fz (Go.Dv.S.byt (Go.Dv.S.toNatC v6))))), (67, (DSlot.v (DV.int (IntKind.i64) (Go.Dv.S.toNatE v6)))), (68, (DSlot.v (DV.int (IntKind.i64) (Go.Dv.S.toNatE v6)))), (69, (DSlot.v (DV.bool (Go.Dv.S.toNatE v6 != Int.ofNat 0)))), (70, (DSlot.v (DV.agg (List.replicate 64 ((DV.int (IntKind.u8) (0 : Int))))))), (71, (DSlot.v (DV.int (IntKind.i64) (Go.Dv.S.toNatE v6))))] [(2, (DBox.loc (List.replicate 64 ((DV.int (IntKind.u8) (0 : Int)))) (30))), (8, (DBox.loc (cs) (103)))] []) []) else (bif (decide ((↑(Go.Dv.S.byt (Go.Dv.S.toNatC v6)).length : Int) > 32)) then (k DExit.ret (Go.Dv.S.stH 99 [(2, (DSlot.lp (2) (0))), (3, (DSlot.v (DV.int (IntKind.i64) (21 : Int)))), (6, (DSlot.v (DV.fz (l)))), (8, (DSlot.lp (8) (0))), (9, (DSlot.v (DV.int (IntKind.i64) (i)))), (10, (DSlot.v (DV.fz (Go.Dv.S.byt (Go.Dv.S.toNatC v6))))), (11, (DSlot.v (DV.int (IntKind.i64) (Go.Dv.S.toNatE v6)))), (55, (DSlot.v (DV.int (IntKind.i64) (i)))), (56, (DSlot.v (DV.bool (decide (i < 2))))), (59, (DSlot.v (DV.tup [(DV.fz (Go.Dv.S.byt (Go.Dv.S.toNatC v6))), (DV.int (IntKind.i64) (Go.Dv.S.toNatE v6))]))), (60, (DSlot.v (DV.fz (l)))), (61, (DSlot.v (DV.int (IntKind.i64) (i)))), (62, (DSlot.v (DV.fp (Bool.true) [(DV.int (IntKind.i64) (v3)), (DV.fz (v5))]))), (63, (DSlot.v (DV.fp (Bool.true) [(DV.fz (v5))]))), (64, (DSlot.v (DV.fz (v5)))), (65, (DSlot.v (DV.tup [(DV.fz (Go.Dv.S.byt (Go.Dv.S.toNatC v6))), (DV.int (IntKind.i64) (Go.Dv.S.toNatE v6))]))), (66, (DSlot.v (DV.fz (Go.Dv.S.byt (Go.Dv.S.toNatC v6))))), (67, (DSlot.v (DV.int (IntKind.i64) (Go.Dv.S.toNatE v6)))), (68, (DSlot.v (DV.int (IntKind.i64) (Go.Dv.S.toNatE v6)))), (69, (DSlot.v (DV.bool (Go.Dv.S.toNatE v6 != Int.ofNat 0)))), (72, (DSlot.v (DV.fz (Go.Dv.S.byt (Go.Dv.S.toNatC v6))))), (73, (DSlot.v (DV.int (IntKind.i64) ((↑(Go.Dv.S.byt (Go.Dv.S.toNatC v6)).length : Int))))), (74, (DSlot.v (DV.bool (decide ((↑(Go.Dv.S.byt (Go.Dv.S.toNatC v6)).length : Int) > 32))))), (75, (DSlot.v (DV.agg (List.replicate 64 ((DV.int (IntKind.u8) (0 : Int)))))))] [(2, (DBox.loc (List.replicate 64 ((DV.int (IntKind.u8) (0 : Int)))) (30))), (8, (DBox.loc (cs) (103)))] []) []) else (Lp _ (tdF T0 13 none 2) ((bodyF P0 T0 Lp (Lt t_chanceryref11_Decode) nY [] 13 none 2 : FX (DRes × DHeap))) (kont P0 T0 Lp (Lt t_chanceryref11_Decode) nY [] 13 none 2 (loopOf T0 13 0) k) (Go.Dv.S.stH 99 [(2, (DSlot.lp (2) (0))), (6, (DSlot.v (DV.fz (l)))), (8, (DSlot.lp (8) (0))), (9, (DSlot.v (DV.int (IntKind.i64) (i)))), (10, (DSlot.v (DV.fz (Go.Dv.S.byt (Go.Dv.S.toNatC v6))))), (12, (DSlot.v (DV.int (IntKind.i64) (0 : Int))))] [(2, (DBox.loc (List.replicate 64 ((DV.int (IntKind.u8) (0 : Int)))) (30))), (8, (DBox.loc (cs) (103)))] []) [])))) else none))))))) else (k (DExit.exit (0)) (Go.Dv.S.stH 99 [(2, (DSlot.lp (2) (0))), (6, (DSlot.v (DV.fz (l)))), (8, (DSlot.lp (8) (0))), (9, (DSlot.v (DV.int (IntKind.i64) (i)))), (55, (DSlot.v (DV.int (IntKind.i64) (i)))), (56, (DSlot.v (DV.bool (decide (i < 2)))))] [(2, (DBox.loc (List.replicate 64 ((DV.int (IntKind.u8) (0 : Int)))) (30))), (8, (DBox.loc (cs) (103)))] []) [])) := by kernel_rfl
theorem b_chanceryref11_Decode_2 (Lp : LpT) (l c : List (List DV)) (i j : Int) (cs : List DV) (k : KX (DRes × DHeap)) : bodyF P0 T0 Lp (Lt t_chanceryref11_Decode) nY [] 13 none 2 (stH 99 [(2, .lp 2 0), (6, .v (.fz l)), (8, .lp 8 0), (9, .v (.int .i64 i)), (10, .v (.fz c)), (12, .v (.int .i64 j))] [(2, .loc (List.replicate 64 (.int .u8 0)) 30), (8, .loc cs 103)] []) [] k =
  (bif (decide (j < (↑c.length : Int))) then (Option.bind (Go.Pv.idx j c.length) fun v0 => (Option.bind (c)[(v0)]? fun v1 => (Option.bind (Go.Dv.unc v1) fun v2 => (Option.bind (Go.Dv.toInt Go.IntKind.u8 v2.fst) fun v3 => (bif (v2.snd.isEmpty) then (Option.bind (Go.Pv.idx i 2) fun v4 => (Option.bind (Go.Pv.idx (IntKind.i64.wrap (IntKind.i64.wrap (Int.ofNat 32 - (↑c.length : Int)) + j)) 32) fun v5 => (bif ((0 + v4 * 32 + v5 * 1 + 1).ble cs.length) then (k DExit.normal (Go.Dv.S.stH 99 [(2, (DSlot.lp (2) (0))), (6, (DSlot.v (DV.fz (l)))), (8, (DSlot.lp (8) (0))), (9, (DSlot.v (DV.int (IntKind.i64) (i)))), (10, (DSlot.v (DV.fz (c)))), (12, (DSlot.v (DV.int (IntKind.i64) (IntKind.i64.wrap (j + Int.ofNat 1))))), (76, (DSlot.v (DV.int (IntKind.i64) (j)))), (77, (DSlot.v (DV.fz (c)))), (78, (DSlot.v (DV.int (IntKind.i64) ((↑c.length : Int))))), (79, (DSlot.v (DV.bool (decide (j < (↑c.length : Int)))))), (80, (DSlot.v (DV.int (IntKind.i64) (j)))), (81, (DSlot.v (DV.int (IntKind.i64) (IntKind.i64.wrap (j + Int.ofNat 1))))), (82, (DSlot.v (DV.int (IntKind.i64) (i)))), (83, (DSlot.v (DV.fz (c)))), (84, (DSlot.v (DV.int (IntKind.i64) ((↑c.length : Int))))), (85, (DSlot.v (DV.int (IntKind.i64) (IntKind.i64.wrap (Int.ofNat 32 - (↑c.length : Int)))))), (86, (DSlot.v (DV.int (IntKind.i64) (j)))), (87, (DSlot.v (DV.int (IntKind.i64) (IntKind.i64.wrap (IntKind.i64.wrap (Int.ofNat 32 - (↑c.length : Int)) + j))))), (88, (DSlot.v (DV.fz (c)))), (89, (DSlot.v (DV.int (IntKind.i64) (j)))), (90, (DSlot.v (DV.fp (Bool.true) [(DV.int (IntKind.u8) (v3))]))), (91, (DSlot.v (DV.int (IntKind.u8) (v3)))), (92, (DSlot.lp (8) (0 + v4 * 32))), (93, (DSlot.lp (8) (0 + v4 * 32 + v5 * 1)))] [(2, (DBox.loc (List.replicate 64 ((DV.int (IntKind.u8) (0 : Int)))) (30))), (8, (DBox.loc (Go.Dv.splice cs (0 + v4 * 32 + v5 * 1) [DV.int Go.IntKind.u8 v3]) (103)))] []) []) else none))) else none))))) else (k (DExit.exit (2)) (Go.Dv.S.stH 99 [(2, (DSlot.lp (2) (0))), (6, (DSlot.v (DV.fz (l)))), (8, (DSlot.lp (8) (0))), (9, (DSlot.v (DV.int (IntKind.i64) (i)))), (10, (DSlot.v (DV.fz (c)))), (12, (DSlot.v (DV.int (IntKind.i64) (j)))), (76, (DSlot.v (DV.int (IntKind.i64) (j)))), (77, (DSlot.v (DV.fz (c)))), (78, (DSlot.v (DV.int (IntKind.i64) ((↑c.length : Int))))), (79, (DSlot.v (DV.bool (decide (j < (↑c.length : Int))))))] [(2, (DBox.loc (List.replicate 64 ((DV.int (IntKind.u8) (0 : Int)))) (30))), (8, (DBox.loc (cs) (103)))] []) [])) := by kernel_rfl
theorem x_chanceryref11_Decode_0 (Lp : LpT) (l : List (List DV)) (i : Int) (cs : List DV) : kontF P0 T0 Lp (Lt t_chanceryref11_Decode) nY [] 13 0 (.exit 0) (stH 99 [(2, .lp 2 0), (6, .v (.fz l)), (8, .lp 8 0), (9, .v (.int .i64 i))] [(2, .loc (List.replicate 64 (.int .u8 0)) 30), (8, .loc cs 103)] []) [] =
  (bif (Nat.ble 32 cs.length) then (bif (Nat.ble 64 cs.length) then (Option.bind (Option.bind (bif ((List.take 32 (List.drop 0 cs)).length.beq 32) then (some (List.take 32 (List.drop 0 cs))) else none) fun v0 => (bif ((0 + v0.length).ble 64) then (Option.bind (bif ((List.take 32 (List.drop 32 cs)).length.beq 32) then (some (List.take 32 (List.drop 32 cs))) else none) fun v1 => (bif ((32 + v1.length).ble (Go.Dv.splice (List.replicate 64 (DV.int Go.IntKind.u8 (0 : Int))) 0 v0).length) then (some (Go.Dv.splice (Go.Dv.splice (List.replicate 64 (DV.int Go.IntKind.u8 (0 : Int))) 0 v0) 32 v1)) else none)) else none)) fun v2 => (bif (v2.length.beq 64) then (bif ((0 + v2.length).ble 64) then (bif (Nat.ble 64 (Go.Dv.splice (List.replicate 64 (DV.int Go.IntKind.u8 (0 : Int))) 0 v2).length) then (Option.bind (Option.bind (Option.bind (Option.bind (Go.Dv.freezeWith (Go.Dv.freezeV 62 []) (List.take 64 (List.drop 0 (Go.Dv.splice (List.replicate 64 (DV.int Go.IntKind.u8 (0 : Int))) 0 v2)))) fun v3 => (some ((DV.agg (v3.fst)), (v3.snd)))) fun v4 => (some ([(v4.fst), (DV.int (IntKind.i64) (0 : Int))], (v4.snd ++ ([] ++ []))))) fun v5 => (some ((DV.tup (v5.fst)), (v5.snd)))) fun v6 => (some ((DRes.ret (v6.fst)), []))) else none) else none) else none)) else none) else none) := by kernel_rfl
theorem x_chanceryref11_Decode_0r (Lp : LpT) (l : List (List DV)) (i e : Int) (cs : List DV) : kontF P0 T0 Lp (Lt t_chanceryref11_Decode) nY [] 13 0 (.ret) (stH 99 [(2, .lp 2 0), (3, .v (.int .i64 e)), (6, .v (.fz l)), (8, .lp 8 0), (9, .v (.int .i64 i))] [(2, .loc (List.replicate 64 (.int .u8 0)) 30), (8, .loc cs 103)] []) [] =
  (some ((DRes.ret (DV.tup [(DV.agg (List.replicate 64 ((DV.int (IntKind.u8) (0 : Int))))), (DV.int (IntKind.i64) (e))])), [])) := by kernel_rfl
theorem e_bytes_Compare (Lp : LpT) (a b : List (List DV)) : run P0 T0 Lp (Lt t_bytes_Compare) nY 55 [.fz a, .fz b] =
  (Option.bind (Go.Dv.S.dB (DV.fz a)) fun v0 => (Option.bind (Go.Dv.S.dB (DV.fz b)) fun v1 => (some ((DRes.ret (DV.int (IntKind.i64) (Go.Lib.compareBytes v0 v1))), [])))) := by kernel_rfl
theorem e_sign_May_1 (Lp : LpT)  : run P0 T0 Lp (Lt t_sign_May) nY 15 [.agg (List.replicate 31 (.int .u8 0) ++ [.int .u8 1])] =
  (some ((DRes.ret (DV.bool (Bool.true))), [])) := by kernel_rfl
theorem e_sign_May_0 (Lp : LpT)  : run P0 T0 Lp (Lt t_sign_May) nY 15 [.agg (List.replicate 32 (.int .u8 0))] =
  (some ((DRes.ret (DV.bool (Bool.false))), [])) := by kernel_rfl
theorem e_chancerylaw11_names (Lp : LpT)  : run P0 T0 Lp (Lt t_chancerylaw11_names) nY 53 [] =
  (some ((DRes.ret (DV.bool (Bool.true))), [])) := by kernel_rfl
theorem e_chancerylaw11_works (Lp : LpT)  : run P0 T0 Lp (Lt t_chancerylaw11_works) nY 14 [] =
  (some ((DRes.ret (DV.bool (Bool.true))), [])) := by kernel_rfl
theorem e_chancerylaw11_SignCodes (Lp : LpT) (u : Nat → Int) (s : List (List DV)) : run P0 T0 Lp (Lt t_chancerylaw11_SignCodes) nY 3 [.agg ((List.range 64).map fun i => .int .u8 (u i)), .fz s] =
  (Option.bind (Go.Dv.S.dA 64 (DV.agg (List.map (fun (i' : Nat) => DV.int Go.IntKind.u8 (u i')) (List.range 64)))) fun v0 => (Option.bind (Go.Dv.S.dA 64 (DV.agg (List.map (fun (i' : Nat) => DV.int Go.IntKind.u8 (u i')) (List.range 64)))) fun v1 => (Option.bind (Go.Dv.S.dA 64 (DV.agg (List.map (fun (i' : Nat) => DV.int Go.IntKind.u8 (u i')) (List.range 64)))) fun v2 => (Option.bind (Option.bind (bif ((0 + List.length (Go.Dv.S.encB v0) * 1).ble (Go.Dv.ofBytes (Go.Dv.S.encB v0)).length) then (some (List.take (List.length (Go.Dv.S.encB v0) * 1) (List.drop 0 (Go.Dv.ofBytes (Go.Dv.S.encB v0))))) else none) fun v3 => (some ((List.length (Go.Dv.S.encB v0)), (v3)))) fun v4 => (Option.bind (Go.Dv.toBytes v4.snd) fun v5 => (Option.bind (bif ((Go.Dv.S.byt (Go.Dv.S.encB v2)).all fun (x : List Go.Dv.DV) => x.length.beq 1) then (some (((Go.Dv.S.byt (Go.Dv.S.encB v2)).length), ((Go.Dv.S.byt (Go.Dv.S.encB v2)).flatten))) else none) fun v6 => (Option.bind (Go.Dv.toBytes v6.snd) fun v7 => (bif (!v5 == v7) then (some ((DRes.ret (DV.bool (Bool.false))), [])) else (Lp _ (tdF T0 3 none 0) ((bodyF P0 T0 Lp (Lt t_chancerylaw11_SignCodes) nY [] 3 none 0 : FX (DRes × DHeap))) (kontF P0 T0 Lp (Lt t_chancerylaw11_SignCodes) nY [] 3 0) (bif (((Go.Dv.ofBytes (Go.Dv.S.encB v0)).all Go.Dv.froz) && (((Go.Dv.ofBytes (Go.Dv.S.encB v1)).all Go.Dv.froz) && (Bool.true))) then (Go.Dv.S.stH 96 [(1, (DSlot.v (DV.fz (s)))), (5, (DSlot.v (DV.sl (0) (0) (List.length (Go.Dv.S.encB v0)) (0) (1)))), (6, (DSlot.v (DV.sl (1) (0) (List.length (Go.Dv.S.encB v1)) (0) (1)))), (7, (DSlot.v (DV.fz (Go.Dv.S.byt (Go.Dv.S.encB v2))))), (8, (DSlot.v (DV.int (IntKind.i64) (0 : Int))))] [] [(DBlk.mk (Go.Dv.ofBytes (Go.Dv.S.encB v0)) (5) (Bool.true) (Bool.false) (Bool.true) none), (DBlk.mk (Go.Dv.ofBytes (Go.Dv.S.encB v1)) (5) (Bool.true) (Bool.false) (Bool.true) none)]) else (Go.Dv.S.stH 96 [(1, (DSlot.v (DV.fz (s)))), (5, (DSlot.v (DV.sl (0) (0) (List.length (Go.Dv.S.encB v0)) (0) (1)))), (6, (DSlot.v (DV.sl (1) (0) (List.length (Go.Dv.S.encB v1)) (0) (1)))), (7, (DSlot.v (DV.fz (Go.Dv.S.byt (Go.Dv.S.encB v2))))), (8, (DSlot.v (DV.int (IntKind.i64) (0 : Int))))] [] [(DBlk.mk (Go.Dv.ofBytes (Go.Dv.S.encB v0)) (5) (Bool.true) (Bool.false) (Bool.true) none), (DBlk.mk (Go.Dv.ofBytes (Go.Dv.S.encB v1)) (5) (Bool.true) (Bool.false) (Bool.true) none)])) []))))))))) := by kernel_rfl
theorem b_chancerylaw11_SignCodes_0 (Lp : LpT) (s w : List (List DV)) (n m : Nat) (cs ds : List DV) (i : Int) (k : KX (DRes × DHeap)) : bodyF P0 T0 Lp (Lt t_chancerylaw11_SignCodes) nY [] 3 none 0 (stH 96 [(1, .v (.fz s)), (5, .v (.sl 0 0 n 0 1)), (6, .v (.sl 1 0 m 0 1)), (7, .v (.fz w)), (8, .v (.int .i64 i))] [] [newBlk cs 5, newBlk ds 5]) [] k =
  (bif (decide (i < (↑n : Int))) then (Option.bind (Go.Pv.idx i n) fun v0 => (Option.bind (cs[0 + v0 * 1]?) fun v1 => (Option.bind (Go.Dv.toInt Go.IntKind.u8 v1) fun v2 => (Option.bind (Go.Pv.idx i n) fun v3 => (bif ((0 + v3 * 1 + 1).ble cs.length) then (k DExit.normal (Go.Dv.S.stH 96 [(1, (DSlot.v (DV.fz (s)))), (5, (DSlot.v (DV.sl (0) (0) (n) (0) (1)))), (6, (DSlot.v (DV.sl (1) (0) (m) (0) (1)))), (7, (DSlot.v (DV.fz (w)))), (8, (DSlot.v (DV.int (IntKind.i64) (IntKind.i64.wrap (i + Int.ofNat 1))))), (29, (DSlot.v (DV.int (IntKind.i64) (i)))), (30, (DSlot.v (DV.sl (0) (0) (n) (0) (1)))), (31, (DSlot.v (DV.int (IntKind.i64) ((↑n : Int))))), (32, (DSlot.v (DV.bool (decide (i < (↑n : Int)))))), (33, (DSlot.v (DV.int (IntKind.i64) (i)))), (34, (DSlot.v (DV.int (IntKind.i64) (IntKind.i64.wrap (i + Int.ofNat 1))))), (35, (DSlot.v (DV.sl (0) (0) (n) (0) (1)))), (36, (DSlot.v (DV.int (IntKind.i64) (i)))), (37, (DSlot.v (DV.sl (0) (0) (n) (0) (1)))), (38, (DSlot.v (DV.int (IntKind.i64) (i)))), (39, (DSlot.v (DV.ptr (0) (0 + v0 * 1)))), (40, (DSlot.v (DV.int (IntKind.u8) (v2)))), (41, (DSlot.v (DV.int (IntKind.u8) (IntKind.u8.wrap (v2 + Int.ofNat 1))))), (42, (DSlot.v (DV.ptr (0) (0 + v3 * 1))))] [] [(DBlk.mk (Go.Dv.splice cs (0 + v3 * 1) [DV.int Go.IntKind.u8 (IntKind.u8.wrap (v2 + Int.ofNat 1))]) (5) (Bool.true) (Bool.false) (Bool.true) none), (DBlk.mk (ds) (5) (Bool.true) (Bool.false) (Bool.true) none)]) []) else none))))) else (k (DExit.exit (0)) (Go.Dv.S.stH 96 [(1, (DSlot.v (DV.fz (s)))), (5, (DSlot.v (DV.sl (0) (0) (n) (0) (1)))), (6, (DSlot.v (DV.sl (1) (0) (m) (0) (1)))), (7, (DSlot.v (DV.fz (w)))), (8, (DSlot.v (DV.int (IntKind.i64) (i)))), (29, (DSlot.v (DV.int (IntKind.i64) (i)))), (30, (DSlot.v (DV.sl (0) (0) (n) (0) (1)))), (31, (DSlot.v (DV.int (IntKind.i64) ((↑n : Int))))), (32, (DSlot.v (DV.bool (decide (i < (↑n : Int))))))] [] [(DBlk.mk (cs) (5) (Bool.true) (Bool.false) (Bool.true) none), (DBlk.mk (ds) (5) (Bool.true) (Bool.false) (Bool.true) none)]) [])) := by kernel_rfl
theorem x_chancerylaw11_SignCodes_0 (Lp : LpT) (s w : List (List DV)) (n m : Nat) (cs ds : List DV) (i : Int) (q : Bool) : kontF P0 T0 Lp (Lt t_chancerylaw11_SignCodes) nY [] 3 0 (.exit 0) (stH 96 [(1, .v (.fz s)), (5, .v (.sl 0 0 n 0 1)), (6, .v (.sl 1 0 m 0 1)), (7, .v (.fz w)), (8, .v (.int .i64 i)), (29, .v (.int .i64 i)), (30, .v (.sl 0 0 n 0 1)), (31, .v (.int .i64 n)), (32, .v (.bool q))] [] [newBlk cs 5, newBlk ds 5]) [] =
  (Option.bind (bif (s.all fun (x : List Go.Dv.DV) => x.length.beq 1) then (some ((s.length), (s.flatten))) else none) fun v0 => (bif (((((0 + v0.fst) * 1).ble 140737488355328) && ((0 + v0.fst).ble 9223372036854775807)) && (Bool.true)) then (bif (((((0 + v0.fst + 1) * 1).ble 140737488355328) && ((0 + v0.fst + 1).ble 9223372036854775807)) && (Bool.true)) then (bif (((0 + v0.fst) * 1).beq (Go.Dv.repeatCells [DV.int Go.IntKind.u8 (0 : Int)] 0 ++ v0.snd).length) then (Option.bind (Go.Pv.upTo (↑s.length : Int) (0 + v0.fst + 1 + 0)) fun v1 => (Option.bind (Option.bind (Option.bind (bif ((0 + (v1 - 0) * 1).ble (Go.Dv.repeatCells [DV.int Go.IntKind.u8 (0 : Int)] 0 ++ v0.snd ++ List.take 1 (List.drop 0 (Go.Dv.splice (Go.Dv.repeatCells [DV.int Go.IntKind.u8 (0 : Int)] 1) 0 [DV.int Go.IntKind.u8 (90 : Int)]))).length) then (some (List.take ((v1 - 0) * 1) (List.drop 0 (Go.Dv.repeatCells [DV.int Go.IntKind.u8 (0 : Int)] 0 ++ v0.snd ++ List.take 1 (List.drop 0 (Go.Dv.splice (Go.Dv.repeatCells [DV.int Go.IntKind.u8 (0 : Int)] 1) 0 [DV.int Go.IntKind.u8 (90 : Int)])))))) else none) fun v2 => (Option.bind (Go.Dv.frozL v2) fun v3 => (some ((DV.fz (Go.Dv.chunks 1 (v1 - 0) v3)), [(5)])))) fun v4 => (some ([(v4.fst)], (v4.snd ++ [])))) fun v5 => (Option.bind (Go.Dv.S.l1 v5.fst) fun v6 => (Option.bind (Go.Dv.S.dB v6) fun v7 => (Option.bind (Go.Dv.S.dB (DV.fz s)) fun v8 => (Option.bind (Option.bind (bif ((0 + m * 1).ble ds.length) then (some (List.take (m * 1) (List.drop 0 ds))) else none) fun v9 => (some ((m), (v9)))) fun v10 => (Option.bind (Go.Dv.toBytes v10.snd) fun v11 => (Option.bind (bif (w.all fun (x : List Go.Dv.DV) => x.length.beq 1) then (some ((w.length), (w.flatten))) else none) fun v12 => (Option.bind (Go.Dv.toBytes v12.snd) fun v13 => (bif (v11 == v13) then (bif (Go.Dv.S.decE v7 == Go.Dv.S.decE v8) then (Option.bind (bif ((↑(List.getD (Go.Dv.S.decC v7) 0 0).toNat : Int) == (↑(List.getD (Go.Dv.S.decC v8) 0 0).toNat : Int)) then (bif ((↑(List.getD (Go.Dv.S.decC v7) 1 0).toNat : Int) == (↑(List.getD (Go.Dv.S.decC v8) 1 0).toNat : Int)) then (bif ((↑(List.getD (Go.Dv.S.decC v7) 2 0).toNat : Int) == (↑(List.getD (Go.Dv.S.decC v8) 2 0).toNat : Int)) then (bif ((↑(List.getD (Go.Dv.S.decC v7) 3 0).toNat : Int) == (↑(List.getD (Go.Dv.S.decC v8) 3 0).toNat : Int)) then (bif ((↑(List.getD (Go.Dv.S.decC v7) 4 0).toNat : Int) == (↑(List.getD (Go.Dv.S.decC v8) 4 0).toNat : Int)) then (bif ((↑(List.getD (Go.Dv.S.decC v7) 5 0).toNat : Int) == (↑(List.getD (Go.Dv.S.decC v8) 5 0).toNat : Int)) then (bif ((↑(List.getD (Go.Dv.S.decC v7) 6 0).toNat : Int) == (↑(List.getD (Go.Dv.S.decC v8) 6 0).toNat : Int)) then (bif ((↑(List.getD (Go.Dv.S.decC v7) 7 0).toNat : Int) == (↑(List.getD (Go.Dv.S.decC v8) 7 0).toNat : Int)) then (bif ((↑(List.getD (Go.Dv.S.decC v7) 8 0).toNat : Int) == (↑(List.getD (Go.Dv.S.decC v8) 8 0).toNat : Int)) then (bif ((↑(List.getD (Go.Dv.S.decC v7) 9 0).toNat : Int) == (↑(List.getD (Go.Dv.S.decC v8) 9 0).toNat : Int)) then (bif ((↑(List.getD (Go.Dv.S.decC v7) 10 0).toNat : Int) == (↑(List.getD (Go.Dv.S.decC v8) 10 0).toNat : Int)) then (bif ((↑(List.getD (Go.Dv.S.decC v7) 11 0).toNat : Int) == (↑(List.getD (Go.Dv.S.decC v8) 11 0).toNat : Int)) then (bif ((↑(List.getD (Go.Dv.S.decC v7) 12 0).toNat : Int) == (↑(List.getD (Go.Dv.S.decC v8) 12 0).toNat : Int)) then (bif ((↑(List.getD (Go.Dv.S.decC v7) 13 0).toNat : Int) == (↑(List.getD (Go.Dv.S.decC v8) 13 0).toNat : Int)) then (bif ((↑(List.getD (Go.Dv.S.decC v7) 14 0).toNat : Int) == (↑(List.getD (Go.Dv.S.decC v8) 14 0).toNat : Int)) then (bif ((↑(List.getD (Go.Dv.S.decC v7) 15 0).toNat : Int) == (↑(List.getD (Go.Dv.S.decC v8) 15 0).toNat : Int)) then (bif ((↑(List.getD (Go.Dv.S.decC v7) 16 0).toNat : Int) == (↑(List.getD (Go.Dv.S.decC v8) 16 0).toNat : Int)) then (bif ((↑(List.getD (Go.Dv.S.decC v7) 17 0).toNat : Int) == (↑(List.getD (Go.Dv.S.decC v8) 17 0).toNat : Int)) then (bif ((↑(List.getD (Go.Dv.S.decC v7) 18 0).toNat : Int) == (↑(List.getD (Go.Dv.S.decC v8) 18 0).toNat : Int)) then (bif ((↑(List.getD (Go.Dv.S.decC v7) 19 0).toNat : Int) == (↑(List.getD (Go.Dv.S.decC v8) 19 0).toNat : Int)) then (bif ((↑(List.getD (Go.Dv.S.decC v7) 20 0).toNat : Int) == (↑(List.getD (Go.Dv.S.decC v8) 20 0).toNat : Int)) then (bif ((↑(List.getD (Go.Dv.S.decC v7) 21 0).toNat : Int) == (↑(List.getD (Go.Dv.S.decC v8) 21 0).toNat : Int)) then (bif ((↑(List.getD (Go.Dv.S.decC v7) 22 0).toNat : Int) == (↑(List.getD (Go.Dv.S.decC v8) 22 0).toNat : Int)) then (bif ((↑(List.getD (Go.Dv.S.decC v7) 23 0).toNat : Int) == (↑(List.getD (Go.Dv.S.decC v8) 23 0).toNat : Int)) then (bif ((↑(List.getD (Go.Dv.S.decC v7) 24 0).toNat : Int) == (↑(List.getD (Go.Dv.S.decC v8) 24 0).toNat : Int)) then (bif ((↑(List.getD (Go.Dv.S.decC v7) 25 0).toNat : Int) == (↑(List.getD (Go.Dv.S.decC v8) 25 0).toNat : Int)) then (bif ((↑(List.getD (Go.Dv.S.decC v7) 26 0).toNat : Int) == (↑(List.getD (Go.Dv.S.decC v8) 26 0).toNat : Int)) then (bif ((↑(List.getD (Go.Dv.S.decC v7) 27 0).toNat : Int) == (↑(List.getD (Go.Dv.S.decC v8) 27 0).toNat : Int)) then (bif ((↑(List.getD (Go.Dv.S.decC v7) 28 0).toNat : Int) == (↑(List.getD (Go.Dv.S.decC v8) 28 0).toNat : Int)) then (bif ((↑(List.getD (Go.Dv.S.decC v7) 29 0).toNat : Int) == (↑(List.getD (Go.Dv.S.decC v8) 29 0).toNat : Int)) then (bif ((↑(List.getD (Go.Dv.S.decC v7) 30 0).toNat : Int) == (↑(List.getD (Go.Dv.S.decC v8) 30 0).toNat : Int)) then (bif ((↑(List.getD (Go.Dv.S.decC v7) 31 0).toNat : Int) == (↑(List.getD (Go.Dv.S.decC v8) 31 0).toNat : Int)) then (some (Bool.true)) else (some (Bool.false))) else (some (Bool.false))) else (some (Bool.false))) else (some (Bool.false))) else (some (Bool.false))) else (some (Bool.false))) else (some (Bool.false))) else (some (Bool.false))) else (some (Bool.false))) else (some (Bool.false))) else (some (Bool.false))) else (some (Bool.false))) else (some (Bool.false))) else (some (Bool.false))) else (some (Bool.false))) else (some (Bool.false))) else (some (Bool.false))) else (some (Bool.false))) else (some (Bool.false))) else (some (Bool.false))) else (some (Bool.false))) else (some (Bool.false))) else (some (Bool.false))) else (some (Bool.false))) else (some (Bool.false))) else (some (Bool.false))) else (some (Bool.false))) else (some (Bool.false))) else (some (Bool.false))) else (some (Bool.false))) else (some (Bool.false))) else (some (Bool.false))) fun v14 => (bif (v14) then (Option.bind (bif ((↑(List.getD (Go.Dv.S.decC v7) 32 0).toNat : Int) == (↑(List.getD (Go.Dv.S.decC v8) 32 0).toNat : Int)) then (bif ((↑(List.getD (Go.Dv.S.decC v7) 33 0).toNat : Int) == (↑(List.getD (Go.Dv.S.decC v8) 33 0).toNat : Int)) then (bif ((↑(List.getD (Go.Dv.S.decC v7) 34 0).toNat : Int) == (↑(List.getD (Go.Dv.S.decC v8) 34 0).toNat : Int)) then (bif ((↑(List.getD (Go.Dv.S.decC v7) 35 0).toNat : Int) == (↑(List.getD (Go.Dv.S.decC v8) 35 0).toNat : Int)) then (bif ((↑(List.getD (Go.Dv.S.decC v7) 36 0).toNat : Int) == (↑(List.getD (Go.Dv.S.decC v8) 36 0).toNat : Int)) then (bif ((↑(List.getD (Go.Dv.S.decC v7) 37 0).toNat : Int) == (↑(List.getD (Go.Dv.S.decC v8) 37 0).toNat : Int)) then (bif ((↑(List.getD (Go.Dv.S.decC v7) 38 0).toNat : Int) == (↑(List.getD (Go.Dv.S.decC v8) 38 0).toNat : Int)) then (bif ((↑(List.getD (Go.Dv.S.decC v7) 39 0).toNat : Int) == (↑(List.getD (Go.Dv.S.decC v8) 39 0).toNat : Int)) then (bif ((↑(List.getD (Go.Dv.S.decC v7) 40 0).toNat : Int) == (↑(List.getD (Go.Dv.S.decC v8) 40 0).toNat : Int)) then (bif ((↑(List.getD (Go.Dv.S.decC v7) 41 0).toNat : Int) == (↑(List.getD (Go.Dv.S.decC v8) 41 0).toNat : Int)) then (bif ((↑(List.getD (Go.Dv.S.decC v7) 42 0).toNat : Int) == (↑(List.getD (Go.Dv.S.decC v8) 42 0).toNat : Int)) then (bif ((↑(List.getD (Go.Dv.S.decC v7) 43 0).toNat : Int) == (↑(List.getD (Go.Dv.S.decC v8) 43 0).toNat : Int)) then (bif ((↑(List.getD (Go.Dv.S.decC v7) 44 0).toNat : Int) == (↑(List.getD (Go.Dv.S.decC v8) 44 0).toNat : Int)) then (bif ((↑(List.getD (Go.Dv.S.decC v7) 45 0).toNat : Int) == (↑(List.getD (Go.Dv.S.decC v8) 45 0).toNat : Int)) then (bif ((↑(List.getD (Go.Dv.S.decC v7) 46 0).toNat : Int) == (↑(List.getD (Go.Dv.S.decC v8) 46 0).toNat : Int)) then (bif ((↑(List.getD (Go.Dv.S.decC v7) 47 0).toNat : Int) == (↑(List.getD (Go.Dv.S.decC v8) 47 0).toNat : Int)) then (bif ((↑(List.getD (Go.Dv.S.decC v7) 48 0).toNat : Int) == (↑(List.getD (Go.Dv.S.decC v8) 48 0).toNat : Int)) then (bif ((↑(List.getD (Go.Dv.S.decC v7) 49 0).toNat : Int) == (↑(List.getD (Go.Dv.S.decC v8) 49 0).toNat : Int)) then (bif ((↑(List.getD (Go.Dv.S.decC v7) 50 0).toNat : Int) == (↑(List.getD (Go.Dv.S.decC v8) 50 0).toNat : Int)) then (bif ((↑(List.getD (Go.Dv.S.decC v7) 51 0).toNat : Int) == (↑(List.getD (Go.Dv.S.decC v8) 51 0).toNat : Int)) then (bif ((↑(List.getD (Go.Dv.S.decC v7) 52 0).toNat : Int) == (↑(List.getD (Go.Dv.S.decC v8) 52 0).toNat : Int)) then (bif ((↑(List.getD (Go.Dv.S.decC v7) 53 0).toNat : Int) == (↑(List.getD (Go.Dv.S.decC v8) 53 0).toNat : Int)) then (bif ((↑(List.getD (Go.Dv.S.decC v7) 54 0).toNat : Int) == (↑(List.getD (Go.Dv.S.decC v8) 54 0).toNat : Int)) then (bif ((↑(List.getD (Go.Dv.S.decC v7) 55 0).toNat : Int) == (↑(List.getD (Go.Dv.S.decC v8) 55 0).toNat : Int)) then (bif ((↑(List.getD (Go.Dv.S.decC v7) 56 0).toNat : Int) == (↑(List.getD (Go.Dv.S.decC v8) 56 0).toNat : Int)) then (bif ((↑(List.getD (Go.Dv.S.decC v7) 57 0).toNat : Int) == (↑(List.getD (Go.Dv.S.decC v8) 57 0).toNat : Int)) then (bif ((↑(List.getD (Go.Dv.S.decC v7) 58 0).toNat : Int) == (↑(List.getD (Go.Dv.S.decC v8) 58 0).toNat : Int)) then (bif ((↑(List.getD (Go.Dv.S.decC v7) 59 0).toNat : Int) == (↑(List.getD (Go.Dv.S.decC v8) 59 0).toNat : Int)) then (bif ((↑(List.getD (Go.Dv.S.decC v7) 60 0).toNat : Int) == (↑(List.getD (Go.Dv.S.decC v8) 60 0).toNat : Int)) then (bif ((↑(List.getD (Go.Dv.S.decC v7) 61 0).toNat : Int) == (↑(List.getD (Go.Dv.S.decC v8) 61 0).toNat : Int)) then (bif ((↑(List.getD (Go.Dv.S.decC v7) 62 0).toNat : Int) == (↑(List.getD (Go.Dv.S.decC v8) 62 0).toNat : Int)) then (bif ((↑(List.getD (Go.Dv.S.decC v7) 63 0).toNat : Int) == (↑(List.getD (Go.Dv.S.decC v8) 63 0).toNat : Int)) then (some (Bool.true)) else (some (Bool.false))) else (some (Bool.false))) else (some (Bool.false))) else (some (Bool.false))) else (some (Bool.false))) else (some (Bool.false))) else (some (Bool.false))) else (some (Bool.false))) else (some (Bool.false))) else (some (Bool.false))) else (some (Bool.false))) else (some (Bool.false))) else (some (Bool.false))) else (some (Bool.false))) else (some (Bool.false))) else (some (Bool.false))) else (some (Bool.false))) else (some (Bool.false))) else (some (Bool.false))) else (some (Bool.false))) else (some (Bool.false))) else (some (Bool.false))) else (some (Bool.false))) else (some (Bool.false))) else (some (Bool.false))) else (some (Bool.false))) else (some (Bool.false))) else (some (Bool.false))) else (some (Bool.false))) else (some (Bool.false))) else (some (Bool.false))) else (some (Bool.false))) fun v15 => (bif (v15) then (Option.bind (Option.bind (bif ((0 + (0 + v0.fst + 1) * 1).ble (Go.Dv.repeatCells [DV.int Go.IntKind.u8 (0 : Int)] 0 ++ v0.snd ++ List.take 1 (List.drop 0 (Go.Dv.splice (Go.Dv.repeatCells [DV.int Go.IntKind.u8 (0 : Int)] 1) 0 [DV.int Go.IntKind.u8 (90 : Int)]))).length) then (some (List.take ((0 + v0.fst + 1) * 1) (List.drop 0 (Go.Dv.repeatCells [DV.int Go.IntKind.u8 (0 : Int)] 0 ++ v0.snd ++ List.take 1 (List.drop 0 (Go.Dv.splice (Go.Dv.repeatCells [DV.int Go.IntKind.u8 (0 : Int)] 1) 0 [DV.int Go.IntKind.u8 (90 : Int)])))))) else none) fun v16 => (some ((0 + v0.fst + 1), (v16)))) fun v17 => (Option.bind (Go.Dv.toBytes v17.snd) fun v18 => (Option.bind (bif (s.all fun (x : List Go.Dv.DV) => x.length.beq 1) then (some ((s.length), (s.flatten))) else none) fun v19 => (Option.bind (Go.Dv.toBytes v19.snd) fun v20 => (bif ((v20.length + 1).ble 9223372036854775807) then (bif (v18 == v20 ++ [90]) then (some ((DRes.ret (DV.bool (Bool.true))), [])) else (some ((DRes.ret (DV.bool (Bool.false))), []))) else none))))) else (some ((DRes.ret (DV.bool (Bool.false))), [])))) else (some ((DRes.ret (DV.bool (Bool.false))), [])))) else (some ((DRes.ret (DV.bool (Bool.false))), []))) else (some ((DRes.ret (DV.bool (Bool.false))), [])))))))))))) else none) else none) else none)) := by kernel_rfl
end Go.Dv
end
section
namespace Go.Dv
open Go.Proofs Go.Dv.S
open Go.Pv (idx upTo)
abbrev stDO (l : List Elem) (i : Int) (w : B) : DSt := stH 99 [(2, .lp 2 0), (6, .v (.fz (elts l))), (8, .lp 8 0), (9, .v (.int .i64 i))] [(2, .loc (List.replicate 64 (.int .u8 0)) 30), (8, .loc (ofBytes w) 103)] []
abbrev stDI (l : List Elem) (i j : Int) (c w : B) : DSt := stH 99 [(2, .lp 2 0), (6, .v (.fz (elts l))), (8, .lp 8 0), (9, .v (.int .i64 i)), (10, .v (.fz (byt c))), (12, .v (.int .i64 j))] [(2, .loc (List.replicate 64 (.int .u8 0)) 30), (8, .loc (ofBytes w) 103)] []
abbrev putAt (w : B) (a : Nat) (c : B) : B := w.take a ++ c ++ w.drop (a + c.length)
theorem l_Decode_in (l : List Elem) (i : Nat) (hi : i < 2) (c : B) (hc : c.length ≤ 32) (w : B) (hw : w.length = 64) (r : DRes × DHeap) (hB : LoopLim (tdF T0 13 none 0) (bodyF P0 T0 (fun _ => LoopLim) (Lt t_chanceryref11_Decode) nY [] 13 none 0) (kontF P0 T0 (fun _ => LoopLim) (Lt t_chanceryref11_Decode) nY [] 13 0) (stDO l ((i + 1 : Nat) : Int) (putAt w (32 * i + (32 - c.length)) c)) [] = some r) :
  ∀ m j, c.length - j = m → j ≤ c.length → LoopLim (tdF T0 13 none 2) (bodyF P0 T0 (fun _ => LoopLim) (Lt t_chanceryref11_Decode) nY [] 13 none 2) (kont P0 T0 (fun _ => LoopLim) (Lt t_chanceryref11_Decode) nY [] 13 none 2 (loopOf T0 13 0) (fun e st' ds' => match e with | .normal => LoopLim (tdF T0 13 none 0) (bodyF P0 T0 (fun _ => LoopLim) (Lt t_chanceryref11_Decode) nY [] 13 none 0) (kontF P0 T0 (fun _ => LoopLim) (Lt t_chanceryref11_Decode) nY [] 13 0) (tdF T0 13 none 0 st' ds') ds' | e => kontF P0 T0 (fun _ => LoopLim) (Lt t_chanceryref11_Decode) nY [] 13 0 e st' ds' : KX (DRes × DHeap))) (stDI l i j c (putAt w (32 * i + (32 - c.length)) (c.take j))) [] = some r := by
 have hcc : Cons P0 T0 t_chanceryref11_Decode := ⟨c_chanceryref01_One, c_chanceryref01_All, c_chanceryref02_ToNat, trivial⟩
 intro m
 induction m with
 | zero =>
  intro j hm hj
  have hje : j = c.length := by omega
  subst hje
  refine loop_step hcc.cont ?_
  rw [b_chanceryref11_Decode_2, byt_len, Sx.ltF (Int.le_refl _), cond_false, List.take_length]
  refine Eq.trans (b := LoopLim (tdF T0 13 none 0) (bodyF P0 T0 (fun _ => LoopLim) (Lt t_chanceryref11_Decode) nY [] 13 none 0) (kontF P0 T0 (fun _ => LoopLim) (Lt t_chanceryref11_Decode) nY [] 13 0) (tdF T0 13 none 0 (stDO l (IntKind.i64.wrap ((i : Int) + Int.ofNat 1)) (putAt w (32 * i + (32 - c.length)) c)) []) []) ?_ ?_
  ·(show _ = _; kernel_rfl)
  ·rw [show IntKind.i64.wrap ((i : Int) + Int.ofNat 1) = ((i + 1 : Nat) : Int) by rw [Sx.ofN, Sx.w64 (by omega)]; omega]
   exact leafT (X := true) hB rfl rfl (by (show _ = _; kernel_rfl)) rfl
 | succ m ih =>
  intro j hm hj
  have hjl : j < c.length := by omega
  refine loop_step hcc.cont ?_
  rw [b_chanceryref11_Decode_2]
  have hlen : (putAt w (32 * i + (32 - c.length)) (c.take j)).length = 64 := by simp [putAt]; omega
  have h1 : IntKind.i64.wrap (IntKind.i64.wrap (Int.ofNat 32 - (c.length : Int)) + (j : Int)) = ((32 - c.length + j : Nat) : Int) := by
   have h0 : IntKind.i64.wrap (Int.ofNat 32 - (c.length : Int)) = ((32 - c.length : Nat) : Int) := by rw [Sx.ofN, Sx.w64 (by omega)]; omega
   rw [h0, Sx.w64 (by omega)]; omega
  have h2 : (0 + i * 32 + (32 - c.length + j) * 1 + 1).ble 64 = true := Sx.bleT (by omega)
  have h3 : 0 + i * 32 + (32 - c.length + j) * 1 = 32 * i + (32 - c.length) + j := by omega
  have hs : splice (ofBytes (putAt w (32 * i + (32 - c.length)) (c.take j))) (32 * i + (32 - c.length) + j) [.int .u8 ((c.getD j 0).toNat : Int)] = ofBytes (putAt w (32 * i + (32 - c.length)) (c.take (j + 1))) := by
   rw [Sx.spl1]
   congr 1
   have e1 : c.take (j + 1) = c.take j ++ [c.getD j 0] := by
    rw [List.take_add_one, List.getElem?_eq_getElem hjl]
    simp [List.getD_eq_getElem?_getD, hjl]
   have e2 : (w.take (32 * i + (32 - c.length)) ++ c.take j).length = 32 * i + (32 - c.length) + j := by simp; omega
   unfold putAt
   rw [e1, List.take_left' e2, ← List.append_assoc]
   congr 1
   have e3 : (32 * i + (32 - c.length) + j + 1) = (w.take (32 * i + (32 - c.length)) ++ c.take j).length + 1 := by rw [e2]
   rw [e3, List.drop_append, List.drop_eq_nil_of_le (by omega), Nat.add_sub_cancel_left, List.nil_append, List.drop_drop]
   congr 1
   simp
   omega
  simp -implicitDefEqProofs (disch := (first | omega | (simp only [List.length_cons, List.length_append, List.length_nil, List.length_take, List.length_drop, List.length_replicate, byt_len, ofBytes_len, byts_len, Sx.tn, Sx.tn1, Sx.tnL]; done) | (simp only [List.length_cons, List.length_append, List.length_nil, List.length_take, List.length_drop, List.length_replicate, byt_len, ofBytes_len, byts_len, Sx.tn, Sx.tn1, Sx.tnL]; omega))) only [Sx.w64, Sx.wu8, Sx.idxI, Sx.upI, Sx.bleT, Sx.bleF, Sx.beqT, Sx.beqF, Sx.ltT, Sx.ltF, Sx.leT, Sx.leF, Sx.gtT, Sx.gtF, Sx.geT, Sx.geF, Sx.eqT, Sx.eqF, Sx.neT, Sx.neF, Sx.ofN, Sx.tn, Sx.tn1, cond_true, cond_false, Option.bind_some, Bool.true_and, Bool.and_true, Bool.false_and, Bool.and_false, Bool.and_self, Bool.not_true, Bool.not_false, Bool.or_false, Bool.or_true, Bool.false_or, Bool.true_or, decide_true, decide_false, Nat.zero_add, Nat.add_zero, Nat.mul_one, Nat.sub_zero, List.drop_zero, List.isEmpty_nil, Int.ofNat_eq_natCast, Sx.castN, Int.natCast_zero, Int.natCast_one, Sx.tnL, Int.sub_zero, Int.add_zero, Int.zero_add, byt_len, Sx.byt_get, Sx.uncC, Sx.toI, h1, ofBytes_len, hlen, h2, h3, hs]
  have h4 : i * 32 + ((32 : Int) - (c.length : Int) + (j : Int)).toNat = 32 * i + (32 - c.length) + j := by omega
  simp only [h4, hs]
  refine leafT (X := true) (ih (j + 1) (by omega) hjl) ?_ rfl ?_ rfl
  ·(show _ = _; kernel_rfl)
  ·(show _ = _; kernel_rfl)
theorem l_Decode_end (l : List Elem) (w : B) (hw : w.length = 64) : LoopLim (tdF T0 13 none 0) (bodyF P0 T0 (fun _ => LoopLim) (Lt t_chanceryref11_Decode) nY [] 13 none 0) (kontF P0 T0 (fun _ => LoopLim) (Lt t_chanceryref11_Decode) nY [] 13 0) (stDO l 2 w) [] = some (ret (.tup [.agg (ofBytes w), .int .i64 0])) := by
 have hcc : Cons P0 T0 t_chanceryref11_Decode := ⟨c_chanceryref01_One, c_chanceryref01_All, c_chanceryref02_ToNat, trivial⟩
 refine loop_step hcc.cont ?_
 rw [b_chanceryref11_Decode_0, Sx.ltF (Int.le_refl _), cond_false]
 refine Eq.trans ?_ ((x_chanceryref11_Decode_0 (fun _ => LoopLim) (elts l) 2 (ofBytes w)).symm.trans ((x_chanceryref11_Decode_0 (fun _ => LoopLim) (elts l) 2 (ofBytes w)).trans ?_))
 ·(show _ = _; kernel_rfl)
 ·have z64 : List.replicate 64 (DV.int IntKind.u8 0) = ofBytes (zer 64) := rfl
  have l1 : (w.take 32).length = 32 := by simp; omega
  have l2 : ((w.drop 32).take 32).length = 32 := by simp; omega
  have e1 : splice (ofBytes (zer 64)) 0 (ofBytes (w.take 32)) = ofBytes (w.take 32 ++ zer 32) := by
   rw [Sx.spl_ofB, l1]; rfl
  have e2 : splice (ofBytes (w.take 32 ++ zer 32)) 32 (ofBytes ((w.drop 32).take 32)) = ofBytes w := by
   rw [Sx.spl_ofB, l2, List.take_left' l1, show List.drop (32 + 32) (w.take 32 ++ zer 32) = [] from List.drop_eq_nil_of_le (by simp [zer]; omega), List.append_nil, List.take_of_length_le (l := w.drop 32) (by simp; omega), List.take_append_drop]
  have e3 : splice (ofBytes (zer 64)) 0 (ofBytes w) = ofBytes w := by
   rw [Sx.spl_ofB, hw, List.drop_eq_nil_of_le (by simp [zer])]; simp
  have t1 : List.take 32 (ofBytes w) = ofBytes (w.take 32) := Sx.ofB_take _ _
  have t2 : List.take 32 (List.drop 32 (ofBytes w)) = ofBytes ((w.drop 32).take 32) := by rw [Sx.ofB_drop, Sx.ofB_take]
  have t3 : List.take 64 (ofBytes w) = ofBytes w := Sx.takeAll (by rw [ofBytes_len, hw]; exact Nat.le_refl _)
  have l3 : (w.take 32 ++ zer 32).length = 64 := by simp [zer]; omega
  simp -implicitDefEqProofs only [z64, ofBytes_len, hw, List.drop_zero, t1, t2, l1, l2, l3, e1, e2, e3, t3, Sx.bleT (Nat.le_refl _), Sx.beqT, cond_true, Option.bind_some, Nat.zero_add, Sx.bleT (show 32 ≤ 64 by omega), Nat.reduceAdd, freezeWith_froz, ofBytes_froz, List.append_nil]
theorem l_Decode_bad (l : List Elem) (i : Nat) (hi : i < 2) (e : Elem) (hil : i < l.length) (he : l[i]? = some e) (hle : e.2.length ≤ lim) (w : B) (hE : halfE e.2 ≠ 0) : LoopLim (tdF T0 13 none 0) (bodyF P0 T0 (fun _ => LoopLim) (Lt t_chanceryref11_Decode) nY [] 13 none 0) (kontF P0 T0 (fun _ => LoopLim) (Lt t_chanceryref11_Decode) nY [] 13 0) (stDO l i w) [] = some (ret (.tup [.agg (ofBytes (zer 64)), .int .i64 (halfE e.2)])) := by
 have hcc : Cons P0 T0 t_chanceryref11_Decode := ⟨c_chanceryref01_One, c_chanceryref01_All, c_chanceryref02_ToNat, trivial⟩
 refine loop_step hcc.cont ?_
 have u0 : (elts l)[i]? = some [.int .i64 e.1, .fz (byt e.2)] := elts_get he
 have hb : (toNatC e.2).length ≤ e.2.length := by
  unfold toNatC
  cases toNatE e.2 == 0 with
  | true => exact bare_len _
  | false => simp
 rw [b_chanceryref11_Decode_0]
 have hil2 : i < (elts l).length := by rw [elts_len]; exact hil
 rw [Sx.ltT (by omega), cond_true, Sx.idxI ⟨by omega, by omega⟩, Option.bind_some, Sx.tn, u0]
 simp -implicitDefEqProofs only [Option.bind_some, Sx.uncC, Sx.toI, Sx.toF, List.isEmpty_nil, cond_true, dB_ok hle]
 unfold lim at hle
 by_cases h0 : toNatE e.2 = 0
 ·have hE2 : halfE e.2 = bif Nat.blt 32 (toNatC e.2).length then 21 else 0 := by unfold halfE; rw [Sx.eqT h0, cond_true]
  rcases Nat.lt_or_ge 32 (toNatC e.2).length with h1 | h1
  ·rw [Sx.bltT h1, cond_true] at hE2
   rw [Sx.ofN, Int.natCast_zero, Sx.neF h0, cond_false, byt_len, Sx.gtT (by omega), cond_true, hE2]
   refine Eq.trans ?_ ((x_chanceryref11_Decode_0r (fun _ => LoopLim) (elts l) i 21 (ofBytes w)).symm.trans (x_chanceryref11_Decode_0r (fun _ => LoopLim) (elts l) i 21 (ofBytes w)))
   (show _ = _; kernel_rfl)
  ·rw [Sx.bltF h1, cond_false] at hE2
   exact absurd hE2 hE
 ·have hE2 : halfE e.2 = toNatE e.2 := by unfold halfE; rw [Sx.eqF h0, cond_false]
  rw [Sx.ofN, Int.natCast_zero, Sx.neT h0, cond_true, hE2]
  refine Eq.trans ?_ ((x_chanceryref11_Decode_0r (fun _ => LoopLim) (elts l) i (toNatE e.2) (ofBytes w)).symm.trans (x_chanceryref11_Decode_0r (fun _ => LoopLim) (elts l) i (toNatE e.2) (ofBytes w)))
  (show _ = _; kernel_rfl)
theorem l_Decode_go (l : List Elem) (i : Nat) (hi : i < 2) (e : Elem) (hil : i < l.length) (he : l[i]? = some e) (hle : e.2.length ≤ lim) (w : B) (hw : w.length = 64) (hE : halfE e.2 = 0) (r : DRes × DHeap) (hB : LoopLim (tdF T0 13 none 0) (bodyF P0 T0 (fun _ => LoopLim) (Lt t_chanceryref11_Decode) nY [] 13 none 0) (kontF P0 T0 (fun _ => LoopLim) (Lt t_chanceryref11_Decode) nY [] 13 0) (stDO l ((i + 1 : Nat) : Int) (putAt w (32 * i + (32 - (toNatC e.2).length)) (toNatC e.2))) [] = some r) : LoopLim (tdF T0 13 none 0) (bodyF P0 T0 (fun _ => LoopLim) (Lt t_chanceryref11_Decode) nY [] 13 none 0) (kontF P0 T0 (fun _ => LoopLim) (Lt t_chanceryref11_Decode) nY [] 13 0) (stDO l i w) [] = some r := by
 have hcc : Cons P0 T0 t_chanceryref11_Decode := ⟨c_chanceryref01_One, c_chanceryref01_All, c_chanceryref02_ToNat, trivial⟩
 refine loop_step hcc.cont ?_
 have u0 : (elts l)[i]? = some [.int .i64 e.1, .fz (byt e.2)] := elts_get he
 rw [b_chanceryref11_Decode_0]
 have hil2 : i < (elts l).length := by rw [elts_len]; exact hil
 rw [Sx.ltT (by omega), cond_true, Sx.idxI ⟨by omega, by omega⟩, Option.bind_some, Sx.tn, u0]
 simp -implicitDefEqProofs only [Option.bind_some, Sx.uncC, Sx.toI, Sx.toF, List.isEmpty_nil, cond_true, dB_ok hle]
 have h0 : toNatE e.2 = 0 := by
  by_cases h0 : toNatE e.2 = 0
  ·exact h0
  ·unfold halfE at hE; rw [Sx.eqF h0, cond_false] at hE; exact hE
 have h1 : (toNatC e.2).length ≤ 32 := by
  rcases Nat.lt_or_ge 32 (toNatC e.2).length with h1 | h1
  ·unfold halfE at hE; rw [Sx.eqT h0, cond_true, Sx.bltT h1] at hE; cases hE
  ·exact h1
 rw [Sx.ofN, Int.natCast_zero, Sx.neF h0, cond_false, byt_len, Sx.gtF (by omega), cond_false]
 have hin := l_Decode_in l i hi (toNatC e.2) h1 w hw r hB (toNatC e.2).length 0 (by omega) (by omega)
 have h3 : putAt w (32 * i + (32 - (toNatC e.2).length)) ((toNatC e.2).take 0) = w := by
  unfold putAt
  rw [List.take_zero, List.append_nil, List.length_nil, Nat.add_zero, List.take_append_drop]
 rw [h3] at hin
 refine headT hin ?_
 (show _ = _; kernel_rfl)
theorem put_0 (c : B) (h : c.length ≤ 32) : putAt (zer 64) (32 * 0 + (32 - c.length)) c = pad32 c ++ zer 32 := by
 unfold putAt pad32 zer
 rw [Nat.mul_zero, Nat.zero_add, Nat.sub_add_cancel h, List.take_replicate, List.drop_replicate, Nat.min_eq_left (by omega)]
theorem put_1 (a c : B) (ha : a.length = 32) (h : c.length ≤ 32) : putAt (a ++ zer 32) (32 * 1 + (32 - c.length)) c = a ++ pad32 c := by
 unfold putAt pad32 zer
 rw [List.take_append, List.drop_eq_nil_of_le (by simp; omega), List.append_nil, List.take_of_length_le (l := a) (by omega), List.take_replicate, List.append_assoc]
 congr 2
 rw [show min (32 * 1 + (32 - c.length) - a.length) 32 = 32 - c.length by omega]
theorem halfC_0 {c : B} (h : halfE c = 0) : halfC c = pad32 (toNatC c) ∧ (toNatC c).length ≤ 32 := by
 refine ⟨by unfold halfC; rw [h]; rfl, ?_⟩
 rcases Nat.lt_or_ge 32 (toNatC c).length with h1 | h1
 ·unfold halfE at h
  by_cases h0 : toNatE c = 0
  ·rw [Sx.eqT h0, cond_true, Sx.bltT h1] at h; cases h
  ·rw [Sx.eqF h0, cond_false] at h; exact absurd h h0
 ·exact h1
theorem c_chanceryref11_Decode : Con P0 T0 13 S_chanceryref11_Decode := coq1 fun x b hx => by
 have hx' := hx
 obtain ⟨rfl, hl⟩ := dB_inv hx
 refine Lx.of_in (tab := t_chanceryref11_Decode) ⟨c_chanceryref01_One, c_chanceryref01_All, c_chanceryref02_ToNat, trivial⟩ ?_
 refine (e_chanceryref11_Decode _ (byt b)).trans ?_
 have ho := oneC_len b
 have hd : dB (.fz (byt (oneC b))) = some (oneC b) := dB_ok (by omega)
 show _ = some (ret (.tup [.agg (arr 64 (decC b)), .int .i64 (decE b)]))
 rw [arr_ofB (decC_len b), hx', Option.bind_some]
 have z64 : List.replicate 64 (DV.int IntKind.u8 0) = ofBytes (zer 64) := rfl
 unfold decC decE
 simp only [Sx.ofN, Sx.castN, Int.natCast_zero, hd, Option.bind_some, elts_len, z64]
 by_cases h1 : oneE b = 0
 ·rw [Sx.neF h1, Sx.eqT h1, cond_false, cond_true]
  by_cases h2 : oneT b = 48
  ·rw [Sx.neF h2, Sx.eqT h2, cond_false, cond_true]
   by_cases h3 : allE (oneC b) = 0
   ·rw [Sx.neF h3, Sx.eqT h3, cond_false, cond_true]
    match hL : allL (oneC b) with
    | [] => rfl
    | [x] => rfl
    | x :: y :: z :: r =>
     simp only
     rw [Sx.neT (by simp only [List.length_cons]; omega)]
     rfl
    | [x, y] =>
     have mx := allL_mem (b := oneC b) (e := x) (by rw [hL]; simp)
     have my := allL_mem (b := oneC b) (e := y) (by rw [hL]; simp)
     have u0 : (elts [x, y])[0]? = some [.int .i64 x.1, .fz (byt x.2)] := rfl
     have u1 : (elts [x, y])[1]? = some [.int .i64 y.1, .fz (byt y.2)] := rfl
     have i0 : idx 0 [x, y].length = some 0 := rfl
     have i1 : idx 1 [x, y].length = some 1 := rfl
     have hlen : ((([x, y] : List Elem).length : Int) != 2) = false := Sx.neF rfl
     have e2 : ∀ z : Int, (z == 2) = !(z != 2) := fun z => by simp [bne]
     have ux : ∀ e : Elem, unc [DV.int .i64 e.1, .fz (byt e.2)] = some (.int .i64 e.1, [.fz (byt e.2)]) := fun _ => rfl
     have uy : ∀ e : Elem, unc [DV.fz (byt e.2)] = some (.fz (byt e.2), []) := fun _ => rfl
     simp -implicitDefEqProofs only [hlen, cond_false, i0, i1, u0, u1, Option.bind_some, ux, uy, Sx.toI, Sx.toF, List.isEmpty_nil, cond_true, e2]
     cases x.1 != 2 with
     | true => rfl
     | false =>
      cases y.1 != 2 with
      | true => rfl
      | false =>
       simp only [cond_false, Bool.not_false, Bool.and_self, cond_true]
       by_cases hx0 : halfE x.2 = 0
       ·obtain ⟨p1, p2⟩ := halfC_0 hx0
        by_cases hy0 : halfE y.2 = 0
        ·obtain ⟨q1, q2⟩ := halfC_0 hy0
         have r2 := l_Decode_end [x, y] (halfC x.2 ++ halfC y.2) (by simp [half_len])
         rw [p1, q1, ← put_1 _ _ (pad_len p2) q2] at r2
         have r1 := l_Decode_go [x, y] 1 (by omega) y (by simp) rfl (by omega) (pad32 (toNatC x.2) ++ zer 32) (by simp [pad_len p2, zer]) hy0 _ r2
         rw [← put_0 _ p2] at r1
         have r0 := l_Decode_go [x, y] 0 (by omega) x (by simp) rfl (by omega) (zer 64) rfl hx0 _ r1
         refine headT (r0.trans ?_) ?_
         ·rw [put_0 _ p2, put_1 _ _ (pad_len p2) q2, hx0, hy0, p1, q1]
          rfl
         ·(show _ = _; kernel_rfl)
        ·have r1 := l_Decode_bad [x, y] 1 (by omega) y (by simp) rfl (by omega) (pad32 (toNatC x.2) ++ zer 32) hy0
         rw [← put_0 _ p2] at r1
         have r0 := l_Decode_go [x, y] 0 (by omega) x (by simp) rfl (by omega) (zer 64) rfl hx0 _ r1
         refine headT (r0.trans ?_) ?_
         ·rw [Sx.eqT hx0, cond_true, Sx.eqF hy0]
          rfl
         ·(show _ = _; kernel_rfl)
       ·have r0 := l_Decode_bad [x, y] 0 (by omega) x (by simp) rfl (by omega) (zer 64) hx0
        refine headT (r0.trans ?_) ?_
        ·rw [Sx.eqF hx0, cond_false, Sx.eqF hx0]
         rfl
        ·(show _ = _; kernel_rfl)
   ·rw [Sx.neT h3, Sx.eqF h3, cond_true, cond_false, Sx.eqF h3, cond_false]
  ·rw [Sx.neT h2, Sx.eqF h2, cond_true, cond_false]
   rfl
 ·rw [Sx.neT h1, Sx.eqF h1, cond_true, cond_false, Sx.eqF h1, cond_false]
end Go.Dv
end
section
namespace Go.Dv
open Go.Proofs Go.Dv.S
open Go.Pv (idx upTo)
theorem byteArg_byt (s : B) : byteArg (.fz (byt s)) = some s := by
 show ((bif (byt s).all fun x => Nat.beq x.length 1 then some ((byt s).length, (byt s).flatten) else none).bind fun q => toBytes q.2) = _
 rw [byt_all, cond_true, Option.bind_some, byt_flatten, toBytes_of]
theorem c_internal_bytealg_Compare : Con P0 T0 106 S_internal_bytealg_Compare := con2 fun x a y b hx hy => by
 obtain ⟨rfl, hl⟩ := dB_inv hx
 obtain ⟨rfl, hm⟩ := dB_inv hy
 refine Lx.of_in (tab := []) trivial ?_
 show (((byteArg (.fz (byt a))).bind fun a => (byteArg (.fz (byt b))).bind fun b => some (DV.int .i64 (Lib.compareBytes a b))).bind fun v => finish [] (.ret v, [])) = _
 rw [byteArg_byt, Option.bind_some, byteArg_byt]
 rfl
theorem c_bytes_Compare : Con P0 T0 55 S_bytes_Compare := con2 fun x a y b hx hy => by
 have hx' := hx
 have hy' := hy
 obtain ⟨rfl, hl⟩ := dB_inv hx
 obtain ⟨rfl, hm⟩ := dB_inv hy
 refine Lx.of_in (tab := t_bytes_Compare) ⟨c_internal_bytealg_Compare, trivial⟩ ?_
 rw [e_bytes_Compare, hx', Option.bind_some, hy']
 rfl
theorem c_sign_May : Con P0 T0 15 S_sign_May := con1 fun x b hx => by
 obtain ⟨s, hs, h⟩ := bnd' hx
 obtain ⟨rfl, hl⟩ := dA_inv hs
 refine Lx.of_in (tab := t_sign_May) ⟨c_curve_Order, c_bytes_Compare, trivial⟩ ?_
 cases h1 : s == zer 31 ++ [1] with
 | true =>
  rw [h1] at h
  cases h
  have : s = zer 31 ++ [1] := by simpa using h1
  subst this
  exact e_sign_May_1 _
 | false =>
  rw [h1] at h
  obtain ⟨h2, h⟩ := bif1 h
  cases h
  have : s = zer 32 := by simpa using h2
  subst this
  exact e_sign_May_0 _
theorem c_chancerylaw11_names : Con P0 T0 53 S_chancerylaw11_names where
 nat R xs k := by unfold S_chancerylaw11_names; split <;> rfl
 ok xs r h := by
  unfold S_chancerylaw11_names at h
  split at h
  ·cases h
   exact Lx.of_in (tab := []) trivial (e_chancerylaw11_names _)
  ·cases h
theorem c_chancerylaw11_works : Con P0 T0 14 S_chancerylaw11_works where
 nat R xs k := by unfold S_chancerylaw11_works S_chancerylaw11_names; split <;> rfl
 ok xs r h := by
  unfold S_chancerylaw11_works S_chancerylaw11_names at h
  split at h
  ·cases h
   exact Lx.of_in (tab := t_chancerylaw11_works) ⟨c_sign_May, c_chancerylaw11_names, trivial⟩ (e_chancerylaw11_works _)
  ·cases h
end Go.Dv
end
section
namespace Go.Dv
open Go.Proofs Go.Dv.S
open Go.Pv (idx upTo)
theorem encB_len {s : B} (h : s.length = 64) : (encB s).length ≤ 200 := by
 unfold encB
 have l1 : (s.take 32).length = 32 := by simp; omega
 have l2 : (s.drop 32).length = 32 := by simp; omega
 have h1 := natB_len (s.take 32)
 have h2 := natB_len (s.drop 32)
 have g1 := elemB_len 2 (natB (s.take 32))
 have g2 := elemB_len 2 (natB (s.drop 32))
 have g3 := (lenB_len (natB (s.take 32)).length).1
 have g4 := (lenB_len (natB (s.drop 32)).length).1
 have g5 := elemB_len 48 (elemB 2 (natB (s.take 32)) ++ elemB 2 (natB (s.drop 32)))
 have g6 := (lenB_len (elemB 2 (natB (s.take 32)) ++ elemB 2 (natB (s.drop 32))).length).1
 simp only [List.length_append] at g5 g6
 omega
abbrev stSC (b x e : B) (i : Int) : DSt := stH 96 [(1, .v (.fz (byt b))), (5, .v (.sl 0 0 x.length 0 1)), (6, .v (.sl 1 0 e.length 0 1)), (7, .v (.fz (byt e))), (8, .v (.int .i64 i))] [] [newBlk (ofBytes x) 5, newBlk (ofBytes e) 5]
theorem u8_succ (c : UInt8) : IntKind.u8.wrap ((c.toNat : Int) + Int.ofNat 1) = ((c + 1).toNat : Int) := by
 rw [Sx.wu8m, UInt8.toNat_add]
 simp
abbrev stSE (b x e : B) (i : Int) : DSt := stH 96 [(1, .v (.fz (byt b))), (5, .v (.sl 0 0 x.length 0 1)), (6, .v (.sl 1 0 e.length 0 1)), (7, .v (.fz (byt e))), (8, .v (.int .i64 i)), (29, .v (.int .i64 i)), (30, .v (.sl 0 0 x.length 0 1)), (31, .v (.int .i64 x.length)), (32, .v (.bool false))] [] [newBlk (ofBytes x) 5, newBlk (ofBytes e) 5]
theorem x_SC (b x e : B) (i : Int) (hb : b.length ≤ 1099511627776) (he : e.length ≤ 200) : kontF P0 T0 (fun _ => LoopLim) (Lt t_chancerylaw11_SignCodes) nY [] 3 0 (.exit 0) (stSE b x e i) [] = some (ret (.bool true)) := by
 refine (x_chancerylaw11_SignCodes_0 (fun _ => LoopLim) (byt b) (byt e) x.length e.length (ofBytes x) (ofBytes e) i false).trans ?_
 have z90 : List.take 1 (splice (ofBytes (List.replicate 1 0)) 0 [DV.int IntKind.u8 90]) = ofBytes [90] := rfl
 have hd : dB (.fz (byt b)) = some b := dB_ok hb
 have r0 : repeatCells [DV.int IntKind.u8 0] 0 = [] := rfl
 have t1 : List.take b.length (b ++ [90]) = b := List.take_left' rfl
 simp -implicitDefEqProofs (disch := (first | omega | (simp only [List.length_cons, List.length_append, List.length_nil, List.length_take, List.length_drop, List.length_replicate, byt_len, ofBytes_len, byts_len, Sx.tn, Sx.tn1, Sx.tnL]; done) | (simp only [List.length_cons, List.length_append, List.length_nil, List.length_take, List.length_drop, List.length_replicate, byt_len, ofBytes_len, byts_len, Sx.tn, Sx.tn1, Sx.tnL]; omega))) only [Sx.w64, Sx.wu8, Sx.idxI, Sx.upI, Sx.bleT, Sx.bleF, Sx.beqT, Sx.beqF, Sx.ltT, Sx.ltF, Sx.leT, Sx.leF, Sx.gtT, Sx.gtF, Sx.geT, Sx.geF, Sx.eqT, Sx.eqF, Sx.neT, Sx.neF, Sx.ofN, Sx.tn, Sx.tn1, cond_true, cond_false, Option.bind_some, Bool.true_and, Bool.and_true, Bool.false_and, Bool.and_false, Bool.and_self, Bool.not_true, Bool.not_false, Bool.or_false, Bool.or_true, Bool.false_or, Bool.true_or, decide_true, decide_false, Nat.zero_add, Nat.add_zero, Nat.mul_one, Nat.sub_zero, List.drop_zero, List.isEmpty_nil, Int.ofNat_eq_natCast, Sx.castN, Int.natCast_zero, Int.natCast_one, Sx.tnL, Int.sub_zero, Int.add_zero, Int.zero_add, Sx.takeAll, Sx.dropAll, List.drop_succ_cons, List.drop_zero, List.getD_cons_zero, List.getD_cons_succ, byt_len, ofBytes_len, byt_all, byt_flatten, byt_flat_len, Sx.byt_get, Sx.ofB_get, Sx.byt_take, Sx.byt_drop, Sx.byt_app, Sx.ofB_take, Sx.ofB_drop, Sx.ofB_app, Sx.ofB_snoc, Sx.chunkB, Sx.frozB, Sx.zeros, ofBytes_froz, toBytes_of, Sx.uncC, Sx.toI, Sx.toF, Sx.toS, Sx.toB, List.length_append, List.length_cons, List.length_nil, List.length_take, List.length_drop, List.length_replicate, Sx.sp11, Sx.sp11', Sx.ch1, Sx.ch2, Sx.ch3, Sx.ch4, Sx.dBs1, Sx.dBs2, Sx.dBs3, Sx.dBs4, List.flatten_cons, List.flatten_nil, List.append_nil, List.take_succ_cons, List.take_zero, Sx.l1c, Sx.l2c, Sx.l3c, Sx.l4c, Sx.frozC, hd, r0, z90, t1, List.nil_append, Nat.sub_zero, beq_self_eq_true, toBytes_of]
theorem l_SC (b e : B) (hb : b.length ≤ 1099511627776) (he : e.length ≤ 200) : ∀ m i (x : B), x.length ≤ 200 → x.length - i = m → i ≤ x.length → LoopLim (tdF T0 3 none 0) (bodyF P0 T0 (fun _ => LoopLim) (Lt t_chancerylaw11_SignCodes) nY [] 3 none 0) (kontF P0 T0 (fun _ => LoopLim) (Lt t_chancerylaw11_SignCodes) nY [] 3 0) (stSC b x e i) [] = some (ret (.bool true)) := by
 have hc : Cons P0 T0 t_chancerylaw11_SignCodes := ⟨c_sign_Encode, c_chanceryref11_Encode, c_sign_Decode, c_chanceryref11_Decode, c_chancerylaw11_works, trivial⟩
 intro m
 induction m with
 | zero =>
  intro i x hl hm hi
  refine loop_step hc.cont ?_
  rw [b_chancerylaw11_SignCodes_0, Sx.ltF (by omega), cond_false]
  exact x_SC b x e i hb he
 | succ m ih =>
  intro i x hl hm hi
  have hil : i < x.length := by omega
  refine loop_step hc.cont ?_
  rw [b_chancerylaw11_SignCodes_0]
  have hn := ih (i + 1) (x.take i ++ [x.getD i 0 + 1] ++ x.drop (i + 1)) (by simp; omega) (by simp; omega) (by simp; omega)
  have hln : (x.take i ++ [x.getD i 0 + 1] ++ x.drop (i + 1)).length = x.length := by simp; omega
  have hw : IntKind.i64.wrap ((i : Int) + Int.ofNat 1) = ((i + 1 : Nat) : Int) := by rw [Sx.ofN, Sx.w64 (by omega)]; omega
  simp -implicitDefEqProofs (disch := (first | omega | (simp only [List.length_cons, List.length_append, List.length_nil, List.length_take, List.length_drop, List.length_replicate, byt_len, ofBytes_len, byts_len, Sx.tn, Sx.tn1, Sx.tnL]; done) | (simp only [List.length_cons, List.length_append, List.length_nil, List.length_take, List.length_drop, List.length_replicate, byt_len, ofBytes_len, byts_len, Sx.tn, Sx.tn1, Sx.tnL]; omega))) only [Sx.ltT, cond_true, Sx.idxI, Option.bind_some, Sx.tn, Nat.zero_add, Nat.mul_one, Sx.ofB_get, Sx.toI, Sx.bleT, ofBytes_len, u8_succ, Sx.spl1, hw]
  unfold stSC at hn
  rw [hln] at hn
  refine leafT (X := ((ofBytes (x.take i ++ [x.getD i 0 + 1] ++ x.drop (i + 1))).all froz && ((ofBytes e).all froz && true))) hn ?_ ?_ ?_ rfl
  ·(show _ = _; kernel_rfl)
  ·rw [ofBytes_froz, ofBytes_froz]; rfl
  ·(show _ = _; kernel_rfl)
theorem law_SignCodes {x y : DV} {s b : B} (hx : dA 64 x = some s) (hy : dB y = some b) : Lx P0 T0 3 [x, y] (ret (.bool true)) := by
 obtain ⟨rfl, hs⟩ := dA_inv hx
 obtain ⟨rfl, hb⟩ := dB_inv hy
 have hb : b.length ≤ 1099511627776 := hb
 have he := encB_len hs
 refine Lx.of_in (tab := t_chancerylaw11_SignCodes) ⟨c_sign_Encode, c_chanceryref11_Encode, c_sign_Decode, c_chanceryref11_Decode, c_chancerylaw11_works, trivial⟩ ?_
 rw [← range_ofB hs]
 refine (e_chancerylaw11_SignCodes _ (fun i => ((s.getD i 0).toNat : Int)) (byt b)).trans ?_
 rw [range_ofB hs, dA_ok hs]
 simp -implicitDefEqProofs (disch := (first | omega | (simp only [List.length_cons, List.length_append, List.length_nil, List.length_take, List.length_drop, List.length_replicate, byt_len, ofBytes_len, byts_len, Sx.tn, Sx.tn1, Sx.tnL]; done) | (simp only [List.length_cons, List.length_append, List.length_nil, List.length_take, List.length_drop, List.length_replicate, byt_len, ofBytes_len, byts_len, Sx.tn, Sx.tn1, Sx.tnL]; omega))) only [Sx.w64, Sx.wu8, Sx.idxI, Sx.upI, Sx.bleT, Sx.bleF, Sx.beqT, Sx.beqF, Sx.ltT, Sx.ltF, Sx.leT, Sx.leF, Sx.gtT, Sx.gtF, Sx.geT, Sx.geF, Sx.eqT, Sx.eqF, Sx.neT, Sx.neF, Sx.ofN, Sx.tn, Sx.tn1, cond_true, cond_false, Option.bind_some, Bool.true_and, Bool.and_true, Bool.false_and, Bool.and_false, Bool.and_self, Bool.not_true, Bool.not_false, Bool.or_false, Bool.or_true, Bool.false_or, Bool.true_or, decide_true, decide_false, Nat.zero_add, Nat.add_zero, Nat.mul_one, Nat.sub_zero, List.drop_zero, List.isEmpty_nil, Int.ofNat_eq_natCast, Sx.castN, Int.natCast_zero, Int.natCast_one, Sx.tnL, Int.sub_zero, Int.add_zero, Int.zero_add, Sx.takeAll, Sx.dropAll, List.drop_succ_cons, List.drop_zero, List.getD_cons_zero, List.getD_cons_succ, byt_len, ofBytes_len, byt_all, byt_flatten, byt_flat_len, Sx.byt_get, Sx.ofB_get, Sx.byt_take, Sx.byt_drop, Sx.byt_app, Sx.ofB_take, Sx.ofB_drop, Sx.ofB_app, Sx.ofB_snoc, Sx.chunkB, Sx.frozB, Sx.zeros, ofBytes_froz, toBytes_of, Sx.uncC, Sx.toI, Sx.toF, Sx.toS, Sx.toB, List.length_append, List.length_cons, List.length_nil, List.length_take, List.length_drop, List.length_replicate, Sx.sp11, Sx.sp11', Sx.ch1, Sx.ch2, Sx.ch3, Sx.ch4, Sx.dBs1, Sx.dBs2, Sx.dBs3, Sx.dBs4, List.flatten_cons, List.flatten_nil, List.append_nil, List.take_succ_cons, List.take_zero, Sx.l1c, Sx.l2c, Sx.l3c, Sx.l4c, Sx.frozC, beq_self_eq_true, toBytes_of, ofBytes_froz, Bool.not_true]
 refine headT (l_SC b (encB s) hb he (encB s).length 0 (encB s) he (by omega) (by omega)) ?_
 (show _ = _; kernel_rfl)
end Go.Dv
end
section
namespace Go.Proofs.YtngphbjigkgeaaaDoor.signCodes
open Go.ChangeShapes Go.WideShapes Go.ChangeAt Go.RowKit Go.Dv
theorem own : ownKnob Tryd.prog.godebug = none := by kernel_rfl
theorem law (H : Type) (ds : List (DataW H)) (hk : Rows.uptoSmall H ds = true) (trees : List DV) (h : ArgsT Tryd.prog [25, 26] ds trees) : Lx P0 T0 3 trees (S.ret (.bool true)) := by
 obtain ⟨d1, ds, x1, trees, rfl, rfl, h1, h⟩ := h.cons_inv (by kernel_rfl)
 obtain ⟨d2, ds, x2, trees, rfl, rfl, h2, h⟩ := h.one_inv (by kernel_rfl)
 obtain ⟨rfl, rfl⟩ := h.nil_inv
 obtain ⟨s, l, hx, h3⟩ := rd_bytes (K := bulk H) h2 (bulk_small hk (by simp))
 cases hx
 obtain ⟨a, h4⟩ := rd_sig (bulk H) h1
 exact law_SignCodes h4 h3
def wArgs : Array Value := #[(.agg (Array.replicate 64 (.int .u8 0))), (.slice none 0 0)]
def rArgs (H : Type) : List (DataW H) := [.agg [.agg (List.replicate 32 (.lit (.int .u8 0))), .agg (List.replicate 32 (.lit (.int .u8 0)))], .nil]
set_option maxRecDepth 100000 in
theorem core (H : Type) (enc : TypeId × Value → H) (F : Stop.Interp) (W : World) (base : Nat) (args : Array Value) (ds gs : List (DataW H)) (before : List MemPlace)
  (hval : ∀ (j : Nat) t v, Tryd.f3.params[j]? = some t → args[j]? = some v → Value.okWide Tryd.prog W .any base t v)
  (hW : DataW.Whole enc Tryd.prog Tryd.f3.params.toList Rows.signCodesSpec.vars false W args.toList ds gs before) (hk : Rows.uptoSmall H (ds ++ gs) = true)
  (hg : ∃ (g : Nat) (cs : Array Value) (e : TypeId) (fr : Nat × Nat), W.heap[g]? = some (.cells cs e fr)) :
  Calls Tryd.prog 3 args W fun e W' => ∃ v, e = .returned v ∧ Rows.signCodesSpec.post enc Tryd.prog Tryd.f3 false true false false W args v W' := by
 have hgs : gs = [] := by
  obtain ⟨p, q, _, hV, _⟩ := hW
  cases gs with
  | nil => rfl
  | cons g gs => exact hV.elim
 subst hgs
 rw [List.append_nil] at hk
 have hp : Tryd.f3.params.toList = [25, 26] := by rw [Tryd.params3]
 have two : ∃ d1 d2, ds = [d1, d2] := by
  obtain ⟨p, q, hA, _⟩ := hW
  have hA : DataW.TrodAll enc Tryd.prog W 0 (fun _ => true) true Tryd.f3.params.toList args.toList ds p := hA
  rw [hp] at hA
  have h2 := (trodAll_len hA).2
  match ds, h2 with
  | [d1, d2], _ => exact ⟨d1, d2, rfl⟩
 obtain ⟨d1, d2, rfl⟩ := two
 refine law_core (T := T0) (T' := Tryd.T') (fun _ => rfl) (fun _ => rfl) tabOK tabD (by kernel_rfl) Tryd.func3 rfl (by kernel_rfl) (tb := 4) (by kernel_rfl) (by kernel_rfl) ?_ ?_ ?_ (s := Rows.signCodesSpec) rfl hval hW hg rfl rfl rfl fun trees ht => law H _ hk trees (by rw [hp] at ht; exact ht)
 ·rw [hp]
  intro t ht
  rcases List.mem_cons.1 ht with rfl | ht
  ·kernel_rfl
  rcases List.mem_cons.1 ht with rfl | ht
  ·kernel_rfl
  cases ht
 ·rw [hp]
  intro t ht
  rcases List.mem_cons.1 ht with rfl | ht
  ·exact ⟨by kernel_rfl, of_decide_eq_true (by kernel_rfl)⟩
  rcases List.mem_cons.1 ht with rfl | ht
  ·exact ⟨by kernel_rfl, of_decide_eq_true (by kernel_rfl)⟩
  cases ht
 ·rw [hp]
  intro t ht
  rcases List.mem_cons.1 ht with rfl | ht
  ·exact fun _ => Nat.ne_of_beq_eq_false (by kernel_rfl)
  rcases List.mem_cons.1 ht with rfl | ht
  ·exact fun h => nomatch (show aggT P0 26 = false by kernel_rfl).symm.trans h
  cases ht
theorem laid_met (os : Os) : laidMet Tryd.prog Rows.signCodesUptoRow.laid ((laidWorld os).forCall (fun _ _ => 0) ⟨#[], wArgs, []⟩).memory :=
 laidMet_of_run' 8 (by kernel_rfl) (by kernel_rfl)
theorem reads (os : Os) {H : Type} (enc : TypeId × Value → H) : ∃ places, DataW.whole enc Tryd.prog ((laidWorld os).forCall (fun _ _ => 0) ⟨#[], wArgs, []⟩).memory Tryd.f3.params.toList Rows.signCodesSpec.vars false wArgs.toList 8 = some (rArgs H, [], places) :=
 ⟨[], by kernel_rfl⟩
set_option maxRecDepth 100000 in
theorem lifted (os : Os) (started : os.Started) (H : Type) (enc : TypeId × Value → H) (F : Stop.Interp) :
  ReturnsInHanded {} Tryd.checked os 3 .any ((Rows.OpenSpec.upto Rows.signCodesSpec).preRow enc Tryd.prog Tryd.f3 Rows.signCodesUptoRow.domain false Rows.signCodesUptoRow.laid) (((Rows.OpenSpec.upto Rows.signCodesSpec).at F).post enc Tryd.prog Tryd.f3 false true false false) := by
 obtain ⟨places, hx⟩ := reads os enc
 refine law_rowL (C := Tryd.checked) (s := Rows.OpenSpec.upto Rows.signCodesSpec) (k := Rows.uptoSmall) rfl own started (by kernel_rfl) Tryd.func3
  (witness_row_at (enc := enc) (C := Tryd.checked) false (laidWorld os) wArgs rfl (by kernel_rfl) (by kernel_rfl) (by kernel_rfl)
   (OpenSpec.preRow_of_cond 8 hx (by kernel_rfl) (fun k hk => by cases hk; kernel_rfl) (by kernel_rfl) (laid_met os))) (by kernel_rfl) (of_decide_eq_true (by kernel_rfl)) ?_
 intro W base args ds gs before hval hW hk hg
 exact core H enc F W base args ds gs before hval hW hk hg
theorem saidUpto : Rows.SignCodesUptoSaid :=
 OpenClaim.holds_of_cond 3 Tryd.f3 rfl rfl rfl rfl rfl rfl rfl ⟨rfl, rfl, rfl, rfl, rfl⟩ rfl rfl rfl rfl rfl (by kernel_rfl) Tryd.func3 (by kernel_rfl)
  (of_decide_eq_true (by kernel_rfl)) (by unfold Func.isWrapper; first | (rw [if_pos (by decide +kernel)]; kernel_rfl) | (rw [if_neg (by decide +kernel)]; exact ⟨rfl, rfl⟩))
  (fun os started H enc _ F => by rw [OpenClaim.pre_eq_preRow]; exact lifted os started H enc F)
theorem plain (f : FuncId) (fn : Func) (hf : Tryd.pinned.checked.prog.funcNamed "chancery/chancerylaw11.SignCodes" = some f) (hfn : Tryd.pinned.checked.prog.funcs[f]? = some fn) :
  true = Tryd.pinned.checked.prog.looks [] ∧ ∀ (j : Nat) t, fn.params[j]? = some t → Tryd.pinned.checked.prog.wantsStandIn t = false := by
 obtain rfl : f = 3 := Option.some.inj ((show Tryd.prog.funcNamed "chancery/chancerylaw11.SignCodes" = some 3 by kernel_rfl).symm.trans hf) |>.symm
 obtain rfl : fn = Tryd.f3 := (Option.some.inj (Tryd.func3.symm.trans hfn)).symm
 refine ⟨by kernel_rfl, fun j t ht => ?_⟩
 rw [Tryd.params3] at ht
 have hm : t ∈ [25, 26] := by simpa using Array.mem_of_getElem? ht
 have hall : ([25, 26].all fun u => !Tryd.prog.wantsStandIn u) = true := by kernel_rfl
 exact (show Tryd.prog.wantsStandIn t = false by simpa using List.all_eq_true.1 hall t hm)
theorem cardUpto : Rows.SignCodesUptoCardSaid :=
 Claim7.holds_tied_plain_at .later [] _ _ _ _ saidUpto (fun _ h => by cases h) (by kernel_rfl) (fun _ h => by cases h) signCodesUpto_row_tie rfl ⟨rfl, rfl⟩ (by kernel_rfl) rfl plain (by kernel_rfl)
end Go.Proofs.YtngphbjigkgeaaaDoor.signCodes
end

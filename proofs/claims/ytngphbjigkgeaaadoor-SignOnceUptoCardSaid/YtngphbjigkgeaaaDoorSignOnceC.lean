/- What the functions come to that the statement's law runs, and the statement itself. Parts: CoR, EqK, CoS, CoT, RwSignOnce. -/
import Derived.KernelRfl
import Derived.Test.YtngphbjigkgeaaaDoorSignOnceB
set_option linter.unusedVariables false
set_option linter.unusedSimpArgs false
set_option linter.unusedSectionVars false
section
/- Signatures as bytes: contracts. -/
namespace Go.Dv
open Go.Proofs Go.Dv.S
open Go.Pv (idx upTo)
theorem range_ofB {s : B} {n : Nat} (h : s.length = n) : (List.range n).map (fun i => DV.int IntKind.u8 ((s.getD i 0).toNat : Int)) = ofBytes s := by
  subst h
  refine List.ext_getElem (by simp [ofBytes]) fun i h1 h2 => ?_
  simp only [List.length_map, List.length_range] at h1
  simp [ofBytes, List.getD_eq_getElem?_getD, h1]
theorem arr_ofB {s : B} {n : Nat} (h : s.length = n) : arr n s = ofBytes s := range_ofB h
theorem range_take {s : B} {n : Nat} (h : n ≤ s.length) : (List.range n).map (fun i => DV.int IntKind.u8 ((s.getD i 0).toNat : Int)) = ofBytes (s.take n) := by
  refine List.ext_getElem (by simp [ofBytes]; omega) fun i h1 h2 => ?_
  simp only [List.length_map, List.length_range] at h1
  have : i < s.length := by omega
  simp [ofBytes, List.getD_eq_getElem?_getD, this]
theorem range_drop {s : B} {a n : Nat} (h : a + n = s.length) : (List.range n).map (fun i => DV.int IntKind.u8 ((s.getD (a + i) 0).toNat : Int)) = ofBytes (s.drop a) := by
  refine List.ext_getElem (by simp [ofBytes]; omega) fun i h1 h2 => ?_
  simp only [List.length_map, List.length_range] at h1
  have : a + i < s.length := by omega
  simp [ofBytes, List.getD_eq_getElem?_getD, this]
theorem unC_inv : ∀ {cs : List DV} {s : B}, unC cs = some s → cs = ofBytes s
  | [], s, h => by cases h; rfl
  | x :: cs, s, h => by
    unfold unC at h
    split at h
    · rename_i heq; cases heq
    · rename_i heq
      cases heq
      obtain ⟨h1, h⟩ := bif1 h
      obtain ⟨m, hm, rfl⟩ := Option.map_eq_some_iff.1 h
      rw [unC_inv hm]
      simp only [Bool.and_eq_true, decide_eq_true_eq] at h1
      show _ = DV.int IntKind.u8 ((UInt8.ofNat _).toNat : Int) :: ofBytes m
      rw [Sx.u8_ofI h1]
    · cases h
theorem unC_ok (s : B) : unC (ofBytes s) = some s := by
  induction s with
  | nil => rfl
  | cons c s ih =>
    have hc := c.toNat_lt
    show (bif decide ((0 : Int) ≤ (c.toNat : Int)) && decide ((c.toNat : Int) < 256) then (unC (ofBytes s)).map (UInt8.ofNat (c.toNat : Int).toNat :: ·) else none) = _
    rw [Sx.leT (by omega), Sx.ltT (by omega), ih]
    simp
theorem dA_inv {n : Nat} {x : DV} {s : B} (h : dA n x = some s) : x = .agg (ofBytes s) ∧ s.length = n := by
  cases x <;> simp only [dA] at h <;> try (cases h; done)
  obtain ⟨h1, h⟩ := bif1 h
  have h2 := unC_inv h
  subst h2
  exact ⟨rfl, by rw [← ofBytes_len]; exact Nat.eq_of_beq_eq_true h1⟩
theorem dA_ok {n : Nat} {s : B} (h : s.length = n) : dA n (.agg (ofBytes s)) = some s := by
  show (bif Nat.beq (ofBytes s).length n then unC (ofBytes s) else none) = _
  rw [ofBytes_len, Sx.beqT h, cond_true, unC_ok]
theorem p_der_Put : Con P0 T0 43 P_der_Put where
  nat R xs k := by unfold P_der_Put; rw [Option.bind_assoc]; rfl
  ok xs r h := by
    unfold P_der_Put at h
    obtain ⟨p, hp, h⟩ := bnd' h
    cases h
    unfold dPut at hp
    split at hp
    · rename_i b t l
      obtain ⟨b', hb, hp⟩ := bnd' hp
      obtain ⟨t', ht, hp⟩ := bnd' hp
      obtain ⟨l', hl, hp⟩ := bnd' hp
      obtain ⟨hc, hp⟩ := bif1 hp
      cases hp
      simp only [Bool.and_eq_true] at hc
      refine c_der_Put.ok _ _ ?_
      show ((dBm b).bind fun b => (dI t).bind fun t => (dBs l).bind fun l => Bq.run some (.cnd (isTag t) (.cnd (Nat.ble l.flatten.length maxC) (.leaf (obE (b ++ elemB (b8 t.toNat) l.flatten) 0)) (.leaf (obE [] 3))) (.leaf (obE [] 2)))) = _
      rw [hb, ht, hl]
      simp only [Option.bind_some, Bq.run, hc.1, hc.2, cond_true]
    · cases hp
theorem dPut1 {b c : B} {t : Int} (hb : b.length ≤ 274877906944) (ht : isTag t = true) (hc : c.length ≤ 16777215) : dPut [.fz (byt b), .int .i64 t, .fz [[.fz (byt c)]]] = some (b, t, [c]) := by
  show ((dBm (.fz (byt b))).bind fun b => (dI (.int .i64 t)).bind fun t => (dBs (.fz [[.fz (byt c)]])).bind fun l => bif isTag t && Nat.ble l.flatten.length maxC then some (b, t, l) else none) = _
  rw [dBm_ok hb, Sx.dBs1 (by omega)]
  show (bif isTag t && Nat.ble [c].flatten.length maxC then some (b, t, [c]) else none) = _
  rw [ht, Sx.bleT (by simpa [maxC] using hc)]
  rfl
theorem natB_len (s : B) : (natB s).length ≤ s.length + 1 := by
  have := bare_len s
  unfold natB
  cases ((bare s).isEmpty || decide (128 ≤ (bare s).headD 0)) with
  | true => simpa using this
  | false => show (bare s).length ≤ _; omega
theorem c_sign_Encode : Con P0 T0 10 S_sign_Encode := coq1 fun x s hx => by
  obtain ⟨rfl, hl⟩ := dA_inv hx
  refine Lx.of_in (tab := t_sign_Encode) ⟨c_num_Nat, p_der_Put, trivial⟩ ?_
  rw [← range_ofB hl]
  refine (e_sign_Encode _ (fun i => ((s.getD i 0).toNat : Int))).trans ?_
  have l1 : (s.take 32).length = 32 := by simp; omega
  have l2 : (s.drop 32).length = 32 := by simp; omega
  have h1 := natB_len (s.take 32)
  have h2 := natB_len (s.drop 32)
  have e1 : chunks 1 1 [DV.fz (byt (natB (s.take 32)))] = [[.fz (byt (natB (s.take 32)))]] := rfl
  have n1 : [] = byt [] := rfl
  have g1 := elemB_len 2 (natB (s.take 32))
  have g2 := elemB_len 2 (natB (s.drop 32))
  have g3 := (lenB_len (natB (s.take 32)).length).1
  have g4 := (lenB_len (natB (s.drop 32)).length).1
  have i2 : isTag 2 = true := by decide
  have i48 : isTag 48 = true := by decide
  rw [range_take (by omega), range_drop (by omega), Sx.chunkB l1.symm, Sx.chunkB l2.symm, dBm_ok (by omega), Option.bind_some, e1]
  have q1 : dPut [DV.fz [], DV.int IntKind.i64 2, DV.fz [[DV.fz (byt (natB (s.take 32)))]]] = some ([], 2, [natB (s.take 32)]) := dPut1 (b := []) (by simp) i2 (by omega)
  rw [q1, Option.bind_some, dBm_ok (by omega)]
  simp only [Option.bind_some, List.nil_append, List.flatten_cons, List.flatten_nil, List.append_nil]
  have z2 : b8 (2 : Int).toNat = 2 := rfl
  rw [z2]
  have q2 : dPut [.fz (byt (elemB 2 (natB (s.take 32)))), .int .i64 2, .fz [[.fz (byt (natB (s.drop 32)))]]] = some (elemB 2 (natB (s.take 32)), 2, [natB (s.drop 32)]) := dPut1 (by omega) i2 (by omega)
  have q3 : dPut [.fz [], .int .i64 48, .fz [[.fz (byt (elemB 2 (natB (s.take 32)) ++ elemB 2 (natB (s.drop 32))))]]] = some ([], 48, [elemB 2 (natB (s.take 32)) ++ elemB 2 (natB (s.drop 32))]) := dPut1 (b := []) (by simp) i48 (by simp; omega)
  have z48 : b8 (48 : Int).toNat = 48 := rfl
  have t1 : ∀ x : DV, List.take 1 [x] = [x] := fun _ => rfl
  show _ = some (ob (encB s))
  unfold encB
  have y2 : b8 2 = 2 := rfl
  have y48 : b8 48 = 48 := rfl
  simp -implicitDefEqProofs (disch := (first | omega | (simp only [List.length_cons, List.length_append, List.length_nil, List.length_take, List.length_drop, List.length_replicate, byt_len, ofBytes_len, byts_len, Sx.tn, Sx.tn1, Sx.tnL]; done) | (simp only [List.length_cons, List.length_append, List.length_nil, List.length_take, List.length_drop, List.length_replicate, byt_len, ofBytes_len, byts_len, Sx.tn, Sx.tn1, Sx.tnL]; omega))) only [Sx.w64, Sx.wu8, Sx.idxI, Sx.upI, Sx.bleT, Sx.bleF, Sx.beqT, Sx.beqF, Sx.ltT, Sx.ltF, Sx.leT, Sx.leF, Sx.gtT, Sx.gtF, Sx.geT, Sx.geF, Sx.eqT, Sx.eqF, Sx.neT, Sx.neF, Sx.ofN, Sx.tn, Sx.tn1, cond_true, cond_false, Option.bind_some, Bool.true_and, Bool.and_true, Bool.false_and, Bool.and_false, Bool.and_self, Bool.not_true, Bool.not_false, Bool.or_false, Bool.or_true, Bool.false_or, Bool.true_or, decide_true, decide_false, Nat.zero_add, Nat.add_zero, Nat.mul_one, Nat.sub_zero, List.drop_zero, List.isEmpty_nil, Int.ofNat_eq_natCast, Sx.castN, Int.natCast_zero, Int.natCast_one, Sx.tnL, Int.sub_zero, Int.add_zero, Int.zero_add, Sx.takeAll, Sx.dropAll, List.drop_succ_cons, List.drop_zero, List.getD_cons_zero, List.getD_cons_succ, byt_len, ofBytes_len, byt_all, byt_flatten, byt_flat_len, Sx.byt_get, Sx.ofB_get, Sx.byt_take, Sx.byt_drop, Sx.byt_app, Sx.ofB_take, Sx.ofB_drop, Sx.ofB_app, Sx.ofB_snoc, Sx.chunkB, Sx.frozB, Sx.zeros, ofBytes_froz, toBytes_of, Sx.uncC, Sx.toI, Sx.toF, Sx.toS, Sx.toB, List.length_append, List.length_cons, List.length_nil, List.length_take, List.length_drop, List.length_replicate, Sx.sp11, Sx.sp11', Sx.ch1, Sx.ch2, Sx.ch3, Sx.ch4, Sx.dBs1, Sx.dBs2, Sx.dBs3, Sx.dBs4, List.flatten_cons, List.flatten_nil, List.append_nil, List.take_succ_cons, List.take_zero, Sx.l1c, Sx.l2c, Sx.l3c, Sx.l4c, Sx.frozC, q2, q3, t1, y2, y48, List.nil_append, List.append_nil]
  rfl
theorem c_curve_Order : Con P0 T0 54 S_curve_Order where
  nat R xs k := by unfold S_curve_Order; split <;> rfl
  ok xs r h := by
    unfold S_curve_Order at h
    split at h
    · cases h
      exact Lx.of_in (tab := []) trivial (e_curve_Order _)
    · cases h
theorem elts_len (l : List Elem) : (elts l).length = l.length := by simp [elts]
theorem dEl_ok {t : Int} {s : B} (h : s.length ≤ lim) : dEl (.agg [.int .i64 t, .fz (byt s)]) = some (t, s) := by
  show ((unB (byt s)).bind fun s => some (t, s)) = _
  rw [unB_ok h]
  rfl
theorem oneC_len (b : B) : (oneC b).length ≤ b.length := by
  have := takeC_len b
  unfold oneC
  cases oneE b == 0 with
  | true => exact this
  | false => simp
theorem allL_mem {b : B} {e : Elem} (h : e ∈ allL b) : isTag e.1 = true ∧ e.2.length ≤ maxC ∧ e.2.length ≤ b.length := by
  unfold allL at h
  cases hc : Nat.beq (rowN b) b.length with
  | true => rw [hc] at h; exact row_tag h
  | false => rw [hc] at h; cases h
theorem c_sign_half : Con P0 T0 49 S_sign_half := con1 fun x e hx => by
  obtain ⟨rfl, hl⟩ := dEl_inv hx
  obtain ⟨t, c⟩ := e
  have hl : c.length ≤ lim := hl
  refine Lx.of_in (tab := t_sign_half) ⟨c_num_ToNat, trivial⟩ ?_
  refine (e_sign_half _ (byt c) t).trans ?_
  rw [dB_ok hl, Option.bind_some, Sx.ofN, Int.natCast_zero]
  show _ = some (ret (.tup [.agg (arr 32 (halfC c)), .int .i64 (halfE c)]))
  rw [arr_ofB (half_len c)]
  by_cases h0 : toNatE c = 0
  · have hE : halfE c = bif Nat.blt 32 (toNatC c).length then 21 else 0 := by unfold halfE; rw [Sx.eqT h0, cond_true]
    rw [Sx.neF h0, cond_false]
    unfold halfC
    have hb : (toNatC c).length ≤ c.length := by
      unfold toNatC
      rw [h0]
      exact bare_len c
    unfold lim at hl
    rcases Nat.lt_or_ge 32 (toNatC c).length with h1 | h1
    · rw [Sx.bltT h1, cond_true] at hE
      rw [hE, byt_len, Sx.gtT (by omega), cond_true]
      rfl
    · rw [Sx.bltF h1, cond_false] at hE
      rw [hE, byt_len, Sx.gtF (by omega), cond_false]
      have z1 : List.replicate 32 (DV.int IntKind.u8 0) = ofBytes (zer 32) := rfl
      have z2 : (zer 32).length = 32 := rfl
      have hw : IntKind.i64.wrap (((32 : Nat) : Int) - ((toNatC c).length : Int)) = ((32 - (toNatC c).length : Nat) : Int) := by rw [Sx.w64 (by omega)]; omega
      rw [Sx.ofN, hw, Sx.upI (by omega), Option.bind_some, Sx.tn, byt_all, cond_true, Option.bind_some, byt_flatten]
      have hm : ((toNatC c).length.min (32 - (32 - (toNatC c).length)) * 1) = (toNatC c).length := (Nat.mul_one _).trans (Nat.min_eq_left (by omega))
      simp only [hm, z1, Nat.zero_add, Nat.mul_one, Sx.ofB_take, Sx.takeAll (Nat.le_refl _), Sx.spl_ofB, ofBytes_len, List.drop_zero]
      have hp : List.take (32 - (toNatC c).length) (zer 32) ++ toNatC c ++ List.drop (32 - (toNatC c).length + (toNatC c).length) (zer 32) = pad32 (toNatC c) := by
        unfold pad32 zer
        rw [List.take_replicate, List.drop_replicate, Nat.sub_add_cancel h1, Nat.min_eq_left (by omega), Nat.sub_self]
        simp
      have hp2 := pad_len h1
      have hp3 : List.take 32 (pad32 (toNatC c)) = pad32 (toNatC c) := Sx.takeAll (by omega)
      have hp4 : List.drop 32 (zer 32) = [] := rfl
      rw [Nat.sub_add_cancel h1] at hp ⊢
      rw [hp4, List.append_nil] at hp
      simp only [hp, hp3, hp2, hp4, List.take_zero, List.nil_append, List.append_nil, freezeWith_froz, ofBytes_froz]
      rfl
  · have hE : halfE c = toNatE c := by unfold halfE; rw [Sx.eqF h0, cond_false]
    rw [Sx.neT h0, cond_true, hE]
    unfold halfC
    rw [hE, Sx.eqF h0, cond_false]
    rfl
theorem c_sign_Decode : Con P0 T0 12 S_sign_Decode := coq1 fun x b hx => by
  have hx' := hx
  obtain ⟨rfl, hl⟩ := dB_inv hx
  refine Lx.of_in (tab := t_sign_Decode) ⟨c_der_One, c_der_All, c_sign_half, trivial⟩ ?_
  refine (e_sign_Decode _ (byt b)).trans ?_
  have ho := oneC_len b
  have hd : dB (.fz (byt (oneC b))) = some (oneC b) := dB_ok (by omega)
  show _ = some (ret (.tup [.agg (arr 64 (decC b)), .int .i64 (decE b)]))
  rw [arr_ofB (decC_len b), hx', Option.bind_some]
  have z64 : List.replicate 64 (DV.int IntKind.u8 0) = ofBytes (zer 64) := rfl
  unfold decC decE
  simp only [Sx.ofN, Sx.castN, Int.natCast_zero, hd, Option.bind_some, elts_len, z64]
  by_cases h1 : oneE b = 0
  · rw [Sx.neF h1, Sx.eqT h1, cond_false, cond_true]
    by_cases h2 : oneT b = 48
    · rw [Sx.neF h2, Sx.eqT h2, cond_false, cond_true]
      by_cases h3 : allE (oneC b) = 0
      · rw [Sx.neF h3, Sx.eqT h3, cond_false, cond_true]
        match hL : allL (oneC b) with
        | [] => rfl
        | [x] => rfl
        | x :: y :: z :: r =>
          simp only
          rw [Sx.neT (by simp only [List.length_cons]; omega)]
          rfl
        | [x, y] =>
          have mx := allL_mem (b := oneC b) (e := x) (by rw [hL]; simp)
          have my := allL_mem (b := oneC b) (e := y) (by rw [hL]; simp)
          have dx : dEl (.agg [.int .i64 x.1, .fz (byt x.2)]) = some x := dEl_ok (by omega)
          have dy : dEl (.agg [.int .i64 y.1, .fz (byt y.2)]) = some y := dEl_ok (by omega)
          have u0 : (elts [x, y])[0]? = some [.int .i64 x.1, .fz (byt x.2)] := rfl
          have u1 : (elts [x, y])[1]? = some [.int .i64 y.1, .fz (byt y.2)] := rfl
          have i0 : idx 0 [x, y].length = some 0 := rfl
          have i1 : idx 1 [x, y].length = some 1 := rfl
          have hlen : ((([x, y] : List Elem).length : Int) != 2) = false := Sx.neF rfl
          have e2 : ∀ z : Int, (z == 2) = !(z != 2) := fun z => by simp [bne]
          have e0 : ∀ z : Int, (z == 0) = !(z != 0) := fun z => by simp [bne]
          have ux : ∀ e : Elem, unc [DV.int .i64 e.1, .fz (byt e.2)] = some (.int .i64 e.1, [.fz (byt e.2)]) := fun _ => rfl
          have uy : ∀ e : Elem, unc [DV.fz (byt e.2)] = some (.fz (byt e.2), []) := fun _ => rfl
          simp -implicitDefEqProofs only [hlen, cond_false, i0, i1, u0, u1, Option.bind_some, ux, uy, Sx.toI, Sx.toF, List.isEmpty_nil, cond_true, dx, dy, e2, e0]
          cases x.1 != 2 with
          | true => rfl
          | false =>
            cases y.1 != 2 with
            | true => rfl
            | false =>
              simp only [cond_false, Bool.not_false, Bool.and_self, cond_true]
              cases hx0 : halfE x.2 != 0 with
              | true =>
                simp only [cond_true, Bool.not_true, cond_false, hx0]
              | false =>
                simp only [cond_true, Bool.not_false, cond_false]
                cases hy0 : halfE y.2 != 0 with
                | true => rfl
                | false =>
                  rw [range_ofB (half_len _), range_ofB (half_len _), Sx.ofB_app]
                  have : halfE y.2 = 0 := by simpa using hy0
                  rw [this]
                  rfl
      · rw [Sx.neT h3, Sx.eqF h3, cond_true, cond_false, Sx.eqF h3, cond_false]
    · rw [Sx.neT h2, Sx.eqF h2, cond_true, cond_false]
      rfl
  · rw [Sx.neT h1, Sx.eqF h1, cond_true, cond_false, Sx.eqF h1, cond_false]
end Go.Dv
end
section
/- What functions come to, path by path: printed by eqs2.py. -/
namespace Go.Dv
open Go.Proofs Go.Dv.S
abbrev t_bytes_Compare : List (FuncId × Spec) := [(106, S_internal_bytealg_Compare)]
abbrev t_sign_May : List (FuncId × Spec) := [(54, S_curve_Order), (55, S_bytes_Compare)]
abbrev t_chancerylaw11_SignOnce : List (FuncId × Spec) := [(12, S_sign_Decode), (10, S_sign_Encode), (15, S_sign_May)]
theorem e_bytes_Compare (Lp : LpT) (a b : List (List DV)) : run P0 T0 Lp (Lt t_bytes_Compare) nY 55 [.fz a, .fz b] =
    (Option.bind (Go.Dv.S.dB (DV.fz a)) fun v0 => (Option.bind (Go.Dv.S.dB (DV.fz b)) fun v1 => (some ((DRes.ret (DV.int (IntKind.i64) (Go.Lib.compareBytes v0 v1))), [])))) := by kernel_rfl
theorem e_sign_May_1 (Lp : LpT)  : run P0 T0 Lp (Lt t_sign_May) nY 15 [.agg (List.replicate 31 (.int .u8 0) ++ [.int .u8 1])] =
    (some ((DRes.ret (DV.bool (Bool.true))), [])) := by kernel_rfl
theorem e_sign_May_0 (Lp : LpT)  : run P0 T0 Lp (Lt t_sign_May) nY 15 [.agg (List.replicate 32 (.int .u8 0))] =
    (some ((DRes.ret (DV.bool (Bool.false))), [])) := by kernel_rfl
theorem e_chancerylaw11_SignOnce (Lp : LpT) (s : List (List DV)) : run P0 T0 Lp (Lt t_chancerylaw11_SignOnce) nY 4 [.fz s] =
    (Option.bind (Go.Dv.S.dB (DV.fz s)) fun v0 => (bif (Go.Dv.S.decE v0 != Int.ofNat 0) then (Option.bind (bif ((↑(List.getD (Go.Dv.S.decC v0) 0 0).toNat : Int) == Int.ofNat 0) then (bif ((↑(List.getD (Go.Dv.S.decC v0) 1 0).toNat : Int) == Int.ofNat 0) then (bif ((↑(List.getD (Go.Dv.S.decC v0) 2 0).toNat : Int) == Int.ofNat 0) then (bif ((↑(List.getD (Go.Dv.S.decC v0) 3 0).toNat : Int) == Int.ofNat 0) then (bif ((↑(List.getD (Go.Dv.S.decC v0) 4 0).toNat : Int) == Int.ofNat 0) then (bif ((↑(List.getD (Go.Dv.S.decC v0) 5 0).toNat : Int) == Int.ofNat 0) then (bif ((↑(List.getD (Go.Dv.S.decC v0) 6 0).toNat : Int) == Int.ofNat 0) then (bif ((↑(List.getD (Go.Dv.S.decC v0) 7 0).toNat : Int) == Int.ofNat 0) then (bif ((↑(List.getD (Go.Dv.S.decC v0) 8 0).toNat : Int) == Int.ofNat 0) then (bif ((↑(List.getD (Go.Dv.S.decC v0) 9 0).toNat : Int) == Int.ofNat 0) then (bif ((↑(List.getD (Go.Dv.S.decC v0) 10 0).toNat : Int) == Int.ofNat 0) then (bif ((↑(List.getD (Go.Dv.S.decC v0) 11 0).toNat : Int) == Int.ofNat 0) then (bif ((↑(List.getD (Go.Dv.S.decC v0) 12 0).toNat : Int) == Int.ofNat 0) then (bif ((↑(List.getD (Go.Dv.S.decC v0) 13 0).toNat : Int) == Int.ofNat 0) then (bif ((↑(List.getD (Go.Dv.S.decC v0) 14 0).toNat : Int) == Int.ofNat 0) then (bif ((↑(List.getD (Go.Dv.S.decC v0) 15 0).toNat : Int) == Int.ofNat 0) then (bif ((↑(List.getD (Go.Dv.S.decC v0) 16 0).toNat : Int) == Int.ofNat 0) then (bif ((↑(List.getD (Go.Dv.S.decC v0) 17 0).toNat : Int) == Int.ofNat 0) then (bif ((↑(List.getD (Go.Dv.S.decC v0) 18 0).toNat : Int) == Int.ofNat 0) then (bif ((↑(List.getD (Go.Dv.S.decC v0) 19 0).toNat : Int) == Int.ofNat 0) then (bif ((↑(List.getD (Go.Dv.S.decC v0) 20 0).toNat : Int) == Int.ofNat 0) then (bif ((↑(List.getD (Go.Dv.S.decC v0) 21 0).toNat : Int) == Int.ofNat 0) then (bif ((↑(List.getD (Go.Dv.S.decC v0) 22 0).toNat : Int) == Int.ofNat 0) then (bif ((↑(List.getD (Go.Dv.S.decC v0) 23 0).toNat : Int) == Int.ofNat 0) then (bif ((↑(List.getD (Go.Dv.S.decC v0) 24 0).toNat : Int) == Int.ofNat 0) then (bif ((↑(List.getD (Go.Dv.S.decC v0) 25 0).toNat : Int) == Int.ofNat 0) then (bif ((↑(List.getD (Go.Dv.S.decC v0) 26 0).toNat : Int) == Int.ofNat 0) then (bif ((↑(List.getD (Go.Dv.S.decC v0) 27 0).toNat : Int) == Int.ofNat 0) then (bif ((↑(List.getD (Go.Dv.S.decC v0) 28 0).toNat : Int) == Int.ofNat 0) then (bif ((↑(List.getD (Go.Dv.S.decC v0) 29 0).toNat : Int) == Int.ofNat 0) then (bif ((↑(List.getD (Go.Dv.S.decC v0) 30 0).toNat : Int) == Int.ofNat 0) then (bif ((↑(List.getD (Go.Dv.S.decC v0) 31 0).toNat : Int) == Int.ofNat 0) then (bif ((↑(List.getD (Go.Dv.S.decC v0) 32 0).toNat : Int) == Int.ofNat 0) then (bif ((↑(List.getD (Go.Dv.S.decC v0) 33 0).toNat : Int) == Int.ofNat 0) then (bif ((↑(List.getD (Go.Dv.S.decC v0) 34 0).toNat : Int) == Int.ofNat 0) then (bif ((↑(List.getD (Go.Dv.S.decC v0) 35 0).toNat : Int) == Int.ofNat 0) then (bif ((↑(List.getD (Go.Dv.S.decC v0) 36 0).toNat : Int) == Int.ofNat 0) then (bif ((↑(List.getD (Go.Dv.S.decC v0) 37 0).toNat : Int) == Int.ofNat 0) then (bif ((↑(List.getD (Go.Dv.S.decC v0) 38 0).toNat : Int) == Int.ofNat 0) then (bif ((↑(List.getD (Go.Dv.S.decC v0) 39 0).toNat : Int) == Int.ofNat 0) then (bif ((↑(List.getD (Go.Dv.S.decC v0) 40 0).toNat : Int) == Int.ofNat 0) then (bif ((↑(List.getD (Go.Dv.S.decC v0) 41 0).toNat : Int) == Int.ofNat 0) then (bif ((↑(List.getD (Go.Dv.S.decC v0) 42 0).toNat : Int) == Int.ofNat 0) then (bif ((↑(List.getD (Go.Dv.S.decC v0) 43 0).toNat : Int) == Int.ofNat 0) then (bif ((↑(List.getD (Go.Dv.S.decC v0) 44 0).toNat : Int) == Int.ofNat 0) then (bif ((↑(List.getD (Go.Dv.S.decC v0) 45 0).toNat : Int) == Int.ofNat 0) then (bif ((↑(List.getD (Go.Dv.S.decC v0) 46 0).toNat : Int) == Int.ofNat 0) then (bif ((↑(List.getD (Go.Dv.S.decC v0) 47 0).toNat : Int) == Int.ofNat 0) then (bif ((↑(List.getD (Go.Dv.S.decC v0) 48 0).toNat : Int) == Int.ofNat 0) then (bif ((↑(List.getD (Go.Dv.S.decC v0) 49 0).toNat : Int) == Int.ofNat 0) then (bif ((↑(List.getD (Go.Dv.S.decC v0) 50 0).toNat : Int) == Int.ofNat 0) then (bif ((↑(List.getD (Go.Dv.S.decC v0) 51 0).toNat : Int) == Int.ofNat 0) then (bif ((↑(List.getD (Go.Dv.S.decC v0) 52 0).toNat : Int) == Int.ofNat 0) then (bif ((↑(List.getD (Go.Dv.S.decC v0) 53 0).toNat : Int) == Int.ofNat 0) then (bif ((↑(List.getD (Go.Dv.S.decC v0) 54 0).toNat : Int) == Int.ofNat 0) then (bif ((↑(List.getD (Go.Dv.S.decC v0) 55 0).toNat : Int) == Int.ofNat 0) then (bif ((↑(List.getD (Go.Dv.S.decC v0) 56 0).toNat : Int) == Int.ofNat 0) then (bif ((↑(List.getD (Go.Dv.S.decC v0) 57 0).toNat : Int) == Int.ofNat 0) then (bif ((↑(List.getD (Go.Dv.S.decC v0) 58 0).toNat : Int) == Int.ofNat 0) then (bif ((↑(List.getD (Go.Dv.S.decC v0) 59 0).toNat : Int) == Int.ofNat 0) then (bif ((↑(List.getD (Go.Dv.S.decC v0) 60 0).toNat : Int) == Int.ofNat 0) then (bif ((↑(List.getD (Go.Dv.S.decC v0) 61 0).toNat : Int) == Int.ofNat 0) then (bif ((↑(List.getD (Go.Dv.S.decC v0) 62 0).toNat : Int) == Int.ofNat 0) then (bif ((↑(List.getD (Go.Dv.S.decC v0) 63 0).toNat : Int) == Int.ofNat 0) then (some (Bool.true)) else (some (Bool.false))) else (some (Bool.false))) else (some (Bool.false))) else (some (Bool.false))) else (some (Bool.false))) else (some (Bool.false))) else (some (Bool.false))) else (some (Bool.false))) else (some (Bool.false))) else (some (Bool.false))) else (some (Bool.false))) else (some (Bool.false))) else (some (Bool.false))) else (some (Bool.false))) else (some (Bool.false))) else (some (Bool.false))) else (some (Bool.false))) else (some (Bool.false))) else (some (Bool.false))) else (some (Bool.false))) else (some (Bool.false))) else (some (Bool.false))) else (some (Bool.false))) else (some (Bool.false))) else (some (Bool.false))) else (some (Bool.false))) else (some (Bool.false))) else (some (Bool.false))) else (some (Bool.false))) else (some (Bool.false))) else (some (Bool.false))) else (some (Bool.false))) else (some (Bool.false))) else (some (Bool.false))) else (some (Bool.false))) else (some (Bool.false))) else (some (Bool.false))) else (some (Bool.false))) else (some (Bool.false))) else (some (Bool.false))) else (some (Bool.false))) else (some (Bool.false))) else (some (Bool.false))) else (some (Bool.false))) else (some (Bool.false))) else (some (Bool.false))) else (some (Bool.false))) else (some (Bool.false))) else (some (Bool.false))) else (some (Bool.false))) else (some (Bool.false))) else (some (Bool.false))) else (some (Bool.false))) else (some (Bool.false))) else (some (Bool.false))) else (some (Bool.false))) else (some (Bool.false))) else (some (Bool.false))) else (some (Bool.false))) else (some (Bool.false))) else (some (Bool.false))) else (some (Bool.false))) else (some (Bool.false))) else (some (Bool.false))) fun v1 => (bif (v1) then (some ((DRes.ret (DV.bool (Bool.true))), [])) else (some ((DRes.ret (DV.bool (Bool.false))), [])))) else (Option.bind (Go.Dv.S.dA 64 (DV.agg (List.map (fun (i' : Nat) => DV.int Go.IntKind.u8 (↑(List.getD (Go.Dv.S.decC v0) i' 0).toNat : Int)) (List.range 64)))) fun v2 => (Option.bind (Option.bind (bif ((0 + List.length (Go.Dv.S.encB v2) * 1).ble (Go.Dv.ofBytes (Go.Dv.S.encB v2)).length) then (some (List.take (List.length (Go.Dv.S.encB v2) * 1) (List.drop 0 (Go.Dv.ofBytes (Go.Dv.S.encB v2))))) else none) fun v3 => (some ((List.length (Go.Dv.S.encB v2)), (v3)))) fun v4 => (Option.bind (Go.Dv.toBytes v4.snd) fun v5 => (Option.bind (bif (s.all fun (x : List Go.Dv.DV) => x.length.beq 1) then (some ((s.length), (s.flatten))) else none) fun v6 => (Option.bind (Go.Dv.toBytes v6.snd) fun v7 => (bif (v5 == v7) then (some ((DRes.ret (DV.bool (Bool.true))), [])) else (some ((DRes.ret (DV.bool (Bool.false))), [])))))))))) := by kernel_rfl
end Go.Dv
end
section
/- Signatures as bytes: what the reference reads. -/
namespace Go.Dv
open Go.Proofs Go.Dv.S
open Go.Pv (idx upTo)
end Go.Dv
end
section
/- What is read as a signature has just these bytes; any two numbers have their bytes: the laws. -/
namespace Go.Dv
open Go.Proofs Go.Dv.S
open Go.Pv (idx upTo)
theorem byteArg_byt (s : B) : byteArg (.fz (byt s)) = some s := by
  show ((bif (byt s).all fun x => Nat.beq x.length 1 then some ((byt s).length, (byt s).flatten) else none).bind fun q => toBytes q.2) = _
  rw [byt_all, cond_true, Option.bind_some, byt_flatten, toBytes_of]
theorem c_internal_bytealg_Compare : Con P0 T0 106 S_internal_bytealg_Compare := con2 fun x a y b hx hy => by
  obtain ⟨rfl, hl⟩ := dB_inv hx
  obtain ⟨rfl, hm⟩ := dB_inv hy
  refine Lx.of_in (tab := []) trivial ?_
  show (((byteArg (.fz (byt a))).bind fun a => (byteArg (.fz (byt b))).bind fun b => some (DV.int .i64 (Lib.compareBytes a b))).bind fun v => finish [] (.ret v, [])) = _
  rw [byteArg_byt, Option.bind_some, byteArg_byt]
  rfl
theorem c_bytes_Compare : Con P0 T0 55 S_bytes_Compare := con2 fun x a y b hx hy => by
  have hx' := hx
  have hy' := hy
  obtain ⟨rfl, hl⟩ := dB_inv hx
  obtain ⟨rfl, hm⟩ := dB_inv hy
  refine Lx.of_in (tab := t_bytes_Compare) ⟨c_internal_bytealg_Compare, trivial⟩ ?_
  rw [e_bytes_Compare, hx', Option.bind_some, hy']
  rfl
theorem c_sign_May : Con P0 T0 15 S_sign_May := con1 fun x b hx => by
  obtain ⟨s, hs, h⟩ := bnd' hx
  obtain ⟨rfl, hl⟩ := dA_inv hs
  refine Lx.of_in (tab := t_sign_May) ⟨c_curve_Order, c_bytes_Compare, trivial⟩ ?_
  cases h1 : s == zer 31 ++ [1] with
  | true =>
    rw [h1] at h
    cases h
    have : s = zer 31 ++ [1] := by simpa using h1
    subst this
    exact e_sign_May_1 _
  | false =>
    rw [h1] at h
    obtain ⟨h2, h⟩ := bif1 h
    cases h
    have : s = zer 32 := by simpa using h2
    subst this
    exact e_sign_May_0 _
theorem decC_bad {b : B} (h : decE b ≠ 0) : decC b = zer 64 := by
  unfold decC
  rw [Sx.eqF h, cond_false]
theorem law_SignOnce {x : DV} {b : B} (h : dB x = some b) : Lx P0 T0 4 [x] (ret (.bool true)) := by
  have h' := h
  obtain ⟨rfl, hl⟩ := dB_inv h
  refine Lx.of_in (tab := t_chancerylaw11_SignOnce) ⟨c_sign_Decode, c_sign_Encode, c_sign_May, trivial⟩ ?_
  refine (e_chancerylaw11_SignOnce _ (byt b)).trans ?_
  rw [h', Option.bind_some]
  by_cases h0 : decE b = 0
  · rw [Sx.ofN, Int.natCast_zero, Sx.neF h0, cond_false, range_ofB (decC_len b), dA_ok (decC_len b)]
    simp -implicitDefEqProofs (disch := (first | omega | (simp only [List.length_cons, List.length_append, List.length_nil, List.length_take, List.length_drop, List.length_replicate, byt_len, ofBytes_len, byts_len, Sx.tn, Sx.tn1, Sx.tnL]; done) | (simp only [List.length_cons, List.length_append, List.length_nil, List.length_take, List.length_drop, List.length_replicate, byt_len, ofBytes_len, byts_len, Sx.tn, Sx.tn1, Sx.tnL]; omega))) only [Sx.w64, Sx.wu8, Sx.idxI, Sx.upI, Sx.bleT, Sx.bleF, Sx.beqT, Sx.beqF, Sx.ltT, Sx.ltF, Sx.leT, Sx.leF, Sx.gtT, Sx.gtF, Sx.geT, Sx.geF, Sx.eqT, Sx.eqF, Sx.neT, Sx.neF, Sx.ofN, Sx.tn, Sx.tn1, cond_true, cond_false, Option.bind_some, Bool.true_and, Bool.and_true, Bool.false_and, Bool.and_false, Bool.and_self, Bool.not_true, Bool.not_false, Bool.or_false, Bool.or_true, Bool.false_or, Bool.true_or, decide_true, decide_false, Nat.zero_add, Nat.add_zero, Nat.mul_one, Nat.sub_zero, List.drop_zero, List.isEmpty_nil, Int.ofNat_eq_natCast, Sx.castN, Int.natCast_zero, Int.natCast_one, Sx.tnL, Int.sub_zero, Int.add_zero, Int.zero_add, Sx.takeAll, Sx.dropAll, List.drop_succ_cons, List.drop_zero, List.getD_cons_zero, List.getD_cons_succ, byt_len, ofBytes_len, byt_all, byt_flatten, byt_flat_len, Sx.byt_get, Sx.ofB_get, Sx.byt_take, Sx.byt_drop, Sx.byt_app, Sx.ofB_take, Sx.ofB_drop, Sx.ofB_app, Sx.ofB_snoc, Sx.chunkB, Sx.frozB, Sx.zeros, ofBytes_froz, toBytes_of, Sx.uncC, Sx.toI, Sx.toF, Sx.toS, Sx.toB, List.length_append, List.length_cons, List.length_nil, List.length_take, List.length_drop, List.length_replicate, Sx.sp11, Sx.sp11', Sx.ch1, Sx.ch2, Sx.ch3, Sx.ch4, Sx.dBs1, Sx.dBs2, Sx.dBs3, Sx.dBs4, List.flatten_cons, List.flatten_nil, List.append_nil, List.take_succ_cons, List.take_zero, Sx.l1c, Sx.l2c, Sx.l3c, Sx.l4c, Sx.frozC, dec_canon h0, toBytes_of, beq_self_eq_true]
  · rw [Sx.ofN, Int.natCast_zero, Sx.neT h0, cond_true, decC_bad h0]
    (show _ = _; kernel_rfl)
end Go.Dv
end
section
/- What is read as a signature has just its bytes, for whatever bytes of bulk at most 1048576: the row and its card. -/
namespace Go.Dv
open Go.Proofs Go.Dv.S
section
variable {H : Type} {K : Bulk H}
theorem rd_bytes {x : List DV} {d : DataW H} (r : Tr P0 26 x d) (hb : K.B d ≤ lim) : ∃ s l, x = [.fz l] ∧ dB (.fz l) = some s := by
  obtain ⟨s, h1, h2⟩ := r.bytes (K := K) (e := 5) (by kernel_rfl) (by kernel_rfl)
  exact ⟨s, _, h1, dB_ok (by omega)⟩
end
end Go.Dv
namespace Go.Proofs.YtngphbjigkgeaaaDoor.signOnce
open Go.ChangeShapes Go.WideShapes Go.ChangeAt Go.RowKit Go.Dv
theorem own : ownKnob Tryd.prog.godebug = none := by kernel_rfl
theorem law (H : Type) (ds : List (DataW H)) (hk : Rows.uptoSmall H ds = true) (trees : List DV) (h : ArgsT Tryd.prog [26] ds trees) : Lx P0 T0 4 trees (S.ret (.bool true)) := by
  obtain ⟨d1, ds, x1, trees, rfl, rfl, h1, h⟩ := h.one_inv (by kernel_rfl)
  obtain ⟨rfl, rfl⟩ := h.nil_inv
  obtain ⟨s, l, hx, h3⟩ := rd_bytes (K := bulk H) h1 (bulk_small hk (by simp))
  cases hx
  exact law_SignOnce h3
def wArgs : Array Value := #[(.slice none 0 0)]
def rArgs (H : Type) : List (DataW H) := [.nil]
set_option maxRecDepth 100000 in
theorem core (H : Type) (enc : TypeId × Value → H) (F : Stop.Interp) (W : World) (base : Nat) (args : Array Value) (ds gs : List (DataW H)) (before : List MemPlace)
    (hval : ∀ (j : Nat) t v, Tryd.f4.params[j]? = some t → args[j]? = some v → Value.okWide Tryd.prog W .any base t v)
    (hW : DataW.Whole enc Tryd.prog Tryd.f4.params.toList Rows.signOnceSpec.vars false W args.toList ds gs before) (hk : Rows.uptoSmall H (ds ++ gs) = true)
    (hg : ∃ (g : Nat) (cs : Array Value) (e : TypeId) (fr : Nat × Nat), W.heap[g]? = some (.cells cs e fr)) :
    Calls Tryd.prog 4 args W fun e W' => ∃ v, e = .returned v ∧ Rows.signOnceSpec.post enc Tryd.prog Tryd.f4 false true false false W args v W' := by
  have hgs : gs = [] := by
    obtain ⟨p, q, _, hV, _⟩ := hW
    cases gs with
    | nil => rfl
    | cons g gs => exact hV.elim
  subst hgs
  rw [List.append_nil] at hk
  have hp : Tryd.f4.params.toList = [26] := by rw [Tryd.params4]
  have two : ∃ d1, ds = [d1] := by
    obtain ⟨p, q, hA, _⟩ := hW
    have hA : DataW.TrodAll enc Tryd.prog W 0 (fun _ => true) true Tryd.f4.params.toList args.toList ds p := hA
    rw [hp] at hA
    have h2 := (trodAll_len hA).2
    match ds, h2 with
    | [d1], _ => exact ⟨d1, rfl⟩
  obtain ⟨d1, rfl⟩ := two
  refine law_core (T := T0) (T' := Tryd.T') (fun _ => rfl) (fun _ => rfl) tabOK tabD (by kernel_rfl) Tryd.func4 rfl (by kernel_rfl) (tb := 4) (by kernel_rfl) (by kernel_rfl) ?_ ?_ ?_ (s := Rows.signOnceSpec) rfl hval hW hg rfl rfl rfl fun trees ht => law H _ hk trees (by rw [hp] at ht; exact ht)
  · rw [hp]
    intro t ht
    rcases List.mem_cons.1 ht with rfl | ht
    · kernel_rfl
    cases ht
  · rw [hp]
    intro t ht
    rcases List.mem_cons.1 ht with rfl | ht
    · exact ⟨by kernel_rfl, of_decide_eq_true (by kernel_rfl)⟩
    cases ht
  · rw [hp]
    intro t ht
    rcases List.mem_cons.1 ht with rfl | ht
    · exact fun h => nomatch (show aggT P0 26 = false by kernel_rfl).symm.trans h
    cases ht
theorem laid_met (os : Os) : laidMet Tryd.prog Rows.signOnceUptoRow.laid ((laidWorld os).forCall (fun _ _ => 0) ⟨#[], wArgs, []⟩).memory :=
  laidMet_of_run' 8 (by kernel_rfl) (by kernel_rfl)
theorem reads (os : Os) {H : Type} (enc : TypeId × Value → H) : ∃ places, DataW.whole enc Tryd.prog ((laidWorld os).forCall (fun _ _ => 0) ⟨#[], wArgs, []⟩).memory Tryd.f4.params.toList Rows.signOnceSpec.vars false wArgs.toList 8 = some (rArgs H, [], places) :=
  ⟨[], by kernel_rfl⟩
set_option maxRecDepth 100000 in
theorem lifted (os : Os) (started : os.Started) (H : Type) (enc : TypeId × Value → H) (F : Stop.Interp) :
    ReturnsInHanded {} Tryd.checked os 4 .any ((Rows.OpenSpec.upto Rows.signOnceSpec).preRow enc Tryd.prog Tryd.f4 Rows.signOnceUptoRow.domain false Rows.signOnceUptoRow.laid) (((Rows.OpenSpec.upto Rows.signOnceSpec).at F).post enc Tryd.prog Tryd.f4 false true false false) := by
  obtain ⟨places, hx⟩ := reads os enc
  refine law_rowL (C := Tryd.checked) (s := Rows.OpenSpec.upto Rows.signOnceSpec) (k := Rows.uptoSmall) rfl own started (by kernel_rfl) Tryd.func4
    (witness_row_at (enc := enc) (C := Tryd.checked) false (laidWorld os) wArgs rfl (by kernel_rfl) (by kernel_rfl) (by kernel_rfl)
      (OpenSpec.preRow_of_cond 8 hx (by kernel_rfl) (fun k hk => by cases hk; kernel_rfl) (by kernel_rfl) (laid_met os))) (by kernel_rfl) (of_decide_eq_true (by kernel_rfl)) ?_
  intro W base args ds gs before hval hW hk hg
  exact core H enc F W base args ds gs before hval hW hk hg
theorem saidUpto : Rows.SignOnceUptoSaid :=
  OpenClaim.holds_of_cond 4 Tryd.f4 rfl rfl rfl rfl rfl rfl rfl ⟨rfl, rfl, rfl, rfl, rfl⟩ rfl rfl rfl rfl rfl (by kernel_rfl) Tryd.func4 (by kernel_rfl)
    (of_decide_eq_true (by kernel_rfl)) (by unfold Func.isWrapper; first | (rw [if_pos (by decide +kernel)]; kernel_rfl) | (rw [if_neg (by decide +kernel)]; exact ⟨rfl, rfl⟩))
    (fun os started H enc _ F => by rw [OpenClaim.pre_eq_preRow]; exact lifted os started H enc F)
theorem plain (f : FuncId) (fn : Func) (hf : Tryd.pinned.checked.prog.funcNamed "chancery/chancerylaw11.SignOnce" = some f) (hfn : Tryd.pinned.checked.prog.funcs[f]? = some fn) :
    true = Tryd.pinned.checked.prog.looks [] ∧ ∀ (j : Nat) t, fn.params[j]? = some t → Tryd.pinned.checked.prog.wantsStandIn t = false := by
  obtain rfl : f = 4 := Option.some.inj ((show Tryd.prog.funcNamed "chancery/chancerylaw11.SignOnce" = some 4 by kernel_rfl).symm.trans hf) |>.symm
  obtain rfl : fn = Tryd.f4 := (Option.some.inj (Tryd.func4.symm.trans hfn)).symm
  refine ⟨by kernel_rfl, fun j t ht => ?_⟩
  rw [Tryd.params4] at ht
  have hm : t ∈ [26] := by simpa using Array.mem_of_getElem? ht
  have hall : ([26].all fun u => !Tryd.prog.wantsStandIn u) = true := by kernel_rfl
  exact (show Tryd.prog.wantsStandIn t = false by simpa using List.all_eq_true.1 hall t hm)
theorem cardUpto : Rows.SignOnceUptoCardSaid :=
  Claim7.holds_tied_plain_at .later [] _ _ _ _ saidUpto (fun _ h => by cases h) (by kernel_rfl) (fun _ h => by cases h) signOnceUpto_row_tie rfl ⟨rfl, rfl⟩ (by kernel_rfl) rfl plain (by kernel_rfl)
end Go.Proofs.YtngphbjigkgeaaaDoor.signOnce
end

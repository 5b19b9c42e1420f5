/- What the functions come to that the statement's law runs, and the statement itself. Parts: CoG, CtH, CtI, EqL, CoV, CoW, CoX, CoY, CoZ, EqM, LwA, RwF, RwCrlFinds. -/
import Derived.KernelRfl
import Derived.Test.YtngphbjigkgeaaaDoorCrlFindsA
set_option linter.unusedVariables false
set_option linter.unusedSimpArgs false
set_option linter.unusedSectionVars false
section
namespace Go.Dv
open Go.Proofs Go.Dv.S
open Go.Pv (idx upTo)
theorem byts_len (l : List B) : (byts l).length = l.length := by simp [byts]
theorem c_slices_Clone_byte_byte : Con P0 T0 76 S_slices_Clone_byte_byte := coq1 fun x s hx => by
 obtain ⟨rfl, hl⟩ := dB_inv hx
 unfold lim at hl
 refine Lx.of_in (tab := t_slices_Clone_byte_byte) trivial ?_
 rw [e_slices_Clone_byte_byte]
 cases s with
 | nil => exact amb_self _
 | cons b s =>
  simp only [List.length_cons] at hl
  show (Option.bind (bif _ then _ else _) _) = _
  simp (disch := (first | omega | (simp only [List.length_cons, List.length_append, List.length_nil, List.length_take, List.length_drop, List.length_replicate, byt_len, ofBytes_len, byts_len, Sx.tn, Sx.tn1, Sx.tnL]; done) | (simp only [List.length_cons, List.length_append, List.length_nil, List.length_take, List.length_drop, List.length_replicate, byt_len, ofBytes_len, byts_len, Sx.tn, Sx.tn1, Sx.tnL]; omega))) only [repeatCells, List.nil_append, Sx.w64, Sx.wu8, Sx.idxI, Sx.upI, Sx.bleT, Sx.bleF, Sx.beqT, Sx.beqF, Sx.ltT, Sx.ltF, Sx.leT, Sx.leF, Sx.gtT, Sx.gtF, Sx.geT, Sx.geF, Sx.eqT, Sx.eqF, Sx.neT, Sx.neF, Sx.ofN, Sx.tn, Sx.tn1, cond_true, cond_false, Option.bind_some, Bool.true_and, Bool.and_true, Bool.false_and, Bool.and_false, Bool.and_self, Bool.not_true, Bool.not_false, Bool.or_false, Bool.or_true, Bool.false_or, Bool.true_or, decide_true, decide_false, Nat.zero_add, Nat.add_zero, Nat.mul_one, Nat.sub_zero, List.drop_zero, List.isEmpty_nil, Int.ofNat_eq_natCast, Sx.castN, Int.natCast_zero, Int.natCast_one, Sx.tnL, Int.sub_zero, Int.add_zero, Int.zero_add, Sx.takeAll, Sx.dropAll, List.drop_succ_cons, List.drop_zero, List.getD_cons_zero, List.getD_cons_succ, byt_len, ofBytes_len, byt_all, byt_flatten, byt_flat_len, Sx.byt_get, Sx.ofB_get, Sx.byt_take, Sx.byt_drop, Sx.byt_app, Sx.ofB_take, Sx.ofB_drop, Sx.ofB_app, Sx.ofB_snoc, Sx.chunkB, Sx.frozB, Sx.zeros, ofBytes_froz, toBytes_of, Sx.uncC, Sx.toI, Sx.toF, Sx.toS, Sx.toB, List.length_append, List.length_cons, List.length_nil, List.length_take, List.length_drop, List.length_replicate]
  exact ob_eq rfl
end Go.Dv
end
section
namespace Go.Dv
namespace S
def arr (n : Nat) (s : B) : List DV := (List.range n).map fun i => .int .u8 (s.getD i 0).toNat
def S_internal_bytealg_Compare : Spec := sp2 dB dB fun a b => .int .i64 (Lib.compareBytes a b)
def S_bytes_Compare : Spec := S_internal_bytealg_Compare
def S_chancerylaw11_names : Spec := fun R xs k => match xs with
 | [] => k (ret (.bool true))
 | _ => none
end S
end Go.Dv
end
section
namespace Go.Dv
namespace S
def findE : List Entry → List UInt8 → Option Entry
 | [], _ => none
 | e :: r, s => bif e.1 == s then some e else findE r s
def lessB (a b : B) : Bool := bif a.length == b.length then decide (Lib.compareBytes a b < 0) else decide (a.length < b.length)
def entO (e : Entry) : DV := .agg [.sl 0 0 e.1.length 0 1, .int .i64 e.2.1, .int .i64 e.2.2]
def entH (e : Entry) : DHeap := [newBlk (ofBytes e.1) 5]
def foE (o : Option Entry) : DRes × DHeap := (.ret (.tup [entO (o.getD ([], 0, 0)), .bool o.isSome]), entH (o.getD ([], 0, 0)))
def found (o : Option Entry) : Br := .opt o (.leaf (.tup [.agg [.fz [], .int .i64 0, .int .i64 0], .bool false])) fun e => .leaf (.tup [entV e, .bool true])
def S_bytes_Equal : Spec := sp2 dB dB fun a b => .bool (a == b)
def S_crl_copied : Spec := sq1 dEnt fun e => .leaf (.ret (entO e), entH e)
def dLst : DV → Option (Name × List Entry)
 | .agg cs => shapeK kList cs fun cs => (cs[0]? : Option DV).bind fun n => (dN n).bind fun n => (cs[24]? : Option DV).bind fun x => (dE x).bind fun es => some (n, es)
 | _ => none
def S_chancerylaw18_copied : Spec := fun R xs k => (l1 xs).bind fun x => (dLst x).bind fun _ => k (ret x)
def S_crl_Find : Spec := sq2 dLst dB fun l s => .leaf (foE (findE l.2 s))
def S_chanceryref18_Find : Spec := sq2 dE dB fun es s => .leaf (ret (.tup [entV ((findE es s).getD ([], 0, 0)), .bool (findE es s).isSome]))
def S_chancerylaw18_rows : Spec := sq1 dE fun es => .leaf (ret (.fz (es.map ent)))
def S_chanceryref18_SameEntries : Spec := sq2 dE dE fun a b => .leaf (ret (.bool (a == b)))
def S_chanceryref12_Alike : Spec := sp2 dN dN fun a b => .bool (a == b)
noncomputable def sameV (x y : DV) : Option Unit := open Classical in if x = y then some () else none
noncomputable def S_chanceryref18_Same : Spec := fun R xs k => (l2 xs).bind fun p => (sameV p.1 p.2).bind fun _ => (dLst p.1).bind fun _ => k (ret (.bool true))
def S_crl_serial_less : Spec := sp2 dB dB fun a b => .bool (lessB a b)
def S_crl_Less : Spec := S_crl_serial_less
def S_chanceryref18_Less : Spec := S_crl_serial_less
def dN0 : DV → Option Unit
 | .fz l => bif l.isEmpty then some () else none
 | _ => none
def S_name_May : Spec := sp1 dN0 fun _ => .bool true
def isZ : DV → Bool
 | .int _ n => n == 0
 | .fz l => l.isEmpty
 | _ => false
def dL0 : DV → Option Unit
 | .agg cs => shapeK kList cs fun cs => bif cs.all isZ then some () else none
 | _ => none
def S_crl_May : Spec := sp1 dL0 fun _ => .bool true
def S_crl_isTime : Spec := sp1 dI fun t => .bool (decide (t ≥ -631152000) && decide (t ≤ 253402300799))
def S_chancerylaw18_names : Spec := S_chancerylaw11_names
def S_chancerylaw18_works : Spec := S_chancerylaw11_names
end S
open S
theorem dLst_inv {x : DV} {l : Name × List Entry} (h : dLst x = some l) : ∃ m a b u c es, x = .agg (lstD m a b u c es) ∧ dN (.fz m) = some l.1 ∧ dE (.fz es) = some l.2 := by
 cases x <;> simp only [dLst] at h <;> try (cases h; done)
 obtain ⟨hty, h⟩ := shapeK_inv h
 obtain ⟨m, a, b, u, c, es, rfl⟩ := lst_form hty
 obtain ⟨n, hn, h⟩ := bnd' h
 obtain ⟨n', hn', h⟩ := bnd' h
 obtain ⟨x, hx, h⟩ := bnd' h
 obtain ⟨es', hes, h⟩ := bnd' h
 cases h
 have hn : some (DV.fz m) = some n := hn
 cases hn
 have hx : some (DV.fz es) = some x := hx
 cases hx
 exact ⟨m, a, b, u, c, es, rfl, hn', hes⟩
end Go.Dv
end
section
namespace Go.Dv
open Go.Proofs Go.Dv.S
noncomputable abbrev t_bytes_Compare : List (FuncId × Spec) := [(106, S_internal_bytealg_Compare)]
noncomputable abbrev t_bytes_Equal : List (FuncId × Spec) := []
noncomputable abbrev t_crl_copied : List (FuncId × Spec) := [(76, S_slices_Clone_byte_byte)]
noncomputable abbrev t_crl_Find : List (FuncId × Spec) := [(56, S_bytes_Equal), (57, S_crl_copied)]
noncomputable abbrev t_chanceryref18_Find : List (FuncId × Spec) := []
noncomputable abbrev t_chancerylaw18_rows : List (FuncId × Spec) := []
noncomputable abbrev t_chancerylaw18_copied : List (FuncId × Spec) := [(38, S_chancerylaw18_rows)]
noncomputable abbrev t_chanceryref18_SameEntries : List (FuncId × Spec) := []
noncomputable abbrev t_chanceryref12_Alike : List (FuncId × Spec) := []
noncomputable abbrev t_chanceryref18_Same : List (FuncId × Spec) := [(58, S_chanceryref12_Alike), (19, S_chanceryref18_SameEntries)]
noncomputable abbrev t_crl_serial_less : List (FuncId × Spec) := [(55, S_bytes_Compare)]
noncomputable abbrev t_crl_Less : List (FuncId × Spec) := [(59, S_crl_serial_less)]
noncomputable abbrev t_chanceryref18_Less : List (FuncId × Spec) := []
noncomputable abbrev t_name_May : List (FuncId × Spec) := []
noncomputable abbrev t_crl_isTime : List (FuncId × Spec) := []
noncomputable abbrev t_crl_May : List (FuncId × Spec) := [(107, S_name_May), (108, S_crl_isTime)]
noncomputable abbrev t_chancerylaw18_names : List (FuncId × Spec) := []
noncomputable abbrev t_chancerylaw18_works : List (FuncId × Spec) := [(60, S_crl_May), (21, S_crl_Less), (61, S_chancerylaw18_names)]
theorem e_bytes_Compare_ (Lp : LpT) (a b : List (List DV)) : run P0 T0 Lp (Lt t_bytes_Compare) nY 55 [.fz a, .fz b] =
  (Option.bind (Go.Dv.S.dB (DV.fz a)) fun v0 => (Option.bind (Go.Dv.S.dB (DV.fz b)) fun v1 => (some ((DRes.ret (DV.int (IntKind.i64) (Go.Lib.compareBytes v0 v1))), [])))) := by kernel_rfl
theorem e_bytes_Equal (Lp : LpT) (a b : List (List DV)) : run P0 T0 Lp (Lt t_bytes_Equal) nY 56 [.fz a, .fz b] =
  (Option.bind (bif (a.all fun (x : List Go.Dv.DV) => x.length.beq 1) then (some ((a.length), (a.flatten))) else none) fun v0 => (Option.bind (Go.Dv.toBytes v0.snd) fun v1 => (Option.bind (bif (b.all fun (x : List Go.Dv.DV) => x.length.beq 1) then (some ((b.length), (b.flatten))) else none) fun v2 => (Option.bind (Go.Dv.toBytes v2.snd) fun v3 => (some ((DRes.ret (DV.bool (v1 == v3))), [])))))) := by kernel_rfl
theorem e_crl_copied (Lp : LpT) (a : List (List DV)) (t u : Int) : run P0 T0 Lp (Lt t_crl_copied) nY 57 [.agg [.fz a, .int .i64 t, .int .i64 u]] =
  (Option.bind (Go.Dv.S.dB (DV.fz a)) fun v0 => (Option.bind (bif ((Go.Dv.ofBytes v0).length.beq ((v0.length + 0) * 1)) then (Option.bind (bif ((Go.Dv.ofBytes v0).all Go.Dv.froz) then (some (Go.Dv.ofBytes v0)) else none) fun v1 => (some ([(DV.sl (0) (0) (v0.length) (0) (1)), (DV.int (IntKind.i64) (t)), (DV.int (IntKind.i64) (u))], [(DBlk.mk (v1) (5) (Bool.true) (Bool.false) (Bool.true) none)]))) else none) fun v2 => (some ((DRes.ret (DV.agg (List.take 3 v2.fst))), (v2.snd))))) := by kernel_rfl
theorem e_crl_Find (Lp : LpT) (m es s : List (List DV)) (a b c : Int) (u : Nat → Int) : run P0 T0 Lp (Lt t_crl_Find) nY 17 [.agg (lstD m a b u c es), .fz s] =
  (Lp _ (tdF T0 17 none 0) ((bodyF P0 T0 Lp (Lt t_crl_Find) nY [] 17 none 0 : FX (DRes × DHeap))) (kontF P0 T0 Lp (Lt t_crl_Find) nY [] 17 0) (Go.Dv.S.stH 23 [(1, (DSlot.v (DV.fz (s)))), (4, (DSlot.lp (4) (0))), (9, (DSlot.v (DV.fz (es)))), (10, (DSlot.v (DV.int (IntKind.i64) ((↑es.length : Int))))), (11, (DSlot.v (DV.int (IntKind.i64) (0 : Int))))] [(4, (DBox.loc [DV.nils, (DV.int (IntKind.i64) (0 : Int)), (DV.int (IntKind.i64) (0 : Int))] (49)))] []) []) := by kernel_rfl
theorem b_crl_Find_0 (Lp : LpT) (s es : List (List DV)) (n i : Int) (k : KX (DRes × DHeap)) : bodyF P0 T0 Lp (Lt t_crl_Find) nY [] 17 none 0 (stD 23 [(1, .v (.fz s)), (4, .lp 4 0), (9, .v (.fz es)), (10, .v (.int .i64 n)), (11, .v (.int .i64 i))] [(4, .loc [.nils, .int .i64 0, .int .i64 0] 49)]) [] k =
  (bif (decide (i < n)) then (Option.bind (Go.Pv.idx i es.length) fun v0 => (Option.bind (es)[(v0)]? fun v1 => (Option.bind (Go.Dv.unc v1) fun v2 => (Option.bind (Go.Dv.toFz v2.fst) fun v3 => (Option.bind (Go.Dv.unc v2.snd) fun v4 => (Option.bind (Go.Dv.toInt Go.IntKind.i64 v4.fst) fun v5 => (Option.bind (Go.Dv.unc v4.snd) fun v6 => (Option.bind (Go.Dv.toInt Go.IntKind.i64 v6.fst) fun v7 => (bif (v6.snd.isEmpty) then (Option.bind (Go.Dv.S.dB (DV.fz v3)) fun v8 => (Option.bind (Go.Dv.S.dB (DV.fz s)) fun v9 => (bif (v8 == v9) then (Option.bind (Go.Dv.S.dEnt (DV.agg [DV.fz v3, DV.int Go.IntKind.i64 v5, DV.int Go.IntKind.i64 v7])) fun v10 => (k DExit.ret (Go.Dv.S.stH 23 [(1, (DSlot.v (DV.fz (s)))), (4, (DSlot.lp (4) (0))), (5, (DSlot.v (DV.bool (Bool.true)))), (7, (DSlot.lp (7) (0))), (9, (DSlot.v (DV.fz (es)))), (10, (DSlot.v (DV.int (IntKind.i64) (n)))), (11, (DSlot.v (DV.int (IntKind.i64) (i)))), (12, (DSlot.v (DV.bool (decide (i < n))))), (13, (DSlot.v (DV.fp (Bool.true) [(DV.fz (v3)), (DV.int (IntKind.i64) (v5)), (DV.int (IntKind.i64) (v7))]))), (14, (DSlot.v (DV.agg [(DV.fz (v3)), (DV.int (IntKind.i64) (v5)), (DV.int (IntKind.i64) (v7))]))), (15, (DSlot.lp (7) (0))), (16, (DSlot.v (DV.fz (v3)))), (17, (DSlot.v (DV.fz (s)))), (18, (DSlot.v (DV.bool (v8 == v9)))), (19, (DSlot.v (DV.agg [(DV.fz (v3)), (DV.int (IntKind.i64) (v5)), (DV.int (IntKind.i64) (v7))]))), (20, (DSlot.v (DV.agg [(DV.sl (0) (0) (v10.fst.length) (0) (1)), (DV.int (IntKind.i64) (v10.snd.fst)), (DV.int (IntKind.i64) (v10.snd.snd))])))] [(4, (DBox.loc [(DV.sl (0) (0) (v10.fst.length) (0) (1)), (DV.int (IntKind.i64) (v10.snd.fst)), (DV.int (IntKind.i64) (v10.snd.snd))] (49))), (7, (DBox.loc [(DV.fz (v3)), (DV.int (IntKind.i64) (v5)), (DV.int (IntKind.i64) (v7))] (49)))] [(DBlk.mk (Go.Dv.ofBytes v10.fst) (5) (Bool.true) (Bool.false) (Bool.true) none)]) [])) else (k DExit.normal (Go.Dv.S.stH 23 [(1, (DSlot.v (DV.fz (s)))), (4, (DSlot.lp (4) (0))), (7, (DSlot.lp (7) (0))), (9, (DSlot.v (DV.fz (es)))), (10, (DSlot.v (DV.int (IntKind.i64) (n)))), (11, (DSlot.v (DV.int (IntKind.i64) (IntKind.i64.wrap (i + Int.ofNat 1))))), (12, (DSlot.v (DV.bool (decide (i < n))))), (13, (DSlot.v (DV.fp (Bool.true) [(DV.fz (v3)), (DV.int (IntKind.i64) (v5)), (DV.int (IntKind.i64) (v7))]))), (14, (DSlot.v (DV.agg [(DV.fz (v3)), (DV.int (IntKind.i64) (v5)), (DV.int (IntKind.i64) (v7))]))), (15, (DSlot.lp (7) (0))), (16, (DSlot.v (DV.fz (v3)))), (17, (DSlot.v (DV.fz (s)))), (18, (DSlot.v (DV.bool (v8 == v9)))), (21, (DSlot.v (DV.int (IntKind.i64) (IntKind.i64.wrap (i + Int.ofNat 1)))))] [(4, (DBox.loc [DV.nils, (DV.int (IntKind.i64) (0 : Int)), (DV.int (IntKind.i64) (0 : Int))] (49))), (7, (DBox.loc [(DV.fz (v3)), (DV.int (IntKind.i64) (v5)), (DV.int (IntKind.i64) (v7))] (49)))] []) [])))) else none))))))))) else (k (DExit.exit (0)) (Go.Dv.S.stH 23 [(1, (DSlot.v (DV.fz (s)))), (4, (DSlot.lp (4) (0))), (9, (DSlot.v (DV.fz (es)))), (10, (DSlot.v (DV.int (IntKind.i64) (n)))), (11, (DSlot.v (DV.int (IntKind.i64) (i)))), (12, (DSlot.v (DV.bool (decide (i < n)))))] [(4, (DBox.loc [DV.nils, (DV.int (IntKind.i64) (0 : Int)), (DV.int (IntKind.i64) (0 : Int))] (49)))] []) [])) := by kernel_rfl
theorem x_crl_Find_0r (Lp : LpT) (n : Nat) (t u : Int) (cs : List DV) : kontF P0 T0 Lp (Lt t_crl_Find) nY [] 17 0 (.ret) (stH 23 [(4, .lp 4 0), (5, .v (.bool true))] [(4, .loc [.sl 0 0 n 0 1, .int .i64 t, .int .i64 u] 49)] [newBlk cs 5]) [] =
  (Option.bind (bif (cs.length.beq ((n + 0) * 1)) then (Option.bind (bif (cs.all Go.Dv.froz) then (some (cs)) else none) fun v0 => (some ([(DV.sl (0) (0) (n) (0) (1)), (DV.int (IntKind.i64) (t)), (DV.int (IntKind.i64) (u)), (DV.bool (Bool.true))], [(DBlk.mk (v0) (5) (Bool.true) (Bool.false) (Bool.true) none)]))) else none) fun v1 => (some ((DRes.ret (DV.tup (DV.agg (List.take 3 v1.fst) :: Go.Dv.unflat [Go.Dv.OwnT.one none] (List.drop 3 v1.fst)))), (v1.snd)))) := by kernel_rfl
theorem e_chanceryref18_Find (Lp : LpT) (es s : List (List DV)) : run P0 T0 Lp (Lt t_chanceryref18_Find) nY 18 [.fz es, .fz s] =
  (Lp _ (tdF T0 18 none 0) ((bodyF P0 T0 Lp (Lt t_chanceryref18_Find) nY [] 18 none 0 : FX (DRes × DHeap))) (kontF P0 T0 Lp (Lt t_chanceryref18_Find) nY [] 18 0) (Go.Dv.S.stH 27 [(0, (DSlot.v (DV.fz (es)))), (1, (DSlot.v (DV.fz (s)))), (4, (DSlot.lp (4) (0))), (6, (DSlot.v (DV.int (IntKind.i64) (0 : Int))))] [(4, (DBox.loc [DV.nils, (DV.int (IntKind.i64) (0 : Int)), (DV.int (IntKind.i64) (0 : Int))] (49)))] []) []) := by kernel_rfl
theorem b_chanceryref18_Find_0 (Lp : LpT) (es s : List (List DV)) (i : Int) (k : KX (DRes × DHeap)) : bodyF P0 T0 Lp (Lt t_chanceryref18_Find) nY [] 18 none 0 (stD 27 [(0, .v (.fz es)), (1, .v (.fz s)), (4, .lp 4 0), (6, .v (.int .i64 i))] [(4, .loc [.nils, .int .i64 0, .int .i64 0] 49)]) [] k =
  (bif (decide (i < (↑es.length : Int))) then (Option.bind (Go.Pv.idx i es.length) fun v0 => (Option.bind (es)[(v0)]? fun v1 => (Option.bind (Go.Dv.unc v1) fun v2 => (Option.bind (Go.Dv.toFz v2.fst) fun v3 => (Option.bind (Go.Dv.unc v2.snd) fun v4 => (Option.bind (Go.Dv.toInt Go.IntKind.i64 v4.fst) fun v5 => (Option.bind (Go.Dv.unc v4.snd) fun v6 => (Option.bind (Go.Dv.toInt Go.IntKind.i64 v6.fst) fun v7 => (bif (v6.snd.isEmpty) then (Option.bind (bif (v3.all fun (x : List Go.Dv.DV) => x.length.beq 1) then (some ((v3.length), (v3.flatten))) else none) fun v8 => (Option.bind (Go.Dv.toBytes v8.snd) fun v9 => (Option.bind (bif (s.all fun (x : List Go.Dv.DV) => x.length.beq 1) then (some ((s.length), (s.flatten))) else none) fun v10 => (Option.bind (Go.Dv.toBytes v10.snd) fun v11 => (bif (v9 == v11) then (Option.bind (Go.Pv.idx i es.length) fun v12 => (Option.bind (es)[(v12)]? fun v13 => (Option.bind (Go.Dv.unc v13) fun v14 => (Option.bind (Go.Dv.toFz v14.fst) fun v15 => (Option.bind (Go.Dv.unc v14.snd) fun v16 => (Option.bind (Go.Dv.toInt Go.IntKind.i64 v16.fst) fun v17 => (Option.bind (Go.Dv.unc v16.snd) fun v18 => (Option.bind (Go.Dv.toInt Go.IntKind.i64 v18.fst) fun v19 => (bif (v18.snd.isEmpty) then (k DExit.ret (Go.Dv.S.stH 27 [(0, (DSlot.v (DV.fz (es)))), (1, (DSlot.v (DV.fz (s)))), (4, (DSlot.lp (4) (0))), (5, (DSlot.v (DV.bool (Bool.true)))), (6, (DSlot.v (DV.int (IntKind.i64) (i)))), (7, (DSlot.v (DV.int (IntKind.i64) (i)))), (8, (DSlot.v (DV.fz (es)))), (9, (DSlot.v (DV.int (IntKind.i64) ((↑es.length : Int))))), (10, (DSlot.v (DV.bool (decide (i < (↑es.length : Int)))))), (13, (DSlot.v (DV.fz (es)))), (14, (DSlot.v (DV.int (IntKind.i64) (i)))), (15, (DSlot.v (DV.fp (Bool.true) [(DV.fz (v3)), (DV.int (IntKind.i64) (v5)), (DV.int (IntKind.i64) (v7))]))), (16, (DSlot.v (DV.fp (Bool.true) [(DV.fz (v3)), (DV.int (IntKind.i64) (v5)), (DV.int (IntKind.i64) (v7))]))), (17, (DSlot.v (DV.fz (v3)))), (18, (DSlot.v (DV.str (v9)))), (19, (DSlot.v (DV.fz (s)))), (20, (DSlot.v (DV.str (v11)))), (21, (DSlot.v (DV.bool (v9 == v11)))), (22, (DSlot.v (DV.fz (es)))), (23, (DSlot.v (DV.int (IntKind.i64) (i)))), (24, (DSlot.v (DV.fp (Bool.true) [(DV.fz (v15)), (DV.int (IntKind.i64) (v17)), (DV.int (IntKind.i64) (v19))]))), (25, (DSlot.v (DV.agg [(DV.fz (v15)), (DV.int (IntKind.i64) (v17)), (DV.int (IntKind.i64) (v19))])))] [(4, (DBox.loc [(DV.fz (v15)), (DV.int (IntKind.i64) (v17)), (DV.int (IntKind.i64) (v19))] (49)))] []) []) else none))))))))) else (k DExit.normal (Go.Dv.S.stH 27 [(0, (DSlot.v (DV.fz (es)))), (1, (DSlot.v (DV.fz (s)))), (4, (DSlot.lp (4) (0))), (6, (DSlot.v (DV.int (IntKind.i64) (IntKind.i64.wrap (i + Int.ofNat 1))))), (7, (DSlot.v (DV.int (IntKind.i64) (i)))), (8, (DSlot.v (DV.fz (es)))), (9, (DSlot.v (DV.int (IntKind.i64) ((↑es.length : Int))))), (10, (DSlot.v (DV.bool (decide (i < (↑es.length : Int)))))), (11, (DSlot.v (DV.int (IntKind.i64) (i)))), (12, (DSlot.v (DV.int (IntKind.i64) (IntKind.i64.wrap (i + Int.ofNat 1))))), (13, (DSlot.v (DV.fz (es)))), (14, (DSlot.v (DV.int (IntKind.i64) (i)))), (15, (DSlot.v (DV.fp (Bool.true) [(DV.fz (v3)), (DV.int (IntKind.i64) (v5)), (DV.int (IntKind.i64) (v7))]))), (16, (DSlot.v (DV.fp (Bool.true) [(DV.fz (v3)), (DV.int (IntKind.i64) (v5)), (DV.int (IntKind.i64) (v7))]))), (17, (DSlot.v (DV.fz (v3)))), (18, (DSlot.v (DV.str (v9)))), (19, (DSlot.v (DV.fz (s)))), (20, (DSlot.v (DV.str (v11)))), (21, (DSlot.v (DV.bool (v9 == v11))))] [(4, (DBox.loc [DV.nils, (DV.int (IntKind.i64) (0 : Int)), (DV.int (IntKind.i64) (0 : Int))] (49)))] []) [])))))) else none))))))))) else (k (DExit.exit (0)) (Go.Dv.S.stH 27 [(0, (DSlot.v (DV.fz (es)))), (1, (DSlot.v (DV.fz (s)))), (4, (DSlot.lp (4) (0))), (6, (DSlot.v (DV.int (IntKind.i64) (i)))), (7, (DSlot.v (DV.int (IntKind.i64) (i)))), (8, (DSlot.v (DV.fz (es)))), (9, (DSlot.v (DV.int (IntKind.i64) ((↑es.length : Int))))), (10, (DSlot.v (DV.bool (decide (i < (↑es.length : Int))))))] [(4, (DBox.loc [DV.nils, (DV.int (IntKind.i64) (0 : Int)), (DV.int (IntKind.i64) (0 : Int))] (49)))] []) [])) := by kernel_rfl
theorem e_chancerylaw18_rows (Lp : LpT) (es : List (List DV)) : run P0 T0 Lp (Lt t_chancerylaw18_rows) nY 38 [.fz es] =
  (Lp _ (tdF T0 38 none 0) ((bodyF P0 T0 Lp (Lt t_chancerylaw18_rows) nY [] 38 none 0 : FX (DRes × DHeap))) (kontF P0 T0 Lp (Lt t_chancerylaw18_rows) nY [] 38 0) (Go.Dv.S.stH 33 [(0, (DSlot.v (DV.fz (es)))), (3, (DSlot.v (DV.sl (0) (0) (0) (0) (3)))), (4, (DSlot.v (DV.int (IntKind.i64) (0 : Int))))] [] [(DBlk.mk [] (49) (Bool.true) (Bool.false) (Bool.true) none)]) []) := by kernel_rfl
theorem b_chancerylaw18_rows_0 (Lp : LpT) (es : List (List DV)) (i : Int) (n : Nat) (cs : List DV) (k : KX (DRes × DHeap)) : bodyF P0 T0 Lp (Lt t_chancerylaw18_rows) nY [] 38 none 0 (stH 33 [(0, .v (.fz es)), (3, .v (.sl 0 0 n 0 3)), (4, .v (.int .i64 i))] [] [newBlk cs 49]) [] k =
  (bif (decide (i < (↑es.length : Int))) then (Option.bind (Go.Pv.idx i es.length) fun v0 => (Option.bind (es)[(v0)]? fun v1 => (Option.bind (Go.Dv.unc v1) fun v2 => (Option.bind (Go.Dv.toFz v2.fst) fun v3 => (Option.bind (Go.Dv.unc v2.snd) fun v4 => (Option.bind (Go.Dv.toInt Go.IntKind.i64 v4.fst) fun v5 => (Option.bind (Go.Dv.unc v4.snd) fun v6 => (Option.bind (Go.Dv.toInt Go.IntKind.i64 v6.fst) fun v7 => (bif (v6.snd.isEmpty) then (Option.bind (bif (v3.all fun (x : List Go.Dv.DV) => x.length.beq 1) then (some ((v3.length), (v3.flatten))) else none) fun v8 => (bif ((((((((v8.fst * 1).ble 140737488355328) && (v8.fst.ble 9223372036854775807)) && (Bool.true)) && (Bool.true)) && (Bool.true)) && (Bool.true)) && (Bool.true)) then (bif (v8.fst.beq 0) then (Option.bind (Go.Pv.idx i es.length) fun v9 => (Option.bind (es)[(v9)]? fun v10 => (Option.bind (Go.Dv.unc v10) fun v11 => (Option.bind (Go.Dv.toFz v11.fst) fun v12 => (Option.bind (Go.Dv.unc v11.snd) fun v13 => (Option.bind (Go.Dv.toInt Go.IntKind.i64 v13.fst) fun v14 => (Option.bind (Go.Dv.unc v13.snd) fun v15 => (Option.bind (Go.Dv.toInt Go.IntKind.i64 v15.fst) fun v16 => (bif (v15.snd.isEmpty) then (Option.bind (Go.Pv.idx i es.length) fun v17 => (Option.bind (es)[(v17)]? fun v18 => (Option.bind (Go.Dv.unc v18) fun v19 => (Option.bind (Go.Dv.toFz v19.fst) fun v20 => (Option.bind (Go.Dv.unc v19.snd) fun v21 => (Option.bind (Go.Dv.toInt Go.IntKind.i64 v21.fst) fun v22 => (Option.bind (Go.Dv.unc v21.snd) fun v23 => (Option.bind (Go.Dv.toInt Go.IntKind.i64 v23.fst) fun v24 => (bif (v23.snd.isEmpty) then (bif (((((n + 1) * 40).ble 140737488355328) && ((n + 1).ble 9223372036854775807)) && (Bool.true)) then (bif ((n * 3).beq cs.length) then (k DExit.normal (Go.Dv.S.stH 33 [(0, (DSlot.v (DV.fz (es)))), (3, (DSlot.v (DV.sl (3) (0) (n + 1) (0) (3)))), (4, (DSlot.v (DV.int (IntKind.i64) (IntKind.i64.wrap (i + Int.ofNat 1))))), (5, (DSlot.v (DV.int (IntKind.i64) (i)))), (6, (DSlot.v (DV.fz (es)))), (7, (DSlot.v (DV.int (IntKind.i64) ((↑es.length : Int))))), (8, (DSlot.v (DV.bool (decide (i < (↑es.length : Int)))))), (9, (DSlot.v (DV.int (IntKind.i64) (i)))), (10, (DSlot.v (DV.int (IntKind.i64) (IntKind.i64.wrap (i + Int.ofNat 1))))), (11, (DSlot.v (DV.sl (0) (0) (n) (0) (3)))), (12, (DSlot.v (DV.sl (1) (0) (0) (0) (1)))), (13, (DSlot.v (DV.fz (es)))), (14, (DSlot.v (DV.int (IntKind.i64) (i)))), (15, (DSlot.v (DV.fp (Bool.true) [(DV.fz (v3)), (DV.int (IntKind.i64) (v5)), (DV.int (IntKind.i64) (v7))]))), (16, (DSlot.v (DV.fp (Bool.true) [(DV.fz (v3)), (DV.int (IntKind.i64) (v5)), (DV.int (IntKind.i64) (v7))]))), (17, (DSlot.v (DV.fz (v3)))), (18, (DSlot.v (DV.sl (1) (0) (0) (0) (1)))), (19, (DSlot.v (DV.fz (es)))), (20, (DSlot.v (DV.int (IntKind.i64) (i)))), (21, (DSlot.v (DV.fp (Bool.true) [(DV.fz (v12)), (DV.int (IntKind.i64) (v14)), (DV.int (IntKind.i64) (v16))]))), (22, (DSlot.v (DV.fp (Bool.true) [(DV.int (IntKind.i64) (v14)), (DV.int (IntKind.i64) (v16))]))), (23, (DSlot.v (DV.int (IntKind.i64) (v14)))), (24, (DSlot.v (DV.fz (es)))), (25, (DSlot.v (DV.int (IntKind.i64) (i)))), (26, (DSlot.v (DV.fp (Bool.true) [(DV.fz (v20)), (DV.int (IntKind.i64) (v22)), (DV.int (IntKind.i64) (v24))]))), (27, (DSlot.v (DV.fp (Bool.true) [(DV.int (IntKind.i64) (v24))]))), (28, (DSlot.v (DV.int (IntKind.i64) (v24)))), (29, (DSlot.v (DV.agg [(DV.sl (1) (0) (0) (0) (1)), (DV.int (IntKind.i64) (v14)), (DV.int (IntKind.i64) (v24))]))), (30, (DSlot.v (DV.sl (2) (0) (1) (0) (3)))), (31, (DSlot.v (DV.sl (3) (0) (n + 1) (0) (3))))] [] [(DBlk.mk (cs) (49) (Bool.true) (Bool.false) (Bool.false) none), (DBlk.mk [] (5) (Bool.true) (Bool.true) (Bool.true) none), (DBlk.mk [(DV.sl (1) (0) (0) (0) (1)), (DV.int (IntKind.i64) (v14)), (DV.int (IntKind.i64) (v24))] (49) (Bool.true) (Bool.false) (Bool.true) none), (DBlk.mk (cs ++ [DV.fz (Go.Dv.chunks 1 0 (List.take 0 (List.drop 0 (Go.Dv.repeatCells [DV.int Go.IntKind.u8 (0 : Int)] 0)))), DV.int Go.IntKind.i64 v14, DV.int Go.IntKind.i64 v24]) (49) (Bool.true) (Bool.false) (Bool.true) none)]) []) else none) else none) else none))))))))) else none))))))))) else (Option.bind (Go.Pv.idx i es.length) fun v25 => (Option.bind (es)[(v25)]? fun v26 => (Option.bind (Go.Dv.unc v26) fun v27 => (Option.bind (Go.Dv.toFz v27.fst) fun v28 => (Option.bind (Go.Dv.unc v27.snd) fun v29 => (Option.bind (Go.Dv.toInt Go.IntKind.i64 v29.fst) fun v30 => (Option.bind (Go.Dv.unc v29.snd) fun v31 => (Option.bind (Go.Dv.toInt Go.IntKind.i64 v31.fst) fun v32 => (bif (v31.snd.isEmpty) then (Option.bind (Go.Pv.idx i es.length) fun v33 => (Option.bind (es)[(v33)]? fun v34 => (Option.bind (Go.Dv.unc v34) fun v35 => (Option.bind (Go.Dv.toFz v35.fst) fun v36 => (Option.bind (Go.Dv.unc v35.snd) fun v37 => (Option.bind (Go.Dv.toInt Go.IntKind.i64 v37.fst) fun v38 => (Option.bind (Go.Dv.unc v37.snd) fun v39 => (Option.bind (Go.Dv.toInt Go.IntKind.i64 v39.fst) fun v40 => (bif (v39.snd.isEmpty) then (Option.bind (Option.bind (Option.bind (bif ((0 + v8.fst * 1).ble v8.snd.length) then (some (List.take (v8.fst * 1) (List.drop 0 v8.snd))) else none) fun v41 => (Option.bind (Go.Dv.frozL v41) fun v42 => (some ((DV.fz (Go.Dv.chunks 1 v8.fst v42)), [(2)])))) fun v43 => (some ([(v43.fst), (DV.int (IntKind.i64) (v30)), (DV.int (IntKind.i64) (v40))], (v43.snd ++ ([] ++ ([] ++ [])))))) fun v44 => (bif (((((n + 1) * 40).ble 140737488355328) && ((n + 1).ble 9223372036854775807)) && (Bool.true)) then (Option.bind (Go.Dv.markRo v44.snd ([{ cells := cs, elem := 49, row := Bool.true, ro := Bool.false, live := Bool.true, obj := none }] ++ [{ cells := Go.Dv.repeatCells [DV.int Go.IntKind.u8 (0 : Int)] 0, elem := 5, row := Bool.true, ro := Bool.false, live := Bool.true, obj := none }] ++ [{ cells := v8.snd, elem := 5, row := Bool.true, ro := Bool.false, live := Bool.true, obj := none }] ++ [{ cells := Go.Dv.splice (Go.Dv.repeatCells [DV.nils, DV.int Go.IntKind.i64 (0 : Int), DV.int Go.IntKind.i64 (0 : Int)] 1) 0 (Go.Dv.splice (Go.Dv.splice (Go.Dv.splice [DV.nils, DV.int Go.IntKind.i64 (0 : Int), DV.int Go.IntKind.i64 (0 : Int)] 0 [DV.sl 2 0 v8.fst 0 1]) 1 [DV.int Go.IntKind.i64 v30]) 2 [DV.int Go.IntKind.i64 v40]), elem := 49, row := Bool.true, ro := Bool.false, live := Bool.true, obj := none }]))[(0)]? fun v45 => (bif ((((((v45.5) && (!v45.4)) && (v45.3)) && (Nat.beq v45.2 49)) && (Bool.true)) && (Bool.true)) then (bif ((n * 3).beq v45.1.length) then (k DExit.normal (Go.Dv.S.stH 33 [(0, (DSlot.v (DV.fz (es)))), (3, (DSlot.v (DV.sl (List.length (Go.Dv.markRo v44.snd ([{ cells := cs, elem := 49, row := Bool.true, ro := Bool.false, live := Bool.true, obj := none }] ++ [{ cells := Go.Dv.repeatCells [DV.int Go.IntKind.u8 (0 : Int)] 0, elem := 5, row := Bool.true, ro := Bool.false, live := Bool.true, obj := none }] ++ [{ cells := v8.snd, elem := 5, row := Bool.true, ro := Bool.false, live := Bool.true, obj := none }] ++ [{ cells := Go.Dv.splice (Go.Dv.repeatCells [DV.nils, DV.int Go.IntKind.i64 (0 : Int), DV.int Go.IntKind.i64 (0 : Int)] 1) 0 (Go.Dv.splice (Go.Dv.splice (Go.Dv.splice [DV.nils, DV.int Go.IntKind.i64 (0 : Int), DV.int Go.IntKind.i64 (0 : Int)] 0 [DV.sl 2 0 v8.fst 0 1]) 1 [DV.int Go.IntKind.i64 v30]) 2 [DV.int Go.IntKind.i64 v40]), elem := 49, row := Bool.true, ro := Bool.false, live := Bool.true, obj := none }]))) (0) (n + 1) (0) (3)))), (4, (DSlot.v (DV.int (IntKind.i64) (IntKind.i64.wrap (i + Int.ofNat 1))))), (5, (DSlot.v (DV.int (IntKind.i64) (i)))), (6, (DSlot.v (DV.fz (es)))), (7, (DSlot.v (DV.int (IntKind.i64) ((↑es.length : Int))))), (8, (DSlot.v (DV.bool (decide (i < (↑es.length : Int)))))), (9, (DSlot.v (DV.int (IntKind.i64) (i)))), (10, (DSlot.v (DV.int (IntKind.i64) (IntKind.i64.wrap (i + Int.ofNat 1))))), (11, (DSlot.v (DV.sl (0) (0) (n) (0) (3)))), (12, (DSlot.v (DV.sl (1) (0) (0) (0) (1)))), (13, (DSlot.v (DV.fz (es)))), (14, (DSlot.v (DV.int (IntKind.i64) (i)))), (15, (DSlot.v (DV.fp (Bool.true) [(DV.fz (v3)), (DV.int (IntKind.i64) (v5)), (DV.int (IntKind.i64) (v7))]))), (16, (DSlot.v (DV.fp (Bool.true) [(DV.fz (v3)), (DV.int (IntKind.i64) (v5)), (DV.int (IntKind.i64) (v7))]))), (17, (DSlot.v (DV.fz (v3)))), (18, (DSlot.v (DV.sl (2) (0) (v8.fst) (0) (1)))), (19, (DSlot.v (DV.fz (es)))), (20, (DSlot.v (DV.int (IntKind.i64) (i)))), (21, (DSlot.v (DV.fp (Bool.true) [(DV.fz (v28)), (DV.int (IntKind.i64) (v30)), (DV.int (IntKind.i64) (v32))]))), (22, (DSlot.v (DV.fp (Bool.true) [(DV.int (IntKind.i64) (v30)), (DV.int (IntKind.i64) (v32))]))), (23, (DSlot.v (DV.int (IntKind.i64) (v30)))), (24, (DSlot.v (DV.fz (es)))), (25, (DSlot.v (DV.int (IntKind.i64) (i)))), (26, (DSlot.v (DV.fp (Bool.true) [(DV.fz (v36)), (DV.int (IntKind.i64) (v38)), (DV.int (IntKind.i64) (v40))]))), (27, (DSlot.v (DV.fp (Bool.true) [(DV.int (IntKind.i64) (v40))]))), (28, (DSlot.v (DV.int (IntKind.i64) (v40)))), (29, (DSlot.v (DV.agg [(DV.sl (2) (0) (v8.fst) (0) (1)), (DV.int (IntKind.i64) (v30)), (DV.int (IntKind.i64) (v40))]))), (30, (DSlot.v (DV.sl (3) (0) (1) (0) (3)))), (31, (DSlot.v (DV.sl (List.length (Go.Dv.markRo v44.snd ([{ cells := cs, elem := 49, row := Bool.true, ro := Bool.false, live := Bool.true, obj := none }] ++ [{ cells := Go.Dv.repeatCells [DV.int Go.IntKind.u8 (0 : Int)] 0, elem := 5, row := Bool.true, ro := Bool.false, live := Bool.true, obj := none }] ++ [{ cells := v8.snd, elem := 5, row := Bool.true, ro := Bool.false, live := Bool.true, obj := none }] ++ [{ cells := Go.Dv.splice (Go.Dv.repeatCells [DV.nils, DV.int Go.IntKind.i64 (0 : Int), DV.int Go.IntKind.i64 (0 : Int)] 1) 0 (Go.Dv.splice (Go.Dv.splice (Go.Dv.splice [DV.nils, DV.int Go.IntKind.i64 (0 : Int), DV.int Go.IntKind.i64 (0 : Int)] 0 [DV.sl 2 0 v8.fst 0 1]) 1 [DV.int Go.IntKind.i64 v30]) 2 [DV.int Go.IntKind.i64 v40]), elem := 49, row := Bool.true, ro := Bool.false, live := Bool.true, obj := none }]))) (0) (n + 1) (0) (3))))] [] (List.set (Go.Dv.markRo v44.snd ([{ cells := cs, elem := 49, row := Bool.true, ro := Bool.false, live := Bool.true, obj := none }] ++ [{ cells := Go.Dv.repeatCells [DV.int Go.IntKind.u8 (0 : Int)] 0, elem := 5, row := Bool.true, ro := Bool.false, live := Bool.true, obj := none }] ++ [{ cells := v8.snd, elem := 5, row := Bool.true, ro := Bool.false, live := Bool.true, obj := none }] ++ [{ cells := Go.Dv.splice (Go.Dv.repeatCells [DV.nils, DV.int Go.IntKind.i64 (0 : Int), DV.int Go.IntKind.i64 (0 : Int)] 1) 0 (Go.Dv.splice (Go.Dv.splice (Go.Dv.splice [DV.nils, DV.int Go.IntKind.i64 (0 : Int), DV.int Go.IntKind.i64 (0 : Int)] 0 [DV.sl 2 0 v8.fst 0 1]) 1 [DV.int Go.IntKind.i64 v30]) 2 [DV.int Go.IntKind.i64 v40]), elem := 49, row := Bool.true, ro := Bool.false, live := Bool.true, obj := none }])) 0 { cells := v45.1, elem := v45.2, row := v45.3, ro := v45.4, live := Bool.false, obj := v45.6 } ++ [{ cells := v45.1 ++ v44.fst, elem := 49, row := Bool.true, ro := Bool.false, live := Bool.true, obj := none }])) []) else none) else none)) else none)) else none))))))))) else none)))))))))) else none)) else none))))))))) else (k (DExit.exit (0)) (Go.Dv.S.stH 33 [(0, (DSlot.v (DV.fz (es)))), (3, (DSlot.v (DV.sl (0) (0) (n) (0) (3)))), (4, (DSlot.v (DV.int (IntKind.i64) (i)))), (5, (DSlot.v (DV.int (IntKind.i64) (i)))), (6, (DSlot.v (DV.fz (es)))), (7, (DSlot.v (DV.int (IntKind.i64) ((↑es.length : Int))))), (8, (DSlot.v (DV.bool (decide (i < (↑es.length : Int))))))] [] [(DBlk.mk (cs) (49) (Bool.true) (Bool.false) (Bool.true) none)]) [])) := by kernel_rfl
theorem x_chancerylaw18_rows_0 (Lp : LpT) (es : List (List DV)) (i m : Int) (n : Nat) (cs : List DV) : kontF P0 T0 Lp (Lt t_chancerylaw18_rows) nY [] 38 0 (.exit 0) (stH 33 [(0, .v (.fz es)), (3, .v (.sl 0 0 n 0 3)), (4, .v (.int .i64 i)), (5, .v (.int .i64 i)), (6, .v (.fz es)), (7, .v (.int .i64 m)), (8, .v (.bool false))] [] [newBlk cs 49]) [] =
  (Option.bind (Option.bind (bif ((0 + n * 3).ble cs.length) then (some (List.take (n * 3) (List.drop 0 cs))) else none) fun v0 => (Option.bind (Go.Dv.freezeWith (Go.Dv.freezeV 63 [(DBlk.mk (cs) (49) (Bool.true) (Bool.false) (Bool.true) none)]) (v0)) fun v1 => (some ((DV.fz (Go.Dv.chunks 3 n v1.fst)), ((0) :: (v1.snd)))))) fun v2 => (some ((DRes.ret (v2.fst)), []))) := by kernel_rfl
theorem e_chancerylaw18_copied (Lp : LpT) (m es : List (List DV)) (a b c : Int) (u : Nat → Int) : run P0 T0 Lp (Lt t_chancerylaw18_copied) nY 16 [.agg (lstD m a b u c es)] =
  (Option.bind (bif (m.all fun (x : List Go.Dv.DV) => x.length.beq 2) then (some ((m.length), (m.flatten))) else none) fun v0 => (bif (((((0 + v0.fst) * 24).ble 140737488355328) && ((0 + v0.fst).ble 9223372036854775807)) && (Bool.true)) then (Option.bind (Go.Dv.S.dE (DV.fz es)) fun v1 => (Option.bind (Option.bind (Option.bind (Option.bind (bif ((0 + (0 + v0.fst) * 2).ble (Go.Dv.repeatCells [DV.int Go.IntKind.i64 (0 : Int), DV.str []] 0 ++ v0.snd).length) then (some (List.take ((0 + v0.fst) * 2) (List.drop 0 (Go.Dv.repeatCells [DV.int Go.IntKind.i64 (0 : Int), DV.str []] 0 ++ v0.snd)))) else none) fun v2 => (Option.bind (Go.Dv.freezeWith (Go.Dv.freezeV 62 [(DBlk.mk [] (156) (Bool.true) (Bool.false) (Bool.false) none), (DBlk.mk (Go.Dv.repeatCells [DV.int Go.IntKind.i64 (0 : Int), DV.str []] 0 ++ v0.snd) (156) (Bool.true) (Bool.false) (Bool.true) none)]) (v2)) fun v3 => (some ((DV.fz (Go.Dv.chunks 2 (0 + v0.fst) v3.fst)), ((1) :: (v3.snd)))))) fun v4 => (some (([(v4.fst), (DV.int (IntKind.i64) (a)), (DV.int (IntKind.i64) (b))] ++ (List.map (fun (i' : Nat) => (DV.int (IntKind.u8) (u i'))) (List.range 20)) ++ [(DV.int (IntKind.i64) (c)), (DV.fz (List.map Go.Dv.S.ent v1))]), (v4.snd ++ ([] ++ ([] ++ ([] ++ ([] ++ ([] ++ ([] ++ ([] ++ ([] ++ ([] ++ ([] ++ ([] ++ ([] ++ ([] ++ ([] ++ ([] ++ ([] ++ ([] ++ ([] ++ ([] ++ ([] ++ ([] ++ ([] ++ ([] ++ ([] ++ [])))))))))))))))))))))))))))) fun v5 => (some ((DV.agg (v5.fst)), (v5.snd)))) fun v6 => (some ((DRes.ret (v6.fst)), [])))) else none)) := by kernel_rfl
theorem e_chanceryref18_SameEntries (Lp : LpT) (a b : List (List DV)) : run P0 T0 Lp (Lt t_chanceryref18_SameEntries) nY 19 [.fz a, .fz b] =
  (bif ((↑a.length : Int) != (↑b.length : Int)) then (some ((DRes.ret (DV.bool (Bool.false))), [])) else (Lp _ (tdF T0 19 none 0) ((bodyF P0 T0 Lp (Lt t_chanceryref18_SameEntries) nY [] 19 none 0 : FX (DRes × DHeap))) (kontF P0 T0 Lp (Lt t_chanceryref18_SameEntries) nY [] 19 0) (Go.Dv.S.stH 56 [(0, (DSlot.v (DV.fz (a)))), (1, (DSlot.v (DV.fz (b)))), (5, (DSlot.v (DV.int (IntKind.i64) (0 : Int))))] [] []) [])) := by kernel_rfl
theorem b_chanceryref18_SameEntries_0 (Lp : LpT) (a b : List (List DV)) (i : Int) (k : KX (DRes × DHeap)) : bodyF P0 T0 Lp (Lt t_chanceryref18_SameEntries) nY [] 19 none 0 (stD 56 [(0, .v (.fz a)), (1, .v (.fz b)), (5, .v (.int .i64 i))] []) [] k =
  (bif (decide (i < (↑a.length : Int))) then (Option.bind (Go.Pv.idx i a.length) fun v0 => (Option.bind (a)[(v0)]? fun v1 => (Option.bind (Go.Dv.unc v1) fun v2 => (Option.bind (Go.Dv.toFz v2.fst) fun v3 => (Option.bind (Go.Dv.unc v2.snd) fun v4 => (Option.bind (Go.Dv.toInt Go.IntKind.i64 v4.fst) fun v5 => (Option.bind (Go.Dv.unc v4.snd) fun v6 => (Option.bind (Go.Dv.toInt Go.IntKind.i64 v6.fst) fun v7 => (bif (v6.snd.isEmpty) then (Option.bind (bif (v3.all fun (x : List Go.Dv.DV) => x.length.beq 1) then (some ((v3.length), (v3.flatten))) else none) fun v8 => (Option.bind (Go.Dv.toBytes v8.snd) fun v9 => (Option.bind (Go.Pv.idx i b.length) fun v10 => (Option.bind (b)[(v10)]? fun v11 => (Option.bind (Go.Dv.unc v11) fun v12 => (Option.bind (Go.Dv.toFz v12.fst) fun v13 => (Option.bind (Go.Dv.unc v12.snd) fun v14 => (Option.bind (Go.Dv.toInt Go.IntKind.i64 v14.fst) fun v15 => (Option.bind (Go.Dv.unc v14.snd) fun v16 => (Option.bind (Go.Dv.toInt Go.IntKind.i64 v16.fst) fun v17 => (bif (v16.snd.isEmpty) then (Option.bind (bif (v13.all fun (x : List Go.Dv.DV) => x.length.beq 1) then (some ((v13.length), (v13.flatten))) else none) fun v18 => (Option.bind (Go.Dv.toBytes v18.snd) fun v19 => (bif (!v9 == v19) then (k DExit.ret (Go.Dv.S.stU 56 [(0, (DSlot.v (DV.fz (a)))), (1, (DSlot.v (DV.fz (b)))), (2, DSlot.dead), (3, DSlot.dead), (4, (DSlot.v (DV.bool (Bool.false)))), (5, (DSlot.v (DV.int (IntKind.i64) (i)))), (6, DSlot.dead), (7, DSlot.dead), (8, DSlot.dead), (9, DSlot.dead), (10, DSlot.dead), (11, (DSlot.v (DV.int (IntKind.i64) (i)))), (12, (DSlot.v (DV.fz (a)))), (13, (DSlot.v (DV.int (IntKind.i64) ((↑a.length : Int))))), (14, (DSlot.v (DV.bool (decide (i < (↑a.length : Int)))))), (15, DSlot.dead), (16, DSlot.dead), (17, (DSlot.v (DV.fz (a)))), (18, (DSlot.v (DV.int (IntKind.i64) (i)))), (19, (DSlot.v (DV.fp (Bool.true) [(DV.fz (v3)), (DV.int (IntKind.i64) (v5)), (DV.int (IntKind.i64) (v7))]))), (20, (DSlot.v (DV.fp (Bool.true) [(DV.fz (v3)), (DV.int (IntKind.i64) (v5)), (DV.int (IntKind.i64) (v7))]))), (21, (DSlot.v (DV.fz (v3)))), (22, (DSlot.v (DV.str (v9)))), (23, (DSlot.v (DV.fz (b)))), (24, (DSlot.v (DV.int (IntKind.i64) (i)))), (25, (DSlot.v (DV.fp (Bool.true) [(DV.fz (v13)), (DV.int (IntKind.i64) (v15)), (DV.int (IntKind.i64) (v17))]))), (26, (DSlot.v (DV.fp (Bool.true) [(DV.fz (v13)), (DV.int (IntKind.i64) (v15)), (DV.int (IntKind.i64) (v17))]))), (27, (DSlot.v (DV.fz (v13)))), (28, (DSlot.v (DV.str (v19)))), (29, (DSlot.v (DV.bool (!v9 == v19)))), (30, (DSlot.v (DV.bool (Bool.true)))), (42, (DSlot.v (DV.bool (Bool.true)))), (43, (DSlot.v (DV.bool (Bool.true)))), (55, (DSlot.v (DV.bool (Bool.true))))] [] []) []) else (Option.bind (Go.Pv.idx i a.length) fun v20 => (Option.bind (a)[(v20)]? fun v21 => (Option.bind (Go.Dv.unc v21) fun v22 => (Option.bind (Go.Dv.toFz v22.fst) fun v23 => (Option.bind (Go.Dv.unc v22.snd) fun v24 => (Option.bind (Go.Dv.toInt Go.IntKind.i64 v24.fst) fun v25 => (Option.bind (Go.Dv.unc v24.snd) fun v26 => (Option.bind (Go.Dv.toInt Go.IntKind.i64 v26.fst) fun v27 => (bif (v26.snd.isEmpty) then (Option.bind (Go.Pv.idx i b.length) fun v28 => (Option.bind (b)[(v28)]? fun v29 => (Option.bind (Go.Dv.unc v29) fun v30 => (Option.bind (Go.Dv.toFz v30.fst) fun v31 => (Option.bind (Go.Dv.unc v30.snd) fun v32 => (Option.bind (Go.Dv.toInt Go.IntKind.i64 v32.fst) fun v33 => (Option.bind (Go.Dv.unc v32.snd) fun v34 => (Option.bind (Go.Dv.toInt Go.IntKind.i64 v34.fst) fun v35 => (bif (v34.snd.isEmpty) then (bif (v25 != v33) then (k DExit.ret (Go.Dv.S.stU 56 [(0, (DSlot.v (DV.fz (a)))), (1, (DSlot.v (DV.fz (b)))), (2, DSlot.dead), (3, DSlot.dead), (4, (DSlot.v (DV.bool (Bool.false)))), (5, (DSlot.v (DV.int (IntKind.i64) (i)))), (6, DSlot.dead), (7, DSlot.dead), (8, DSlot.dead), (9, DSlot.dead), (10, DSlot.dead), (11, (DSlot.v (DV.int (IntKind.i64) (i)))), (12, (DSlot.v (DV.fz (a)))), (13, (DSlot.v (DV.int (IntKind.i64) ((↑a.length : Int))))), (14, (DSlot.v (DV.bool (decide (i < (↑a.length : Int)))))), (15, DSlot.dead), (16, DSlot.dead), (17, (DSlot.v (DV.fz (a)))), (18, (DSlot.v (DV.int (IntKind.i64) (i)))), (19, (DSlot.v (DV.fp (Bool.true) [(DV.fz (v3)), (DV.int (IntKind.i64) (v5)), (DV.int (IntKind.i64) (v7))]))), (20, (DSlot.v (DV.fp (Bool.true) [(DV.fz (v3)), (DV.int (IntKind.i64) (v5)), (DV.int (IntKind.i64) (v7))]))), (21, (DSlot.v (DV.fz (v3)))), (22, (DSlot.v (DV.str (v9)))), (23, (DSlot.v (DV.fz (b)))), (24, (DSlot.v (DV.int (IntKind.i64) (i)))), (25, (DSlot.v (DV.fp (Bool.true) [(DV.fz (v13)), (DV.int (IntKind.i64) (v15)), (DV.int (IntKind.i64) (v17))]))), (26, (DSlot.v (DV.fp (Bool.true) [(DV.fz (v13)), (DV.int (IntKind.i64) (v15)), (DV.int (IntKind.i64) (v17))]))), (27, (DSlot.v (DV.fz (v13)))), (28, (DSlot.v (DV.str (v19)))), (29, (DSlot.v (DV.bool (!v9 == v19)))), (30, (DSlot.v (DV.bool (Bool.false)))), (31, (DSlot.v (DV.fz (a)))), (32, (DSlot.v (DV.int (IntKind.i64) (i)))), (33, (DSlot.v (DV.fp (Bool.true) [(DV.fz (v23)), (DV.int (IntKind.i64) (v25)), (DV.int (IntKind.i64) (v27))]))), (34, (DSlot.v (DV.fp (Bool.true) [(DV.int (IntKind.i64) (v25)), (DV.int (IntKind.i64) (v27))]))), (35, (DSlot.v (DV.int (IntKind.i64) (v25)))), (36, (DSlot.v (DV.fz (b)))), (37, (DSlot.v (DV.int (IntKind.i64) (i)))), (38, (DSlot.v (DV.fp (Bool.true) [(DV.fz (v31)), (DV.int (IntKind.i64) (v33)), (DV.int (IntKind.i64) (v35))]))), (39, (DSlot.v (DV.fp (Bool.true) [(DV.int (IntKind.i64) (v33)), (DV.int (IntKind.i64) (v35))]))), (40, (DSlot.v (DV.int (IntKind.i64) (v33)))), (41, (DSlot.v (DV.bool (v25 != v33)))), (42, (DSlot.v (DV.bool (v25 != v33)))), (43, (DSlot.v (DV.bool (Bool.true)))), (55, (DSlot.v (DV.bool (Bool.true))))] [] []) []) else (Option.bind (Go.Pv.idx i a.length) fun v36 => (Option.bind (a)[(v36)]? fun v37 => (Option.bind (Go.Dv.unc v37) fun v38 => (Option.bind (Go.Dv.toFz v38.fst) fun v39 => (Option.bind (Go.Dv.unc v38.snd) fun v40 => (Option.bind (Go.Dv.toInt Go.IntKind.i64 v40.fst) fun v41 => (Option.bind (Go.Dv.unc v40.snd) fun v42 => (Option.bind (Go.Dv.toInt Go.IntKind.i64 v42.fst) fun v43 => (bif (v42.snd.isEmpty) then (Option.bind (Go.Pv.idx i b.length) fun v44 => (Option.bind (b)[(v44)]? fun v45 => (Option.bind (Go.Dv.unc v45) fun v46 => (Option.bind (Go.Dv.toFz v46.fst) fun v47 => (Option.bind (Go.Dv.unc v46.snd) fun v48 => (Option.bind (Go.Dv.toInt Go.IntKind.i64 v48.fst) fun v49 => (Option.bind (Go.Dv.unc v48.snd) fun v50 => (Option.bind (Go.Dv.toInt Go.IntKind.i64 v50.fst) fun v51 => (bif (v50.snd.isEmpty) then (bif (v43 != v51) then (k DExit.ret (Go.Dv.S.stH 56 [(0, (DSlot.v (DV.fz (a)))), (1, (DSlot.v (DV.fz (b)))), (4, (DSlot.v (DV.bool (Bool.false)))), (5, (DSlot.v (DV.int (IntKind.i64) (i)))), (11, (DSlot.v (DV.int (IntKind.i64) (i)))), (12, (DSlot.v (DV.fz (a)))), (13, (DSlot.v (DV.int (IntKind.i64) ((↑a.length : Int))))), (14, (DSlot.v (DV.bool (decide (i < (↑a.length : Int)))))), (17, (DSlot.v (DV.fz (a)))), (18, (DSlot.v (DV.int (IntKind.i64) (i)))), (19, (DSlot.v (DV.fp (Bool.true) [(DV.fz (v3)), (DV.int (IntKind.i64) (v5)), (DV.int (IntKind.i64) (v7))]))), (20, (DSlot.v (DV.fp (Bool.true) [(DV.fz (v3)), (DV.int (IntKind.i64) (v5)), (DV.int (IntKind.i64) (v7))]))), (21, (DSlot.v (DV.fz (v3)))), (22, (DSlot.v (DV.str (v9)))), (23, (DSlot.v (DV.fz (b)))), (24, (DSlot.v (DV.int (IntKind.i64) (i)))), (25, (DSlot.v (DV.fp (Bool.true) [(DV.fz (v13)), (DV.int (IntKind.i64) (v15)), (DV.int (IntKind.i64) (v17))]))), (26, (DSlot.v (DV.fp (Bool.true) [(DV.fz (v13)), (DV.int (IntKind.i64) (v15)), (DV.int (IntKind.i64) (v17))]))), (27, (DSlot.v (DV.fz (v13)))), (28, (DSlot.v (DV.str (v19)))), (29, (DSlot.v (DV.bool (!v9 == v19)))), (30, (DSlot.v (DV.bool (Bool.false)))), (31, (DSlot.v (DV.fz (a)))), (32, (DSlot.v (DV.int (IntKind.i64) (i)))), (33, (DSlot.v (DV.fp (Bool.true) [(DV.fz (v23)), (DV.int (IntKind.i64) (v25)), (DV.int (IntKind.i64) (v27))]))), (34, (DSlot.v (DV.fp (Bool.true) [(DV.int (IntKind.i64) (v25)), (DV.int (IntKind.i64) (v27))]))), (35, (DSlot.v (DV.int (IntKind.i64) (v25)))), (36, (DSlot.v (DV.fz (b)))), (37, (DSlot.v (DV.int (IntKind.i64) (i)))), (38, (DSlot.v (DV.fp (Bool.true) [(DV.fz (v31)), (DV.int (IntKind.i64) (v33)), (DV.int (IntKind.i64) (v35))]))), (39, (DSlot.v (DV.fp (Bool.true) [(DV.int (IntKind.i64) (v33)), (DV.int (IntKind.i64) (v35))]))), (40, (DSlot.v (DV.int (IntKind.i64) (v33)))), (41, (DSlot.v (DV.bool (v25 != v33)))), (42, (DSlot.v (DV.bool (v25 != v33)))), (43, (DSlot.v (DV.bool (Bool.false)))), (44, (DSlot.v (DV.fz (a)))), (45, (DSlot.v (DV.int (IntKind.i64) (i)))), (46, (DSlot.v (DV.fp (Bool.true) [(DV.fz (v39)), (DV.int (IntKind.i64) (v41)), (DV.int (IntKind.i64) (v43))]))), (47, (DSlot.v (DV.fp (Bool.true) [(DV.int (IntKind.i64) (v43))]))), (48, (DSlot.v (DV.int (IntKind.i64) (v43)))), (49, (DSlot.v (DV.fz (b)))), (50, (DSlot.v (DV.int (IntKind.i64) (i)))), (51, (DSlot.v (DV.fp (Bool.true) [(DV.fz (v47)), (DV.int (IntKind.i64) (v49)), (DV.int (IntKind.i64) (v51))]))), (52, (DSlot.v (DV.fp (Bool.true) [(DV.int (IntKind.i64) (v51))]))), (53, (DSlot.v (DV.int (IntKind.i64) (v51)))), (54, (DSlot.v (DV.bool (v43 != v51)))), (55, (DSlot.v (DV.bool (v43 != v51))))] [] []) []) else (k DExit.normal (Go.Dv.S.stH 56 [(0, (DSlot.v (DV.fz (a)))), (1, (DSlot.v (DV.fz (b)))), (5, (DSlot.v (DV.int (IntKind.i64) (IntKind.i64.wrap (i + Int.ofNat 1))))), (11, (DSlot.v (DV.int (IntKind.i64) (i)))), (12, (DSlot.v (DV.fz (a)))), (13, (DSlot.v (DV.int (IntKind.i64) ((↑a.length : Int))))), (14, (DSlot.v (DV.bool (decide (i < (↑a.length : Int)))))), (15, (DSlot.v (DV.int (IntKind.i64) (i)))), (16, (DSlot.v (DV.int (IntKind.i64) (IntKind.i64.wrap (i + Int.ofNat 1))))), (17, (DSlot.v (DV.fz (a)))), (18, (DSlot.v (DV.int (IntKind.i64) (i)))), (19, (DSlot.v (DV.fp (Bool.true) [(DV.fz (v3)), (DV.int (IntKind.i64) (v5)), (DV.int (IntKind.i64) (v7))]))), (20, (DSlot.v (DV.fp (Bool.true) [(DV.fz (v3)), (DV.int (IntKind.i64) (v5)), (DV.int (IntKind.i64) (v7))]))), (21, (DSlot.v (DV.fz (v3)))), (22, (DSlot.v (DV.str (v9)))), (23, (DSlot.v (DV.fz (b)))), (24, (DSlot.v (DV.int (IntKind.i64) (i)))), (25, (DSlot.v (DV.fp (Bool.true) [(DV.fz (v13)), (DV.int (IntKind.i64) (v15)), (DV.int (IntKind.i64) (v17))]))), (26, (DSlot.v (DV.fp (Bool.true) [(DV.fz (v13)), (DV.int (IntKind.i64) (v15)), (DV.int (IntKind.i64) (v17))]))), (27, (DSlot.v (DV.fz (v13)))), (28, (DSlot.v (DV.str (v19)))), (29, (DSlot.v (DV.bool (!v9 == v19)))), (30, (DSlot.v (DV.bool (Bool.false)))), (31, (DSlot.v (DV.fz (a)))), (32, (DSlot.v (DV.int (IntKind.i64) (i)))), (33, (DSlot.v (DV.fp (Bool.true) [(DV.fz (v23)), (DV.int (IntKind.i64) (v25)), (DV.int (IntKind.i64) (v27))]))), (34, (DSlot.v (DV.fp (Bool.true) [(DV.int (IntKind.i64) (v25)), (DV.int (IntKind.i64) (v27))]))), (35, (DSlot.v (DV.int (IntKind.i64) (v25)))), (36, (DSlot.v (DV.fz (b)))), (37, (DSlot.v (DV.int (IntKind.i64) (i)))), (38, (DSlot.v (DV.fp (Bool.true) [(DV.fz (v31)), (DV.int (IntKind.i64) (v33)), (DV.int (IntKind.i64) (v35))]))), (39, (DSlot.v (DV.fp (Bool.true) [(DV.int (IntKind.i64) (v33)), (DV.int (IntKind.i64) (v35))]))), (40, (DSlot.v (DV.int (IntKind.i64) (v33)))), (41, (DSlot.v (DV.bool (v25 != v33)))), (42, (DSlot.v (DV.bool (v25 != v33)))), (43, (DSlot.v (DV.bool (Bool.false)))), (44, (DSlot.v (DV.fz (a)))), (45, (DSlot.v (DV.int (IntKind.i64) (i)))), (46, (DSlot.v (DV.fp (Bool.true) [(DV.fz (v39)), (DV.int (IntKind.i64) (v41)), (DV.int (IntKind.i64) (v43))]))), (47, (DSlot.v (DV.fp (Bool.true) [(DV.int (IntKind.i64) (v43))]))), (48, (DSlot.v (DV.int (IntKind.i64) (v43)))), (49, (DSlot.v (DV.fz (b)))), (50, (DSlot.v (DV.int (IntKind.i64) (i)))), (51, (DSlot.v (DV.fp (Bool.true) [(DV.fz (v47)), (DV.int (IntKind.i64) (v49)), (DV.int (IntKind.i64) (v51))]))), (52, (DSlot.v (DV.fp (Bool.true) [(DV.int (IntKind.i64) (v51))]))), (53, (DSlot.v (DV.int (IntKind.i64) (v51)))), (54, (DSlot.v (DV.bool (v43 != v51)))), (55, (DSlot.v (DV.bool (v43 != v51))))] [] []) [])) else none))))))))) else none)))))))))) else none))))))))) else none)))))))))))) else none))))))))))) else none))))))))) else (k (DExit.exit (0)) (Go.Dv.S.stH 56 [(0, (DSlot.v (DV.fz (a)))), (1, (DSlot.v (DV.fz (b)))), (5, (DSlot.v (DV.int (IntKind.i64) (i)))), (11, (DSlot.v (DV.int (IntKind.i64) (i)))), (12, (DSlot.v (DV.fz (a)))), (13, (DSlot.v (DV.int (IntKind.i64) ((↑a.length : Int))))), (14, (DSlot.v (DV.bool (decide (i < (↑a.length : Int))))))] [] []) [])) := by kernel_rfl
theorem e_chanceryref12_Alike (Lp : LpT) (a b : List (List DV)) : run P0 T0 Lp (Lt t_chanceryref12_Alike) nY 58 [.fz a, .fz b] =
  (bif ((↑a.length : Int) != (↑b.length : Int)) then (some ((DRes.ret (DV.bool (Bool.false))), [])) else (Lp _ (tdF T0 58 none 0) ((bodyF P0 T0 Lp (Lt t_chanceryref12_Alike) nY [] 58 none 0 : FX (DRes × DHeap))) (kontF P0 T0 Lp (Lt t_chanceryref12_Alike) nY [] 58 0) (Go.Dv.S.stH 41 [(0, (DSlot.v (DV.fz (a)))), (1, (DSlot.v (DV.fz (b)))), (5, (DSlot.v (DV.int (IntKind.i64) (0 : Int))))] [] []) [])) := by kernel_rfl
theorem b_chanceryref12_Alike_0 (Lp : LpT) (a b : List (List DV)) (i : Int) (k : KX (DRes × DHeap)) : bodyF P0 T0 Lp (Lt t_chanceryref12_Alike) nY [] 58 none 0 (stD 41 [(0, .v (.fz a)), (1, .v (.fz b)), (5, .v (.int .i64 i))] []) [] k =
  (bif (decide (i < (↑a.length : Int))) then (Option.bind (Go.Pv.idx i a.length) fun v0 => (Option.bind (a)[(v0)]? fun v1 => (Option.bind (Go.Dv.unc v1) fun v2 => (Option.bind (Go.Dv.toInt Go.IntKind.i64 v2.fst) fun v3 => (Option.bind (Go.Dv.unc v2.snd) fun v4 => (Option.bind (Go.Dv.toStr v4.fst) fun v5 => (bif (v4.snd.isEmpty) then (Option.bind (Go.Pv.idx i b.length) fun v6 => (Option.bind (b)[(v6)]? fun v7 => (Option.bind (Go.Dv.unc v7) fun v8 => (Option.bind (Go.Dv.toInt Go.IntKind.i64 v8.fst) fun v9 => (Option.bind (Go.Dv.unc v8.snd) fun v10 => (Option.bind (Go.Dv.toStr v10.fst) fun v11 => (bif (v10.snd.isEmpty) then (bif (v3 != v9) then (k DExit.ret (Go.Dv.S.stU 41 [(0, (DSlot.v (DV.fz (a)))), (1, (DSlot.v (DV.fz (b)))), (2, DSlot.dead), (3, DSlot.dead), (4, (DSlot.v (DV.bool (Bool.false)))), (5, (DSlot.v (DV.int (IntKind.i64) (i)))), (6, DSlot.dead), (7, DSlot.dead), (8, DSlot.dead), (9, DSlot.dead), (10, DSlot.dead), (11, (DSlot.v (DV.int (IntKind.i64) (i)))), (12, (DSlot.v (DV.fz (a)))), (13, (DSlot.v (DV.int (IntKind.i64) ((↑a.length : Int))))), (14, (DSlot.v (DV.bool (decide (i < (↑a.length : Int)))))), (15, DSlot.dead), (16, DSlot.dead), (17, (DSlot.v (DV.fz (a)))), (18, (DSlot.v (DV.int (IntKind.i64) (i)))), (19, (DSlot.v (DV.fp (Bool.true) [(DV.int (IntKind.i64) (v3)), (DV.str (v5))]))), (20, (DSlot.v (DV.fp (Bool.true) [(DV.int (IntKind.i64) (v3)), (DV.str (v5))]))), (21, (DSlot.v (DV.int (IntKind.i64) (v3)))), (22, (DSlot.v (DV.fz (b)))), (23, (DSlot.v (DV.int (IntKind.i64) (i)))), (24, (DSlot.v (DV.fp (Bool.true) [(DV.int (IntKind.i64) (v9)), (DV.str (v11))]))), (25, (DSlot.v (DV.fp (Bool.true) [(DV.int (IntKind.i64) (v9)), (DV.str (v11))]))), (26, (DSlot.v (DV.int (IntKind.i64) (v9)))), (27, (DSlot.v (DV.bool (v3 != v9)))), (28, (DSlot.v (DV.bool (Bool.true)))), (40, (DSlot.v (DV.bool (Bool.true))))] [] []) []) else (Option.bind (Go.Pv.idx i a.length) fun v12 => (Option.bind (a)[(v12)]? fun v13 => (Option.bind (Go.Dv.unc v13) fun v14 => (Option.bind (Go.Dv.toInt Go.IntKind.i64 v14.fst) fun v15 => (Option.bind (Go.Dv.unc v14.snd) fun v16 => (Option.bind (Go.Dv.toStr v16.fst) fun v17 => (bif (v16.snd.isEmpty) then (Option.bind (Go.Pv.idx i b.length) fun v18 => (Option.bind (b)[(v18)]? fun v19 => (Option.bind (Go.Dv.unc v19) fun v20 => (Option.bind (Go.Dv.toInt Go.IntKind.i64 v20.fst) fun v21 => (Option.bind (Go.Dv.unc v20.snd) fun v22 => (Option.bind (Go.Dv.toStr v22.fst) fun v23 => (bif (v22.snd.isEmpty) then (bif (!v17 == v23) then (k DExit.ret (Go.Dv.S.stH 41 [(0, (DSlot.v (DV.fz (a)))), (1, (DSlot.v (DV.fz (b)))), (4, (DSlot.v (DV.bool (Bool.false)))), (5, (DSlot.v (DV.int (IntKind.i64) (i)))), (11, (DSlot.v (DV.int (IntKind.i64) (i)))), (12, (DSlot.v (DV.fz (a)))), (13, (DSlot.v (DV.int (IntKind.i64) ((↑a.length : Int))))), (14, (DSlot.v (DV.bool (decide (i < (↑a.length : Int)))))), (17, (DSlot.v (DV.fz (a)))), (18, (DSlot.v (DV.int (IntKind.i64) (i)))), (19, (DSlot.v (DV.fp (Bool.true) [(DV.int (IntKind.i64) (v3)), (DV.str (v5))]))), (20, (DSlot.v (DV.fp (Bool.true) [(DV.int (IntKind.i64) (v3)), (DV.str (v5))]))), (21, (DSlot.v (DV.int (IntKind.i64) (v3)))), (22, (DSlot.v (DV.fz (b)))), (23, (DSlot.v (DV.int (IntKind.i64) (i)))), (24, (DSlot.v (DV.fp (Bool.true) [(DV.int (IntKind.i64) (v9)), (DV.str (v11))]))), (25, (DSlot.v (DV.fp (Bool.true) [(DV.int (IntKind.i64) (v9)), (DV.str (v11))]))), (26, (DSlot.v (DV.int (IntKind.i64) (v9)))), (27, (DSlot.v (DV.bool (v3 != v9)))), (28, (DSlot.v (DV.bool (Bool.false)))), (29, (DSlot.v (DV.fz (a)))), (30, (DSlot.v (DV.int (IntKind.i64) (i)))), (31, (DSlot.v (DV.fp (Bool.true) [(DV.int (IntKind.i64) (v15)), (DV.str (v17))]))), (32, (DSlot.v (DV.fp (Bool.true) [(DV.str (v17))]))), (33, (DSlot.v (DV.str (v17)))), (34, (DSlot.v (DV.fz (b)))), (35, (DSlot.v (DV.int (IntKind.i64) (i)))), (36, (DSlot.v (DV.fp (Bool.true) [(DV.int (IntKind.i64) (v21)), (DV.str (v23))]))), (37, (DSlot.v (DV.fp (Bool.true) [(DV.str (v23))]))), (38, (DSlot.v (DV.str (v23)))), (39, (DSlot.v (DV.bool (!v17 == v23)))), (40, (DSlot.v (DV.bool (!v17 == v23))))] [] []) []) else (k DExit.normal (Go.Dv.S.stH 41 [(0, (DSlot.v (DV.fz (a)))), (1, (DSlot.v (DV.fz (b)))), (5, (DSlot.v (DV.int (IntKind.i64) (IntKind.i64.wrap (i + Int.ofNat 1))))), (11, (DSlot.v (DV.int (IntKind.i64) (i)))), (12, (DSlot.v (DV.fz (a)))), (13, (DSlot.v (DV.int (IntKind.i64) ((↑a.length : Int))))), (14, (DSlot.v (DV.bool (decide (i < (↑a.length : Int)))))), (15, (DSlot.v (DV.int (IntKind.i64) (i)))), (16, (DSlot.v (DV.int (IntKind.i64) (IntKind.i64.wrap (i + Int.ofNat 1))))), (17, (DSlot.v (DV.fz (a)))), (18, (DSlot.v (DV.int (IntKind.i64) (i)))), (19, (DSlot.v (DV.fp (Bool.true) [(DV.int (IntKind.i64) (v3)), (DV.str (v5))]))), (20, (DSlot.v (DV.fp (Bool.true) [(DV.int (IntKind.i64) (v3)), (DV.str (v5))]))), (21, (DSlot.v (DV.int (IntKind.i64) (v3)))), (22, (DSlot.v (DV.fz (b)))), (23, (DSlot.v (DV.int (IntKind.i64) (i)))), (24, (DSlot.v (DV.fp (Bool.true) [(DV.int (IntKind.i64) (v9)), (DV.str (v11))]))), (25, (DSlot.v (DV.fp (Bool.true) [(DV.int (IntKind.i64) (v9)), (DV.str (v11))]))), (26, (DSlot.v (DV.int (IntKind.i64) (v9)))), (27, (DSlot.v (DV.bool (v3 != v9)))), (28, (DSlot.v (DV.bool (Bool.false)))), (29, (DSlot.v (DV.fz (a)))), (30, (DSlot.v (DV.int (IntKind.i64) (i)))), (31, (DSlot.v (DV.fp (Bool.true) [(DV.int (IntKind.i64) (v15)), (DV.str (v17))]))), (32, (DSlot.v (DV.fp (Bool.true) [(DV.str (v17))]))), (33, (DSlot.v (DV.str (v17)))), (34, (DSlot.v (DV.fz (b)))), (35, (DSlot.v (DV.int (IntKind.i64) (i)))), (36, (DSlot.v (DV.fp (Bool.true) [(DV.int (IntKind.i64) (v21)), (DV.str (v23))]))), (37, (DSlot.v (DV.fp (Bool.true) [(DV.str (v23))]))), (38, (DSlot.v (DV.str (v23)))), (39, (DSlot.v (DV.bool (!v17 == v23)))), (40, (DSlot.v (DV.bool (!v17 == v23))))] [] []) [])) else none))))))) else none)))))))) else none))))))) else none))))))) else (k (DExit.exit (0)) (Go.Dv.S.stH 41 [(0, (DSlot.v (DV.fz (a)))), (1, (DSlot.v (DV.fz (b)))), (5, (DSlot.v (DV.int (IntKind.i64) (i)))), (11, (DSlot.v (DV.int (IntKind.i64) (i)))), (12, (DSlot.v (DV.fz (a)))), (13, (DSlot.v (DV.int (IntKind.i64) ((↑a.length : Int))))), (14, (DSlot.v (DV.bool (decide (i < (↑a.length : Int))))))] [] []) [])) := by kernel_rfl
theorem e_chanceryref18_Same (Lp : LpT) (m es m' es' : List (List DV)) (a b c a' b' c' : Int) (u u' : Nat → Int) : run P0 T0 Lp (Lt t_chanceryref18_Same) nY 20 [.agg (lstD m a b u c es), .agg (lstD m' a' b' u' c' es')] =
  (Option.bind (Go.Dv.S.dN (DV.fz m)) fun v0 => (Option.bind (Go.Dv.S.dN (DV.fz m')) fun v1 => (bif (v0 == v1) then (bif (a == a') then (bif (b == b') then (Option.bind (bif (u 0 == u' 0) then (bif (u 1 == u' 1) then (bif (u 2 == u' 2) then (bif (u 3 == u' 3) then (bif (u 4 == u' 4) then (bif (u 5 == u' 5) then (bif (u 6 == u' 6) then (bif (u 7 == u' 7) then (bif (u 8 == u' 8) then (bif (u 9 == u' 9) then (bif (u 10 == u' 10) then (bif (u 11 == u' 11) then (bif (u 12 == u' 12) then (bif (u 13 == u' 13) then (bif (u 14 == u' 14) then (bif (u 15 == u' 15) then (bif (u 16 == u' 16) then (bif (u 17 == u' 17) then (bif (u 18 == u' 18) then (bif (u 19 == u' 19) then (some (Bool.true)) else (some (Bool.false))) else (some (Bool.false))) else (some (Bool.false))) else (some (Bool.false))) else (some (Bool.false))) else (some (Bool.false))) else (some (Bool.false))) else (some (Bool.false))) else (some (Bool.false))) else (some (Bool.false))) else (some (Bool.false))) else (some (Bool.false))) else (some (Bool.false))) else (some (Bool.false))) else (some (Bool.false))) else (some (Bool.false))) else (some (Bool.false))) else (some (Bool.false))) else (some (Bool.false))) else (some (Bool.false))) fun v2 => (bif (v2) then (bif (c == c') then (Option.bind (Go.Dv.S.dE (DV.fz es)) fun v3 => (Option.bind (Go.Dv.S.dE (DV.fz es')) fun v4 => (some ((DRes.ret (DV.bool (v3 == v4))), [])))) else (some ((DRes.ret (DV.bool (Bool.false))), []))) else (some ((DRes.ret (DV.bool (Bool.false))), [])))) else (some ((DRes.ret (DV.bool (Bool.false))), []))) else (some ((DRes.ret (DV.bool (Bool.false))), []))) else (some ((DRes.ret (DV.bool (Bool.false))), []))))) := by kernel_rfl
theorem e_crl_serial_less (Lp : LpT) (a b : List (List DV)) : run P0 T0 Lp (Lt t_crl_serial_less) nY 59 [.fz a, .fz b] =
  (bif ((↑a.length : Int) != (↑b.length : Int)) then (some ((DRes.ret (DV.bool (decide ((↑a.length : Int) < (↑b.length : Int))))), [])) else (Option.bind (Go.Dv.S.dB (DV.fz a)) fun v0 => (Option.bind (Go.Dv.S.dB (DV.fz b)) fun v1 => (some ((DRes.ret (DV.bool (decide (Go.Lib.compareBytes v0 v1 < 0)))), []))))) := by kernel_rfl
theorem e_crl_Less (Lp : LpT) (a b : List (List DV)) : run P0 T0 Lp (Lt t_crl_Less) nY 21 [.fz a, .fz b] =
  (Option.bind (Go.Dv.S.dB (DV.fz a)) fun v0 => (Option.bind (Go.Dv.S.dB (DV.fz b)) fun v1 => (some ((DRes.ret (DV.bool (Go.Dv.S.lessB v0 v1))), [])))) := by kernel_rfl
theorem e_chanceryref18_Less (Lp : LpT) (a b : List (List DV)) : run P0 T0 Lp (Lt t_chanceryref18_Less) nY 22 [.fz a, .fz b] =
  (bif ((↑a.length : Int) != (↑b.length : Int)) then (some ((DRes.ret (DV.bool (decide ((↑a.length : Int) < (↑b.length : Int))))), [])) else (Lp _ (tdF T0 22 none 0) ((bodyF P0 T0 Lp (Lt t_chanceryref18_Less) nY [] 22 none 0 : FX (DRes × DHeap))) (kontF P0 T0 Lp (Lt t_chanceryref18_Less) nY [] 22 0) (Go.Dv.S.stH 40 [(0, (DSlot.v (DV.fz (a)))), (1, (DSlot.v (DV.fz (b)))), (5, (DSlot.v (DV.int (IntKind.i64) (0 : Int))))] [] []) [])) := by kernel_rfl
theorem b_chanceryref18_Less_0 (Lp : LpT) (a b : List (List DV)) (i : Int) (k : KX (DRes × DHeap)) : bodyF P0 T0 Lp (Lt t_chanceryref18_Less) nY [] 22 none 0 (stD 40 [(0, .v (.fz a)), (1, .v (.fz b)), (5, .v (.int .i64 i))] []) [] k =
  (bif (decide (i < (↑a.length : Int))) then (Option.bind (Go.Pv.idx i a.length) fun v0 => (Option.bind (a)[(v0)]? fun v1 => (Option.bind (Go.Dv.unc v1) fun v2 => (Option.bind (Go.Dv.toInt Go.IntKind.u8 v2.fst) fun v3 => (bif (v2.snd.isEmpty) then (Option.bind (Go.Pv.idx i b.length) fun v4 => (Option.bind (b)[(v4)]? fun v5 => (Option.bind (Go.Dv.unc v5) fun v6 => (Option.bind (Go.Dv.toInt Go.IntKind.u8 v6.fst) fun v7 => (bif (v6.snd.isEmpty) then (bif (v3 != v7) then (Option.bind (Go.Pv.idx i a.length) fun v8 => (Option.bind (a)[(v8)]? fun v9 => (Option.bind (Go.Dv.unc v9) fun v10 => (Option.bind (Go.Dv.toInt Go.IntKind.u8 v10.fst) fun v11 => (bif (v10.snd.isEmpty) then (Option.bind (Go.Pv.idx i b.length) fun v12 => (Option.bind (b)[(v12)]? fun v13 => (Option.bind (Go.Dv.unc v13) fun v14 => (Option.bind (Go.Dv.toInt Go.IntKind.u8 v14.fst) fun v15 => (bif (v14.snd.isEmpty) then (k DExit.ret (Go.Dv.S.stH 40 [(0, (DSlot.v (DV.fz (a)))), (1, (DSlot.v (DV.fz (b)))), (4, (DSlot.v (DV.bool (decide (v11 < v15))))), (5, (DSlot.v (DV.int (IntKind.i64) (i)))), (16, (DSlot.v (DV.int (IntKind.i64) (i)))), (17, (DSlot.v (DV.fz (a)))), (18, (DSlot.v (DV.int (IntKind.i64) ((↑a.length : Int))))), (19, (DSlot.v (DV.bool (decide (i < (↑a.length : Int)))))), (22, (DSlot.v (DV.fz (a)))), (23, (DSlot.v (DV.int (IntKind.i64) (i)))), (24, (DSlot.v (DV.fp (Bool.true) [(DV.int (IntKind.u8) (v3))]))), (25, (DSlot.v (DV.int (IntKind.u8) (v3)))), (26, (DSlot.v (DV.fz (b)))), (27, (DSlot.v (DV.int (IntKind.i64) (i)))), (28, (DSlot.v (DV.fp (Bool.true) [(DV.int (IntKind.u8) (v7))]))), (29, (DSlot.v (DV.int (IntKind.u8) (v7)))), (30, (DSlot.v (DV.bool (v3 != v7)))), (31, (DSlot.v (DV.fz (a)))), (32, (DSlot.v (DV.int (IntKind.i64) (i)))), (33, (DSlot.v (DV.fp (Bool.true) [(DV.int (IntKind.u8) (v11))]))), (34, (DSlot.v (DV.int (IntKind.u8) (v11)))), (35, (DSlot.v (DV.fz (b)))), (36, (DSlot.v (DV.int (IntKind.i64) (i)))), (37, (DSlot.v (DV.fp (Bool.true) [(DV.int (IntKind.u8) (v15))]))), (38, (DSlot.v (DV.int (IntKind.u8) (v15)))), (39, (DSlot.v (DV.bool (decide (v11 < v15)))))] [] []) []) else none))))) else none))))) else (k DExit.normal (Go.Dv.S.stH 40 [(0, (DSlot.v (DV.fz (a)))), (1, (DSlot.v (DV.fz (b)))), (5, (DSlot.v (DV.int (IntKind.i64) (IntKind.i64.wrap (i + Int.ofNat 1))))), (16, (DSlot.v (DV.int (IntKind.i64) (i)))), (17, (DSlot.v (DV.fz (a)))), (18, (DSlot.v (DV.int (IntKind.i64) ((↑a.length : Int))))), (19, (DSlot.v (DV.bool (decide (i < (↑a.length : Int)))))), (20, (DSlot.v (DV.int (IntKind.i64) (i)))), (21, (DSlot.v (DV.int (IntKind.i64) (IntKind.i64.wrap (i + Int.ofNat 1))))), (22, (DSlot.v (DV.fz (a)))), (23, (DSlot.v (DV.int (IntKind.i64) (i)))), (24, (DSlot.v (DV.fp (Bool.true) [(DV.int (IntKind.u8) (v3))]))), (25, (DSlot.v (DV.int (IntKind.u8) (v3)))), (26, (DSlot.v (DV.fz (b)))), (27, (DSlot.v (DV.int (IntKind.i64) (i)))), (28, (DSlot.v (DV.fp (Bool.true) [(DV.int (IntKind.u8) (v7))]))), (29, (DSlot.v (DV.int (IntKind.u8) (v7)))), (30, (DSlot.v (DV.bool (v3 != v7))))] [] []) [])) else none))))) else none))))) else (k (DExit.exit (0)) (Go.Dv.S.stH 40 [(0, (DSlot.v (DV.fz (a)))), (1, (DSlot.v (DV.fz (b)))), (5, (DSlot.v (DV.int (IntKind.i64) (i)))), (16, (DSlot.v (DV.int (IntKind.i64) (i)))), (17, (DSlot.v (DV.fz (a)))), (18, (DSlot.v (DV.int (IntKind.i64) ((↑a.length : Int))))), (19, (DSlot.v (DV.bool (decide (i < (↑a.length : Int))))))] [] []) [])) := by kernel_rfl
theorem e_name_May (Lp : LpT) (n : List (List DV)) : run P0 T0 Lp (Lt t_name_May) nY 107 [.fz n] =
  (bif (decide ((↑n.length : Int) > 16)) then (some ((DRes.ret (DV.bool (Bool.false))), [])) else (Lp _ (tdF T0 107 none 0) ((bodyF P0 T0 Lp (Lt t_name_May) nY [] 107 none 0 : FX (DRes × DHeap))) (kontF P0 T0 Lp (Lt t_name_May) nY [] 107 0) (Go.Dv.S.stH 18 [(8, (DSlot.v (DV.fz (n)))), (9, (DSlot.v (DV.int (IntKind.i64) ((↑n.length : Int))))), (10, (DSlot.v (DV.int (IntKind.i64) (0 : Int))))] [] []) [])) := by kernel_rfl
theorem e_crl_isTime (Lp : LpT) (t : Int) : run P0 T0 Lp (Lt t_crl_isTime) nY 108 [.int .i64 t] =
  (bif (decide (t ≥ -631152000)) then (some ((DRes.ret (DV.bool (decide (t ≤ 253402300799)))), [])) else (some ((DRes.ret (DV.bool (Bool.false))), []))) := by kernel_rfl
theorem e_crl_May (Lp : LpT)  : run P0 T0 Lp (Lt t_crl_May) nY 60 [.agg (lstD [] 0 0 (fun _ => 0) 0 [])] =
  (Lp _ (tdF T0 60 none 0) ((bodyF P0 T0 Lp (Lt t_crl_May) nY [] 60 none 0 : FX (DRes × DHeap))) (kontF P0 T0 Lp (Lt t_crl_May) nY [] 60 0) (Go.Dv.S.stH 68 [(1, (DSlot.lp (1) (0))), (40, (DSlot.v (DV.fz []))), (41, (DSlot.v (DV.int (IntKind.i64) (0 : Int)))), (42, (DSlot.v (DV.int (IntKind.i64) (0 : Int))))] [(1, (DBox.loc ([(DV.fz []), (DV.int (IntKind.i64) (0 : Int)), (DV.int (IntKind.i64) (0 : Int))] ++ (List.replicate 20 ((DV.int (IntKind.u8) (0 : Int)))) ++ [(DV.int (IntKind.i64) (0 : Int)), (DV.fz [])]) (46)))] []) []) := by kernel_rfl
theorem e_chancerylaw18_names (Lp : LpT)  : run P0 T0 Lp (Lt t_chancerylaw18_names) nY 61 [] =
  (some ((DRes.ret (DV.bool (Bool.true))), [])) := by kernel_rfl
theorem e_chancerylaw18_works (Lp : LpT)  : run P0 T0 Lp (Lt t_chancerylaw18_works) nY 23 [] =
  (some ((DRes.ret (DV.bool (Bool.true))), [])) := by kernel_rfl
end Go.Dv
end
section
namespace Go.Dv
open Go.Proofs Go.Dv.S
open Go.Pv (idx upTo)
theorem c_bytes_Equal : Con P0 T0 56 S_bytes_Equal := con2 fun x a y b hx hy => by
 obtain ⟨rfl, hl⟩ := dB_inv hx
 obtain ⟨rfl, hm⟩ := dB_inv hy
 refine Lx.of_in (tab := t_bytes_Equal) trivial ?_
 rw [e_bytes_Equal]
 simp -implicitDefEqProofs (disch := (first | omega | (simp only [List.length_cons, List.length_append, List.length_nil, List.length_take, List.length_drop, List.length_replicate, byt_len, ofBytes_len, byts_len, Sx.tn, Sx.tn1, Sx.tnL]; done) | (simp only [List.length_cons, List.length_append, List.length_nil, List.length_take, List.length_drop, List.length_replicate, byt_len, ofBytes_len, byts_len, Sx.tn, Sx.tn1, Sx.tnL]; omega))) only [Sx.w64, Sx.wu8, Sx.idxI, Sx.upI, Sx.bleT, Sx.bleF, Sx.beqT, Sx.beqF, Sx.ltT, Sx.ltF, Sx.leT, Sx.leF, Sx.gtT, Sx.gtF, Sx.geT, Sx.geF, Sx.eqT, Sx.eqF, Sx.neT, Sx.neF, Sx.ofN, Sx.tn, Sx.tn1, cond_true, cond_false, Option.bind_some, Bool.true_and, Bool.and_true, Bool.false_and, Bool.and_false, Bool.and_self, Bool.not_true, Bool.not_false, Bool.or_false, Bool.or_true, Bool.false_or, Bool.true_or, decide_true, decide_false, Nat.zero_add, Nat.add_zero, Nat.mul_one, Nat.sub_zero, List.drop_zero, List.isEmpty_nil, Int.ofNat_eq_natCast, Sx.castN, Int.natCast_zero, Int.natCast_one, Sx.tnL, Int.sub_zero, Int.add_zero, Int.zero_add, Sx.takeAll, Sx.dropAll, List.drop_succ_cons, List.drop_zero, List.getD_cons_zero, List.getD_cons_succ, byt_len, ofBytes_len, byt_all, byt_flatten, byt_flat_len, Sx.byt_get, Sx.ofB_get, Sx.byt_take, Sx.byt_drop, Sx.byt_app, Sx.ofB_take, Sx.ofB_drop, Sx.ofB_app, Sx.ofB_snoc, Sx.chunkB, Sx.frozB, Sx.zeros, ofBytes_froz, toBytes_of, Sx.uncC, Sx.toI, Sx.toF, Sx.toS, Sx.toB, List.length_append, List.length_cons, List.length_nil, List.length_take, List.length_drop, List.length_replicate, toBytes_of]
theorem c_crl_copied : Con P0 T0 57 S_crl_copied := coq1 fun x e hx => by
 obtain ⟨rfl, hl⟩ := dEnt_inv hx
 obtain ⟨s, t, u⟩ := e
 have hl : s.length ≤ lim := hl
 refine Lx.of_in (tab := t_crl_copied) ⟨c_slices_Clone_byte_byte, trivial⟩ ?_
 refine (e_crl_copied _ (byt s) t u).trans ?_
 rw [dB_ok hl, Option.bind_some]
 unfold lim at hl
 simp -implicitDefEqProofs (disch := (first | omega | (simp only [List.length_cons, List.length_append, List.length_nil, List.length_take, List.length_drop, List.length_replicate, byt_len, ofBytes_len, byts_len, Sx.tn, Sx.tn1, Sx.tnL]; done) | (simp only [List.length_cons, List.length_append, List.length_nil, List.length_take, List.length_drop, List.length_replicate, byt_len, ofBytes_len, byts_len, Sx.tn, Sx.tn1, Sx.tnL]; omega))) only [Sx.w64, Sx.wu8, Sx.idxI, Sx.upI, Sx.bleT, Sx.bleF, Sx.beqT, Sx.beqF, Sx.ltT, Sx.ltF, Sx.leT, Sx.leF, Sx.gtT, Sx.gtF, Sx.geT, Sx.geF, Sx.eqT, Sx.eqF, Sx.neT, Sx.neF, Sx.ofN, Sx.tn, Sx.tn1, cond_true, cond_false, Option.bind_some, Bool.true_and, Bool.and_true, Bool.false_and, Bool.and_false, Bool.and_self, Bool.not_true, Bool.not_false, Bool.or_false, Bool.or_true, Bool.false_or, Bool.true_or, decide_true, decide_false, Nat.zero_add, Nat.add_zero, Nat.mul_one, Nat.sub_zero, List.drop_zero, List.isEmpty_nil, Int.ofNat_eq_natCast, Sx.castN, Int.natCast_zero, Int.natCast_one, Sx.tnL, Int.sub_zero, Int.add_zero, Int.zero_add, Sx.takeAll, Sx.dropAll, List.drop_succ_cons, List.drop_zero, List.getD_cons_zero, List.getD_cons_succ, byt_len, ofBytes_len, byt_all, byt_flatten, byt_flat_len, Sx.byt_get, Sx.ofB_get, Sx.byt_take, Sx.byt_drop, Sx.byt_app, Sx.ofB_take, Sx.ofB_drop, Sx.ofB_app, Sx.ofB_snoc, Sx.chunkB, Sx.frozB, Sx.zeros, ofBytes_froz, toBytes_of, Sx.uncC, Sx.toI, Sx.toF, Sx.toS, Sx.toB, List.length_append, List.length_cons, List.length_nil, List.length_take, List.length_drop, List.length_replicate]
 rfl
theorem ent_get {es : List Entry} {i : Nat} (h : i < es.length) : (es.map ent)[i]? = some [.fz (byt es[i].1), .int .i64 es[i].2.1, .int .i64 es[i].2.2] := by
 simp [List.getElem?_map, h, ent]
theorem dEnt_ok {s : List UInt8} (t u : Int) (h : s.length ≤ lim) : dEnt (.agg [.fz (byt s), .int .i64 t, .int .i64 u]) = some (s, t, u) := by
 show ((unB (byt s)).bind fun s => some (s, t, u)) = _
 rw [unB_ok h]; rfl
theorem l_crl_Find (es : List Entry) (s : List UInt8) (hs : s.length ≤ lim) (hl : es.length ≤ lim) (he : ∀ e ∈ es, e.1.length ≤ lim) : ∀ m i, es.length - i = m → i ≤ es.length →
  LoopLim (tdF T0 17 none 0) (bodyF P0 T0 (fun _ => LoopLim) (Lt t_crl_Find) nY [] 17 none 0) (kontF P0 T0 (fun _ => LoopLim) (Lt t_crl_Find) nY [] 17 0) (stD 23 [(1, .v (.fz (byt s))), (4, .lp 4 0), (9, .v (.fz (es.map ent))), (10, .v (.int .i64 es.length)), (11, .v (.int .i64 i))] [(4, .loc [.nils, .int .i64 0, .int .i64 0] 49)]) [] = some (foE (findE (es.drop i) s)) := by
 have hc : Cons P0 T0 t_crl_Find := ⟨c_bytes_Equal, c_crl_copied, trivial⟩
 intro m
 induction m with
 | zero =>
  intro i hm hi
  have hib : i = es.length := by omega
  subst hib
  refine loop_step hc.cont ?_
  rw [b_crl_Find_0, lt_dec]
  simp only [Nat.lt_irrefl, decide_false, cond_false, List.drop_length]
  show _ = some (foE none)
  (show _ = _; kernel_rfl)
 | succ m ih =>
  intro i hm hi
  have hib : i < es.length := by omega
  have h1 := he _ (List.getElem_mem hib)
  refine loop_step hc.cont ?_
  have hel : (es.map ent).length = es.length := by simp
  rw [b_crl_Find_0]
  simp only [hel, lt_dec, hib, decide_true, cond_true, idx_nat hib, ent_get hib, unc, toInt, toFz, Option.bind_some, List.isEmpty_nil, dB_ok hs, dB_ok h1]
  rw [List.drop_eq_getElem_cons hib]
  show _ = some (foE (bif es[i].1 == s then some es[i] else findE (es.drop (i + 1)) s))
  cases h2 : (es[i].1 == s) with
  | true =>
   simp only [cond_true, dEnt_ok _ _ h1, Option.bind_some]
   refine Eq.trans ?_ ((x_crl_Find_0r (fun _ => LoopLim) es[i].1.length es[i].2.1 es[i].2.2 (ofBytes es[i].1)).trans ?_)
   ·(show _ = _; kernel_rfl)
   ·unfold lim at h1
    simp -implicitDefEqProofs (disch := (first | omega | (simp only [List.length_cons, List.length_append, List.length_nil, List.length_take, List.length_drop, List.length_replicate, byt_len, ofBytes_len, byts_len, Sx.tn, Sx.tn1, Sx.tnL]; done) | (simp only [List.length_cons, List.length_append, List.length_nil, List.length_take, List.length_drop, List.length_replicate, byt_len, ofBytes_len, byts_len, Sx.tn, Sx.tn1, Sx.tnL]; omega))) only [Sx.w64, Sx.wu8, Sx.idxI, Sx.upI, Sx.bleT, Sx.bleF, Sx.beqT, Sx.beqF, Sx.ltT, Sx.ltF, Sx.leT, Sx.leF, Sx.gtT, Sx.gtF, Sx.geT, Sx.geF, Sx.eqT, Sx.eqF, Sx.neT, Sx.neF, Sx.ofN, Sx.tn, Sx.tn1, cond_true, cond_false, Option.bind_some, Bool.true_and, Bool.and_true, Bool.false_and, Bool.and_false, Bool.and_self, Bool.not_true, Bool.not_false, Bool.or_false, Bool.or_true, Bool.false_or, Bool.true_or, decide_true, decide_false, Nat.zero_add, Nat.add_zero, Nat.mul_one, Nat.sub_zero, List.drop_zero, List.isEmpty_nil, Int.ofNat_eq_natCast, Sx.castN, Int.natCast_zero, Int.natCast_one, Sx.tnL, Int.sub_zero, Int.add_zero, Int.zero_add, Sx.takeAll, Sx.dropAll, List.drop_succ_cons, List.drop_zero, List.getD_cons_zero, List.getD_cons_succ, byt_len, ofBytes_len, byt_all, byt_flatten, byt_flat_len, Sx.byt_get, Sx.ofB_get, Sx.byt_take, Sx.byt_drop, Sx.byt_app, Sx.ofB_take, Sx.ofB_drop, Sx.ofB_app, Sx.ofB_snoc, Sx.chunkB, Sx.frozB, Sx.zeros, ofBytes_froz, toBytes_of, Sx.uncC, Sx.toI, Sx.toF, Sx.toS, Sx.toB, List.length_append, List.length_cons, List.length_nil, List.length_take, List.length_drop, List.length_replicate, ofBytes_froz]
    rfl
  | false =>
   simp only [cond_false, wrap_succ hib hl]
   refine leafT (X := true) (ih (i + 1) (by omega) (by omega)) ?_ rfl ?_ rfl
   ·(show _ = _; kernel_rfl)
   ·(show _ = _; kernel_rfl)
theorem c_crl_Find : Con P0 T0 17 S_crl_Find := coq2 fun x l y s hx hy => by
 obtain ⟨m, a, b, u, c, es, rfl, hn, he⟩ := dLst_inv hx
 obtain ⟨h1, hel, hee⟩ := dE_inv he
 cases h1
 obtain ⟨rfl, hsl⟩ := dB_inv hy
 refine Lx.of_in (tab := t_crl_Find) ⟨c_bytes_Equal, c_crl_copied, trivial⟩ ?_
 rw [e_crl_Find]
 have h2 := l_crl_Find l.2 s hsl hel hee l.2.length 0 (by omega) (by omega)
 rw [List.drop_zero] at h2
 rw [List.length_map]
 refine headT h2 ?_
 (show _ = _; kernel_rfl)
theorem l_chanceryref18_Find (es : List Entry) (s : List UInt8) (hs : s.length ≤ lim) (hl : es.length ≤ lim) (he : ∀ e ∈ es, e.1.length ≤ lim) : ∀ m i, es.length - i = m → i ≤ es.length →
  LoopLim (tdF T0 18 none 0) (bodyF P0 T0 (fun _ => LoopLim) (Lt t_chanceryref18_Find) nY [] 18 none 0) (kontF P0 T0 (fun _ => LoopLim) (Lt t_chanceryref18_Find) nY [] 18 0) (stD 27 [(0, .v (.fz (es.map ent))), (1, .v (.fz (byt s))), (4, .lp 4 0), (6, .v (.int .i64 i))] [(4, .loc [.nils, .int .i64 0, .int .i64 0] 49)]) [] = some (ret (found (findE (es.drop i) s)).val) := by
 have hc : Cons P0 T0 t_chanceryref18_Find := trivial
 intro m
 induction m with
 | zero =>
  intro i hm hi
  have hib : i = es.length := by omega
  subst hib
  refine loop_step hc.cont ?_
  have hel : (es.map ent).length = es.length := by simp
  rw [b_chanceryref18_Find_0, hel, lt_dec]
  simp only [Nat.lt_irrefl, decide_false, cond_false, List.drop_length]
  show _ = some (ret (found none).val)
  kernel_rfl
 | succ m ih =>
  intro i hm hi
  have hib : i < es.length := by omega
  refine loop_step hc.cont ?_
  have hel : (es.map ent).length = es.length := by simp
  rw [b_chanceryref18_Find_0]
  simp only [hel, lt_dec, hib, decide_true, cond_true, idx_nat hib, ent_get hib, unc, toInt, toFz, Option.bind_some, List.isEmpty_nil, byt_all, toBytes_ofBytes]
  rw [List.drop_eq_getElem_cons hib]
  show _ = some (ret (found (bif es[i].1 == s then some es[i] else findE (es.drop (i + 1)) s)).val)
  cases h1 : (es[i].1 == s) with
  | true =>
   simp only [cond_true]
   show _ = some (ret (found (some es[i])).val)
   kernel_rfl
  | false =>
   simp only [cond_false, wrap_succ hib hl]
   refine leafT (X := true) (ih (i + 1) (by omega) (by omega)) ?_ rfl ?_ rfl
   ·kernel_rfl
   ·kernel_rfl
theorem found_val (o : Option Entry) : (found o).val = .tup [entV (o.getD ([], 0, 0)), .bool o.isSome] := by cases o <;> rfl
theorem c_chanceryref18_Find : Con P0 T0 18 S_chanceryref18_Find := coq2 fun x es y s hx hy => by
 obtain ⟨rfl, hel, hee⟩ := dE_inv hx
 obtain ⟨rfl, hsl⟩ := dB_inv hy
 refine Lx.of_in (tab := t_chanceryref18_Find) trivial ?_
 rw [e_chanceryref18_Find]
 have h2 := l_chanceryref18_Find es s hsl hel hee es.length 0 (by omega) (by omega)
 rw [List.drop_zero, found_val] at h2
 refine headT h2 ?_
 kernel_rfl
end Go.Dv
end
section
namespace Go.Dv
open Go.Proofs Go.Dv.S
open Go.Pv (idx upTo)
theorem byteArg_byt' (s : B) : byteArg (.fz (byt s)) = some s := by
 show ((bif (byt s).all fun x => Nat.beq x.length 1 then some ((byt s).length, (byt s).flatten) else none).bind fun q => toBytes q.2) = _
 rw [byt_all, cond_true, Option.bind_some, byt_flatten, toBytes_of]
theorem c_internal_bytealg_Compare' : Con P0 T0 106 S_internal_bytealg_Compare := con2 fun x a y b hx hy => by
 obtain ⟨rfl, hl⟩ := dB_inv hx
 obtain ⟨rfl, hm⟩ := dB_inv hy
 refine Lx.of_in (tab := []) trivial ?_
 show (((byteArg (.fz (byt a))).bind fun a => (byteArg (.fz (byt b))).bind fun b => some (DV.int .i64 (Lib.compareBytes a b))).bind fun v => finish [] (.ret v, [])) = _
 rw [byteArg_byt', Option.bind_some, byteArg_byt']
 rfl
theorem c_bytes_Compare' : Con P0 T0 55 S_bytes_Compare := con2 fun x a y b hx hy => by
 have hx' := hx
 have hy' := hy
 obtain ⟨rfl, hl⟩ := dB_inv hx
 obtain ⟨rfl, hm⟩ := dB_inv hy
 refine Lx.of_in (tab := t_bytes_Compare) ⟨c_internal_bytealg_Compare', trivial⟩ ?_
 rw [e_bytes_Compare_, hx', Option.bind_some, hy']
 rfl
theorem c_crl_serial_less : Con P0 T0 59 S_crl_serial_less := con2 fun x a y b hx hy => by
 have hx' := hx
 have hy' := hy
 obtain ⟨rfl, hl⟩ := dB_inv hx
 obtain ⟨rfl, hm⟩ := dB_inv hy
 refine Lx.of_in (tab := t_crl_serial_less) ⟨c_bytes_Compare', trivial⟩ ?_
 rw [e_crl_serial_less, hx', hy', byt_len, byt_len]
 show _ = some (ret (.bool (lessB a b)))
 unfold lessB
 by_cases h : a.length = b.length
 ·rw [Sx.neF (by omega), cond_false, beq_iff_eq.2 h, cond_true]
  rfl
 ·rw [Sx.neT (by omega), cond_true, beq_eq_false_iff_ne.2 h, cond_false, lt_dec]
theorem c_crl_Less : Con P0 T0 21 S_crl_Less := con2 fun x a y b hx hy => by
 have hx' := hx
 have hy' := hy
 obtain ⟨rfl, hl⟩ := dB_inv hx
 obtain ⟨rfl, hm⟩ := dB_inv hy
 refine Lx.of_in (tab := t_crl_Less) ⟨c_crl_serial_less, trivial⟩ ?_
 rw [e_crl_Less, hx', Option.bind_some, hy']
 rfl
theorem l_chanceryref18_Less (a b : B) (hl : a.length ≤ lim) (hab : a.length = b.length) : ∀ m i, a.length - i = m → i ≤ a.length →
  LoopLim (tdF T0 22 none 0) (bodyF P0 T0 (fun _ => LoopLim) (Lt t_chanceryref18_Less) nY [] 22 none 0) (kontF P0 T0 (fun _ => LoopLim) (Lt t_chanceryref18_Less) nY [] 22 0) (stD 40 [(0, .v (.fz (byt a))), (1, .v (.fz (byt b))), (5, .v (.int .i64 i))] []) [] = some (ret (.bool (decide (Lib.compareBytes (a.drop i) (b.drop i) < 0)))) := by
 have hc : Cons P0 T0 t_chanceryref18_Less := trivial
 unfold lim at hl
 intro m
 induction m with
 | zero =>
  intro i hm hi
  have hie : i = a.length := by omega
  refine loop_step hc.cont ?_
  rw [b_chanceryref18_Less_0, byt_len, Sx.ltF (by omega), cond_false, List.drop_eq_nil_of_le (by omega), List.drop_eq_nil_of_le (by omega)]
  show _ = some (ret (.bool false))
  (show _ = _; kernel_rfl)
 | succ m ih =>
  intro i hm hi
  have h1 : i < a.length := by omega
  have h2 : i < b.length := by omega
  refine loop_step hc.cont ?_
  rw [b_chanceryref18_Less_0, List.drop_eq_getElem_cons h1, List.drop_eq_getElem_cons h2]
  have g1 : a.getD i 0 = a[i] := by simp [List.getD_eq_getElem?_getD, h1]
  have g2 : b.getD i 0 = b[i] := by simp [List.getD_eq_getElem?_getD, h2]
  have ha := a[i].toNat_lt
  have hb := b[i].toNat_lt
  have hw : IntKind.i64.wrap ((i : Int) + Int.ofNat 1) = ((i + 1 : Nat) : Int) := by rw [Sx.ofN, Sx.w64 (by omega)]; omega
  simp -implicitDefEqProofs (disch := (first | omega | (simp only [List.length_cons, List.length_append, List.length_nil, List.length_take, List.length_drop, List.length_replicate, byt_len, ofBytes_len, byts_len, Sx.tn, Sx.tn1, Sx.tnL]; done) | (simp only [List.length_cons, List.length_append, List.length_nil, List.length_take, List.length_drop, List.length_replicate, byt_len, ofBytes_len, byts_len, Sx.tn, Sx.tn1, Sx.tnL]; omega))) only [Sx.ltT, cond_true, byt_len, Sx.idxI, Option.bind_some, Sx.tn, Sx.byt_get, g1, g2, Sx.uncC, Sx.toI, List.isEmpty_nil, hw]
  show _ = some (ret (.bool (decide ((if a[i] < b[i] then (-1 : Int) else if b[i] < a[i] then 1 else Lib.compareBytes (a.drop (i + 1)) (b.drop (i + 1))) < 0))))
  rcases Nat.lt_trichotomy a[i].toNat b[i].toNat with h | h | h
  ·have q1 : a[i] < b[i] := UInt8.lt_iff_toNat_lt.2 h
   rw [Sx.neT (by omega), cond_true, if_pos q1, Sx.ltT (by omega)]
   (show _ = _; kernel_rfl)
  ·have q1 : ¬ a[i] < b[i] := fun q => by have := UInt8.lt_iff_toNat_lt.1 q; omega
   have q2 : ¬ b[i] < a[i] := fun q => by have := UInt8.lt_iff_toNat_lt.1 q; omega
   rw [Sx.neF (by omega), cond_false, if_neg q1, if_neg q2]
   refine leafT (X := true) (ih (i + 1) (by omega) (by omega)) ?_ rfl ?_ rfl
   ·(show _ = _; kernel_rfl)
   ·(show _ = _; kernel_rfl)
  ·have q1 : ¬ a[i] < b[i] := fun q => by have := UInt8.lt_iff_toNat_lt.1 q; omega
   have q2 : b[i] < a[i] := UInt8.lt_iff_toNat_lt.2 h
   rw [Sx.neT (by omega), cond_true, if_neg q1, if_pos q2, Sx.ltF (by omega)]
   (show _ = _; kernel_rfl)
theorem c_chanceryref18_Less : Con P0 T0 22 S_chanceryref18_Less := con2 fun x a y b hx hy => by
 obtain ⟨rfl, hl⟩ := dB_inv hx
 obtain ⟨rfl, hm⟩ := dB_inv hy
 refine Lx.of_in (tab := t_chanceryref18_Less) trivial ?_
 rw [e_chanceryref18_Less, byt_len, byt_len]
 show _ = some (ret (.bool (lessB a b)))
 unfold lessB
 by_cases h : a.length = b.length
 ·rw [Sx.neF (by omega), cond_false, beq_iff_eq.2 h, cond_true]
  have h2 := l_chanceryref18_Less a b hl h a.length 0 (by omega) (by omega)
  rw [List.drop_zero, List.drop_zero] at h2
  refine headT h2 ?_
  (show _ = _; kernel_rfl)
 ·rw [Sx.neT (by omega), cond_true, beq_eq_false_iff_ne.2 h, cond_false, lt_dec]
end Go.Dv
end
section
namespace Go.Dv
open Go.Proofs Go.Dv.S
open Go.Pv (idx upTo)
theorem l_chanceryref18_SameEntries (a b : List Entry) (hl : a.length ≤ lim) (hab : a.length = b.length) : ∀ m i, a.length - i = m → i ≤ a.length →
  LoopLim (tdF T0 19 none 0) (bodyF P0 T0 (fun _ => LoopLim) (Lt t_chanceryref18_SameEntries) nY [] 19 none 0) (kontF P0 T0 (fun _ => LoopLim) (Lt t_chanceryref18_SameEntries) nY [] 19 0) (stD 56 [(0, .v (.fz (a.map ent))), (1, .v (.fz (b.map ent))), (5, .v (.int .i64 i))] []) [] = some (ret (.bool (a.drop i == b.drop i))) := by
 have hc : Cons P0 T0 t_chanceryref18_SameEntries := trivial
 unfold lim at hl
 intro m
 induction m with
 | zero =>
  intro i hm hi
  refine loop_step hc.cont ?_
  rw [b_chanceryref18_SameEntries_0, List.length_map, Sx.ltF (by omega), cond_false, List.drop_eq_nil_of_le (by omega), List.drop_eq_nil_of_le (by omega)]
  show _ = some (ret (.bool true))
  (show _ = _; kernel_rfl)
 | succ m ih =>
  intro i hm hi
  have h1 : i < a.length := by omega
  have h2 : i < b.length := by omega
  refine loop_step hc.cont ?_
  have e : (a.drop i == b.drop i) = ((a[i].1 == b[i].1 && (a[i].2.1 == b[i].2.1 && a[i].2.2 == b[i].2.2)) && (a.drop (i + 1) == b.drop (i + 1))) := by
   rw [List.drop_eq_getElem_cons h1, List.drop_eq_getElem_cons h2]; rfl
  have hw : IntKind.i64.wrap ((i : Int) + Int.ofNat 1) = ((i + 1 : Nat) : Int) := by rw [Sx.ofN, Sx.w64 (by omega)]; omega
  have i1 : idx (i : Int) a.length = some i := idx_nat h1
  have i2 : idx (i : Int) b.length = some i := idx_nat h2
  rw [b_chanceryref18_SameEntries_0, e]
  simp -implicitDefEqProofs only [List.length_map, Sx.ltT (show (i : Int) < (a.length : Int) by omega), cond_true, i1, i2, Option.bind_some, ent_get h1, ent_get h2, Sx.uncC, Sx.toI, Sx.toF, List.isEmpty_nil, byt_all, byt_flatten, toBytes_of, hw, bne]
  cases q1 : (a[i].1 == b[i].1) with
  | false =>
   simp only [Bool.not_false, cond_true, Bool.false_and]
   (show _ = _; kernel_rfl)
  | true =>
   cases q2 : (a[i].2.1 == b[i].2.1) with
   | false =>
    simp only [Bool.not_false, Bool.not_true, cond_true, cond_false, Bool.false_and, Bool.true_and]
    (show _ = _; kernel_rfl)
   | true =>
    cases q3 : (a[i].2.2 == b[i].2.2) with
    | false =>
     simp only [Bool.not_false, Bool.not_true, cond_true, cond_false, Bool.false_and, Bool.true_and]
     (show _ = _; kernel_rfl)
    | true =>
     simp only [Bool.not_true, cond_true, cond_false, Bool.true_and]
     refine leafT (X := true) (ih (i + 1) (by omega) (by omega)) ?_ rfl ?_ rfl
     ·(show _ = _; kernel_rfl)
     ·(show _ = _; kernel_rfl)
theorem len_ne {α : Type} [BEq α] {a b : List α} (h : a.length ≠ b.length) : (a == b) = false := by
 induction a generalizing b with
 | nil =>
  cases b with
  | nil => exact absurd rfl h
  | cons y b => rfl
 | cons x a ih =>
  cases b with
  | nil => rfl
  | cons y b =>
   show (x == y && a == b) = false
   rw [ih (by simpa using h), Bool.and_false]
theorem c_chanceryref18_SameEntries : Con P0 T0 19 S_chanceryref18_SameEntries := coq2 fun x a y b hx hy => by
 obtain ⟨rfl, hal, ha⟩ := dE_inv hx
 obtain ⟨rfl, hbl, hb⟩ := dE_inv hy
 refine Lx.of_in (tab := t_chanceryref18_SameEntries) trivial ?_
 rw [e_chanceryref18_SameEntries, List.length_map, List.length_map]
 by_cases h : a.length = b.length
 ·rw [Sx.neF (by omega), cond_false]
  have h2 := l_chanceryref18_SameEntries a b hal h a.length 0 (by omega) (by omega)
  rw [List.drop_zero, List.drop_zero] at h2
  refine headT h2 ?_
  (show _ = _; kernel_rfl)
 ·rw [Sx.neT (by omega), cond_true, len_ne h]
  rfl
theorem nam_get {n : Name} {i : Nat} (h : i < n.length) : (nam n)[i]? = some [.int .i64 n[i].1, .str n[i].2] := by
 simp [nam, h]
theorem l_chanceryref12_Alike (a b : Name) (hl : a.length ≤ lim) (hab : a.length = b.length) : ∀ m i, a.length - i = m → i ≤ a.length →
  LoopLim (tdF T0 58 none 0) (bodyF P0 T0 (fun _ => LoopLim) (Lt t_chanceryref12_Alike) nY [] 58 none 0) (kontF P0 T0 (fun _ => LoopLim) (Lt t_chanceryref12_Alike) nY [] 58 0) (stD 41 [(0, .v (.fz (nam a))), (1, .v (.fz (nam b))), (5, .v (.int .i64 i))] []) [] = some (ret (.bool (a.drop i == b.drop i))) := by
 have hc : Cons P0 T0 t_chanceryref12_Alike := trivial
 unfold lim at hl
 intro m
 induction m with
 | zero =>
  intro i hm hi
  refine loop_step hc.cont ?_
  rw [b_chanceryref12_Alike_0, nam_len, Sx.ltF (by omega), cond_false, List.drop_eq_nil_of_le (by omega), List.drop_eq_nil_of_le (by omega)]
  show _ = some (ret (.bool true))
  (show _ = _; kernel_rfl)
 | succ m ih =>
  intro i hm hi
  have h1 : i < a.length := by omega
  have h2 : i < b.length := by omega
  refine loop_step hc.cont ?_
  have e : (a.drop i == b.drop i) = ((a[i].1 == b[i].1 && a[i].2 == b[i].2) && (a.drop (i + 1) == b.drop (i + 1))) := by
   rw [List.drop_eq_getElem_cons h1, List.drop_eq_getElem_cons h2]; rfl
  have hw : IntKind.i64.wrap ((i : Int) + Int.ofNat 1) = ((i + 1 : Nat) : Int) := by rw [Sx.ofN, Sx.w64 (by omega)]; omega
  have i1 : idx (i : Int) a.length = some i := idx_nat h1
  have i2 : idx (i : Int) b.length = some i := idx_nat h2
  rw [b_chanceryref12_Alike_0, e]
  simp -implicitDefEqProofs only [nam_len, Sx.ltT (show (i : Int) < (a.length : Int) by omega), cond_true, i1, i2, Option.bind_some, nam_get h1, nam_get h2, Sx.uncC, Sx.toI, Sx.toS, List.isEmpty_nil, hw, bne]
  cases q1 : (a[i].1 == b[i].1) with
  | false =>
   simp only [Bool.not_false, cond_true, Bool.false_and]
   (show _ = _; kernel_rfl)
  | true =>
   cases q2 : (a[i].2 == b[i].2) with
   | false =>
    simp only [Bool.not_false, Bool.not_true, cond_true, cond_false, Bool.false_and, Bool.true_and]
    (show _ = _; kernel_rfl)
   | true =>
    simp only [Bool.not_true, cond_true, cond_false, Bool.true_and]
    refine leafT (X := true) (ih (i + 1) (by omega) (by omega)) ?_ rfl ?_ rfl
    ·(show _ = _; kernel_rfl)
    ·(show _ = _; kernel_rfl)
theorem c_chanceryref12_Alike : Con P0 T0 58 S_chanceryref12_Alike := con2 fun x a y b hx hy => by
 obtain ⟨rfl, hal, ha⟩ := dN_inv hx
 obtain ⟨rfl, hbl, hb⟩ := dN_inv hy
 refine Lx.of_in (tab := t_chanceryref12_Alike) trivial ?_
 rw [e_chanceryref12_Alike, nam_len, nam_len]
 by_cases h : a.length = b.length
 ·rw [Sx.neF (by omega), cond_false]
  have h2 := l_chanceryref12_Alike a b hal h a.length 0 (by omega) (by omega)
  rw [List.drop_zero, List.drop_zero] at h2
  refine headT h2 ?_
  (show _ = _; kernel_rfl)
 ·rw [Sx.neT (by omega), cond_true, len_ne h]
theorem c_chanceryref18_Same : Con P0 T0 20 S_chanceryref18_Same where
 nat R xs k := by
  unfold S_chanceryref18_Same
  simp only [Option.bind_assoc, Option.bind_some]
 ok xs r h := by
  unfold S_chanceryref18_Same at h
  obtain ⟨p, hp, h⟩ := bnd' h
  obtain ⟨_, hs, h⟩ := bnd' h
  obtain ⟨l, hl, h⟩ := bnd' h
  cases h
  rw [l2_inv hp]
  have he : p.1 = p.2 := by
   unfold sameV at hs
   split at hs
   ·assumption
   ·cases hs
  rw [← he]
  obtain ⟨m, a, b, u, c, es, hx, hn, hee⟩ := dLst_inv hl
  rw [hx]
  refine Lx.of_in (tab := t_chanceryref18_Same) ⟨c_chanceryref12_Alike, c_chanceryref18_SameEntries, trivial⟩ ?_
  refine (e_chanceryref18_Same _ m es m es a b c a b c u u).trans ?_
  simp -implicitDefEqProofs only [hn, hee, Option.bind_some, beq_self_eq_true, cond_true]
end Go.Dv
end
section
namespace Go.Dv
open Go.Proofs Go.Dv.S
open Go.Pv (idx upTo)
section
variable [DGlob]
def tdO (T : DTab) (f : FuncId) (id : Nat) (st : DSt) : Bool := match T.vec f id with
 | some vs => opaqK (keepOf 0 (setVecs vs (killTmps (T.kill f id) st))) 0 (setVecs vs (killTmps (T.kill f id) st)).heap
 | none => true
theorem tdU_eqK {T : DTab} {f : FuncId} {id : Nat} {st : DSt} (h : tdO T f id st = true) : tdF T f none id st [] = tdU T f none id st := by
 unfold tdF wOf tdU
 unfold tdO at h
 simp only [tidy, tidyU]
 cases hv : T.vec f id with
 | none => rfl
 | some vs =>
  rw [hv] at h
  simp only at h ⊢
  unfold compactBy compactU
  rw [h, Bool.and_true]
  rfl
theorem leafK' {T : DTab} {f : FuncId} {t : Nat} {R : Type} {B : FX R} {k : KX R} {st' st : DSt} {X : Bool} {r r' : R} (h : LoopLim (tdF T f none t) B k st [] = some r') (e1 : tdO T f t st' = X) (hX : X = true) (e2 : tdU T f none t st' = st) (hr : r' = r) : LoopLim (tdF T f none t) B k (tdF T f none t st' []) [] = some r := by
 rw [tdU_eqK (e1.trans hX), e2, h, hr]
end
theorem c_name_May : Con P0 T0 107 S_name_May := con1 fun x a hx => by
 have hc : Cons P0 T0 t_name_May := trivial
 cases x <;> simp only [dN0] at hx <;> try (cases hx; done)
 rename_i l
 obtain ⟨h1, _⟩ := bif1 hx
 obtain rfl := List.isEmpty_iff.1 h1
 refine Lx.of_in (tab := t_name_May) trivial ?_
 rw [e_name_May]
 have h2 : decide (((([] : List (List DV)).length : Nat) : Int) > 16) = false := rfl
 rw [h2, cond_false]
 exact loop_step hc.cont (by (show _ = _; kernel_rfl))
theorem c_crl_isTime : Con P0 T0 108 S_crl_isTime := con1 fun x t hx => by
 obtain rfl := dI_inv hx
 refine Lx.of_in (tab := t_crl_isTime) trivial ?_
 rw [e_crl_isTime]
 show _ = some (ret (.bool (decide (t ≥ -631152000) && decide (t ≤ 253402300799))))
 cases decide (t ≥ -631152000) <;> rfl
theorem dL0_inv {x : DV} (h : dL0 x = some ()) : x = .agg (lstD [] 0 0 (fun _ => 0) 0 []) := by
 cases x <;> simp only [dL0] at h <;> try (cases h; done)
 obtain ⟨hty, h⟩ := shapeK_inv h
 obtain ⟨m, a, b, u, c, es, rfl⟩ := lst_form hty
 obtain ⟨h1, _⟩ := bif1 h
 simp only [lstD, List.all_append, List.all_cons, List.all_nil, Bool.and_true, Bool.and_eq_true, isZ, List.isEmpty_iff, beq_iff_eq, List.all_map, List.all_eq_true, Function.comp] at h1
 obtain ⟨⟨⟨rfl, rfl, rfl⟩, hu⟩, rfl, rfl⟩ := h1
 have : (List.range 20).map (fun i => DV.int IntKind.u8 (u i)) = (List.range 20).map (fun i => DV.int IntKind.u8 0) := List.map_congr_left fun i hi => by rw [hu i hi]
 unfold lstD
 rw [this]
theorem c_crl_May : Con P0 T0 60 S_crl_May := con1 fun x a hx => by
 have hc : Cons P0 T0 t_crl_May := ⟨c_name_May, c_crl_isTime, trivial⟩
 obtain rfl := dL0_inv hx
 refine Lx.of_in (tab := t_crl_May) hc ?_
 refine (e_crl_May _).trans ?_
 exact loop_step hc.cont (by (show _ = _; kernel_rfl))
theorem c_chancerylaw18_names : Con P0 T0 61 S_chancerylaw18_names where
 nat R xs k := by unfold S_chancerylaw18_names S_chancerylaw11_names; split <;> rfl
 ok xs r h := by
  unfold S_chancerylaw18_names S_chancerylaw11_names at h
  split at h
  ·cases h
   exact Lx.of_in (tab := []) trivial (e_chancerylaw18_names _)
  ·cases h
theorem c_chancerylaw18_works : Con P0 T0 23 S_chancerylaw18_works where
 nat R xs k := by unfold S_chancerylaw18_works S_chancerylaw11_names; split <;> rfl
 ok xs r h := by
  unfold S_chancerylaw18_works S_chancerylaw11_names at h
  split at h
  ·cases h
   exact Lx.of_in (tab := t_chancerylaw18_works) ⟨c_crl_May, c_crl_Less, c_chancerylaw18_names, trivial⟩ (e_chancerylaw18_works _)
  ·cases h
end Go.Dv
end
section
namespace Go.Dv
open Go.Proofs Go.Dv.S
open Go.Pv (idx upTo)
theorem nam_all (n : Name) : ((nam n).all fun x => Nat.beq x.length 2) = true := by simp [nam]
theorem nam_flat_len (n : Name) : (nam n).flatten.length = n.length * 2 := by
 induction n with
 | nil => rfl
 | cons p n ih =>
  show ([DV.int .i64 p.1, .str p.2] ++ (nam n).flatten).length = _
  rw [List.length_append, ih]
  simp
  omega
theorem nam_flat_froz (n : Name) : (nam n).flatten.all froz = true := by
 induction n with
 | nil => rfl
 | cons p n ih =>
  show ([DV.int .i64 p.1, .str p.2] ++ (nam n).flatten).all froz = true
  rw [List.all_append, ih]
  rfl
theorem nam_chunks : ∀ n : Name, chunks 2 n.length (nam n).flatten = nam n
 | [] => rfl
 | p :: n => by
  show [DV.int .i64 p.1, .str p.2] :: chunks 2 n.length (nam n).flatten = _
  rw [nam_chunks n]
  rfl
def entC (l : List Entry) : List DV := (l.map ent).flatten
theorem entC_len (l : List Entry) : (entC l).length = l.length * 3 := by
 induction l with
 | nil => rfl
 | cons e l ih =>
  show (ent e ++ entC l).length = _
  rw [List.length_append, ih]
  simp [ent]
  omega
theorem entC_froz (l : List Entry) : (entC l).all froz = true := by
 induction l with
 | nil => rfl
 | cons e l ih =>
  show (ent e ++ entC l).all froz = true
  rw [List.all_append, ih]
  rfl
theorem entC_chunks : ∀ l : List Entry, chunks 3 l.length (entC l) = l.map ent
 | [] => rfl
 | e :: l => by
  show ent e :: chunks 3 l.length (entC l) = _
  rw [entC_chunks l]
  rfl
theorem entC_snoc (l : List Entry) (e : Entry) : entC l ++ ent e = entC (l ++ [e]) := by simp [entC]
theorem frozEn (l : List Entry) : frozL (entC l) = some (entC l) := by unfold frozL; rw [entC_froz, cond_true]
abbrev stRw (es : List Entry) (i : Nat) : DSt := stH 33 [(0, .v (.fz (es.map ent))), (3, .v (.sl 0 0 i 0 3)), (4, .v (.int .i64 i))] [] [newBlk (entC (es.take i)) 49]
theorem l_rows (es : List Entry) (hl : es.length ≤ lim) (he : ∀ e ∈ es, e.1.length ≤ lim) : ∀ m i, es.length - i = m → i ≤ es.length → LoopLim (tdF T0 38 none 0) (bodyF P0 T0 (fun _ => LoopLim) (Lt t_chancerylaw18_rows) nY [] 38 none 0) (kontF P0 T0 (fun _ => LoopLim) (Lt t_chancerylaw18_rows) nY [] 38 0) (stRw es i) [] = some (ret (.fz (es.map ent))) := by
 have hc : Cons P0 T0 t_chancerylaw18_rows := trivial
 unfold lim at hl
 intro m
 induction m with
 | zero =>
  intro i hm hi
  have hie : i = es.length := by omega
  subst hie
  refine loop_step hc.cont ?_
  rw [b_chancerylaw18_rows_0, List.length_map, Sx.ltF (Int.le_refl _), cond_false, List.take_length]
  refine (x_chancerylaw18_rows_0 (fun _ => LoopLim) (es.map ent) es.length es.length es.length (entC es)).trans ?_
  have hb : Nat.ble (0 + es.length * 3) (entC es).length = true := Sx.bleT (by rw [entC_len]; omega)
  have ht : List.take (es.length * 3) (List.drop 0 (entC es)) = entC es := by rw [List.drop_zero]; exact Sx.takeAll (by rw [entC_len]; exact Nat.le_refl _)
  rw [hb, cond_true, ht, Option.bind_some]
  simp -implicitDefEqProofs only [freezeWith_froz, entC_froz, frozEn, Option.bind_some, entC_chunks]
 | succ m ih =>
  intro i hm hi
  have h1 : i < es.length := by omega
  have h2 := he _ (List.getElem_mem h1)
  unfold lim at h2
  refine loop_step hc.cont ?_
  have hw : IntKind.i64.wrap ((i : Int) + Int.ofNat 1) = ((i + 1 : Nat) : Int) := by rw [Sx.ofN, Sx.w64 (by omega)]; omega
  have i1 : idx (i : Int) es.length = some i := idx_nat h1
  have hn := ih (i + 1) (by omega) h1
  have hs : entC (es.take (i + 1)) = entC (es.take i) ++ ent es[i] := by
   rw [entC_snoc, List.take_add_one, List.getElem?_eq_getElem h1]
   rfl
  have hlen : (entC (es.take i)).length = i * 3 := by rw [entC_len, List.length_take]; omega
  rw [b_chancerylaw18_rows_0]
  simp -implicitDefEqProofs (disch := (first | omega | (simp only [List.length_cons, List.length_append, List.length_nil, List.length_take, List.length_drop, List.length_replicate, byt_len, ofBytes_len, byts_len, Sx.tn, Sx.tn1, Sx.tnL]; done) | (simp only [List.length_cons, List.length_append, List.length_nil, List.length_take, List.length_drop, List.length_replicate, byt_len, ofBytes_len, byts_len, Sx.tn, Sx.tn1, Sx.tnL]; omega))) only [List.length_map, Sx.ltT (show (i : Int) < (es.length : Int) by omega), cond_true, i1, Option.bind_some, ent_get h1, Sx.uncC, Sx.toI, Sx.toF, List.isEmpty_nil, byt_all, byt_flatten, byt_len, hw, Sx.bleT, Bool.and_self, hlen, Sx.beqT]
  cases hz : Nat.beq es[i].1.length 0 with
  | true =>
   simp only [cond_true]
   have hnil : es[i].1 = [] := List.eq_nil_of_length_eq_zero (Nat.eq_of_beq_eq_true hz)
   have hent : ent es[i] = [.fz [], .int .i64 es[i].2.1, .int .i64 es[i].2.2] := by unfold ent; rw [hnil]; rfl
   refine leafK' (X := ((entC (es.take i) ++ [DV.fz [], DV.int .i64 es[i].2.1, DV.int .i64 es[i].2.2]).all froz && true)) hn ?_ ?_ ?_ rfl
   ·(show _ = _; kernel_rfl)
   ·rw [← hent, ← hs, entC_froz]; rfl
   ·unfold stRw
    rw [hs, hent]
    (show _ = _; kernel_rfl)
  | false =>
   simp -implicitDefEqProofs (disch := (first | omega | (simp only [List.length_cons, List.length_append, List.length_nil, List.length_take, List.length_drop, List.length_replicate, byt_len, ofBytes_len, byts_len, Sx.tn, Sx.tn1, Sx.tnL]; done) | (simp only [List.length_cons, List.length_append, List.length_nil, List.length_take, List.length_drop, List.length_replicate, byt_len, ofBytes_len, byts_len, Sx.tn, Sx.tn1, Sx.tnL]; omega))) only [cond_false, Sx.w64, Sx.wu8, Sx.idxI, Sx.upI, Sx.bleT, Sx.bleF, Sx.beqT, Sx.beqF, Sx.ltT, Sx.ltF, Sx.leT, Sx.leF, Sx.gtT, Sx.gtF, Sx.geT, Sx.geF, Sx.eqT, Sx.eqF, Sx.neT, Sx.neF, Sx.ofN, Sx.tn, Sx.tn1, cond_true, cond_false, Option.bind_some, Bool.true_and, Bool.and_true, Bool.false_and, Bool.and_false, Bool.and_self, Bool.not_true, Bool.not_false, Bool.or_false, Bool.or_true, Bool.false_or, Bool.true_or, decide_true, decide_false, Nat.zero_add, Nat.add_zero, Nat.mul_one, Nat.sub_zero, List.drop_zero, List.isEmpty_nil, Int.ofNat_eq_natCast, Sx.castN, Int.natCast_zero, Int.natCast_one, Sx.tnL, Int.sub_zero, Int.add_zero, Int.zero_add, Sx.takeAll, Sx.dropAll, List.drop_succ_cons, List.drop_zero, List.getD_cons_zero, List.getD_cons_succ, byt_len, ofBytes_len, byt_all, byt_flatten, byt_flat_len, Sx.byt_get, Sx.ofB_get, Sx.byt_take, Sx.byt_drop, Sx.byt_app, Sx.ofB_take, Sx.ofB_drop, Sx.ofB_app, Sx.ofB_snoc, Sx.chunkB, Sx.frozB, Sx.zeros, ofBytes_froz, toBytes_of, Sx.uncC, Sx.toI, Sx.toF, Sx.toS, Sx.toB, List.length_append, List.length_cons, List.length_nil, List.length_take, List.length_drop, List.length_replicate, List.cons_append, List.nil_append, markRo, List.getElem?_cons_zero, List.getElem?_cons_succ, List.set_cons_succ, List.set_cons_zero]
   refine leafK' (X := ((entC (es.take i) ++ ent es[i]).all froz && true)) hn ?_ ?_ ?_ rfl
   ·(show _ = _; kernel_rfl)
   ·rw [← hs, entC_froz]; rfl
   ·unfold stRw
    rw [hs]
    (show _ = _; kernel_rfl)
theorem c_chancerylaw18_rows : Con P0 T0 38 S_chancerylaw18_rows := coq1 fun x es hx => by
 obtain ⟨rfl, hl, he⟩ := dE_inv hx
 refine Lx.of_in (tab := t_chancerylaw18_rows) trivial ?_
 rw [e_chancerylaw18_rows]
 refine headT (l_rows es hl he es.length 0 (by omega) (by omega)) ?_
 (show _ = _; kernel_rfl)
theorem c_chancerylaw18_copied : Con P0 T0 16 S_chancerylaw18_copied where
 nat R xs k := by
  unfold S_chancerylaw18_copied
  simp only [Option.bind_assoc, Option.bind_some]
 ok xs r h := by
  unfold S_chancerylaw18_copied at h
  obtain ⟨x, hx, h⟩ := bnd' h
  obtain ⟨l, hl, h⟩ := bnd' h
  cases h
  rw [l1_inv hx]
  obtain ⟨m, a, b, u, c, es, rfl, hn, hee⟩ := dLst_inv hl
  obtain ⟨hm, hnl, _⟩ := dN_inv hn
  cases hm
  obtain ⟨he', _, _⟩ := dE_inv hee
  cases he'
  refine Lx.of_in (tab := t_chancerylaw18_copied) ⟨c_chancerylaw18_rows, trivial⟩ ?_
  refine (e_chancerylaw18_copied _ (nam l.1) (l.2.map ent) a b c u).trans ?_
  unfold lim at hnl
  have r0 : ∀ x : List DV, repeatCells x 0 = [] := fun _ => rfl
  have t1 : List.take (l.1.length * 2) (nam l.1).flatten = (nam l.1).flatten := Sx.takeAll (by rw [nam_flat_len]; exact Nat.le_refl _)
  simp -implicitDefEqProofs (disch := (first | omega | (simp only [List.length_cons, List.length_append, List.length_nil, List.length_take, List.length_drop, List.length_replicate, byt_len, ofBytes_len, byts_len, Sx.tn, Sx.tn1, Sx.tnL]; done) | (simp only [List.length_cons, List.length_append, List.length_nil, List.length_take, List.length_drop, List.length_replicate, byt_len, ofBytes_len, byts_len, Sx.tn, Sx.tn1, Sx.tnL]; omega))) only [nam_all, nam_len, nam_flat_len, nam_flat_froz, nam_chunks, freezeWith_froz, cond_true, Option.bind_some, Nat.zero_add, Sx.bleT, Bool.and_self, hee, r0, List.nil_append, List.drop_zero, t1]
  rw [freezeWith_froz 61 _ (nam_flat_froz l.1)]
  simp -implicitDefEqProofs only [Option.bind_some, nam_chunks]
  rfl
end Go.Dv
end
section
namespace Go.Dv
open Go.Proofs Go.Dv.S
noncomputable abbrev t_chancerylaw18_CrlFinds : List (FuncId × Spec) := [(16, S_chancerylaw18_copied), (17, S_crl_Find), (18, S_chanceryref18_Find), (19, S_chanceryref18_SameEntries), (20, S_chanceryref18_Same), (21, S_crl_Less), (22, S_chanceryref18_Less), (23, S_chancerylaw18_works)]
theorem e_chancerylaw18_CrlFinds (Lp : LpT) (m es s q : List (List DV)) (a b c : Int) (u : Nat → Int) : run P0 T0 Lp (Lt t_chancerylaw18_CrlFinds) nY 5 [.agg (lstD m a b u c es), .fz s, .fz q] =
  (Option.bind (Go.Dv.S.dLst (DV.agg ([DV.fz m, DV.int Go.IntKind.i64 a, DV.int Go.IntKind.i64 b] ++ (List.map (fun (i' : Nat) => DV.int Go.IntKind.u8 (u i')) (List.range 20)) ++ [DV.int Go.IntKind.i64 c, DV.fz es]))) fun v0 => (Option.bind (bif (s.all fun (x : List Go.Dv.DV) => x.length.beq 1) then (some ((s.length), (s.flatten))) else none) fun v1 => (bif ((((((((v1.fst * 1).ble 140737488355328) && (v1.fst.ble 9223372036854775807)) && (Bool.true)) && (Bool.true)) && (Bool.true)) && (Bool.true)) && (Bool.true)) then (bif (v1.fst.beq 0) then (Option.bind (Go.Dv.S.dLst (DV.agg ([DV.fz m, DV.int Go.IntKind.i64 a, DV.int Go.IntKind.i64 b] ++ (List.map (fun (i' : Nat) => DV.int Go.IntKind.u8 (u i')) (List.range 20)) ++ [DV.int Go.IntKind.i64 c, DV.fz es]))) fun v2 => (Option.bind (Go.Dv.S.dE (DV.fz es)) fun v3 => (Option.bind (Go.Dv.S.dB (DV.fz s)) fun v4 => (bif (!(Go.Dv.S.findE v2.snd []).isSome == (Go.Dv.S.findE v3 v4).isSome) then (some ((DRes.ret (DV.bool (Bool.false))), [])) else (Option.bind (Option.bind (Option.bind (Option.bind (Option.bind (bif ((0 + ((Go.Dv.S.findE v2.snd []).getD ([], Int.ofNat 0, Int.ofNat 0)).fst.length * 1).ble (Go.Dv.ofBytes ((Go.Dv.S.findE v2.snd []).getD ([], Int.ofNat 0, Int.ofNat 0)).fst).length) then (some (List.take (((Go.Dv.S.findE v2.snd []).getD ([], Int.ofNat 0, Int.ofNat 0)).fst.length * 1) (List.drop 0 (Go.Dv.ofBytes ((Go.Dv.S.findE v2.snd []).getD ([], Int.ofNat 0, Int.ofNat 0)).fst)))) else none) fun v5 => (Option.bind (Go.Dv.frozL v5) fun v6 => (some ((DV.fz (Go.Dv.chunks 1 ((Go.Dv.S.findE v2.snd []).getD ([], Int.ofNat 0, Int.ofNat 0)).fst.length v6)), [(1)])))) fun v7 => (some ([(v7.fst), (DV.int (IntKind.i64) (((Go.Dv.S.findE v2.snd []).getD ([], Int.ofNat 0, Int.ofNat 0)).snd.fst)), (DV.int (IntKind.i64) (((Go.Dv.S.findE v2.snd []).getD ([], Int.ofNat 0, Int.ofNat 0)).snd.snd))], (v7.snd ++ ([] ++ ([] ++ [])))))) fun v8 => (some ((DV.fz [(List.take 3 v8.fst)]), ((2) :: (v8.snd))))) fun v9 => (some ([(v9.fst), (DV.fz [[(DV.fz (Go.Dv.S.byt ((Go.Dv.S.findE v3 v4).getD ([], Int.ofNat 0, Int.ofNat 0)).fst)), (DV.int (IntKind.i64) (((Go.Dv.S.findE v3 v4).getD ([], Int.ofNat 0, Int.ofNat 0)).snd.fst)), (DV.int (IntKind.i64) (((Go.Dv.S.findE v3 v4).getD ([], Int.ofNat 0, Int.ofNat 0)).snd.snd))]])], (v9.snd ++ (3 :: ([] ++ ([] ++ ([] ++ []))) ++ []))))) fun v10 => (Option.bind (Go.Dv.S.l2 v10.fst) fun v11 => (Option.bind (Go.Dv.S.dE v11.fst) fun v12 => (Option.bind (Go.Dv.S.dE v11.snd) fun v13 => (bif (!v12 == v13) then (some ((DRes.ret (DV.bool (Bool.false))), [])) else (Lp _ (tdF T0 5 none 0) ((bodyF P0 T0 Lp (Lt t_chancerylaw18_CrlFinds) nY [] 5 none 0 : FX (DRes × DHeap))) (kontF P0 T0 Lp (Lt t_chancerylaw18_CrlFinds) nY [] 5 0) (bif (((Go.Dv.ofBytes ((Go.Dv.S.findE v2.snd []).getD ([], Int.ofNat 0, Int.ofNat 0)).fst).all Go.Dv.froz) && (Bool.true)) then (Go.Dv.S.stH 82 [(1, (DSlot.v (DV.fz (s)))), (2, (DSlot.v (DV.fz (q)))), (3, (DSlot.lp (3) (0))), (7, (DSlot.lp (7) (0))), (8, (DSlot.lp (8) (0))), (12, (DSlot.v (DV.int (IntKind.i64) (0 : Int))))] [(3, (DBox.loc ([(DV.fz (m)), (DV.int (IntKind.i64) (a)), (DV.int (IntKind.i64) (b))] ++ (List.map (fun (i' : Nat) => (DV.int (IntKind.u8) (u i'))) (List.range 20)) ++ [(DV.int (IntKind.i64) (c)), (DV.fz (es))]) (46))), (7, (DBox.loc ([(DV.fz (m)), (DV.int (IntKind.i64) (a)), (DV.int (IntKind.i64) (b))] ++ (List.map (fun (i' : Nat) => (DV.int (IntKind.u8) (u i'))) (List.range 20)) ++ [(DV.int (IntKind.i64) (c)), (DV.fz (es))]) (46))), (8, (DBox.loc [(DV.sl (0) (0) (((Go.Dv.S.findE v2.snd []).getD ([], Int.ofNat 0, Int.ofNat 0)).fst.length) (0) (1)), (DV.int (IntKind.i64) (((Go.Dv.S.findE v2.snd []).getD ([], Int.ofNat 0, Int.ofNat 0)).snd.fst)), (DV.int (IntKind.i64) (((Go.Dv.S.findE v2.snd []).getD ([], Int.ofNat 0, Int.ofNat 0)).snd.snd))] (49)))] [(DBlk.mk (Go.Dv.ofBytes ((Go.Dv.S.findE v2.snd []).getD ([], Int.ofNat 0, Int.ofNat 0)).fst) (5) (Bool.true) (Bool.false) (Bool.true) none)]) else (Go.Dv.S.stH 82 [(1, (DSlot.v (DV.fz (s)))), (2, (DSlot.v (DV.fz (q)))), (3, (DSlot.lp (3) (0))), (7, (DSlot.lp (7) (0))), (8, (DSlot.lp (8) (0))), (12, (DSlot.v (DV.int (IntKind.i64) (0 : Int))))] [(3, (DBox.loc ([(DV.fz (m)), (DV.int (IntKind.i64) (a)), (DV.int (IntKind.i64) (b))] ++ (List.map (fun (i' : Nat) => (DV.int (IntKind.u8) (u i'))) (List.range 20)) ++ [(DV.int (IntKind.i64) (c)), (DV.fz (es))]) (46))), (7, (DBox.loc ([(DV.fz (m)), (DV.int (IntKind.i64) (a)), (DV.int (IntKind.i64) (b))] ++ (List.map (fun (i' : Nat) => (DV.int (IntKind.u8) (u i'))) (List.range 20)) ++ [(DV.int (IntKind.i64) (c)), (DV.fz (es))]) (46))), (8, (DBox.loc [(DV.sl (1) (0) (((Go.Dv.S.findE v2.snd []).getD ([], Int.ofNat 0, Int.ofNat 0)).fst.length) (0) (1)), (DV.int (IntKind.i64) (((Go.Dv.S.findE v2.snd []).getD ([], Int.ofNat 0, Int.ofNat 0)).snd.fst)), (DV.int (IntKind.i64) (((Go.Dv.S.findE v2.snd []).getD ([], Int.ofNat 0, Int.ofNat 0)).snd.snd))] (49)))] [(DBlk.mk [] (5) (Bool.true) (Bool.true) (Bool.true) none), (DBlk.mk (Go.Dv.ofBytes ((Go.Dv.S.findE v2.snd []).getD ([], Int.ofNat 0, Int.ofNat 0)).fst) (5) (Bool.true) (Bool.false) (Bool.true) none), (DBlk.mk [(DV.sl (1) (0) (((Go.Dv.S.findE v2.snd []).getD ([], Int.ofNat 0, Int.ofNat 0)).fst.length) (0) (1)), (DV.int (IntKind.i64) (((Go.Dv.S.findE v2.snd []).getD ([], Int.ofNat 0, Int.ofNat 0)).snd.fst)), (DV.int (IntKind.i64) (((Go.Dv.S.findE v2.snd []).getD ([], Int.ofNat 0, Int.ofNat 0)).snd.snd))] (49) (Bool.true) (Bool.false) (Bool.true) none), (DBlk.mk [(DV.fz (Go.Dv.S.byt ((Go.Dv.S.findE v3 v4).getD ([], Int.ofNat 0, Int.ofNat 0)).fst)), (DV.int (IntKind.i64) (((Go.Dv.S.findE v3 v4).getD ([], Int.ofNat 0, Int.ofNat 0)).snd.fst)), (DV.int (IntKind.i64) (((Go.Dv.S.findE v3 v4).getD ([], Int.ofNat 0, Int.ofNat 0)).snd.snd))] (49) (Bool.true) (Bool.false) (Bool.true) none)])) [])))))))))) else (Option.bind (Option.bind (Option.bind (Option.bind (bif ((0 + v1.fst * 1).ble v1.snd.length) then (some (List.take (v1.fst * 1) (List.drop 0 v1.snd))) else none) fun v14 => (Option.bind (Go.Dv.frozL v14) fun v15 => (some ((DV.fz (Go.Dv.chunks 1 v1.fst v15)), [(1)])))) fun v16 => (some ([(v16.fst)], (v16.snd ++ [])))) fun v17 => (some (((DV.agg ([(DV.fz (m)), (DV.int (IntKind.i64) (a)), (DV.int (IntKind.i64) (b))] ++ (List.map (fun (i' : Nat) => (DV.int (IntKind.u8) (u i'))) (List.range 20)) ++ [(DV.int (IntKind.i64) (c)), (DV.fz (es))])) :: (v17.fst)), ([] ++ ([] ++ ([] ++ ([] ++ ([] ++ ([] ++ ([] ++ ([] ++ ([] ++ ([] ++ ([] ++ ([] ++ ([] ++ ([] ++ ([] ++ ([] ++ ([] ++ ([] ++ ([] ++ ([] ++ ([] ++ ([] ++ ([] ++ ([] ++ ([] ++ [])))))))))))))))))))))))) ++ v17.snd)))) fun v18 => (Option.bind (Go.Dv.S.l2 v18.fst) fun v19 => (Option.bind (Go.Dv.S.dLst v19.fst) fun v20 => (Option.bind (Go.Dv.S.dB v19.snd) fun v21 => (Option.bind (Go.Dv.S.dE (DV.fz es)) fun v22 => (Option.bind (Go.Dv.S.dB (DV.fz s)) fun v23 => (bif (!(Go.Dv.S.findE v20.snd v21).isSome == (Go.Dv.S.findE v22 v23).isSome) then (some ((DRes.ret (DV.bool (Bool.false))), [])) else (Option.bind (Option.bind (Option.bind (Option.bind (Option.bind (bif ((0 + ((Go.Dv.S.findE v20.snd v21).getD ([], Int.ofNat 0, Int.ofNat 0)).fst.length * 1).ble (Go.Dv.ofBytes ((Go.Dv.S.findE v20.snd v21).getD ([], Int.ofNat 0, Int.ofNat 0)).fst).length) then (some (List.take (((Go.Dv.S.findE v20.snd v21).getD ([], Int.ofNat 0, Int.ofNat 0)).fst.length * 1) (List.drop 0 (Go.Dv.ofBytes ((Go.Dv.S.findE v20.snd v21).getD ([], Int.ofNat 0, Int.ofNat 0)).fst)))) else none) fun v24 => (Option.bind (Go.Dv.frozL v24) fun v25 => (some ((DV.fz (Go.Dv.chunks 1 ((Go.Dv.S.findE v20.snd v21).getD ([], Int.ofNat 0, Int.ofNat 0)).fst.length v25)), [(2)])))) fun v26 => (some ([(v26.fst), (DV.int (IntKind.i64) (((Go.Dv.S.findE v20.snd v21).getD ([], Int.ofNat 0, Int.ofNat 0)).snd.fst)), (DV.int (IntKind.i64) (((Go.Dv.S.findE v20.snd v21).getD ([], Int.ofNat 0, Int.ofNat 0)).snd.snd))], (v26.snd ++ ([] ++ ([] ++ [])))))) fun v27 => (some ((DV.fz [(List.take 3 v27.fst)]), ((3) :: (v27.snd))))) fun v28 => (some ([(v28.fst), (DV.fz [[(DV.fz (Go.Dv.S.byt ((Go.Dv.S.findE v22 v23).getD ([], Int.ofNat 0, Int.ofNat 0)).fst)), (DV.int (IntKind.i64) (((Go.Dv.S.findE v22 v23).getD ([], Int.ofNat 0, Int.ofNat 0)).snd.fst)), (DV.int (IntKind.i64) (((Go.Dv.S.findE v22 v23).getD ([], Int.ofNat 0, Int.ofNat 0)).snd.snd))]])], (v28.snd ++ (4 :: ([] ++ ([] ++ ([] ++ []))) ++ []))))) fun v29 => (Option.bind (Go.Dv.S.l2 v29.fst) fun v30 => (Option.bind (Go.Dv.S.dE v30.fst) fun v31 => (Option.bind (Go.Dv.S.dE v30.snd) fun v32 => (bif (!v31 == v32) then (some ((DRes.ret (DV.bool (Bool.false))), [])) else (Lp _ (tdF T0 5 none 0) ((bodyF P0 T0 Lp (Lt t_chancerylaw18_CrlFinds) nY [] 5 none 0 : FX (DRes × DHeap))) (kontF P0 T0 Lp (Lt t_chancerylaw18_CrlFinds) nY [] 5 0) (bif (((Go.Dv.ofBytes ((Go.Dv.S.findE v20.snd v21).getD ([], Int.ofNat 0, Int.ofNat 0)).fst).all Go.Dv.froz) && (Bool.true)) then (Go.Dv.S.stH 82 [(1, (DSlot.v (DV.fz (s)))), (2, (DSlot.v (DV.fz (q)))), (3, (DSlot.lp (3) (0))), (7, (DSlot.lp (7) (0))), (8, (DSlot.lp (8) (0))), (12, (DSlot.v (DV.int (IntKind.i64) (0 : Int))))] [(3, (DBox.loc ([(DV.fz (m)), (DV.int (IntKind.i64) (a)), (DV.int (IntKind.i64) (b))] ++ (List.map (fun (i' : Nat) => (DV.int (IntKind.u8) (u i'))) (List.range 20)) ++ [(DV.int (IntKind.i64) (c)), (DV.fz (es))]) (46))), (7, (DBox.loc ([(DV.fz (m)), (DV.int (IntKind.i64) (a)), (DV.int (IntKind.i64) (b))] ++ (List.map (fun (i' : Nat) => (DV.int (IntKind.u8) (u i'))) (List.range 20)) ++ [(DV.int (IntKind.i64) (c)), (DV.fz (es))]) (46))), (8, (DBox.loc [(DV.sl (0) (0) (((Go.Dv.S.findE v20.snd v21).getD ([], Int.ofNat 0, Int.ofNat 0)).fst.length) (0) (1)), (DV.int (IntKind.i64) (((Go.Dv.S.findE v20.snd v21).getD ([], Int.ofNat 0, Int.ofNat 0)).snd.fst)), (DV.int (IntKind.i64) (((Go.Dv.S.findE v20.snd v21).getD ([], Int.ofNat 0, Int.ofNat 0)).snd.snd))] (49)))] [(DBlk.mk (Go.Dv.ofBytes ((Go.Dv.S.findE v20.snd v21).getD ([], Int.ofNat 0, Int.ofNat 0)).fst) (5) (Bool.true) (Bool.false) (Bool.true) none)]) else (Go.Dv.S.stH 82 [(1, (DSlot.v (DV.fz (s)))), (2, (DSlot.v (DV.fz (q)))), (3, (DSlot.lp (3) (0))), (7, (DSlot.lp (7) (0))), (8, (DSlot.lp (8) (0))), (12, (DSlot.v (DV.int (IntKind.i64) (0 : Int))))] [(3, (DBox.loc ([(DV.fz (m)), (DV.int (IntKind.i64) (a)), (DV.int (IntKind.i64) (b))] ++ (List.map (fun (i' : Nat) => (DV.int (IntKind.u8) (u i'))) (List.range 20)) ++ [(DV.int (IntKind.i64) (c)), (DV.fz (es))]) (46))), (7, (DBox.loc ([(DV.fz (m)), (DV.int (IntKind.i64) (a)), (DV.int (IntKind.i64) (b))] ++ (List.map (fun (i' : Nat) => (DV.int (IntKind.u8) (u i'))) (List.range 20)) ++ [(DV.int (IntKind.i64) (c)), (DV.fz (es))]) (46))), (8, (DBox.loc [(DV.sl (2) (0) (((Go.Dv.S.findE v20.snd v21).getD ([], Int.ofNat 0, Int.ofNat 0)).fst.length) (0) (1)), (DV.int (IntKind.i64) (((Go.Dv.S.findE v20.snd v21).getD ([], Int.ofNat 0, Int.ofNat 0)).snd.fst)), (DV.int (IntKind.i64) (((Go.Dv.S.findE v20.snd v21).getD ([], Int.ofNat 0, Int.ofNat 0)).snd.snd))] (49)))] [(DBlk.mk [] (5) (Bool.true) (Bool.false) (Bool.true) none), (DBlk.mk (v1.snd) (5) (Bool.true) (Bool.true) (Bool.true) none), (DBlk.mk (Go.Dv.ofBytes ((Go.Dv.S.findE v20.snd v21).getD ([], Int.ofNat 0, Int.ofNat 0)).fst) (5) (Bool.true) (Bool.false) (Bool.true) none), (DBlk.mk [(DV.sl (2) (0) (((Go.Dv.S.findE v20.snd v21).getD ([], Int.ofNat 0, Int.ofNat 0)).fst.length) (0) (1)), (DV.int (IntKind.i64) (((Go.Dv.S.findE v20.snd v21).getD ([], Int.ofNat 0, Int.ofNat 0)).snd.fst)), (DV.int (IntKind.i64) (((Go.Dv.S.findE v20.snd v21).getD ([], Int.ofNat 0, Int.ofNat 0)).snd.snd))] (49) (Bool.true) (Bool.false) (Bool.true) none), (DBlk.mk [(DV.fz (Go.Dv.S.byt ((Go.Dv.S.findE v22 v23).getD ([], Int.ofNat 0, Int.ofNat 0)).fst)), (DV.int (IntKind.i64) (((Go.Dv.S.findE v22 v23).getD ([], Int.ofNat 0, Int.ofNat 0)).snd.fst)), (DV.int (IntKind.i64) (((Go.Dv.S.findE v22 v23).getD ([], Int.ofNat 0, Int.ofNat 0)).snd.snd))] (49) (Bool.true) (Bool.false) (Bool.true) none)])) [])))))))))))))) else none))) := by kernel_rfl
theorem b_chancerylaw18_CrlFinds_0 (Lp : LpT) (m es s q : List (List DV)) (a b c t v i : Int) (u : Nat → Int) (n : Nat) (cs : List DV) (k : KX (DRes × DHeap)) : bodyF P0 T0 Lp (Lt t_chancerylaw18_CrlFinds) nY [] 5 none 0 (stH 82 [(1, .v (.fz s)), (2, .v (.fz q)), (3, .lp 3 0), (7, .lp 7 0), (8, .lp 8 0), (12, .v (.int .i64 i))] [(3, .loc (lstD m a b u c es) 46), (7, .loc (lstD m a b u c es) 46), (8, .loc [.sl 0 0 n 0 1, .int .i64 t, .int .i64 v] 49)] [newBlk cs 5]) [] k =
  (bif (decide (i < (↑n : Int))) then (Option.bind (Go.Pv.idx i n) fun v0 => (Option.bind (cs[0 + v0 * 1]?) fun v1 => (Option.bind (Go.Dv.toInt Go.IntKind.u8 v1) fun v2 => (Option.bind (Go.Pv.idx i n) fun v3 => (bif ((0 + v3 * 1 + 1).ble cs.length) then (k DExit.normal (Go.Dv.S.stH 82 [(1, (DSlot.v (DV.fz (s)))), (2, (DSlot.v (DV.fz (q)))), (3, (DSlot.lp (3) (0))), (7, (DSlot.lp (7) (0))), (8, (DSlot.lp (8) (0))), (12, (DSlot.v (DV.int (IntKind.i64) (IntKind.i64.wrap (i + Int.ofNat 1))))), (41, (DSlot.v (DV.int (IntKind.i64) (i)))), (42, (DSlot.lp (8) (0))), (43, (DSlot.v (DV.sl (0) (0) (n) (0) (1)))), (44, (DSlot.v (DV.int (IntKind.i64) ((↑n : Int))))), (45, (DSlot.v (DV.bool (decide (i < (↑n : Int)))))), (46, (DSlot.v (DV.int (IntKind.i64) (i)))), (47, (DSlot.v (DV.int (IntKind.i64) (IntKind.i64.wrap (i + Int.ofNat 1))))), (48, (DSlot.lp (8) (0))), (49, (DSlot.v (DV.sl (0) (0) (n) (0) (1)))), (50, (DSlot.v (DV.int (IntKind.i64) (i)))), (51, (DSlot.lp (8) (0))), (52, (DSlot.v (DV.sl (0) (0) (n) (0) (1)))), (53, (DSlot.v (DV.int (IntKind.i64) (i)))), (54, (DSlot.v (DV.ptr (0) (0 + v0 * 1)))), (55, (DSlot.v (DV.int (IntKind.u8) (v2)))), (56, (DSlot.v (DV.int (IntKind.u8) (IntKind.u8.wrap (v2 + Int.ofNat 1))))), (57, (DSlot.v (DV.ptr (0) (0 + v3 * 1))))] [(3, (DBox.loc ([(DV.fz (m)), (DV.int (IntKind.i64) (a)), (DV.int (IntKind.i64) (b))] ++ (List.map (fun (i' : Nat) => (DV.int (IntKind.u8) (u i'))) (List.range 20)) ++ [(DV.int (IntKind.i64) (c)), (DV.fz (es))]) (46))), (7, (DBox.loc ([(DV.fz (m)), (DV.int (IntKind.i64) (a)), (DV.int (IntKind.i64) (b))] ++ (List.map (fun (i' : Nat) => (DV.int (IntKind.u8) (u i'))) (List.range 20)) ++ [(DV.int (IntKind.i64) (c)), (DV.fz (es))]) (46))), (8, (DBox.loc [(DV.sl (0) (0) (n) (0) (1)), (DV.int (IntKind.i64) (t)), (DV.int (IntKind.i64) (v))] (49)))] [(DBlk.mk (Go.Dv.splice cs (0 + v3 * 1) [DV.int Go.IntKind.u8 (IntKind.u8.wrap (v2 + Int.ofNat 1))]) (5) (Bool.true) (Bool.false) (Bool.true) none)]) []) else none))))) else (k (DExit.exit (0)) (Go.Dv.S.stH 82 [(1, (DSlot.v (DV.fz (s)))), (2, (DSlot.v (DV.fz (q)))), (3, (DSlot.lp (3) (0))), (7, (DSlot.lp (7) (0))), (8, (DSlot.lp (8) (0))), (12, (DSlot.v (DV.int (IntKind.i64) (i)))), (41, (DSlot.v (DV.int (IntKind.i64) (i)))), (42, (DSlot.lp (8) (0))), (43, (DSlot.v (DV.sl (0) (0) (n) (0) (1)))), (44, (DSlot.v (DV.int (IntKind.i64) ((↑n : Int))))), (45, (DSlot.v (DV.bool (decide (i < (↑n : Int))))))] [(3, (DBox.loc ([(DV.fz (m)), (DV.int (IntKind.i64) (a)), (DV.int (IntKind.i64) (b))] ++ (List.map (fun (i' : Nat) => (DV.int (IntKind.u8) (u i'))) (List.range 20)) ++ [(DV.int (IntKind.i64) (c)), (DV.fz (es))]) (46))), (7, (DBox.loc ([(DV.fz (m)), (DV.int (IntKind.i64) (a)), (DV.int (IntKind.i64) (b))] ++ (List.map (fun (i' : Nat) => (DV.int (IntKind.u8) (u i'))) (List.range 20)) ++ [(DV.int (IntKind.i64) (c)), (DV.fz (es))]) (46))), (8, (DBox.loc [(DV.sl (0) (0) (n) (0) (1)), (DV.int (IntKind.i64) (t)), (DV.int (IntKind.i64) (v))] (49)))] [(DBlk.mk (cs) (5) (Bool.true) (Bool.false) (Bool.true) none)]) [])) := by kernel_rfl
theorem x_chancerylaw18_CrlFinds_0 (Lp : LpT) (m es s q : List (List DV)) (a b c t v i : Int) (u : Nat → Int) (n : Nat) (cs : List DV) : kontF P0 T0 Lp (Lt t_chancerylaw18_CrlFinds) nY [] 5 0 (.exit 0) (stH 82 [(1, .v (.fz s)), (2, .v (.fz q)), (3, .lp 3 0), (7, .lp 7 0), (8, .lp 8 0), (12, .v (.int .i64 i)), (41, .v (.int .i64 i)), (42, .lp 8 0), (43, .v (.sl 0 0 n 0 1)), (44, .v (.int .i64 n)), (45, .v (.bool false))] [(3, .loc (lstD m a b u c es) 46), (7, .loc (lstD m a b u c es) 46), (8, .loc [.sl 0 0 n 0 1, .int .i64 t, .int .i64 v] 49)] [newBlk cs 5]) [] =
  (Option.bind (Go.Dv.S.sameV (DV.agg ([DV.fz m, DV.int Go.IntKind.i64 a, DV.int Go.IntKind.i64 b] ++ (List.map (fun (i' : Nat) => DV.int Go.IntKind.u8 (u i')) (List.range 20)) ++ [DV.int Go.IntKind.i64 c, DV.fz es])) (DV.agg ([DV.fz m, DV.int Go.IntKind.i64 a, DV.int Go.IntKind.i64 b] ++ (List.map (fun (i' : Nat) => DV.int Go.IntKind.u8 (u i')) (List.range 20)) ++ [DV.int Go.IntKind.i64 c, DV.fz es]))) fun v0 => (Option.bind (Go.Dv.S.dLst (DV.agg ([DV.fz m, DV.int Go.IntKind.i64 a, DV.int Go.IntKind.i64 b] ++ (List.map (fun (i' : Nat) => DV.int Go.IntKind.u8 (u i')) (List.range 20)) ++ [DV.int Go.IntKind.i64 c, DV.fz es]))) fun v1 => (Option.bind (Go.Dv.S.dB (DV.fz s)) fun v2 => (Option.bind (Go.Dv.S.dB (DV.fz q)) fun v3 => (Option.bind (Go.Dv.S.dB (DV.fz s)) fun v4 => (Option.bind (Go.Dv.S.dB (DV.fz q)) fun v5 => (bif (Go.Dv.S.lessB v2 v3 == Go.Dv.S.lessB v4 v5) then (Option.bind (Go.Dv.S.dB (DV.fz q)) fun v6 => (Option.bind (Go.Dv.S.dB (DV.fz s)) fun v7 => (Option.bind (Go.Dv.S.dB (DV.fz q)) fun v8 => (Option.bind (Go.Dv.S.dB (DV.fz s)) fun v9 => (bif (Go.Dv.S.lessB v6 v7 == Go.Dv.S.lessB v8 v9) then (some ((DRes.ret (DV.bool (Bool.true))), [])) else (some ((DRes.ret (DV.bool (Bool.false))), []))))))) else (some ((DRes.ret (DV.bool (Bool.false))), []))))))))) := by kernel_rfl
end Go.Dv
end
section
namespace Go.Dv
open Go.Proofs Go.Dv.S
open Go.Pv (idx upTo)
theorem cons_CrlFinds : Cons P0 T0 t_chancerylaw18_CrlFinds := ⟨c_chancerylaw18_copied, c_crl_Find, c_chanceryref18_Find, c_chanceryref18_SameEntries, c_chanceryref18_Same, c_crl_Less, c_chanceryref18_Less, c_chancerylaw18_works, trivial⟩
theorem findE_len {es : List Entry} (he : ∀ e ∈ es, e.1.length ≤ lim) (s : B) : ((findE es s).getD ([], 0, 0)).1.length ≤ lim := by
 induction es with
 | nil => exact Nat.zero_le _
 | cons e es ih =>
  show ((bif e.1 == s then some e else findE es s).getD ([], 0, 0)).1.length ≤ lim
  cases e.1 == s with
  | true => exact he e (by simp)
  | false => exact ih fun e' h' => he e' (by simp [h'])
section
variable (m es : List (List DV)) (s q : B) (a b c t v : Int) (u : Nat → Int)
abbrev stCF (i : Int) (x : B) : DSt := stH 82 [(1, .v (.fz (byt s))), (2, .v (.fz (byt q))), (3, .lp 3 0), (7, .lp 7 0), (8, .lp 8 0), (12, .v (.int .i64 i))] [(3, .loc (lstD m a b u c es) 46), (7, .loc (lstD m a b u c es) 46), (8, .loc [.sl 0 0 x.length 0 1, .int .i64 t, .int .i64 v] 49)] [newBlk (ofBytes x) 5]
theorem u8_succ' (c : UInt8) : IntKind.u8.wrap ((c.toNat : Int) + Int.ofNat 1) = ((c + 1).toNat : Int) := by
 rw [Sx.wu8m, UInt8.toNat_add]
 simp
theorem l_CF {l : Name × List Entry} (hd : dLst (.agg (lstD m a b u c es)) = some l) (hs : s.length ≤ lim) (hq : q.length ≤ lim) : ∀ k i (x : B), x.length ≤ lim → x.length - i = k → i ≤ x.length → LoopLim (tdF T0 5 none 0) (bodyF P0 T0 (fun _ => LoopLim) (Lt t_chancerylaw18_CrlFinds) nY [] 5 none 0) (kontF P0 T0 (fun _ => LoopLim) (Lt t_chancerylaw18_CrlFinds) nY [] 5 0) (stCF m es s q a b c t v u i x) [] = some (ret (.bool true)) := by
 have hc := cons_CrlFinds
 have hsv : sameV (.agg (lstD m a b u c es)) (.agg (lstD m a b u c es)) = some () := by unfold sameV; rw [if_pos rfl]
 unfold lstD at hd hsv
 intro k
 induction k with
 | zero =>
  intro i x hl hm hi
  refine loop_step hc.cont ?_
  rw [b_chancerylaw18_CrlFinds_0, Sx.ltF (by omega), cond_false]
  refine (x_chancerylaw18_CrlFinds_0 (fun _ => LoopLim) m es (byt s) (byt q) a b c t v i u x.length (ofBytes x)).trans ?_
  simp -implicitDefEqProofs only [hsv, hd, Option.bind_some, dB_ok hs, dB_ok hq, beq_self_eq_true, cond_true]
 | succ k ih =>
  intro i x hl hm hi
  have hil : i < x.length := by omega
  unfold lim at hl
  refine loop_step hc.cont ?_
  rw [b_chancerylaw18_CrlFinds_0]
  have hn := ih (i + 1) (x.take i ++ [x.getD i 0 + 1] ++ x.drop (i + 1)) (by unfold lim; simp; omega) (by simp; omega) (by simp; omega)
  have hln : (x.take i ++ [x.getD i 0 + 1] ++ x.drop (i + 1)).length = x.length := by simp; omega
  have hw : IntKind.i64.wrap ((i : Int) + Int.ofNat 1) = ((i + 1 : Nat) : Int) := by rw [Sx.ofN, Sx.w64 (by omega)]; omega
  simp -implicitDefEqProofs (disch := (first | omega | (simp only [List.length_cons, List.length_append, List.length_nil, List.length_take, List.length_drop, List.length_replicate, byt_len, ofBytes_len, byts_len, Sx.tn, Sx.tn1, Sx.tnL]; done) | (simp only [List.length_cons, List.length_append, List.length_nil, List.length_take, List.length_drop, List.length_replicate, byt_len, ofBytes_len, byts_len, Sx.tn, Sx.tn1, Sx.tnL]; omega))) only [Sx.ltT, cond_true, Sx.idxI, Option.bind_some, Sx.tn, Nat.zero_add, Nat.mul_one, Sx.ofB_get, Sx.toI, Sx.bleT, ofBytes_len, u8_succ', Sx.spl1, hw]
  unfold stCF at hn
  rw [hln] at hn
  refine leafT (X := ((ofBytes (x.take i ++ [x.getD i 0 + 1] ++ x.drop (i + 1))).all froz && true)) hn ?_ ?_ ?_ rfl
  ·(show _ = _; kernel_rfl)
  ·rw [ofBytes_froz]; rfl
  ·(show _ = _; kernel_rfl)
end
theorem law_CrlFinds {x y z : DV} {l : Name × List Entry} {s q : B} (hx : dLst x = some l) (hy : dB y = some s) (hz : dB z = some q) : Lx P0 T0 5 [x, y, z] (ret (.bool true)) := by
 obtain ⟨m, a, b, u, c, es, rfl, hn, hee⟩ := dLst_inv hx
 obtain ⟨he', hel, heb⟩ := dE_inv hee
 cases he'
 obtain ⟨rfl, hs⟩ := dB_inv hy
 obtain ⟨rfl, hq⟩ := dB_inv hz
 refine Lx.of_in (tab := t_chancerylaw18_CrlFinds) cons_CrlFinds ?_
 refine (e_chancerylaw18_CrlFinds _ m (l.2.map ent) (byt s) (byt q) a b c u).trans ?_
 have hx' := hx
 unfold lstD at hx'
 have hfl := findE_len heb s
 have hE : dE (.fz [[.fz (byt ((findE l.2 s).getD ([], 0, 0)).1), .int .i64 ((findE l.2 s).getD ([], 0, 0)).2.1, .int .i64 ((findE l.2 s).getD ([], 0, 0)).2.2]]) = some [(findE l.2 s).getD ([], 0, 0)] := dE_ok (es := [(findE l.2 s).getD ([], 0, 0)]) (by unfold lim; simp) (by intro e h; rw [List.mem_singleton.1 h]; exact hfl)
 have l2c : ∀ x y : DV, l2 [x, y] = some (x, y) := fun _ _ => rfl
 have t3 : ∀ x y z : DV, List.take 3 [x, y, z] = [x, y, z] := fun _ _ _ => rfl
 have hs' : s.length ≤ 1099511627776 := hs
 unfold lim at hfl
 rw [hx', Option.bind_some, byt_all, cond_true, Option.bind_some, byt_len, byt_flatten]
 cases hz0 : Nat.beq s.length 0 with
 | true =>
  have hnil : s = [] := List.eq_nil_of_length_eq_zero (Nat.eq_of_beq_eq_true hz0)
  subst hnil
  simp -implicitDefEqProofs (disch := (first | omega | (simp only [List.length_cons, List.length_append, List.length_nil, List.length_take, List.length_drop, List.length_replicate, byt_len, ofBytes_len, byts_len, Sx.tn, Sx.tn1, Sx.tnL]; done) | (simp only [List.length_cons, List.length_append, List.length_nil, List.length_take, List.length_drop, List.length_replicate, byt_len, ofBytes_len, byts_len, Sx.tn, Sx.tn1, Sx.tnL]; omega))) only [Sx.w64, Sx.wu8, Sx.idxI, Sx.upI, Sx.bleT, Sx.bleF, Sx.beqT, Sx.beqF, Sx.ltT, Sx.ltF, Sx.leT, Sx.leF, Sx.gtT, Sx.gtF, Sx.geT, Sx.geF, Sx.eqT, Sx.eqF, Sx.neT, Sx.neF, Sx.ofN, Sx.tn, Sx.tn1, cond_true, cond_false, Option.bind_some, Bool.true_and, Bool.and_true, Bool.false_and, Bool.and_false, Bool.and_self, Bool.not_true, Bool.not_false, Bool.or_false, Bool.or_true, Bool.false_or, Bool.true_or, decide_true, decide_false, Nat.zero_add, Nat.add_zero, Nat.mul_one, Nat.sub_zero, List.drop_zero, List.isEmpty_nil, Int.ofNat_eq_natCast, Sx.castN, Int.natCast_zero, Int.natCast_one, Sx.tnL, Int.sub_zero, Int.add_zero, Int.zero_add, Sx.takeAll, Sx.dropAll, List.drop_succ_cons, List.drop_zero, List.getD_cons_zero, List.getD_cons_succ, byt_len, ofBytes_len, byt_all, byt_flatten, byt_flat_len, Sx.byt_get, Sx.ofB_get, Sx.byt_take, Sx.byt_drop, Sx.byt_app, Sx.ofB_take, Sx.ofB_drop, Sx.ofB_app, Sx.ofB_snoc, Sx.chunkB, Sx.frozB, Sx.zeros, ofBytes_froz, toBytes_of, Sx.uncC, Sx.toI, Sx.toF, Sx.toS, Sx.toB, List.length_append, List.length_cons, List.length_nil, List.length_take, List.length_drop, List.length_replicate, l2c, hx', hee, hy, hE, t3, beq_self_eq_true, Bool.not_true, ofBytes_froz, hz0]
  refine headT (l_CF m (l.2.map ent) [] q a b c ((findE l.2 []).getD ([], 0, 0)).2.1 ((findE l.2 []).getD ([], 0, 0)).2.2 u hx hs hq ((findE l.2 []).getD ([], 0, 0)).1.length 0 ((findE l.2 []).getD ([], 0, 0)).1 hfl (by omega) (by omega)) ?_
  (show _ = _; kernel_rfl)
 | false =>
  simp -implicitDefEqProofs (disch := (first | omega | (simp only [List.length_cons, List.length_append, List.length_nil, List.length_take, List.length_drop, List.length_replicate, byt_len, ofBytes_len, byts_len, Sx.tn, Sx.tn1, Sx.tnL]; done) | (simp only [List.length_cons, List.length_append, List.length_nil, List.length_take, List.length_drop, List.length_replicate, byt_len, ofBytes_len, byts_len, Sx.tn, Sx.tn1, Sx.tnL]; omega))) only [Sx.w64, Sx.wu8, Sx.idxI, Sx.upI, Sx.bleT, Sx.bleF, Sx.beqT, Sx.beqF, Sx.ltT, Sx.ltF, Sx.leT, Sx.leF, Sx.gtT, Sx.gtF, Sx.geT, Sx.geF, Sx.eqT, Sx.eqF, Sx.neT, Sx.neF, Sx.ofN, Sx.tn, Sx.tn1, cond_true, cond_false, Option.bind_some, Bool.true_and, Bool.and_true, Bool.false_and, Bool.and_false, Bool.and_self, Bool.not_true, Bool.not_false, Bool.or_false, Bool.or_true, Bool.false_or, Bool.true_or, decide_true, decide_false, Nat.zero_add, Nat.add_zero, Nat.mul_one, Nat.sub_zero, List.drop_zero, List.isEmpty_nil, Int.ofNat_eq_natCast, Sx.castN, Int.natCast_zero, Int.natCast_one, Sx.tnL, Int.sub_zero, Int.add_zero, Int.zero_add, Sx.takeAll, Sx.dropAll, List.drop_succ_cons, List.drop_zero, List.getD_cons_zero, List.getD_cons_succ, byt_len, ofBytes_len, byt_all, byt_flatten, byt_flat_len, Sx.byt_get, Sx.ofB_get, Sx.byt_take, Sx.byt_drop, Sx.byt_app, Sx.ofB_take, Sx.ofB_drop, Sx.ofB_app, Sx.ofB_snoc, Sx.chunkB, Sx.frozB, Sx.zeros, ofBytes_froz, toBytes_of, Sx.uncC, Sx.toI, Sx.toF, Sx.toS, Sx.toB, List.length_append, List.length_cons, List.length_nil, List.length_take, List.length_drop, List.length_replicate, l2c, hx', hee, hy, hE, t3, beq_self_eq_true, Bool.not_true, ofBytes_froz, hz0]
  refine headT (l_CF m (l.2.map ent) s q a b c ((findE l.2 s).getD ([], 0, 0)).2.1 ((findE l.2 s).getD ([], 0, 0)).2.2 u hx hs hq ((findE l.2 s).getD ([], 0, 0)).1.length 0 ((findE l.2 s).getD ([], 0, 0)).1 hfl (by omega) (by omega)) ?_
  (show _ = _; kernel_rfl)
end Go.Dv
end
section
namespace Go.Dv
open Go.Proofs Go.Dv.S
theorem dLst_ok {m es : List (List DV)} {a b c : Int} {u : Nat → Int} {m' : Name} {es' : List Entry} (h1 : dN (.fz m) = some m') (h2 : dE (.fz es) = some es') : dLst (.agg (lstD m a b u c es)) = some (m', es') := by
 have h : dLst (.agg (lstD m a b u c es)) = (dN (.fz m)).bind fun n => (dE (.fz es)).bind fun es => some (n, es) := rfl
 rw [h, h1, h2]
 rfl
section
variable {H : Type} {K : Bulk H}
theorem rd_attr {x : List DV} {d : DataW H} (r : Tr P0 156 x d) (hb : K.B d ≤ lim) : ∃ p : Int × List UInt8, x = [.int .i64 p.1, .str p.2] ∧ p.2.length ≤ lim := by
 have h1 := r.kinds 8 (ks := [.int .i64, .str]) (by kernel_rfl)
 match x, h1 with
 | [x, y], ⟨⟨n, hx⟩, ⟨s, hy⟩, _⟩ =>
  subst hx hy
  obtain ⟨d', h2, h3⟩ := r.at (K := K) 1 1 9 1 (by kernel_rfl)
  obtain ⟨s', h4, h5⟩ := h2.str' (K := K) (by kernel_rfl)
  have h4 : [DV.str s] = [DV.str s'] := h4
  cases h4
  exact ⟨(n, s), rfl, by show s.length ≤ lim; omega⟩
theorem rd_name {x : List DV} {d : DataW H} (r : Tr P0 41 x d) (hb : K.B d ≤ lim) : ∃ n l, x = [.fz l] ∧ dN (.fz l) = some n := by
 obtain ⟨n, h1, h2, h3⟩ := r.list (K := K) (fun p : Int × List UInt8 => [.int .i64 p.1, .str p.2]) (fun p => p.2.length ≤ lim) (e := 156) (by kernel_rfl) fun x d' hr hd => rd_attr (K := K) hr (by omega)
 exact ⟨n, _, h1, dN_ok (by omega) h3⟩
theorem rd_bytes {x : List DV} {d : DataW H} (r : Tr P0 26 x d) (hb : K.B d ≤ lim) : ∃ s l, x = [.fz l] ∧ dB (.fz l) = some s := by
 obtain ⟨s, h1, h2⟩ := r.bytes (K := K) (e := 5) (by kernel_rfl) (by kernel_rfl)
 exact ⟨s, _, h1, dB_ok (by omega)⟩
theorem rd_entry {x : List DV} {d : DataW H} (r : Tr P0 49 x d) (hb : K.B d ≤ lim) : ∃ e : Entry, x = ent e ∧ e.1.length ≤ lim := by
 have h1 := r.kinds 8 (ks := [.sl, .int .i64, .int .i64]) (by kernel_rfl)
 match x, h1 with
 | [x, y, z], ⟨⟨l, hx⟩, ⟨t, hy⟩, ⟨u, hz⟩, _⟩ =>
  subst hx hy hz
  obtain ⟨d', h2, h3⟩ := r.at (K := K) 0 0 26 1 (by kernel_rfl)
  obtain ⟨s, h4, h5⟩ := h2.bytes (K := K) (e := 5) (by kernel_rfl) (by kernel_rfl)
  have h4 : [DV.fz l] = [DV.fz (byt s)] := h4
  cases h4
  exact ⟨(s, t, u), rfl, by show s.length ≤ lim; omega⟩
theorem rd_entries {x : List DV} {d : DataW H} (r : Tr P0 44 x d) (hb : K.B d ≤ lim) : ∃ es l, x = [.fz l] ∧ dE (.fz l) = some es := by
 obtain ⟨es, h1, h2, h3⟩ := r.list (K := K) ent (fun e => e.1.length ≤ lim) (e := 49) (by kernel_rfl) fun x d' hr hd => rd_entry (K := K) hr (by omega)
 exact ⟨es, _, h1, dE_ok (by omega) h3⟩
theorem rd_list {x : List DV} {d : DataW H} (r : Tr P0 46 x d) (hb : K.B d ≤ lim) : ∃ m a b u c es m' es', x = lstD m a b u c es ∧ dN (.fz m) = some m' ∧ dE (.fz es) = some es' := by
 obtain ⟨m, a, b, u, c, es, rfl⟩ := lst_form (r.kinds 8 (by kernel_rfl))
 obtain ⟨d1, h1, h2⟩ := r.at (K := K) 0 0 41 1 (by kernel_rfl)
 obtain ⟨m', l1, h3, h4⟩ := rd_name (K := K) h1 (by omega)
 have h3 : [DV.fz m] = [DV.fz l1] := h3
 cases h3
 obtain ⟨d2, h5, h6⟩ := r.at (K := K) 5 24 44 1 (by kernel_rfl)
 obtain ⟨es', l2, h7, h8⟩ := rd_entries (K := K) h5 (by omega)
 have h7 : [DV.fz es] = [DV.fz l2] := h7
 cases h7
 exact ⟨m, a, b, u, c, es, m', es', rfl, h4, h8⟩
end
end Go.Dv
end
section
namespace Go.Proofs.YtngphbjigkgeaaaDoor.crlFinds
open Go.ChangeShapes Go.WideShapes Go.ChangeAt Go.RowKit Go.Dv
theorem own : ownKnob Tryd.prog.godebug = none := by kernel_rfl
theorem law (H : Type) (ds : List (DataW H)) (hk : Rows.uptoSmall H ds = true) (trees : List DV) (h : ArgsT Tryd.prog [46, 26, 26] ds trees) : Lx P0 T0 5 trees (S.ret (.bool true)) := by
 obtain ⟨d1, ds, x1, trees, rfl, rfl, h1, h⟩ := h.cons_inv (by kernel_rfl)
 obtain ⟨d2, ds, x2, trees, rfl, rfl, h2, h⟩ := h.one_inv (by kernel_rfl)
 obtain ⟨d3, ds, x3, trees, rfl, rfl, h3, h⟩ := h.one_inv (by kernel_rfl)
 obtain ⟨rfl, rfl⟩ := h.nil_inv
 obtain ⟨m, a, b, u, c, es, m', es', rfl, g1, g2⟩ := rd_list (K := bulk H) h1 (bulk_small hk (by simp))
 obtain ⟨s, l, hx, g3⟩ := rd_bytes (K := bulk H) h2 (bulk_small hk (by simp))
 cases hx
 obtain ⟨q, l, hy, g4⟩ := rd_bytes (K := bulk H) h3 (bulk_small hk (by simp))
 cases hy
 exact law_CrlFinds (dLst_ok g1 g2) g3 g4
def wArgs : Array Value := #[(.agg (#[.slice none 0 0, .int .i64 0, .int .i64 0] ++ Array.replicate 20 (.int .u8 0) ++ #[.int .i64 0, .slice none 0 0])), (.slice none 0 0), (.slice none 0 0)]
def rArgs (H : Type) : List (DataW H) := [.agg [.nil, .lit (.int .i64 0), .lit (.int .i64 0), .agg (List.replicate 20 (.lit (.int .u8 0))), .lit (.int .i64 0), .nil], .nil, .nil]
set_option maxRecDepth 100000 in
theorem core (H : Type) (enc : TypeId × Value → H) (F : Stop.Interp) (W : World) (base : Nat) (args : Array Value) (ds gs : List (DataW H)) (before : List MemPlace)
  (hval : ∀ (j : Nat) t v, Tryd.f5.params[j]? = some t → args[j]? = some v → Value.okWide Tryd.prog W .any base t v)
  (hW : DataW.Whole enc Tryd.prog Tryd.f5.params.toList Rows.crlFindsSpec.vars false W args.toList ds gs before) (hk : Rows.uptoSmall H (ds ++ gs) = true)
  (hg : ∃ (g : Nat) (cs : Array Value) (e : TypeId) (fr : Nat × Nat), W.heap[g]? = some (.cells cs e fr)) :
  Calls Tryd.prog 5 args W fun e W' => ∃ v, e = .returned v ∧ Rows.crlFindsSpec.post enc Tryd.prog Tryd.f5 false true false false W args v W' := by
 have hgs : gs = [] := by
  obtain ⟨p, q, _, hV, _⟩ := hW
  cases gs with
  | nil => rfl
  | cons g gs => exact hV.elim
 subst hgs
 rw [List.append_nil] at hk
 have hp : Tryd.f5.params.toList = [46, 26, 26] := by rw [Tryd.params5]
 have two : ∃ d1 d2 d3, ds = [d1, d2, d3] := by
  obtain ⟨p, q, hA, _⟩ := hW
  have hA : DataW.TrodAll enc Tryd.prog W 0 (fun _ => true) true Tryd.f5.params.toList args.toList ds p := hA
  rw [hp] at hA
  have h2 := (trodAll_len hA).2
  match ds, h2 with
  | [d1, d2, d3], _ => exact ⟨d1, d2, d3, rfl⟩
 obtain ⟨d1, d2, d3, rfl⟩ := two
 refine law_core (T := T0) (T' := Tryd.T') (fun _ => rfl) (fun _ => rfl) tabOK tabD (by kernel_rfl) Tryd.func5 rfl (by kernel_rfl) (tb := 4) (by kernel_rfl) (by kernel_rfl) ?_ ?_ ?_ (s := Rows.crlFindsSpec) rfl hval hW hg rfl rfl rfl fun trees ht => law H _ hk trees (by rw [hp] at ht; exact ht)
 ·rw [hp]
  intro t ht
  rcases List.mem_cons.1 ht with rfl | ht
  ·kernel_rfl
  rcases List.mem_cons.1 ht with rfl | ht
  ·kernel_rfl
  rcases List.mem_cons.1 ht with rfl | ht
  ·kernel_rfl
  cases ht
 ·rw [hp]
  intro t ht
  rcases List.mem_cons.1 ht with rfl | ht
  ·exact ⟨by kernel_rfl, of_decide_eq_true (by kernel_rfl)⟩
  rcases List.mem_cons.1 ht with rfl | ht
  ·exact ⟨by kernel_rfl, of_decide_eq_true (by kernel_rfl)⟩
  rcases List.mem_cons.1 ht with rfl | ht
  ·exact ⟨by kernel_rfl, of_decide_eq_true (by kernel_rfl)⟩
  cases ht
 ·rw [hp]
  intro t ht
  rcases List.mem_cons.1 ht with rfl | ht
  ·exact fun _ => Nat.ne_of_beq_eq_false (by kernel_rfl)
  rcases List.mem_cons.1 ht with rfl | ht
  ·exact fun h => nomatch (show aggT P0 26 = false by kernel_rfl).symm.trans h
  rcases List.mem_cons.1 ht with rfl | ht
  ·exact fun h => nomatch (show aggT P0 26 = false by kernel_rfl).symm.trans h
  cases ht
theorem laid_met (os : Os) : laidMet Tryd.prog Rows.crlFindsUptoRow.laid ((laidWorld os).forCall (fun _ _ => 0) ⟨#[], wArgs, []⟩).memory :=
 laidMet_of_run' 8 (by kernel_rfl) (by kernel_rfl)
theorem reads (os : Os) {H : Type} (enc : TypeId × Value → H) : ∃ places, DataW.whole enc Tryd.prog ((laidWorld os).forCall (fun _ _ => 0) ⟨#[], wArgs, []⟩).memory Tryd.f5.params.toList Rows.crlFindsSpec.vars false wArgs.toList 8 = some (rArgs H, [], places) :=
 ⟨[], by kernel_rfl⟩
set_option maxRecDepth 100000 in
theorem lifted (os : Os) (started : os.Started) (H : Type) (enc : TypeId × Value → H) (F : Stop.Interp) :
  ReturnsInHanded {} Tryd.checked os 5 .any ((Rows.OpenSpec.upto Rows.crlFindsSpec).preRow enc Tryd.prog Tryd.f5 Rows.crlFindsUptoRow.domain false Rows.crlFindsUptoRow.laid) (((Rows.OpenSpec.upto Rows.crlFindsSpec).at F).post enc Tryd.prog Tryd.f5 false true false false) := by
 obtain ⟨places, hx⟩ := reads os enc
 refine law_rowL (C := Tryd.checked) (s := Rows.OpenSpec.upto Rows.crlFindsSpec) (k := Rows.uptoSmall) rfl own started (by kernel_rfl) Tryd.func5
  (witness_row_at (enc := enc) (C := Tryd.checked) false (laidWorld os) wArgs rfl (by kernel_rfl) (by kernel_rfl) (by kernel_rfl)
   (OpenSpec.preRow_of_cond 8 hx (by kernel_rfl) (fun k hk => by cases hk; kernel_rfl) (by kernel_rfl) (laid_met os))) (by kernel_rfl) (of_decide_eq_true (by kernel_rfl)) ?_
 intro W base args ds gs before hval hW hk hg
 exact core H enc F W base args ds gs before hval hW hk hg
theorem saidUpto : Rows.CrlFindsUptoSaid :=
 OpenClaim.holds_of_cond 5 Tryd.f5 rfl rfl rfl rfl rfl rfl rfl ⟨rfl, rfl, rfl, rfl, rfl⟩ rfl rfl rfl rfl rfl (by kernel_rfl) Tryd.func5 (by kernel_rfl)
  (of_decide_eq_true (by kernel_rfl)) (by unfold Func.isWrapper; first | (rw [if_pos (by decide +kernel)]; kernel_rfl) | (rw [if_neg (by decide +kernel)]; exact ⟨rfl, rfl⟩))
  (fun os started H enc _ F => by rw [OpenClaim.pre_eq_preRow]; exact lifted os started H enc F)
theorem plain (f : FuncId) (fn : Func) (hf : Tryd.pinned.checked.prog.funcNamed "chancery/chancerylaw18.CrlFinds" = some f) (hfn : Tryd.pinned.checked.prog.funcs[f]? = some fn) :
  true = Tryd.pinned.checked.prog.looks [] ∧ ∀ (j : Nat) t, fn.params[j]? = some t → Tryd.pinned.checked.prog.wantsStandIn t = false := by
 obtain rfl : f = 5 := Option.some.inj ((show Tryd.prog.funcNamed "chancery/chancerylaw18.CrlFinds" = some 5 by kernel_rfl).symm.trans hf) |>.symm
 obtain rfl : fn = Tryd.f5 := (Option.some.inj (Tryd.func5.symm.trans hfn)).symm
 refine ⟨by kernel_rfl, fun j t ht => ?_⟩
 rw [Tryd.params5] at ht
 have hm : t ∈ [46, 26, 26] := by simpa using Array.mem_of_getElem? ht
 have hall : ([46, 26, 26].all fun u => !Tryd.prog.wantsStandIn u) = true := by kernel_rfl
 exact (show Tryd.prog.wantsStandIn t = false by simpa using List.all_eq_true.1 hall t hm)
theorem cardUpto : Rows.CrlFindsUptoCardSaid :=
 Claim7.holds_tied_plain_at .later [] _ _ _ _ saidUpto (fun _ h => by cases h) (by kernel_rfl) (fun _ h => by cases h) crlFindsUpto_row_tie rfl ⟨rfl, rfl⟩ (by kernel_rfl) rfl plain (by kernel_rfl)
end Go.Proofs.YtngphbjigkgeaaaDoor.crlFinds
end

/- The evaluator of the program's form and its soundness against the model; what trees stand for. Parts: DvLaw, EvExt, DvSx. -/
import Derived.ProofKit
import Derived.JoinedCond
import Derived.OpenShut
import Derived.Lib.BytesEntry
import Derived.Test.YtngphbjigkgeaaaDoorLbF
set_option linter.unusedVariables false
set_option linter.unusedSimpArgs false
set_option linter.unusedSectionVars false
section
namespace Go.Dv
open Go.ChangeShapes Go.WideShapes Go.ChangeAt Go.RowKit
section
variable [Pv.Glob] [DGlob]
def aggT (P : Program) (t : TypeId) : Bool := match P.underlying t with
 | some (.struct _) => true
 | some (.array _ _) => true
 | _ => false
def ArgT (P : Program) {H : Type} (t : TypeId) (d : DataW H) (x : DV) : Prop := ∃ xs, Tr P t xs d ∧ match aggT P t with
 | true => x = .agg xs
 | false => xs = [x]
def ArgsT (P : Program) {H : Type} : List TypeId → List (DataW H) → List DV → Prop
 | [], [], [] => True
 | t :: ts, d :: ds, x :: xs => ArgT P t d x ∧ ArgsT P ts ds xs
 | _, _, _ => False
theorem ArgsT.nil_inv {P : Program} {H : Type} {ds : List (DataW H)} {xs : List DV} (h : ArgsT P [] ds xs) : ds = [] ∧ xs = [] := by
 cases ds <;> cases xs <;> first | exact ⟨rfl, rfl⟩ | exact h.elim
theorem ArgsT.cons_inv {P : Program} {H : Type} {t : TypeId} {ts : List TypeId} {ds : List (DataW H)} {xs : List DV} (ha : aggT P t = true) (h : ArgsT P (t :: ts) ds xs) : ∃ d ds' cs xs', ds = d :: ds' ∧ xs = .agg cs :: xs' ∧ Tr P t cs d ∧ ArgsT P ts ds' xs' := by
 cases ds with
 | nil => exact h.elim
 | cons d ds =>
  cases xs with
  | nil => exact h.elim
  | cons x xs =>
   obtain ⟨⟨cs, h1, h3⟩, h2⟩ := h
   rw [ha] at h3
   have h3 : x = .agg cs := h3
   subst h3
   exact ⟨d, ds, cs, xs, rfl, rfl, h1, h2⟩
theorem ArgsT.one_inv {P : Program} {H : Type} {t : TypeId} {ts : List TypeId} {ds : List (DataW H)} {xs : List DV} (ha : aggT P t = false) (h : ArgsT P (t :: ts) ds xs) : ∃ d ds' x xs', ds = d :: ds' ∧ xs = x :: xs' ∧ Tr P t [x] d ∧ ArgsT P ts ds' xs' := by
 cases ds with
 | nil => exact h.elim
 | cons d ds =>
  cases xs with
  | nil => exact h.elim
  | cons x xs =>
   obtain ⟨⟨cs, h1, h3⟩, h2⟩ := h
   rw [ha] at h3
   have h3 : cs = [x] := h3
   subst h3
   exact ⟨d, ds, x, xs, rfl, rfl, h1, h2⟩
theorem cells_agg {F : Fz} {x : Value} {xs : List DV} (hv : VDs F [] xs x.cells.toList) (hl : xs.length ≠ 1) : VD F [] (.agg xs) x := by
 cases x with
 | agg cs => exact .agg _ _ _ hv
 | _ => exact (hl hv.length).elim
theorem args_trees {P : Program} {H : Type} {h : Pv.Heap} {F : Fz} (hF : ∀ (j : Nat) (b : Pv.Blk), h[j]? = some b → b.live = true → F j = some (b.row, b.cells)) : ∀ (ts : List TypeId) (ds : List (DataW H)) (xs : List Value),
  (∀ t ∈ ts, aggT P t = true → P.cellsOf t ≠ 1) → (∀ (j : Nat) t x, ts[j]? = some t → xs[j]? = some x → aggT P t = false → x.oneCell' = true) → ts.length = ds.length → ts.length = xs.length →
  (∀ (j : Nat) t d, ts[j]? = some t → ds[j]? = some d → ∃ x, xs[j]? = some x ∧ Pv.Rep P h t x.cells.toList d) → ∃ trees, VDs F [] trees xs ∧ ArgsT P ts ds trees
 | [], [], [], _, _, _, _, _ => ⟨[], .nil _, trivial⟩
 | t :: ts, d :: ds, x :: xs, hsz, ho, h1, h2, hr => by
  obtain ⟨x', hx, hrep⟩ := hr 0 t d rfl rfl
  cases hx
  obtain ⟨ys, hv, htr⟩ := Rep.tree hF hrep
  obtain ⟨trees, hvs, hts⟩ := args_trees hF ts ds xs (fun t h => hsz t (by simp [h])) (fun j t x a b => ho (j + 1) t x (by simpa using a) (by simpa using b)) (by simpa using h1) (by simpa using h2) (fun j t d a b => hr (j + 1) t d (by simpa using a) (by simpa using b))
  cases ha : aggT P t with
  | true =>
   have hl : ys.length ≠ 1 := by
    have h3 := hsz t (by simp) ha
    unfold aggT at ha
    cases htr with
    | struct t fs' xs parts ht hc hrow hn he => rw [hc]; exact h3
    | array t e n xs parts h hc hk hn he => rw [hc]; exact h3
    | bool t b h => rw [h] at ha; cases ha
    | int t k n h => rw [h] at ha; cases ha
    | str t s h => rw [h] at ha; cases ha
    | nil t e h => rw [h] at ha; cases ha
    | slice t e xss elems rest h => rw [h] at ha; cases ha
   exact ⟨.agg ys :: trees, .cons _ _ _ _ _ (cells_agg hv hl) hvs, ⟨ys, htr, by rw [ha]⟩, hts⟩
  | false =>
   have h3 := ho 0 t x rfl rfl ha
   have h4 : x.cells = #[x] := by cases x <;> first | rfl | simp [Value.oneCell'] at h3
   rw [h4] at hv
   cases hv with
   | cons _ y _ _ _ hy hn =>
    cases hn
    exact ⟨y :: trees, .cons _ _ _ _ _ hy hvs, ⟨[y], htr, by rw [ha]⟩, hts⟩
 | [], _ :: _, _, _, _, h, _, _ => by simp at h
 | _ :: _, [], _, _, _, h, _, _ => by simp at h
 | [], [], _ :: _, _, _, _, h, _ => by simp at h
 | _ :: _, _ :: _, [], _, _, _, h, _ => by simp at h
theorem fot_one {P : Program} {w : World} {m : Nat} {t : TypeId} {v : Value} {r : Reach} {base : Nat} (hm : Pv.fot P m t = true) (hok : Value.okWide P w r base t v) (ha : aggT P t = false) : v.oneCell' = true := by
 rcases Pv.fot_form hm hok with ⟨cs, rfl⟩ | ⟨h1, h2⟩
 ·exfalso
  cases m with
  | zero => exact Bool.noConfusion hm
  | succ m =>
   unfold Pv.fot at hm
   unfold Value.okWide at hok
   unfold aggT at ha
   split at hm
   ·rename_i hu
    rw [hu] at hok
    simp only [Cell.okWide, hu, Cell.ok] at hok
    try simp at hok
   ·rename_i k hu
    rw [hu] at hok
    simp only [Cell.okWide, hu, Cell.ok] at hok
    try simp at hok
   ·rename_i hu
    rw [hu] at hok
    simp only [Cell.okWide, hu, Cell.ok] at hok
    try simp at hok
   ·rename_i e' hu
    rw [hu] at hok
    simp only [Cell.okWide, hu, Cell.ok] at hok
    try simp at hok
   ·rename_i fs hu
    rw [hu] at ha
    cases ha
   ·rename_i n e' hu
    rw [hu] at ha
    cases ha
   ·cases hm
 ·exact h1
theorem trodAll_len {H : Type} {enc : TypeId × Value → H} {P : Program} {w : World} {base : Nat} {sp : Nat → Bool} {hd : Bool} : ∀ {ts : List TypeId} {vs : List Value} {ds : List (DataW H)} {ps : List MemPlace}, DataW.TrodAll enc P w base sp hd ts vs ds ps → ts.length = vs.length ∧ ts.length = ds.length
 | [], [], [], _, _ => ⟨rfl, rfl⟩
 | _ :: _, _ :: _, _ :: _, _, ⟨_, _, _, h, _⟩ => by
  obtain ⟨h1, h2⟩ := trodAll_len h
  exact ⟨by simp [h1], by simp [h2]⟩
 | [], _ :: _, _, _, h => h.elim
 | [], [], _ :: _, _, h => h.elim
 | _ :: _, [], _, _, h => h.elim
 | _ :: _, _ :: _, [], _, h => h.elim
theorem trodAll_below {H : Type} {enc : TypeId × Value → H} {P : Program} (hl : laidOutB P = true) {W W' : World} (hb : Below W.heap.size W W') : ∀ {ts : List TypeId} {vs : List Value} {ds : List (DataW H)} {ps : List MemPlace}, (∀ t ∈ ts, P.readableRec t = true ∧ t < P.types.size) →
  DataW.TrodAll enc P W 0 (fun _ => true) true ts vs ds ps → (∀ x ∈ ps, x.block < W.heap.size) → DataW.TrodAll enc P W' 0 (fun b => decide (b < W.heap.size)) true ts vs ds ps
 | [], [], [], _, _, h, _ => h
 | t :: ts, v :: vs, d :: ds, _, hr, ⟨p, q, h1, h2, e⟩, hlt => by
  subst e
  exact ⟨p, q, Below.trod hl (hr t (by simp)).1 (hr t (by simp)).2 h1 hb fun x hx => hlt x (by simp [hx]), trodAll_below hl hb (fun t h => hr t (by simp [h])) h2 fun x hx => hlt x (by simp [hx]), rfl⟩
 | [], _ :: _, _, _, _, h, _ => h.elim
 | [], [], _ :: _, _, _, h, _ => h.elim
 | _ :: _, [], _, _, _, h, _ => h.elim
 | _ :: _, _ :: _, [], _, _, h, _ => h.elim
theorem law_core {H : Type} {enc : TypeId × Value → H} {P : Program} {T : DTab} {T' : Pv.Tab} (hgl : ∀ g, Pv.Glob.ix g = none) (hdg : ∀ g, DGlob.cells g = none) (hT : Pv.TabOK P T') (hD : TabD T T') {f : FuncId} {fn : Func} (hs : T'.spec f = none) (hfn : T'.fn f = some fn) (hown : T.own f = []) (hlaid : laidOutB P = true) {tb : TypeId} (hrt : fn.resultTypes = #[tb]) (htb : P.underlying tb = some .bool)
  (hfot : ∀ t ∈ fn.params.toList, Pv.fot P 20 t = true) (hread : ∀ t ∈ fn.params.toList, P.readableRec t = true ∧ t < P.types.size) (hsz : ∀ t ∈ fn.params.toList, aggT P t = true → P.cellsOf t ≠ 1)
  {s : ChangeSpec} (hvars : s.vars = []) {W : World} {base : Nat} {args : Array Value} {ds gs : List (DataW H)} {before : List MemPlace} (hval : ∀ (j : Nat) t v, fn.params[j]? = some t → args[j]? = some v → Value.okWide P W .any base t v)
  (hW : DataW.Whole enc P fn.params.toList s.vars false W args.toList ds gs before) (hg : ∃ (g : Nat) (cs : Array Value) (e : TypeId) (fr : Nat × Nat), W.heap[g]? = some (.cells cs e fr))
  (hres : (s.fn H ds).results = [.lit (.bool true)]) (harg : (s.fn H ds).args = ds) (hvr : (s.fn H ds).vars = [])
  (law : ∀ trees, ArgsT P fn.params.toList ds trees → Lx P T f trees (S.ret (.bool true))) :
  Calls P f args W fun e W' => ∃ v, e = .returned v ∧ s.post enc P fn false true false false W args v W' := by
 have hW' := hW
 obtain ⟨p, q, hA, hV, hbef, hfz, hnd⟩ := hW
 rw [hvars] at hV
 have hgs : gs = [] ∧ q = [] := by
  cases gs with
  | nil => exact ⟨rfl, hV⟩
  | cons g gs => exact hV.elim
 obtain ⟨rfl, rfl⟩ := hgs
 rw [List.append_nil] at hbef
 subst hbef
 obtain ⟨hl1, hl2⟩ := trodAll_len hA
 obtain ⟨ρ, h, xs, _, _, hro, hr, hv, hreps⟩ := Pv.open_args hg fn.params.toList args.toList ds _ hfot (fun j t v a b => hval j t v (by simpa using a) (by simpa using b)) hA [] [] Pv.HRel.empty (fun b hb => by simp at hb)
 obtain ⟨trees, hvt, hts⟩ := args_trees (F := allF h) (fun j b hb hl => allF_mem hb hl) fn.params.toList ds xs hsz (fun j t x h1 h2 h3 => by
  obtain ⟨y, hy, hxy⟩ := hv.get h2
  have h4 := fot_one (hfot t (List.mem_of_getElem? h1)) (hval j t y (by simpa using h1) (by simpa using hy)) h3
  cases hxy <;> first | rfl | exact h4) hl2 (by rw [hl1, hv.length]) hreps
 have hcall := law_calls hT hD hs hfn hown (w := W) (ys := args.toList) (fun g i e => by rw [hgl] at e; cases e) (fun g cs e => by rw [hdg] at e; cases e) hr hro hv hvt (law trees hts)
 have hcall2 : Calls P f args W fun ex w' => ex = .returned (.bool true) ∧ RowKit.Below W.heap.size W w' := callsIn_wide.1 hcall
 refine hcall2.mono fun e W' ⟨he, hb⟩ => ?_
 subst he
 have hlt : ∀ x ∈ before, x.block < W.heap.size := hW'.lt
 refine ⟨_, rfl, ds, [], before, [], before, [], hW', ?_, ?_, ?_, hb.frame _, fun hh => by cases hh⟩
 ·rw [List.append_nil, hres, hrt]
  exact trodAll_cons_mk (shut_bool htb _) trodAll_mk0
 ·rw [List.append_nil, harg]
  exact trodAll_below hlaid hb hread hA hlt
 ·rw [List.append_nil, hvr, hvars]
  exact rfl
end
end Go.Dv
end
section
namespace Go.Pv
inductive Xt where
 | indexByte
 | compare
 | add64
 | sub64
def addE (s : Bool) : Array Value → Sem Value := match s with
 | true => add64Entry
 | false => fun args => do
  let (x, y, b) ← Extern.MathBitsCarry.three "Sub64" args
  pure (Extern.MathBitsCarry.pair ((x + Extern.MathBitsCarry.m64 - y - b) % Extern.MathBitsCarry.m64) (if x < y + b then 1 else 0))
def Xt.entry : Xt → Array Value → Sem Value
 | .indexByte => Extern.BytealgIndexByte.indexByte
 | .compare => Extern.BytealgCompare.compare
 | .add64 => addE true
 | .sub64 => addE false
def byteArg (h : Heap) : Value → Option (List UInt8)
 | .string s => some s.data.toList
 | .slice none _ _ => some []
 | .slice (some a) n _ => (addrOf (some a)).bind fun p => (hcells h p.1 p.2 n).bind toBytes
 | _ => none
def carry (x y c : Int) : Bool := decide (0 ≤ x) && decide (0 ≤ y) && decide (0 ≤ c) && decide (c ≤ 1)
def sum64 (x y c : Int) : Int × Int := ((x + y + c) % 18446744073709551616, (x + y + c) / 18446744073709551616)
def dif64 (x y b : Int) : Int × Int := ((x.toNat + 18446744073709551616 - y.toNat - b.toNat : Nat) % 18446744073709551616, if x < y + b then 1 else 0)
def Xt.val : Xt → Heap → List Value → Option Value
 | .indexByte, h, [x, .int .u8 c] => (byteArg h x).bind fun b => some (.int .i64 (Lib.indexByte b c.toNat.toUInt8))
 | .compare, h, [x, y] => (byteArg h x).bind fun a => (byteArg h y).bind fun b => some (.int .i64 (Lib.compareBytes a b))
 | .add64, _, [.int .u64 x, .int .u64 y, .int .u64 c] => bif carry x y c then some (.tuple ⟨[.int .u64 (sum64 x y c).1, .int .u64 (sum64 x y c).2]⟩) else none
 | .sub64, _, [.int .u64 x, .int .u64 y, .int .u64 c] => bif carry x y c then some (.tuple ⟨[.int .u64 (dif64 x y c).1, .int .u64 (dif64 x y c).2]⟩) else none
 | _, _, _ => none
def Xt.spec (e : Xt) : List Value → Heap → Option (Res × Heap) := fun xs h => (e.val h xs).bind fun v => some (.ret v, h)
section
variable [Glob] {P : Program} {ρ : Rho} {w : World} {h : Heap}
theorem byteArg_ok (hr : HRel P ρ h w) {x y : Value} (hv : VR ρ x y) {bs : List UInt8} (e : byteArg h x = some bs) : (Extern.Bytes.bytesOf y).run P w = .ok ⟨⟨bs⟩⟩ w := by
 cases hv <;> simp only [byteArg] at e <;> try (cases e; done)
 case string s => cases e; rfl
 case nilSlice => cases e; rfl
 case slice id off n c c' rb hat hn hc hm hu =>
  replace e := Option.bind_eq_some_iff.1 e
  obtain ⟨p, hp, e⟩ := e
  cases addrOf_eq hp
  replace e := Option.bind_eq_some_iff.1 e
  obtain ⟨cs, hcs, e⟩ := e
  obtain ⟨ys, hl, hv, h1, hcell⟩ := hcells_rel (st := ⟨[], [], h⟩) hr hat hcs
  obtain ⟨ns, rfl, rfl⟩ := toBytes_eq e
  obtain rfl := VRs.ints hv
  have hk := Lib.run_loadBytesX (P := P) w ns ⟨rb.b, rb.base + p.2, none⟩ .empty (fun j x hj => hcell j _ (by rw [List.getElem?_map, hj]; rfl))
  have hl' : ns.length = n := by simpa using hl
  rw [hl'] at hk
  show (Extern.Bytes.loadBytes ⟨rb.b, rb.base + p.2, none⟩ n .empty).run P w = _
  rw [hk]
  simp [Lib.bytesOf, ByteArray.empty, ByteArray.emptyWithCapacity]
  rfl
 case empty id off A rb hat =>
  replace e := Option.bind_eq_some_iff.1 e
  obtain ⟨p, hp, e⟩ := e
  cases addrOf_eq hp
  replace e := Option.bind_eq_some_iff.1 e
  obtain ⟨cs, hcs, e⟩ := e
  obtain ⟨ys, hl, hv, h1, hcell⟩ := hcells_rel (st := ⟨[], [], h⟩) hr hat hcs
  have : cs = [] := List.eq_nil_of_length_eq_zero (by rw [hv.length]; exact hl)
  subst this
  cases e
  rfl
theorem run_sub64 (x y b : Nat) (hb : b ≤ 1) (w : World) :
  (addE false #[.int .u64 x, .int .u64 y, .int .u64 b]).run P w =
   .ok (.tuple #[.int .u64 (((x + 18446744073709551616 - y - b) % 18446744073709551616 : Nat) : Int), .int .u64 ((if x < y + b then 1 else 0 : Nat) : Int)]) w := by
 have : b = 0 ∨ b = 1 := by omega
 rcases this with rfl | rfl <;> rfl
theorem carry_ok {x y c : Int} (h : carry x y c = true) : 0 ≤ x ∧ 0 ≤ y ∧ 0 ≤ c ∧ c ≤ 1 := by
 simp only [carry, Bool.and_eq_true, decide_eq_true_eq] at h
 exact ⟨h.1.1.1, h.1.1.2, h.1.2, h.2⟩
theorem Xt.run (e : Xt) (hr : HRel P ρ h w) {xs ys : List Value} (hv : VRs ρ xs ys) {v : Value} (he : e.val h xs = some v) : (e.entry ⟨ys⟩).run P w = .ok v w ∧ VR ρ v v := by
 unfold Xt.val at he
 split at he
 ·rename_i x c
  obtain ⟨b, hb, he⟩ := Option.bind_eq_some_iff.1 he
  cases he
  cases hv with | cons _ y _ _ h1 t =>
  cases t with | cons _ y2 _ _ h2 t =>
  cases t
  cases h2
  refine ⟨?_, .int _ _⟩
  have h3 := byteArg_ok hr h1 hb
  have h4 := Lib.run_indexByteString (P := P) ⟨⟨b⟩⟩ c w
  change Sem.run P (do
   let b ← Extern.Bytes.bytesOf y
   let c' ← Extern.Bytes.asByte (.int .u8 c)
   match (List.range b.size).find? fun i => b[i]! == c' with
   | some i => pure (goInt i)
   | none => pure (goInt (-1))) w = _
  change Sem.run P (do
   let b ← Extern.Bytes.bytesOf (.string ⟨⟨b⟩⟩)
   let c' ← Extern.Bytes.asByte (.int .u8 c)
   match (List.range b.size).find? fun i => b[i]! == c' with
   | some i => pure (goInt i)
   | none => pure (goInt (-1))) w = _ at h4
  simp only [Sem.run_bind, h3, Result.andThen] at h4 ⊢
  exact h4
 ·rename_i x y
  obtain ⟨a, ha, he⟩ := Option.bind_eq_some_iff.1 he
  obtain ⟨b, hb, he⟩ := Option.bind_eq_some_iff.1 he
  cases he
  cases hv with | cons _ y1 _ _ h1 t =>
  cases t with | cons _ y2 _ _ h2 t =>
  cases t
  refine ⟨?_, .int _ _⟩
  have h3 := byteArg_ok hr h1 ha
  have h4 := byteArg_ok hr h2 hb
  change Sem.run P (do pure (goInt (Extern.BytealgCompare.cmp (← Extern.Bytes.bytesOf y1) (← Extern.Bytes.bytesOf y2)))) w = _
  simp only [Sem.run_bind, h3, h4, Result.andThen, Sem.run_pure]
  rw [Lib.cmp_eq]
  rfl
 ·rename_i x y c
  obtain ⟨hc, he⟩ := bif_some he
  cases he
  obtain ⟨h1, h2, h3, h4⟩ := carry_ok hc
  cases hv with | cons _ y1 _ _ v1 t =>
  cases t with | cons _ y2 _ _ v2 t =>
  cases t with | cons _ y3 _ _ v3 t =>
  cases t
  cases v1; cases v2; cases v3
  exact ⟨run_add64 x y c h1 h2 h3 h4 w, .tuple _ _ (.cons _ _ _ _ (.int _ _) (.cons _ _ _ _ (.int _ _) .nil))⟩
 ·rename_i x y c
  obtain ⟨hc, he⟩ := bif_some he
  cases he
  obtain ⟨h1, h2, h3, h4⟩ := carry_ok hc
  cases hv with | cons _ y1 _ _ v1 t =>
  cases t with | cons _ y2 _ _ v2 t =>
  cases t with | cons _ y3 _ _ v3 t =>
  cases t
  cases v1; cases v2; cases v3
  refine ⟨?_, .tuple _ _ (.cons _ _ _ _ (.int _ _) (.cons _ _ _ _ (.int _ _) .nil))⟩
  obtain ⟨X, rfl⟩ := Int.eq_ofNat_of_zero_le h1
  obtain ⟨Y, rfl⟩ := Int.eq_ofNat_of_zero_le h2
  obtain ⟨C, rfl⟩ := Int.eq_ofNat_of_zero_le h3
  refine (run_sub64 X Y C (by omega) w).trans ?_
  simp only [dif64, Int.toNat_natCast]
  congr 5
  ·by_cases hh : X < Y + C
   ·rw [if_pos hh, if_pos (by omega)]; rfl
   ·rw [if_neg hh, if_neg (by omega)]; rfl
 ·cases he
theorem Left.same (hr : HRel P ρ h w) (hg : GOK ρ) {v y : Value} (hv : VR ρ v y) : Left P ρ h w (v, h) y ρ w where
 ext := .refl ρ
 hr := hr
 v := hv
 f := ⟨rfl, rfl, rfl, Nat.le_refl _, fun _ _ _ => rfl⟩
 n :=
  have s := (Rel.start (P := P) hg hr (xs := []) (ys := []) .nil default).n
  ⟨s.wh, fun d cs e b hd => by simp at hd, s.wn, s.len, s.liv, s.wo⟩
theorem Xt.xok {f : FuncId} {fn : Func} (e : Xt) (hf : P.funcs[f]? = some fn) (hname : (fn.name == "runtime.NumGoroutine") = false) (hb : fn.body.isNone = true) (hn : Extern.findNext fn = none) (he : Extern.find fn = some e.entry) :
  XOK P fun t xs h => match t with
   | .fn g => if g = f then e.spec xs h else none
   | .yield _ => none := by
 intro t xs h r hx ρ w ys s hg hr hv ht
 cases t with
 | yield l => cases hx
 | fn g =>
  replace hx : (if g = f then e.spec xs h else none) = some r := hx
  by_cases hgf : g = f
  ·subst hgf
   rw [if_pos rfl] at hx
   obtain ⟨v, h1, h2⟩ := Option.bind_eq_some_iff.1 hx
   cases h2
   obtain ⟨h3, h4⟩ := e.run hr hv h1
   replace ht : s = callFunc g ⟨ys⟩ := ht
   subst ht
   intro ro o a next Q hnext _
   rw [run_callFunc_extern hf hname hb hn he, h3]
   exact hnext v w ⟨v, ρ, rfl, Left.same hr hg h4⟩
  ·rw [if_neg hgf] at hx
   cases hx
end
end Go.Pv
namespace Go.Dv
open Go.Pv (Xt Heap)
def byteArg : DV → Option (List UInt8)
 | .str s => some s
 | x => bif isSl x then (news [] 1 x).bind fun q => toBytes q.2 else none
def Xt.val : Xt → List DV → Option DV
 | .indexByte, [x, .int .u8 c] => (byteArg x).bind fun b => some (.int .i64 (Lib.indexByte b c.toNat.toUInt8))
 | .compare, [x, y] => (byteArg x).bind fun a => (byteArg y).bind fun b => some (.int .i64 (Lib.compareBytes a b))
 | .add64, [.int .u64 x, .int .u64 y, .int .u64 c] => bif Pv.carry x y c then some (.tup [.int .u64 (Pv.sum64 x y c).1, .int .u64 (Pv.sum64 x y c).2]) else none
 | .sub64, [.int .u64 x, .int .u64 y, .int .u64 c] => bif Pv.carry x y c then some (.tup [.int .u64 (Pv.dif64 x y c).1, .int .u64 (Pv.dif64 x y c).2]) else none
 | _, _ => none
section
variable [Pv.Glob] [DGlob] {F : Fz} {μ : Mu} {h : Heap}
theorem byteArg_rel (i : DInv F μ [] h) {x : DV} {y : Value} (hx : VD F μ x y) {bs : List UInt8} (e : byteArg x = some bs) : Pv.byteArg h y = some bs := by
 have key : ∀ x : DV, VD F μ x y → (bif isSl x then (news [] 1 x).bind fun q => toBytes q.2 else none) = some bs → Pv.byteArg h y = some bs := by
  intro x hx e
  obtain ⟨hs, e⟩ := Pv.bif_some e
  obtain ⟨q, hq, e⟩ := Option.bind_eq_some_iff.1 e
  obtain ⟨A, n, c, rfl, hqn, hA⟩ := news_rel i hx hs hq
  rcases hA with ⟨rfl, rfl, rfl, hq2⟩ | ⟨j, off, cs', rfl, h10, h11⟩
  ·rw [hq2] at e; cases e; rfl
  ·rw [Nat.mul_one] at h10
   simp only [Pv.byteArg, Pv.addrOf, Option.isNone_none, cond_true, Option.bind_some, h10, toBytes_rel h11 e]
 cases x <;> try exact key _ hx e
 cases e
 cases hx
 rfl
theorem Xt.rel (e : Xt) (i : DInv F μ [] h) {xs : List DV} {ys : List Value} (hv : VDs F μ xs ys) {v : DV} (he : Xt.val e xs = some v) : ∃ w, e.val h ys = some w ∧ VD F μ v w := by
 unfold Xt.val at he
 split at he
 ·obtain ⟨b, hb, he⟩ := Option.bind_eq_some_iff.1 he
  cases he
  cases hv with | cons _ _ y _ _ h1 t =>
  cases t with | cons _ _ y2 _ _ h2 t =>
  cases t
  cases h2
  exact ⟨_, by simp only [Pv.Xt.val, byteArg_rel i h1 hb, Option.bind_some], .int _ _ _⟩
 ·obtain ⟨a, ha, he⟩ := Option.bind_eq_some_iff.1 he
  obtain ⟨b, hb, he⟩ := Option.bind_eq_some_iff.1 he
  cases he
  cases hv with | cons _ _ y _ _ h1 t =>
  cases t with | cons _ _ y2 _ _ h2 t =>
  cases t
  exact ⟨_, by simp only [Pv.Xt.val, byteArg_rel i h1 ha, byteArg_rel i h2 hb, Option.bind_some], .int _ _ _⟩
 ·obtain ⟨hc, he⟩ := Pv.bif_some he
  cases he
  cases hv with | cons _ _ y _ _ h1 t =>
  cases t with | cons _ _ y2 _ _ h2 t =>
  cases t with | cons _ _ y3 _ _ h3 t =>
  cases t
  cases h1; cases h2; cases h3
  exact ⟨_, by simp only [Pv.Xt.val, hc, cond_true], .tup _ _ _ (.cons _ _ _ _ _ (.int _ _ _) (.cons _ _ _ _ _ (.int _ _ _) (.nil _)))⟩
 ·obtain ⟨hc, he⟩ := Pv.bif_some he
  cases he
  cases hv with | cons _ _ y _ _ h1 t =>
  cases t with | cons _ _ y2 _ _ h2 t =>
  cases t with | cons _ _ y3 _ _ h3 t =>
  cases t
  cases h1; cases h2; cases h3
  exact ⟨_, by simp only [Pv.Xt.val, hc, cond_true], .tup _ _ _ (.cons _ _ _ _ _ (.int _ _ _) (.cons _ _ _ _ _ (.int _ _ _) (.nil _)))⟩
 ·cases he
theorem Xt.sound (e : Xt) {xs : List DV} {v : DV} (he : Xt.val e xs = some v) {ys : List Value} (i : DInv F μ [] h) (hv : VDs F μ xs ys) : ∃ F' w h', e.spec ys h = some (.ret w, h') ∧ DInv F' μ [] h' ∧ VD F' μ v w ∧ Ext F μ h F' μ h' := by
 obtain ⟨w, h1, h2⟩ := Xt.rel e i hv he
 exact ⟨F, w, h, by simp only [Pv.Xt.spec, h1, Option.bind_some], i, h2, .refl F μ h⟩
end
end Go.Dv
end
section
namespace Go.Dv
open Go.Pv (LoopRec PExit idx upTo)
open Go.Dv.S
namespace Sx
theorem w64 {x : Int} (h : -9223372036854775808 ≤ x ∧ x < 9223372036854775808) : IntKind.i64.wrap x = x := by
 simp only [IntKind.wrap, IntKind.bits, IntKind.signed]
 simp
 omega
theorem wu8 {x : Int} (h : 0 ≤ x ∧ x < 256) : IntKind.u8.wrap x = x := by
 simp only [IntKind.wrap, IntKind.bits, IntKind.signed]
 simp
 omega
theorem wu8m {x : Int} : IntKind.u8.wrap x = x % 256 := by
 simp only [IntKind.wrap, IntKind.bits, IntKind.signed]
 simp
theorem idxI {i : Int} {n : Nat} (h : 0 ≤ i ∧ i < n) : idx i n = some i.toNat := by
 obtain ⟨k, rfl⟩ := Int.eq_ofNat_of_zero_le h.1
 have : k < n := by omega
 show (bif Nat.blt k n then some k else none) = some k
 have : Nat.blt k n = true := by simpa using this
 rw [this, cond_true]
theorem upI {i : Int} {n : Nat} (h : 0 ≤ i ∧ i ≤ n) : upTo i n = some i.toNat := by
 obtain ⟨k, rfl⟩ := Int.eq_ofNat_of_zero_le h.1
 have : k ≤ n := by omega
 show (bif Nat.ble k n then some k else none) = some k
 rw [Nat.ble_eq_true_of_le this, cond_true]
theorem bleT {a b : Nat} (h : a ≤ b) : Nat.ble a b = true := Nat.ble_eq_true_of_le h
theorem bleF {a b : Nat} (h : b < a) : Nat.ble a b = false := Bool.eq_false_iff.2 fun e => by have := Nat.le_of_ble_eq_true e; omega
theorem beqT {a b : Nat} (h : a = b) : Nat.beq a b = true := by rw [h]; exact Nat.beq_refl b
theorem beqF {a b : Nat} (h : a ≠ b) : Nat.beq a b = false := Bool.eq_false_iff.2 fun e => h (Nat.eq_of_beq_eq_true e)
theorem bltT {a b : Nat} (h : a < b) : Nat.blt a b = true := by simpa using h
theorem ltT {a b : Int} (h : a < b) : decide (a < b) = true := decide_eq_true h
theorem ltF {a b : Int} (h : b ≤ a) : decide (a < b) = false := decide_eq_false (by omega)
theorem leT {a b : Int} (h : a ≤ b) : decide (a ≤ b) = true := decide_eq_true h
theorem leF {a b : Int} (h : b < a) : decide (a ≤ b) = false := decide_eq_false (by omega)
theorem gtT {a b : Int} (h : b < a) : decide (a > b) = true := decide_eq_true h
theorem gtF {a b : Int} (h : a ≤ b) : decide (a > b) = false := decide_eq_false (by omega)
theorem geT {a b : Int} (h : b ≤ a) : decide (a ≥ b) = true := decide_eq_true h
theorem geF {a b : Int} (h : a < b) : decide (a ≥ b) = false := decide_eq_false (by omega)
theorem eqT {a b : Int} (h : a = b) : (a == b) = true := by rw [h]; exact beq_self_eq_true b
theorem eqF {a b : Int} (h : a ≠ b) : (a == b) = false := beq_eq_false_iff_ne.2 h
theorem neT {a b : Int} (h : a ≠ b) : (a != b) = true := by simpa using h
theorem neF {a b : Int} (h : a = b) : (a != b) = false := by simpa using h
theorem ofN (n : Nat) : Int.ofNat n = (n : Int) := rfl
theorem castN {n : Nat} : ((no_index (OfNat.ofNat n) : Nat) : Int) = OfNat.ofNat n := rfl
theorem tn (n : Nat) : ((n : Int)).toNat = n := rfl
theorem tn1 (n : Nat) : ((n : Int) + 1).toNat = n + 1 := rfl
theorem tnL {n : Nat} : Int.toNat (no_index (OfNat.ofNat n)) = OfNat.ofNat n := rfl
theorem uncC (x : DV) (xs : List DV) : unc (x :: xs) = some (x, xs) := rfl
theorem toI (k : IntKind) (n : Int) : toInt k (.int k n) = some n := by
 show (bif decide (k = k) then some n else none) = some n
 simp
theorem toF (l : List (List DV)) : toFz (.fz l) = some l := rfl
theorem toS (s : List UInt8) : toStr (.str s) = some s := rfl
theorem toB (b : Bool) : toBool (.bool b) = some b := rfl
theorem byt_get {s : List UInt8} {j : Nat} (h : j < s.length) : (byt s)[j]? = some [.int .u8 (s.getD j 0).toNat] := by
 simp [byt, h]
theorem ofB_get {s : List UInt8} {j : Nat} (h : j < s.length) : (ofBytes s)[j]? = some (.int .u8 (s.getD j 0).toNat) := by
 simp [ofBytes, h]
theorem byt_take (s : List UInt8) (n : Nat) : (byt s).take n = byt (s.take n) := by simp [byt]
theorem byt_drop (s : List UInt8) (n : Nat) : (byt s).drop n = byt (s.drop n) := by simp [byt]
theorem byt_app (s t : List UInt8) : byt s ++ byt t = byt (s ++ t) := by simp [byt]
theorem ofB_take (s : List UInt8) (n : Nat) : (ofBytes s).take n = ofBytes (s.take n) := by simp [ofBytes]
theorem ofB_drop (s : List UInt8) (n : Nat) : (ofBytes s).drop n = ofBytes (s.drop n) := by simp [ofBytes]
theorem ofB_app (s t : List UInt8) : ofBytes s ++ ofBytes t = ofBytes (s ++ t) := by simp [ofBytes]
theorem ofB_snoc (s : List UInt8) (b : UInt8) : ofBytes s ++ [.int .u8 b.toNat] = ofBytes (s ++ [b]) := by simp [ofBytes]
theorem chunkB {s : List UInt8} {n : Nat} (h : n = s.length) : chunks 1 n (ofBytes s) = byt s := by rw [h]; exact chunks_of s
theorem frozB (s : List UInt8) : frozL (ofBytes s) = some (ofBytes s) := by unfold frozL; rw [ofBytes_froz, cond_true]
theorem takeAll {α : Type} {l : List α} {n : Nat} (h : l.length ≤ n) : l.take n = l := List.take_of_length_le h
theorem dropAll {α : Type} {l : List α} {n : Nat} (h : l.length ≤ n) : l.drop n = [] := List.drop_eq_nil_of_le h
theorem spl1 (s : List UInt8) (n : Nat) (b : UInt8) : splice (ofBytes s) n [.int .u8 b.toNat] = ofBytes (s.take n ++ [b] ++ s.drop (n + 1)) := by
 simp [splice, ofBytes]
theorem zeros (n : Nat) : repeatCells [DV.int IntKind.u8 0] n = ofBytes (List.replicate n 0) := by
 induction n with
 | zero => rfl
 | succ n ih => show DV.int IntKind.u8 0 :: repeatCells _ n = _; rw [ih]; rfl
end Sx
inductive Bq : Type 1 where
 | leaf (r : DRes × DHeap)
 | opt {γ : Type} (o : Option γ) (n : Bq) (f : γ → Bq)
 | cnd (b : Bool) (t e : Bq)
def Bq.run {R : Type} (k : DRes × DHeap → Option R) : Bq → Option R
 | .leaf v => k v
 | .opt o n f => match o with
  | none => n.run k
  | some c => (f c).run k
 | .cnd b t e => bif b then t.run k else e.run k
def Bq.val : Bq → DRes × DHeap
 | .leaf v => v
 | .opt o n f => match o with
  | none => n.val
  | some c => (f c).val
 | .cnd b t e => bif b then t.val else e.val
theorem Bq.run_eq {R : Type} (k : DRes × DHeap → Option R) (b : Bq) : b.run k = k b.val := by
 induction b with
 | leaf v => rfl
 | opt o n f ih ihf => cases o with
  | none => exact ih
  | some c => exact ihf c
 | cnd b t e iht ihe => cases b with
  | true => exact iht
  | false => exact ihe
namespace S
def l1 : List DV → Option (DV)
 | [x] => some (x)
 | _ => none
def l2 : List DV → Option (DV × DV)
 | [x, y] => some (x, y)
 | _ => none
end S
def sq1 {α : Type} (d1 : DV → Option α) (g : α → Bq) : Spec := fun R xs k => (l1 xs).bind fun p => (d1 p).bind fun a => (g a).run k
def sq2 {α β : Type} (d1 : DV → Option α) (d2 : DV → Option β) (g : α → β → Bq) : Spec := fun R xs k => (l2 xs).bind fun p => (d1 p.1).bind fun a => (d2 p.2).bind fun b => (g a b).run k
theorem l1_inv {xs : List DV} {p : DV} (h : l1 xs = some p) : xs = [p] := by
 unfold l1 at h
 split at h
 ·cases h; rfl
 ·cases h
theorem l2_inv {xs : List DV} {p : DV × DV} (h : l2 xs = some p) : xs = [p.1, p.2] := by
 unfold l2 at h
 split at h
 ·cases h; rfl
 ·cases h
section
variable [DGlob] {P : Program} {T : DTab}
theorem coq1 {α : Type} {fn : FuncId} {d1 : DV → Option α} {g : α → Bq} (h : ∀ x a, d1 x = some a → Lx P T fn [x] (g a).val) : Con P T fn (sq1 d1 g) where
 nat R xs k := by
  unfold sq1
  simp only [Option.bind_assoc, Bq.run_eq, Option.bind_some]
 ok xs r e := by
  unfold sq1 at e
  obtain ⟨p, hp, e⟩ := bnd' e
  rw [l1_inv hp]
  obtain ⟨a, ha, e⟩ := bnd' e
  rw [Bq.run_eq] at e
  cases e
  exact h _ _ ha
theorem coq2 {α β : Type} {fn : FuncId} {d1 : DV → Option α} {d2 : DV → Option β} {g : α → β → Bq} (h : ∀ x a y b, d1 x = some a → d2 y = some b → Lx P T fn [x, y] (g a b).val) : Con P T fn (sq2 d1 d2 g) where
 nat R xs k := by
  unfold sq2
  simp only [Option.bind_assoc, Bq.run_eq, Option.bind_some]
 ok xs r e := by
  unfold sq2 at e
  obtain ⟨p, hp, e⟩ := bnd' e
  rw [l2_inv hp]
  obtain ⟨a, ha, e⟩ := bnd' e
  obtain ⟨b, hb, e⟩ := bnd' e
  rw [Bq.run_eq] at e
  cases e
  exact h _ _ _ _ ha hb
end
end Go.Dv
end

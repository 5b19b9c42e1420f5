/- The evaluator of the program's form and its soundness against the model; what trees stand for. Parts: EvOps6, EvOps7, EvOps8, EvOps9, EvOp, EvCode, EvShape, EvShape2, EvFloat, EvDraw, EvDraw2. -/
import Derived.Lib.AppendZerosOnto
import Derived.Test.YtngphbjigkgeaaaDoorLbA
set_option linter.unusedVariables false
set_option linter.unusedSimpArgs false
set_option linter.unusedSectionVars false
section
namespace Go.Pv
variable [Glob]
section
variable {P : Program} {E : Env} {ρ : Rho} {β : List (Option Nat)} {st : St} {a : Act} {w : World} {Q : Exit → Act → World → Prop} {next : Act → World → Prop} {o : Oper}
theorem op_makeSlice (h : Rel P E ρ β st a w) {t e' : TypeId} {x y : Operand} (ho : o.op = .makeSlice t x y) {ti te : TI} (ht : tiOf P t = some ti) (hd : ti.desc = .slice e') (hte : tiOf P e' = some te) {z : List Value} (hz : zeroOf te = some z) {sl sc : Slot} {u v : Value} {i j : Int} {n : Nat} (e : opd st x = some sl) (e1 : opd st y = some sc) (e2 : valS sl = some u) (e3 : valS sc = some v) (e4 : intOfV u = some i) (e5 : intOfV v = some j)
  (e6 : upTo i 9223372036854775807 = some n) (e7 : upTo j 9223372036854775807 = some n) (hb : n * te.bytes ≤ room) :
  o.wpR P E.ro a w (Done P E β { st with heap := st.heap ++ [newBlk (repeatCells z n) e'] } o (.v (.slice (some ⟨st.heap.length, 0, none⟩) n n))) Q := by
 obtain ⟨ii, hii, hu, _, _, _⟩ := tiOf_eq ht
 obtain ⟨ie, hie, _, hsz, hbz, hz'⟩ := tiOf_eq hte
 obtain ⟨zv, hzv, rfl, hpl, hzl⟩ := zeroOf_eq hz
 obtain ⟨k, _, hx⟩ := (opd_val h e e2).intOfV e4
 obtain ⟨k', _, hy⟩ := (opd_val h e1 e3).intOfV e5
 obtain ⟨rfl, hn⟩ := upTo_eq e6
 obtain ⟨rfl, _⟩ := upTo_eq e7
 rw [hd] at hu
 have hrp := repeat_one hpl n
 have hr := h.push (newBlk (repeatCells zv.cells.toList n) e') ⟨repeatCells zv.cells.toList n⟩ (CellOK.of_vrs (plain_vrs fun v hv => (hrp v hv).1) (fun v hv => (hrp v hv).2)) rfl rfl (0, 0) (fun _ => rfl)
 have hbn : (ie.bytes : Int) * (n : Int) ≤ 281474976710656 := by
  have h2 : n * te.bytes ≤ 140737488355328 := hb
  rw [hbz] at h2
  have h3 : ((ie.bytes * n : Nat) : Int) ≤ 281474976710656 := by rw [Nat.mul_comm]; omega
  rwa [Int.natCast_mul] at h3
 have hrun := run_make (P := P) w t e' ie zv hu hie (by rw [← hz', hzv]) k k' (n : Int) (n : Int) (by omega) (by omega) hbn (by omega)
 simp only [Int.toNat_natCast] at hrun
 have hmade : madeCells zv.cells (n * ie.size) = ⟨repeatCells zv.cells.toList n⟩ := by
  have hzs : zv.cells.size = ie.size := by rw [← hsz, ← hzl]; simp
  by_cases hne : zv.cells.toList = []
  ·have h0 : ie.size = 0 := by rw [← hzs]; simpa using congrArg List.length hne
   rw [h0, Nat.mul_zero, hne]
   have : repeatCells [] n = [] := List.eq_nil_of_length_eq_zero (by simp [repeat_length])
   rw [this]
   simp [madeCells, Array.range_zero']
  ·unfold madeCells
   rw [← hzs]
   exact made_eq zv.cells n hne
 rw [hmade] at hrun
 refine done_value (v := .slice (some ⟨w.heap.size, 0, none⟩) n n) (by simp [execOp, ho, hx, hy, hrun]; rfl) hr ?_
 have hat := Rho.at_new' ρ ⟨w.heap.size, 0, (⟨repeatCells zv.cells.toList n⟩ : Array Value).size, some (P.cellsOf (newBlk (repeatCells zv.cells.toList n) e').elem)⟩
 rw [h.h.len] at hat
 refine .slice st.heap.length 0 n n n _ hat (Nat.le_refl _) (Nat.le_refl _) hn fun _ u hu' => ⟨?_, fun h0 _ => h0⟩
 cases hu'
 have : P.cellsOf (newBlk (repeatCells zv.cells.toList n) e').elem = te.size := cellsOf_eq hte
 rw [this]
 simp [repeat_length]
 rw [← hzl]
 simp
theorem op_convert_tobytes (h : Rel P E ρ β st a w) {src dst e' : TypeId} {x : Operand} (ho : o.op = .convert src dst x) (hs : P.underlying src = some .string) (hd : P.underlying dst = some (.slice e')) (he : P.underlying e' = some (.int .u8)) {s : Slot} {u : Value} {b : ByteArray} (e : opd st x = some s) (e1 : valS s = some u) (e2 : toStr u = some b) (hb63 : b.size ≤ 9223372036854775807) (hsz1 : P.cellsOf e' = 1) :
  o.wpR P E.ro a w (Done P E β { st with heap := st.heap ++ [⟨ofBytes b, e', true, true, true, none⟩] } o (.v (.slice (some ⟨st.heap.length, 0, none⟩) b.size b.size))) Q := by
 obtain ⟨_, hy⟩ := (opd_val h e e1).toStr e2
 let cap := grownCap w b.size 0 e'
 have hcap : b.size ≤ cap := grownCap_ge w b.size 0 e'
 have hcm : cap ≤ 9223372036854775807 := grownCap_le_maxLen w b.size 0 e' hb63
 let cs : Array Value := b.data.map (fun x => Value.int .u8 x.toNat) ++ Array.replicate (cap - b.size) (.int .u8 0)
 have hcs : cs.size = cap := by
  simp only [cs, Array.size_append, Array.size_map, Array.size_replicate]
  have : b.data.size = b.size := rfl
  omega
 have hlen : (ofBytes b).length = b.size := by simp [ofBytes]
 have hck : CellOK ρ cs 0 (ofBytes b) := by
  intro i x hx
  have hi := get_lt hx
  rw [hlen] at hi
  have hv : ∃ v : UInt8, x = .int .u8 v.toNat ∧ b.data.toList[i]? = some v := by
   unfold ofBytes at hx
   rw [List.getElem?_map] at hx
   cases hg : b.data.toList[i]? with
   | none => rw [hg] at hx; cases hx
   | some v => rw [hg] at hx; simp at hx; exact ⟨v, hx.symm, rfl⟩
  obtain ⟨v, rfl, hg⟩ := hv
  refine ⟨rfl, .int .u8 v.toNat, ?_, .int _ _⟩
  simp only [cs, Nat.zero_add]
  have hi' : i < (b.data.map (fun x => Value.int .u8 x.toNat)).size := by simpa using hi
  rw [Array.getElem?_append_left hi']
  simp at hg
  simp [hg]
 have hr := (h.drew).push ⟨ofBytes b, e', true, true, true, none⟩ cs hck rfl rfl (cap, cap + 1) (fun hh => by cases hh)
 refine done_value (v := .slice (some ⟨w.heap.size, 0, none⟩) b.size cap) (w' := w.drew.alloc (.cells cs e' (cap, cap + 1))) ?_ hr ?_
 ·have hf : ((w.drew.alloc (.cells cs e')).freeze ⟨w.heap.size, cap, none⟩ 1) = w.drew.alloc (.cells cs e' (cap, cap + 1)) := by
   unfold World.freeze
   simp only [if_neg (show ¬ (1 : Nat) = 0 by decide)]
   have : (w.drew.alloc (.cells cs e')).heap.modify w.heap.size (fun
     | .cells c elem (lo, hi) => .cells c elem (if lo == hi then (cap, cap + 1) else (min lo cap, max hi (cap + 1)))
     | o => o) = (w.drew.alloc (.cells cs e' (cap, cap + 1))).heap := by
    apply Array.ext_getElem?
    intro i
    rw [Array.getElem?_modify]
    by_cases hi : w.heap.size = i
    ·subst hi
     have h1 : (w.drew.alloc (.cells cs e')).heap[w.heap.size]? = some (.cells cs e') := alloc_new w.drew _
     have h2 : (w.drew.alloc (.cells cs e' (cap, cap + 1))).heap[w.heap.size]? = some (.cells cs e' (cap, cap + 1)) := alloc_new w.drew _
     rw [if_pos rfl, h1, h2]
     rfl
    ·rw [if_neg hi]
     simp only [World.alloc, Array.getElem?_push]
     have : (w.drew.heap.size = i) = False := by simpa using hi
     have h2 : ¬ i = w.drew.heap.size := fun hh => hi hh.symm
     rw [if_neg h2, if_neg h2]
   exact congrArg (fun hp => { w.drew.alloc (.cells cs e' (cap, cap + 1)) with heap := hp }) this
  have hsh : (w.drew.alloc (.cells cs e')).shape? w.heap.size = some (e', cs.size) := by
   have h1 : (w.drew.alloc (.cells cs e')).heap[w.heap.size]? = some (.cells cs e') := alloc_new w.drew _
   unfold World.shape?
   rw [h1]
  have hg : (Conv.stringToBytes e' b).run P w = .ok (.slice (some ⟨w.heap.size, 0, none⟩) b.size cap) (w.drew.alloc (.cells cs e' (cap, cap + 1))) := by
   simp only [Conv.stringToBytes, Sem.run_bind, run_choose, Question.forced, Bool.false_eq_true, if_false, Result.andThen_ok, newRow, run_newObj, Sem.run_pure, markStringish, run_shape]
   have e1 : (Question.appendCap b.size 0 e').cut (w.tape w.drawn (.appendCap b.size 0 e')) = cap := rfl
   rw [e1]
   have e2 : ({ w with drawn := w.drawn + 1, heap := w.heap.push (.cells (b.data.map (fun x => Value.int .u8 x.toNat) ++ Array.replicate (cap - b.size) (.int .u8 0)) e') } : World) = w.drew.alloc (.cells cs e') := rfl
   rw [e2, hsh]
   simp only [Result.andThen_ok, run_freeze]
   rw [hcs, hf]
  simp [execOp, ho, convert, r_underlying hs, r_underlying hd, r_underlying he, hy, hg]
 ·have hat := Rho.at_new' ρ ⟨w.heap.size, 0, cs.size, none⟩
  rw [h.h.len] at hat
  exact .slice st.heap.length 0 b.size b.size cap _ hat (Nat.le_refl _) hcap hcm fun _ u hu' => by cases hu'
theorem news_rel (h : HRel P ρ st.heap w) {size : Nat} {x y : Value} {q : Nat × List Value} (hv : VR ρ x y) (e : news st.heap size x = some q) {tx : TypeId} (hk : (∃ e', P.underlying tx = some (.slice e')) ∨ P.underlying tx = some .string) (hstr : ∀ s, x = .string s → size = 1) :
  ∃ ys, Src P size tx y q.1 ys w ∧ VRs ρ q.2 ys ∧ (∀ z ∈ q.2, z.oneCell' = true) ∧ q.2.length = q.1 * size := by
 cases hv with
 | nilSlice =>
  simp only [news] at e
  cases e
  exact ⟨[], ⟨hk, fun _ => rfl, run_firstCells_none w size 0 0 0, run_firstCells_none w.drew size 0 0 0, by simp, by simp⟩, .nil, by simp, by simp⟩
 | slice id off n c c' rb hr hn hc hm hu =>
  simp only [news] at e
  obtain ⟨p, hp, e⟩ := Option.bind_eq_some_iff.1 e
  obtain ⟨cs, hcs, e⟩ := Option.bind_eq_some_iff.1 e
  cases e
  have := addrOf_eq hp
  cases this
  obtain ⟨ys, hl, hvs, h1, hcell⟩ := hcells_rel h hr hcs
  have hone : ∀ u ∈ ys, u.oneCell' = true := by
   intro v hvm
   obtain ⟨i, hi⟩ := List.getElem?_of_mem hvm
   have hlt := get_lt hi
   obtain ⟨y, hy, hr'⟩ := hvs.get (List.getElem?_eq_getElem (by rw [hvs.length]; exact hlt : i < cs.length))
   rw [hi] at hy
   cases hy
   rw [← hr'.oneCell']
   exact h1 _ (List.getElem_mem _)
  refine ⟨ys, ⟨hk, fun _ => rfl, ?_, ?_, hl, hone⟩, hvs, h1, by rw [hvs.length]; exact hl⟩
  ·exact run_firstCells_some w size n _ n c' ys hl hcell
  ·exact run_firstCells_some w.drew size n _ n c' ys hl hcell
 | empty id off A rb hr =>
  simp only [news] at e
  obtain ⟨p, hp, e⟩ := Option.bind_eq_some_iff.1 e
  obtain ⟨cs, hcs, e⟩ := Option.bind_eq_some_iff.1 e
  cases e
  obtain ⟨ys, hl, hvs, h1, hcell⟩ := hcells_rel h (by cases addrOf_eq hp; exact hr) hcs
  have hy : ys = [] := List.eq_nil_of_length_eq_zero (by simpa using hl)
  subst hy
  have hc : cs = [] := List.eq_nil_of_length_eq_zero (by rw [hvs.length]; rfl)
  subst hc
  refine ⟨[], ⟨hk, fun _ => rfl, ?_, ?_, by simp, by simp⟩, .nil, by simp, by simp⟩
  ·exact run_firstCells_some w size 0 _ 0 0 [] (by simp) (by simp)
  ·exact run_firstCells_some w.drew size 0 _ 0 0 [] (by simp) (by simp)
 | string s =>
  simp only [news] at e
  cases e
  have h1 := hstr s rfl
  subst h1
  refine ⟨byteCells s, ⟨hk, fun _ => rfl, firstCells_string s w, firstCells_string s w.drew, by rw [byteCells_length, Nat.mul_one], fun u hu => ?_⟩, ?_, ?_, ?_⟩
  ·obtain ⟨_, _, rfl⟩ := List.mem_map.1 hu
   rfl
  ·show VRs ρ (ofBytes s) (byteCells s)
   refine VRs.of_get rfl fun i x hx => ⟨x, hx, ?_⟩
   obtain ⟨v, _, rfl⟩ := List.mem_map.1 (List.mem_of_getElem? hx)
   exact .int _ _
  ·intro z hz
   obtain ⟨v, _, rfl⟩ := List.mem_map.1 hz
   rfl
  ·show (byteCells s).length = _
   rw [byteCells_length]; simp
 | _ => simp [news] at e
end
end Go.Pv
end
section
namespace Go.Pv
variable [Glob]
section
variable {P : Program} {E : Env} {ρ : Rho} {β : List (Option Nat)} {st : St} {a : Act} {w : World} {Q : Exit → Act → World → Prop} {next : Act → World → Prop} {o : Oper}
theorem Rel.die (h : Rel P E ρ β st a w) {id : Nat} {b : Blk} (hb : st.heap[id]? = some b) : Rel P E ρ β { st with heap := st.heap.set id { b with live := false } } a w := by
 have hold : ∀ (i : Nat) c, (st.heap.set id { b with live := false })[i]? = some c → c.live = true → st.heap[i]? = some c := by
  intro i c hi hl
  rcases set_get hi with ⟨rfl, rfl, _⟩ | ⟨_, hi⟩
  ·cases hl
  ·exact hi
 exact ⟨⟨by rw [h.h.len]; simp, fun i c rb hi hr hl => h.h.blk i c rb (hold i c hi hl) hr hl, fun i j bi bj ri rj hij hi hj hri hrj hli hlj => h.h.sep i j bi bj ri rj hij (hold i bi hi hli) (hold j bj hj hlj) hri hrj hli hlj, h.h.o.of (Rho.le.refl ρ) (fun i c rb o h1 h2 h3 => by
   rcases set_get h1 with ⟨rfl, rfl, _⟩ | ⟨_, h1⟩
   ·exact ⟨⟨b, hb, h3, rfl, fun _ => rfl⟩, h2⟩
   ·exact ⟨⟨c, h1, h3, rfl, fun hh => hh⟩, h2⟩) fun _ _ _ _ _ _ _ _ h4 _ => h4⟩,
  ⟨h.b.len, h.b.loc, fun d c e b2 i bl rb hd hb2 hi hr hl => h.b.sepH d c e b2 i bl rb hd hb2 (hold i bl hi hl) hr hl, h.b.sepB⟩, h.t, h.f,
  ⟨fun i bl rb hi hr hl => h.n.wh i bl rb (hold i bl hi hl) hr hl, h.n.wb, h.n.wn, by simpa using h.n.len, fun i bl hi hb2 hl => h.n.liv i bl hi (hold i bl hb2 hl) hl, fun i bl rb hi hr ho => by
   rcases set_get hi with ⟨rfl, rfl, _⟩ | ⟨_, hi⟩
   ·exact h.n.wo i b rb hb hr ho
   ·exact h.n.wo i bl rb hi hr ho⟩, h.d, h.bl, h.e, h.g⟩
theorem Rel.adopt (h : Rel P E ρ β st a w) (bl : Blk) (g : Nat) (cs : Array Value) (hro : bl.ro = false) (hrow : bl.row = true) (hobj : bl.obj = none) (hcell : w.heap[g]? = some (.cells cs bl.elem (0, 0))) (hk : CellOK ρ cs 0 bl.cells)
  (hA : E.A0 g ∨ E.w0.heap.size ≤ g) (hfree : ∀ id b rb, st.heap[id]? = some b → ρ.at id rb → b.live = true → rb.b ≠ g) (hfreeB : ∀ (d : Nat) c e b, st.boxes[d]? = some (.loc c e) → β[d]? = some (some b) → g ≠ b) :
  Rel P E (ρ ++ [some ⟨g, 0, cs.size, some (P.cellsOf bl.elem)⟩]) β { st with heap := st.heap ++ [bl] } a w := by
 have hle : ρ.le (ρ ++ [some ⟨g, 0, cs.size, some (P.cellsOf bl.elem)⟩]) := Rho.le.snoc ρ _
 have hlen := h.h.len
 have hold : ∀ id b rb, (st.heap ++ [bl])[id]? = some b → (ρ ++ [some ⟨g, 0, cs.size, some (P.cellsOf bl.elem)⟩] : Rho).at id rb →
   (st.heap[id]? = some b ∧ ρ.at id rb) ∨ (id = st.heap.length ∧ b = bl ∧ rb = ⟨g, 0, cs.size, some (P.cellsOf bl.elem)⟩) := by
  intro id b rb hb hr
  rcases get_snoc hb with ⟨hlt, hb⟩ | ⟨rfl, rfl⟩
  ·exact .inl ⟨hb, Rho.at_snoc hr (by omega)⟩
  ·rw [← hlen] at hr
   exact .inr ⟨rfl, rfl, Rho.at_new hr⟩
 refine ⟨⟨by simp [hlen], ?_, ?_, h.h.o.push hlen hobj _ rfl⟩, ⟨h.b.len, ?_, ?_, h.b.sepB⟩, h.t.mono hle, h.f, ⟨?_, h.n.wb, ?_, by have := h.n.len; simp; omega, ?_, ?_⟩, h.d, h.bl, h.e.trans ⟨_, rfl⟩, h.g⟩
 ·intro id b rb hb hr hl
  rcases hold id b rb hb hr with ⟨hb, hr⟩ | ⟨rfl, rfl, rfl⟩
  ·exact (h.h.blk id b rb hb hr hl).same hle rfl
  ·exact ⟨cs, b.elem, (0, 0), hcell, rfl, hk.mono hle, fun _ => ⟨rfl, rfl, rfl, fun _ => rfl⟩, fun hh => by rw [hrow] at hh; cases hh⟩
 ·intro i j bi bj ri rj hij hi hj hri hrj hli hlj hro'
  rcases hold i bi ri hi hri with ⟨hi2, hri2⟩ | ⟨e1, e2, e3⟩
  ·rcases hold j bj rj hj hrj with ⟨hj2, hrj2⟩ | ⟨e1, e2, e3⟩
   ·exact h.h.sep i j bi bj ri rj hij hi2 hj2 hri2 hrj2 hli hlj hro'
   ·rw [e3]; exact hfree i bi ri hi2 hri2 hli
  ·rcases hold j bj rj hj hrj with ⟨hj2, hrj2⟩ | ⟨e4, e5, e6⟩
   ·rw [e3]; exact (hfree j bj rj hj2 hrj2 hlj).symm
   ·exact absurd (e1.trans e4.symm) hij
 ·intro d c e hd
  obtain ⟨b, ys, hb, hc, hv, h1⟩ := h.b.loc d c e hd
  exact ⟨b, ys, hb, hc, hv.mono hle, h1⟩
 ·intro d c e b id b2 rb hd hb hh hr hl
  rcases hold id b2 rb hh hr with ⟨hh2, hr2⟩ | ⟨e1, e2, e3⟩
  ·exact h.b.sepH d c e b id b2 rb hd hb hh2 hr2 hl
  ·rw [e3]; exact hfreeB d c e b hd hb
 ·intro id b rb hb hr hl hro'
  rcases hold id b rb hb hr with ⟨hb2, hr2⟩ | ⟨e1, e2, e3⟩
  ·exact h.n.wh id b rb hb2 hr2 hl hro'
  ·rw [e3]; exact hA
 ·intro id rb hid hr
  by_cases hlt : id < ρ.length
  ·exact h.n.wn id rb hid (Rho.at_snoc hr hlt)
  ·have hl := Rho.at_lt hr
   simp at hl
   have : id = ρ.length := by omega
   subst this
   rw [Rho.at_new hr]
   exact hA
 ·intro id b hid hb hl
  rcases get_snoc hb with ⟨hlt, hb⟩ | ⟨rfl, rfl⟩
  ·exact h.n.liv id b hid hb hl
  ·have := h.n.len
   omega
 ·intro id b rb hb hr ho
  rcases hold id b rb hb hr with ⟨hb, hr⟩ | ⟨rfl, rfl, rfl⟩
  ·exact h.n.wo id b rb hb hr ho
  ·rw [hobj] at ho; cases ho
theorem CellOK.append {cs : Array Value} {c vs ws : List Value} (h : CellOK ρ cs 0 c) (hv : VRs ρ vs ws) (h1 : ∀ x ∈ vs, x.oneCell' = true) (hle : c.length + ws.length ≤ cs.size) :
  CellOK ρ (cs.toList.take c.length ++ ws ++ cs.toList.drop (c.length + ws.length)).toArray 0 (c ++ vs) := by
 have hvl := hv.length
 intro i x hx
 simp only [Nat.zero_add, List.getElem?_toArray]
 by_cases hi : i < c.length
 ·rw [List.getElem?_append_left hi] at hx
  obtain ⟨ho, y, hy, hr⟩ := h i x hx
  refine ⟨ho, y, ?_, hr⟩
  rw [List.append_assoc, List.getElem?_append_left (by simp; omega), List.getElem?_take_of_lt hi]
  simpa using hy
 ·rw [List.getElem?_append_right (by omega)] at hx
  obtain ⟨y, hy, hr⟩ := hv.get hx
  refine ⟨h1 x (List.mem_of_getElem? hx), y, ?_, hr⟩
  have := get_lt hy
  rw [List.append_assoc, List.getElem?_append_right (by simp; omega), List.getElem?_append_left (by simp; omega)]
  simp
  rwa [Nat.min_eq_left (by omega)]
theorem run_builtin {b : Builtin} {args : Array Operand} {ts : Array TypeId} (ho : o.op = .call ⟨.builtin b, args, ts⟩) {v : Value} {w' : World} (f : Array TypeId → TypeId → Array Value → Sem Value) (hb : ∀ consts args, builtin b ts o.type consts args = (do pure (.value (← f ts o.type args)) : Sem Next))
  (h : (f ts o.type (args.map a.eval)).run P w = .ok v w') : (execOp a.eval o).run P w = .ok (.value v) w' := by
 simp [execOp, ho, resolve, invoke, hb, h]
theorem run_append_room' (t tx ty e : TypeId) (i : TypeInfo) (ht : P.underlying t = some (.slice e)) (hi : P.info? e = some i) (A : Addr) (sLen sCap : Nat) (x : Value) (n : Nat) (news : List Value) (hs : Src P i.size tx x n news w) (hroom : sLen + n ≤ sCap) {w' : World} (hst : (storeCells (A.add (sLen * i.size)) news 0).run P w = .ok () w') :
  (Builtin.append_ #[t, tx] ty #[.slice (some A) sLen sCap, x]).run P w = .ok (.slice (some A) (sLen + n) sCap) w' := by
 rcases hs.kind with ⟨e', hk⟩ | hk <;> simp [Builtin.append_, run_underlying ht, run_underlying hk, sizeOf, typeInfo, hi, hs.len, hroom, hs.cells, hst]
theorem run_append_nothing (t tx ty e : TypeId) (i : TypeInfo) (ht : P.underlying t = some (.slice e)) (hi : P.info? e = some i) (x : Value) (news : List Value) (hs : Src P i.size tx x 0 news w) :
  (Builtin.append_ #[t, tx] ty #[.slice none 0 0, x]).run P w = .ok (.slice none 0 0) w := by
 rcases hs.kind with ⟨e', hk⟩ | hk <;> simp [Builtin.append_, run_underlying ht, run_underlying hk, sizeOf, typeInfo, hi, hs.len, hs.cells]
theorem append_rel (h : Rel P E ρ β st a w) {t tx ty e : TypeId} (ht : P.underlying t = some (.slice e)) {ti : TI} (hte : tiOf P e = some ti) {zs : List Value} (hz : zeroOf ti = some zs) {s : Option Addr × Nat × Nat} {y : Value} (hv : VR ρ (.slice s.1 s.2.1 s.2.2) y) {x : Value} {n : Nat} {cs ys : List Value} (hsrc : Src P ti.size tx x n ys w) (hvs : VRs ρ cs ys) (h1 : ∀ z ∈ cs, z.oneCell' = true)
  {R : Type} {k : Value → Heap → Option R} {r : R} (ek : appendP st.heap e ti s.1 s.2.1 s.2.2 n cs k = some r) :
  ∃ v hp, k v hp = some r ∧ ∃ w' ρ' v', (Builtin.append_ #[t, tx] ty #[y, x]).run P w = .ok v' w' ∧ Rel P E ρ' β { st with heap := hp } a w' ∧ VR ρ' v v' := by
 obtain ⟨i, hi, _, hsz, hbz, hz'⟩ := tiOf_eq hte
 obtain ⟨zv, hzv, rfl, _, hzl⟩ := zeroOf_eq hz
 obtain ⟨s1, s2, s3⟩ := s
 simp only at hv ek
 unfold appendP at ek
 obtain ⟨hroom, ek1⟩ := bif_some ek
 clear ek
 simp only [Bool.and_eq_true] at hroom
 obtain ⟨⟨hb47, h63⟩, hs1⟩ := hroom
 have hb47 : (s2 + n) * ti.bytes ≤ 140737488355328 := Nat.le_of_ble_eq_true hb47
 have h63 := Nat.le_of_ble_eq_true h63
 have hs1 := Nat.le_of_ble_eq_true hs1
 have hcl := hvs.length
 have hyl := hsrc.newsLen
 have hsrc' : Src P i.size tx x n ys w := hsz ▸ hsrc
 have hzi : i.zero = some zv := by rw [← hz', hzv]
 have hzsz : zv.cells.size = ti.size := by rw [← hzl]; simp
 -- the arm that grows
 have grow : ∀ (base : Option Addr) (c' : Nat) (olds : List Value) (oldP : List Value), y = .slice base s2 c' → c' < s2 + n →
   (Builtin.firstCells i.size s2 (.slice base s2 c')).run P w.drew = .ok olds.toArray w.drew → VRs ρ oldP olds → (∀ z ∈ oldP, z.oneCell' = true) → olds.length = s2 * ti.size → ∀ st2 : St, Rel P E ρ β st2 a w →
   ∃ w' ρ' v', (Builtin.append_ #[t, tx] ty #[y, x]).run P w = .ok v' w' ∧ Rel P E ρ' β { st2 with heap := st2.heap ++ [newBlk (oldP ++ cs) e] } a w' ∧ VR ρ' (.slice (some ⟨st2.heap.length, 0, none⟩) (s2 + n) (s2 + n)) v' := by
  intro base c' olds oldP hy hlt hold hvo h1o hol st2 hst2
  have hr := run_append_grow_src (P := P) w t tx ty e i zv ht hi hzi base s2 c' olds hold x n ys hsrc' hlt (by omega) (growslice_fits hlt (by rw [← hbz]; exact hb47))
  have hcap := grownCap_ge w (s2 + n) c' e
  have hcm : grownCap w (s2 + n) c' e ≤ 9223372036854775807 := grownCap_le_maxLen w (s2 + n) c' e h63
  let arr : Array Value := (olds ++ ys).toArray ++ Builtin.zeroCells zv.cells (grownCap w (s2 + n) c' e - (s2 + n))
  have hck : CellOK ρ arr 0 (oldP ++ cs) := by
   intro j u hu
   have hh := hvo.append hvs
   obtain ⟨u', hu', hr'⟩ := hh.get hu
   refine ⟨?_, u', ?_, hr'⟩
   ·rcases List.mem_append.1 (List.mem_of_getElem? hu) with hm | hm
    ·exact h1o u hm
    ·exact h1 u hm
   ·have := get_lt hu'
    simp only [arr, Nat.zero_add]
    rw [Array.getElem?_append_left (by simpa using this)]
    simpa using hu'
  have hpush := (hst2.drew).push (newBlk (oldP ++ cs) e) arr hck rfl rfl (0, 0) (fun _ => rfl)
  refine ⟨_, _, _, by rw [hy]; exact hr, hpush, ?_⟩
  have hat := Rho.at_new' ρ ⟨w.drew.heap.size, 0, arr.size, some (P.cellsOf (newBlk (oldP ++ cs) e).elem)⟩
  rw [hst2.h.len] at hat
  refine .slice st2.heap.length 0 (s2 + n) (s2 + n) _ _ hat (Nat.le_refl _) hcap hcm fun _ u hu' => ⟨?_, fun h0 _ => by omega⟩
  cases hu'
  have he : P.cellsOf (newBlk (oldP ++ cs) e).elem = ti.size := cellsOf_eq hte
  rw [he]
  simp only [arr, Array.size_append, List.size_toArray, List.length_append, size_zeroCells, hzsz, hol, hyl]
  rw [← Nat.add_mul, ← Nat.add_mul]
  exact Nat.mul_le_mul_right _ (by omega)
 cases s1 with
 | none =>
  simp only at ek1
  obtain ⟨hl0, ek⟩ := bif_some ek1
  clear ek1
  have hl0 := Nat.eq_of_beq_eq_true hl0
  subst hl0
  generalize hy : y = y' at hv
  cases hv
  subst hy
  cases hn : Nat.beq n 0 with
  | true =>
   rw [hn] at ek
   have := Nat.eq_of_beq_eq_true hn
   subst this
   refine ⟨_, _, ek, w, ρ, .slice none 0 0, run_append_nothing t tx ty e i ht hi x ys hsrc', h, .nilSlice⟩
  | false =>
   rw [hn] at ek
   have hn0 := beq_false hn
   obtain ⟨w', ρ', v', hr, hrel, hvr⟩ := grow none 0 [] [] rfl (by omega) (run_firstCells_none w.drew i.size 0 0 0) .nil (by simp) (by simp) st h
   simp only [Nat.zero_add, List.nil_append] at hvr hrel
   exact ⟨_, _, ek, w', ρ', v', hr, hrel, hvr⟩
 | some ad =>
  simp only at ek1
  obtain ⟨p, hp, ek2⟩ := Option.bind_eq_some_iff.1 ek1
  clear ek1
  obtain ⟨b, hb, ek3⟩ := Option.bind_eq_some_iff.1 ek2
  clear ek2
  obtain ⟨hc, ek4⟩ := bif_some ek3
  clear ek3
  simp only [Bool.and_eq_true, Bool.not_eq_true'] at hc
  obtain ⟨⟨⟨⟨hlive, hro⟩, hrow⟩, hel⟩, hoff⟩ := hc
  have hel := Nat.eq_of_beq_eq_true hel
  have hoff := Nat.eq_of_beq_eq_true hoff
  have had := addrOf_eq hp
  obtain ⟨p1, p2⟩ := p
  simp only at hoff had hb ek4
  subst hoff
  cases had
  have hone' : ∀ u ∈ ys, u.oneCell' = true := hsrc.one
  cases hnc : (!Nat.beq s3 s2 && Nat.ble (s2 + n) s3) with
  | true =>
   rw [hnc] at ek4
   simp only [cond_true] at ek4
   obtain ⟨h', hst, ek⟩ := Option.bind_eq_some_iff.1 ek4
   clear ek4
   have hle := Nat.le_of_ble_eq_true (Bool.and_eq_true_iff.1 hnc).2
   cases hv with
   | slice id off n' c c' rb hr hn hcc hm hu =>
    obtain ⟨w', h0, hrun, hrel⟩ := h.hstore hr hvs h1 hst
    refine ⟨_, _, ek, w', ρ, _, run_append_room' t tx ty e i ht hi _ s2 c' x n ys hsrc' (by omega) (w' := w') ?_, hrel, ?_⟩
    ·rw [add_mk, h0, ← hsz]; simpa using hrun
    ·exact .slice _ _ _ _ _ rb hr hle hcc hm hu
   | empty id off A rb hr => simp at hnc
  | false =>
   rw [hnc] at ek4
   simp only [cond_false] at ek4
   obtain ⟨htail, ek⟩ := bif_some ek4
   clear ek4
   have htail := Nat.eq_of_beq_eq_true htail
   have hdie := h.die hb
   have old : ∀ rb, ρ.at p1 rb → ∃ olds, VRs ρ b.cells olds ∧ (∀ z ∈ b.cells, z.oneCell' = true) ∧ olds.length = s2 * ti.size ∧ rb.base = 0 ∧ ∀ (j : Nat) z, olds[j]? = some z → w.cell? ((⟨rb.b, 0, none⟩ : Addr).add j) = some z := by
    intro rb hr
    obtain ⟨cur, el, fr, hc, hs, hk, hx, _⟩ := h.h.blk p1 b rb hb hr hlive
    obtain ⟨_, h0, _, _⟩ := hx hro
    rw [h0] at hk
    obtain ⟨olds, hlo, hvo, h1o, hco⟩ := cells_at hk 0 b.cells.length (by omega)
    simp only [List.drop_zero, List.take_length] at hvo h1o
    refine ⟨olds, hvo, h1o, by rw [hlo, htail], h0, fun j z hz => ?_⟩
    rw [add_mk]
    have := hco j z hz
    simp only [Nat.zero_add] at this ⊢
    simp [World.cell?, hc, this]
   cases hv with
   | slice id off n' c c' rb hr hn hcc hm hu =>
    obtain ⟨olds, hvo, h1o, hlo, h0, hco⟩ := old rb hr
    by_cases hfit : s2 + n ≤ c'
    ·obtain ⟨cur, el, fr, hc, hs, hk, hx, _⟩ := h.h.blk p1 b rb hb hr hlive
     obtain ⟨rfl, _, hel2, hunit⟩ := hx hro
     subst hel2
     rw [h0] at hk
     have hu2 := (hu rfl _ (hunit hrow)).1
     rw [hel, cellsOf_eq hte] at hu2
     have hbig : b.cells.length + ys.length ≤ cur.size := by
      rw [← htail, hyl, ← Nat.add_mul, hs]
      exact Nat.le_trans (Nat.mul_le_mul_right _ hfit) hu2
     have hst := run_storeCells_at P rb.b b.cells.length b.elem ys 0 cur w hc (by omega) hone'
     simp only [Nat.add_zero] at hst
     have hw := h.n.wh p1 b rb hb hr hlive hro
     have hfree : ∀ (i : Nat) c2 rb2, (st.heap.set p1 { b with live := false })[i]? = some c2 → ρ.at i rb2 → c2.live = true → rb2.b ≠ rb.b := by
      intro i c2 rb2 hi hr2 hl2
      rcases set_get hi with ⟨_, rfl, _⟩ | ⟨hne, hi⟩
      ·cases hl2
      ·exact (h.h.sep p1 i b c2 rb rb2 (Ne.symm hne) hb hi hr hr2 hlive hl2 hro).symm
     have hfreeB : ∀ (d : Nat) c2 e2 b2, st.boxes[d]? = some (.loc c2 e2) → β[d]? = some (some b2) → rb.b ≠ b2 := fun d c2 e2 b2 hd hb2 => h.b.sepH d c2 e2 b2 p1 b rb hd hb2 hb hr hlive
     have h2 := hdie.wrote (g := rb.b) (new := (cur.toList.take b.cells.length ++ ys ++ cur.toList.drop (b.cells.length + ys.length)).toArray) (heap := st.heap.set p1 { b with live := false }) (boxes := st.boxes) (aget_lt hc) hw rfl rfl
      (fun i c2 rb2 hi hr2 hl2 => ⟨c2, hi, hl2, rfl, .inl ⟨hfree i c2 rb2 hi hr2 hl2, rfl⟩⟩) (fun d c2 e2 hd => ⟨c2, hd, fun b2 hb2 => .inl ⟨(hfreeB d c2 e2 b2 hd hb2).symm, rfl⟩⟩) (fun i c2 hi hl2 => ⟨c2, hi, hl2⟩) (fun d B hB => by cases B <;> first | trivial | exact hB) (fun i b o _ hi _ ho => ⟨b, hi, ho, rfl, fun hh => hh⟩) ⟨_, _, _, hc⟩
     have h3 := h2.adopt (newBlk (b.cells ++ cs) e) rb.b _ rfl rfl rfl (hel ▸ setRow_heap w rb.b cur _ b.elem (0, 0) hc) (hk.append hvs h1 hbig) hw hfree hfreeB
     refine ⟨_, _, ek, _, _, _, run_append_room' t tx ty e i ht hi _ s2 c' x n ys hsrc' hfit (w' := _) ?_, h3, ?_⟩
     ·rw [add_mk, h0, ← hsz]; simp only [Nat.zero_add, htail]; exact hst
     ·have hat := Rho.at_new' ρ ⟨rb.b, 0, (cur.toList.take b.cells.length ++ ys ++ cur.toList.drop (b.cells.length + ys.length)).toArray.size, some (P.cellsOf (newBlk (b.cells ++ cs) e).elem)⟩
      rw [h.h.len] at hat
      have hsl := VR.slice (ρ := ρ ++ [some ⟨rb.b, 0, (cur.toList.take b.cells.length ++ ys ++ cur.toList.drop (b.cells.length + ys.length)).toArray.size, some (P.cellsOf (newBlk (b.cells ++ cs) e).elem)⟩]) st.heap.length 0 (s2 + n) (s2 + n) c' _ hat (Nat.le_refl _) hfit hm fun _ u hu' => by
       cases hu'
       have he : P.cellsOf (newBlk (b.cells ++ cs) e).elem = ti.size := cellsOf_eq hte
       rw [he]
       refine ⟨by simp; omega, fun h0 _ => ?_⟩
       have hc0 : s3 = 0 := by
        cases hq : Nat.beq s3 s2 with
        | true => have := Nat.eq_of_beq_eq_true hq; omega
        | false =>
         rw [hq] at hnc
         have hnc : Nat.ble (s2 + n) s3 = false := hnc
         rcases Nat.lt_or_ge s3 (s2 + n) with h5 | h5
         ·omega
         ·rw [Nat.ble_eq_true_of_le h5] at hnc; cases hnc
       exact (hu rfl _ (hunit hrow)).2 hc0 (by rw [hel, cellsOf_eq hte]; omega)
      simpa [h0] using hsl
    ·have hlen2 : (st.heap.set p1 { b with live := false }).length = st.heap.length := by simp
     obtain ⟨w', ρ', v', hrr, hrel, hvr⟩ := grow _ c' olds b.cells rfl (by omega) (run_firstCells_some w.drew i.size s2 _ s2 c' olds (by rw [← hsz]; exact hlo) (by rw [h0]; simpa using hco)) hvo h1o hlo _ hdie
     simp only [hlen2] at hvr
     exact ⟨_, _, ek, w', ρ', v', hrr, hrel, hvr⟩
   | empty id off A rb hr =>
    obtain ⟨olds, hvo, h1o, hlo, h0, hco⟩ := old rb hr
    have hlen2 : (st.heap.set p1 { b with live := false }).length = st.heap.length := by simp
    have hon : olds = [] := List.eq_nil_of_length_eq_zero (by simpa using hlo)
    subst hon
    by_cases hn0 : n = 0
    ·subst hn0
     have hyn : ys = [] := List.eq_nil_of_length_eq_zero (by simpa using hyl)
     have hcn : cs = [] := List.eq_nil_of_length_eq_zero (by rw [hcl]; simpa using hyl)
     subst hyn hcn
     obtain ⟨cur, el, fr, hc, hs, hk, hx, _⟩ := h.h.blk p1 b rb hb hr hlive
     obtain ⟨rfl, _, hel2, hunit⟩ := hx hro
     subst hel2
     rw [h0] at hk
     have hw := h.n.wh p1 b rb hb hr hlive hro
     have hfree : ∀ (i : Nat) c2 rb2, (st.heap.set p1 { b with live := false })[i]? = some c2 → ρ.at i rb2 → c2.live = true → rb2.b ≠ rb.b := by
      intro i c2 rb2 hi hr2 hl2
      rcases set_get hi with ⟨_, rfl, _⟩ | ⟨hne, hi⟩
      ·cases hl2
      ·exact (h.h.sep p1 i b c2 rb rb2 (Ne.symm hne) hb hi hr hr2 hlive hl2 hro).symm
     have hfreeB : ∀ (d : Nat) c2 e2 b2, st.boxes[d]? = some (.loc c2 e2) → β[d]? = some (some b2) → rb.b ≠ b2 := fun d c2 e2 b2 hd hb2 => h.b.sepH d c2 e2 b2 p1 b rb hd hb2 hb hr hlive
     have h3 := hdie.adopt (newBlk (b.cells ++ []) e) rb.b cur rfl rfl rfl (hel ▸ hc) (by rw [List.append_nil]; exact hk) hw hfree hfreeB
     refine ⟨_, _, ek, _, _, _, run_append_room' t tx ty e i ht hi A 0 0 x 0 [] hsrc' (by omega) (w' := w) (by simp [storeCells]), h3, ?_⟩
     have hat := Rho.at_new' ρ ⟨rb.b, 0, cur.size, some (P.cellsOf (newBlk (b.cells ++ []) e).elem)⟩
     rw [h.h.len] at hat
     exact .empty _ _ A _ hat
    obtain ⟨w', ρ', v', hrr, hrel, hvr⟩ := grow (some A) 0 [] b.cells rfl (by omega) (run_firstCells_some w.drew i.size 0 A 0 0 [] (by simp) (by simp)) hvo h1o hlo _ hdie
    simp only [hlen2] at hvr
    exact ⟨_, _, ek, w', ρ', v', hrr, hrel, hvr⟩
theorem appendQ_rel (h : Rel P E ρ β st a w) {t tx ty e : TypeId} (ht : P.underlying t = some (.slice e)) {ti : TI} (hte : tiOf P e = some ti) {zs : List Value} (hz : zeroOf ti = some zs) {s : Option Addr × Nat × Nat} {y : Value} (hv : VR ρ (.slice s.1 s.2.1 s.2.2) y) {x : Value} {n : Nat} {cs ys : List Value} (hsrc : Src P ti.size tx x n ys w) (hvs : VRs ρ cs ys) (h1 : ∀ z ∈ cs, z.oneCell' = true)
  {R : Type} {k : Value → Heap → Option R} {r : R} (ek : appendQ st.heap e ti s.1 s.2.1 s.2.2 n cs k = some r) :
  ∃ v hp, k v hp = some r ∧ ∃ w' ρ' v', (Builtin.append_ #[t, tx] ty #[y, x]).run P w = .ok v' w' ∧ Rel P E ρ' β { st with heap := hp } a w' ∧ VR ρ' v v' := by
 obtain ⟨i, hi, _, hsz, hbz, hz'⟩ := tiOf_eq hte
 obtain ⟨zv, hzv, rfl, _, hzl⟩ := zeroOf_eq hz
 obtain ⟨s1, s2, s3⟩ := s
 simp only at hv ek
 unfold appendQ at ek
 obtain ⟨hroom, ek1⟩ := bif_some ek
 clear ek
 simp only [Bool.and_eq_true] at hroom
 obtain ⟨⟨⟨⟨hb47, h63⟩, hs1⟩, hs2⟩, hs3⟩ := hroom
 have hb47 : n * ti.bytes ≤ 140737488355328 := Nat.le_of_ble_eq_true hb47
 have h63 := Nat.le_of_ble_eq_true h63
 have hs1 := Nat.le_of_ble_eq_true hs1
 have hs2 := Nat.eq_of_beq_eq_true hs2
 have hs3 := Nat.eq_of_beq_eq_true hs3
 subst hs2 hs3
 have hcl := hvs.length
 have hyl := hsrc.newsLen
 have hsrc' : Src P i.size tx x n ys w := hsz ▸ hsrc
 have hzi : i.zero = some zv := by rw [← hz', hzv]
 have hzsz : zv.cells.size = ti.size := by rw [← hzl]; simp
 have grow : ∀ (base : Option Addr), y = .slice base 0 0 → 0 < n → (Builtin.firstCells i.size 0 (.slice base 0 0)).run P w.drew = .ok (#[] : Array Value) w.drew →
   ∃ w' ρ' v', (Builtin.append_ #[t, tx] ty #[y, x]).run P w = .ok v' w' ∧ Rel P E ρ' β { st with heap := st.heap ++ [newBlk cs e] } a w' ∧ VR ρ' (.slice (some ⟨st.heap.length, 0, none⟩) n n) v' := by
  intro base hy hlt hold
  have hr := run_append_grow_src (P := P) w t tx ty e i zv ht hi hzi base 0 0 [] (by simpa using hold) x n ys hsrc' (by omega) (by omega) (growslice_fits (by omega) (by rw [← hbz]; simpa using hb47))
  simp only [Nat.zero_add, List.nil_append] at hr
  have hcap := grownCap_ge w n 0 e
  have hcm : grownCap w n 0 e ≤ 9223372036854775807 := grownCap_le_maxLen w n 0 e h63
  let arr : Array Value := ys.toArray ++ Builtin.zeroCells zv.cells (grownCap w n 0 e - n)
  have hck : CellOK ρ arr 0 cs := by
   intro j u hu
   obtain ⟨u', hu', hr'⟩ := hvs.get hu
   refine ⟨h1 u (List.mem_of_getElem? hu), u', ?_, hr'⟩
   have := get_lt hu'
   simp only [arr, Nat.zero_add]
   rw [Array.getElem?_append_left (by simpa using this)]
   simpa using hu'
  have hpush := (h.drew).push (newBlk cs e) arr hck rfl rfl (0, 0) (fun _ => rfl)
  refine ⟨_, _, _, by rw [hy]; exact hr, hpush, ?_⟩
  have hat := Rho.at_new' ρ ⟨w.drew.heap.size, 0, arr.size, some (P.cellsOf (newBlk cs e).elem)⟩
  rw [h.h.len] at hat
  refine .slice st.heap.length 0 n n _ _ hat (Nat.le_refl _) hcap hcm fun _ u hu' => ⟨?_, fun h0 _ => by omega⟩
  cases hu'
  have he : P.cellsOf (newBlk cs e).elem = ti.size := cellsOf_eq hte
  rw [he]
  simp only [arr, Array.size_append, List.size_toArray, size_zeroCells, hzsz, hyl]
  rw [← Nat.add_mul]
  exact Nat.mul_le_mul_right _ (by omega)
 cases s1 with
 | none =>
  simp only at ek1
  generalize hy : y = y' at hv
  cases hv
  subst hy
  cases hn : Nat.beq n 0 with
  | true =>
   rw [hn] at ek1
   have := Nat.eq_of_beq_eq_true hn
   subst this
   exact ⟨_, _, ek1, w, ρ, .slice none 0 0, run_append_nothing t tx ty e i ht hi x ys hsrc', h, .nilSlice⟩
  | false =>
   rw [hn] at ek1
   have hn0 := beq_false hn
   obtain ⟨w', ρ', v', hr, hrel, hvr⟩ := grow none rfl (by omega) (run_firstCells_none w.drew i.size 0 0 0)
   exact ⟨_, _, ek1, w', ρ', v', hr, hrel, hvr⟩
 | some ad =>
  simp only at ek1
  obtain ⟨p, hp, ek2⟩ := Option.bind_eq_some_iff.1 ek1
  clear ek1
  obtain ⟨b, hb, ek3⟩ := Option.bind_eq_some_iff.1 ek2
  clear ek2
  obtain ⟨hc, ek4⟩ := bif_some ek3
  clear ek3
  simp only [Bool.and_eq_true, Bool.not_eq_true'] at hc
  obtain ⟨⟨⟨⟨hlive, hro⟩, hrow⟩, hel⟩, hoff⟩ := hc
  have hel := Nat.eq_of_beq_eq_true hel
  have hoff := Nat.eq_of_beq_eq_true hoff
  have had := addrOf_eq hp
  obtain ⟨p1, p2⟩ := p
  simp only at hoff had hb
  subst hoff
  cases had
  -- the machine's slice has no room either
  have hA : ∃ A, y = .slice (some A) 0 0 := by
   cases hv with
   | slice id off n' c c' rb hr hn hcc hm hu =>
    obtain ⟨cur, el, fr, hc, hs, hk, hx, _⟩ := h.h.blk p1 b rb hb hr hlive
    obtain ⟨_, _, _, hunit⟩ := hx hro
    have := (hu rfl _ (hunit hrow)).2 rfl (by rw [hel, cellsOf_eq hte]; omega)
    subst this
    exact ⟨_, rfl⟩
   | empty id off A rb hr => exact ⟨_, rfl⟩
  obtain ⟨A, hA⟩ := hA
  cases hn : Nat.beq n 0 with
  | true =>
   rw [hn] at ek4
   have := Nat.eq_of_beq_eq_true hn
   subst this
   have hyn : ys = [] := List.eq_nil_of_length_eq_zero (by simpa using hyl)
   subst hyn
   refine ⟨_, _, ek4, w, ρ, y, ?_, h, hv⟩
   rw [hA]
   exact run_append_room' t tx ty e i ht hi A 0 0 x 0 [] hsrc' (by omega) (w' := w) (by simp [storeCells])
  | false =>
   rw [hn] at ek4
   have hn0 := beq_false hn
   obtain ⟨w', ρ', v', hr, hrel, hvr⟩ := grow (some A) hA (by omega) (run_firstCells_some w.drew i.size 0 A 0 0 [] (by simp) (by simp))
   exact ⟨_, _, ek4, w', ρ', v', hr, hrel, hvr⟩
end
end Go.Pv
end
section
namespace Go.Pv
variable [Glob]
section
variable {P : Program} {E : Env} {ρ : Rho} {β : List (Option Nat)} {st : St} {a : Act} {w : World} {Q : Exit → Act → World → Prop} {next : Act → World → Prop} {o : Oper}
theorem appendz_rel (h : Rel P E ρ β st a w) {t tx ty e : TypeId} (ht : P.underlying t = some (.slice e)) {kn : IntKind} (htx : P.underlying tx = some (.int kn)) {ti : TI} (hte : tiOf P e = some ti) {zs : List Value} (hz : zeroOf ti = some zs) {s : Option Addr × Nat × Nat} (hs0 : s.1 = none) {y : Value} (hv : VR ρ (.slice s.1 s.2.1 s.2.2) y) {kq : IntKind} {n : Nat}
  (hb : n * ti.bytes ≤ 140737488355328) (hn : n ≤ 9223372036854775807) (hsz0 : 1 ≤ ti.size)
  {R : Type} {k : Value → Heap → Option R} {r : R} (ek : appendP st.heap e ti s.1 s.2.1 s.2.2 n (repeatCells zs n) k = some r) :
  ∃ v hp, k v hp = some r ∧ ∃ w' ρ' v', (Builtin.append_ #[t, tx] ty #[y, .int kq n]).run P w = .ok v' w' ∧ Rel P E ρ' β { st with heap := hp } a w' ∧ VR ρ' v v' := by
 obtain ⟨i, hi, _, hsz, hbz, hz'⟩ := tiOf_eq hte
 obtain ⟨zv, hzv, rfl, hpl, hzl⟩ := zeroOf_eq hz
 obtain ⟨s1, s2, s3⟩ := s
 simp only at hs0 hv ek
 subst hs0
 unfold appendP at ek
 obtain ⟨_, ek1⟩ := bif_some ek
 clear ek
 simp only at ek1
 obtain ⟨hl0, ek⟩ := bif_some ek1
 clear ek1
 cases hv
 have hw : IntKind.i64.wrap (n : Int) = n := by rw [IntKind.wrap_i64]; omega
 have hneg : ¬ ((n : Int) < 0) := by omega
 have hzi : i.zero = some zv := by rw [← hz', hzv]
 have hzsz : zv.cells.size = ti.size := by rw [← hzl]; simp
 cases hn0 : Nat.beq n 0 with
 | true =>
  rw [hn0] at ek
  have := Nat.eq_of_beq_eq_true hn0
  subst this
  refine ⟨_, _, ek, w, ρ, .slice none 0 0, ?_, h, .nilSlice⟩
  simp [Builtin.append_, run_underlying ht, run_underlying htx, sizeOf, typeInfo, hi, asInt, asIntOf, show IntKind.i64.wrap 0 = 0 from by decide]
 | false =>
  rw [hn0] at ek
  have hn1 := beq_false hn0
  have hr := Lib.run_append_nil_zeros (P := P) w t tx ty e i zv kq kn ht htx hi hzi n (by omega) (by omega) (by omega) (by rw [← hbz]; omega)
  have hcap := grownCap_ge w n 0 e
  have hcm : grownCap w n 0 e ≤ 9223372036854775807 := grownCap_le_maxLen w n 0 e hn
  have hne : zv.cells.toList ≠ [] := by
   intro hh
   rw [hh] at hzl
   simp at hzl
   omega
  have hmade : Builtin.zeroCells zv.cells n = ⟨repeatCells zv.cells.toList n⟩ := made_eq zv.cells n hne
  rw [hmade] at hr
  have hrp := repeat_one hpl n
  let arr : Array Value := (⟨repeatCells zv.cells.toList n⟩ : Array Value) ++ Builtin.zeroCells zv.cells (grownCap w n 0 e - n)
  have hck : CellOK ρ arr 0 (repeatCells zv.cells.toList n) := by
   intro j u hu
   have hu2 := List.mem_of_getElem? hu
   refine ⟨(hrp u hu2).2, u, ?_, VR.plain_self (hrp u hu2).1⟩
   have := get_lt hu
   simp only [arr, Nat.zero_add]
   rw [Array.getElem?_append_left (by simpa using this)]
   simpa using hu
  have hpush := (h.drew).push (newBlk (repeatCells zv.cells.toList n) e) arr hck rfl rfl (0, 0) (fun _ => rfl)
  refine ⟨_, _, ek, _, _, _, hr, hpush, ?_⟩
  have hat := Rho.at_new' ρ ⟨w.drew.heap.size, 0, arr.size, some (P.cellsOf (newBlk (repeatCells zv.cells.toList n) e).elem)⟩
  rw [h.h.len] at hat
  refine .slice st.heap.length 0 n n _ _ hat (Nat.le_refl _) hcap hcm fun _ u hu' => ⟨?_, fun h0 _ => by omega⟩
  cases hu'
  have he : P.cellsOf (newBlk (repeatCells zv.cells.toList n) e).elem = ti.size := cellsOf_eq hte
  rw [he]
  simp only [arr, Array.size_append, List.size_toArray, size_zeroCells, hzsz, repeat_length, Array.length_toList]
  rw [← Nat.add_mul]
  exact Nat.mul_le_mul_right _ (by omega)
theorem copy_rel (h : Rel P E ρ β st a w) {t tx ty e : TypeId} (ht : P.underlying t = some (.slice e)) {ti : TI} (hte : tiOf P e = some ti) {s x : Option Addr × Nat × Nat} {y z : Value} (hv : VR ρ (.slice s.1 s.2.1 s.2.2) y) (hx : VR ρ (.slice x.1 x.2.1 x.2.2) z)
  {R : Type} {k : Value → Heap → Option R} {r : R}
  (ek : (match s.1, x.1 with
   | some da, some xa => (addrOf (some da)).bind fun p => (addrOf (some xa)).bind fun q =>
    (hcells st.heap q.1 q.2 (Nat.min x.2.1 s.2.1 * ti.size)).bind fun cs => (hstore st.heap p.1 p.2 cs).bind fun h => k (.int .i64 (Nat.min x.2.1 s.2.1 : Nat)) h
   | _, _ => bif Nat.beq (Nat.min x.2.1 s.2.1) 0 then k (.int .i64 0) st.heap else none) = some r) :
  ∃ v hp, k v hp = some r ∧ ∃ w', (Builtin.copy_ #[t, tx] ty #[y, z]).run P w = .ok v w' ∧ Rel P E ρ β { st with heap := hp } a w' ∧ VR ρ v v := by
 obtain ⟨i, hi, _, hsz, hbz, hz'⟩ := tiOf_eq hte
 obtain ⟨s1, s2, s3⟩ := s
 obtain ⟨x1, x2, x3⟩ := x
 simp only at hv hx ek
 split at ek
 ·rename_i da xa
  obtain ⟨p, hp, ek1⟩ := Option.bind_eq_some_iff.1 ek
  clear ek
  obtain ⟨q, hq, ek2⟩ := Option.bind_eq_some_iff.1 ek1
  clear ek1
  obtain ⟨cs, hcs, ek3⟩ := Option.bind_eq_some_iff.1 ek2
  clear ek2
  obtain ⟨h', hst, ek⟩ := Option.bind_eq_some_iff.1 ek3
  clear ek3
  cases addrOf_eq hp
  cases addrOf_eq hq
  obtain ⟨p1, p2⟩ := p
  obtain ⟨q1, q2⟩ := q
  -- the source
  have hsrc : ∃ A c' ys, z = .slice (some A) x2 c' ∧ ys.length = Nat.min x2 s2 * ti.size ∧ VRs ρ cs ys ∧ (∀ x ∈ cs, x.oneCell' = true) ∧ (Builtin.firstCells i.size (Nat.min x2 s2) (.slice (some A) x2 c')).run P w = .ok ⟨ys⟩ w := by
   cases hx with
   | slice id off n c c' rb hr hn hc hm hu =>
    obtain ⟨ys, hl, hvs, h1, hcell⟩ := hcells_rel h.h hr hcs
    exact ⟨_, c', ys, rfl, hl, hvs, h1, run_firstCells_some w i.size (Nat.min x2 s2) _ x2 c' ys (by rw [← hsz]; exact hl) hcell⟩
   | empty id off A rb hr =>
    have h0 : Nat.min 0 s2 = 0 := Nat.zero_min s2
    rw [h0] at hcs ⊢
    obtain ⟨ys, hl, hvs, h1, hcell⟩ := hcells_rel h.h hr hcs
    have hy : ys = [] := List.eq_nil_of_length_eq_zero (by simpa using hl)
    subst hy
    exact ⟨A, 0, [], rfl, hl, hvs, h1, run_firstCells_some w i.size 0 A 0 0 [] (by simp) (by simp)⟩
  obtain ⟨A, c', ys, rfl, hyl, hvs, h1, hfirst⟩ := hsrc
  have hdst : ∃ B d' w', y = .slice (some B) s2 d' ∧ (storeCells B ys 0).run P w = .ok () w' ∧ Rel P E ρ β { st with heap := h' } a w' := by
   cases hv with
   | slice id off n c c2 rb hr hn hc hm hu =>
    obtain ⟨w', h0, hrun, hrel⟩ := h.hstore hr hvs h1 hst
    exact ⟨_, _, w', rfl, by rw [h0, Nat.zero_add]; exact hrun, hrel⟩
   | empty id off B rb hr =>
    have h0 : Nat.min x2 0 = 0 := Nat.min_zero x2
    rw [h0, Nat.zero_mul] at hyl
    have hy : ys = [] := List.eq_nil_of_length_eq_zero hyl
    subst hy
    obtain ⟨w', h0, hrun, hrel⟩ := h.hstore hr hvs h1 hst
    simp [storeCells] at hrun
    subst hrun
    exact ⟨B, 0, w, rfl, by simp [storeCells], hrel⟩
  obtain ⟨B, d', w', rfl, hrun, hrel⟩ := hdst
  refine ⟨_, _, ek, w', ?_, hrel, .int _ _⟩
  simp [Builtin.copy_, run_underlying ht, Builtin.lenOf, sizeOf, typeInfo, hi, hfirst, hrun]
  rfl
 ·rename_i hno
  obtain ⟨hz, ek1⟩ := bif_some ek
  have hz := Nat.eq_of_beq_eq_true hz
  have hk : ∃ s' x' c c', y = .slice s' s2 c ∧ z = .slice x' x2 c' := by
   cases hv <;> cases hx <;> exact ⟨_, _, _, _, rfl, rfl⟩
  obtain ⟨s', x', c, c', rfl, rfl⟩ := hk
  have hfirst : (Builtin.firstCells i.size 0 (.slice x' x2 c')).run P w = .ok #[] w := by
   cases x' with
   | none => rfl
   | some A => exact run_firstCells_some w i.size 0 A x2 c' [] (by simp) (by simp)
  refine ⟨_, _, ek1, w, ?_, h, .int _ _⟩
  cases s' <;> simp [Builtin.copy_, run_underlying ht, Builtin.lenOf, sizeOf, typeInfo, hi, hz, hfirst, storeCells] <;> rfl
theorem two {xs : List Value} {u v : Value} {ys : List Value} (h : VRs ρ [u, v] ys) : ∃ y z, ys = [y, z] ∧ VR ρ u y ∧ VR ρ v z := by
 cases h with
 | cons _ y _ _ h1 t => cases t with
  | cons _ z _ _ h2 t => cases t; exact ⟨y, z, rfl, h1, h2⟩
theorem one' {u : Value} {ys : List Value} (h : VRs ρ [u] ys) : ∃ y, ys = [y] ∧ VR ρ u y := by
 cases h with
 | cons _ y _ _ h1 t => cases t; exact ⟨y, rfl, h1⟩
theorem op_builtin (h : Rel P E ρ β st a w) {b : Builtin} {args : Array Operand} {ts : Array TypeId} (ho : o.op = .call ⟨.builtin b, args, ts⟩) {ss : List Slot} (e : opds st args.toList = some ss) {R : Type} {k : Slot → St → Option R} {r : R}
  (e2 : (outs st ss fun xs st => builtinP P b ts.toList xs st k) = some r) : ∃ s' st', k s' st' = some r ∧ o.wpR P E.ro a w (Done P E β st' o s') Q := by
 obtain ⟨ρ1, xs, st1, hx1, h1, hv, e3, _⟩ := outs_rel h (opds_rel h e) e2
 have hts : ts = ⟨ts.toList⟩ := rfl
 have hargs : args.map a.eval = ⟨args.toList.map a.eval⟩ := Array.ext' (by simp)
 have fin : ∀ (f : Array TypeId → TypeId → Array Value → Sem Value), (∀ consts args, builtin b ts o.type consts args = (do pure (.value (← f ts o.type args)) : Sem Next)) → ∀ (v : Value) (v' : Value) (w' : World) (hp : Heap) (ρ' : Rho), (f ts o.type ⟨args.toList.map a.eval⟩).run P w = .ok v' w' → Rel P E ρ' β { st1 with heap := hp } a w' → VR ρ' v v' → o.wpR P E.ro a w (Done P E β { st1 with heap := hp } o (.v v)) Q :=
  fun f hf v v' w' hp ρ' hr hrel hvv => done_value (run_builtin ho f hf (by rw [hargs]; exact hr)) hrel hvv
 generalize args.toList.map a.eval = ys at hv fin
 generalize htl : ts.toList = tl at e3 hts
 subst hts
 unfold builtinP at e3
 split at e3
 ·rename_i t x
  obtain ⟨y, rfl, hy⟩ := one' hv
  obtain ⟨d, hd, e4⟩ := Option.bind_eq_some_iff.1 e3
  clear e3
  split at e4
  ·obtain ⟨s, hs, e5⟩ := Option.bind_eq_some_iff.1 e4
   obtain ⟨_, rfl⟩ := hy.toStr hs
   exact ⟨_, _, e5, fin Builtin.len_ (fun _ _ => rfl) _ _ w st1.heap ρ1 (by simp [Builtin.len_, run_underlying hd]; rfl) h1 (.int _ _)⟩
  ·obtain ⟨s, hs, e5⟩ := Option.bind_eq_some_iff.1 e4
   have hyx := hy
   rw [toSl_eq hs] at hyx
   obtain ⟨A, c, rfl⟩ : ∃ A c, y = .slice A s.2.1 c := by generalize s.2.1 = n at hyx ⊢; generalize s.1 = aa at hyx; generalize s.2.2 = cc at hyx; cases hyx <;> exact ⟨_, _, rfl⟩
   exact ⟨_, _, e5, fin Builtin.len_ (fun _ _ => rfl) _ _ w st1.heap ρ1 (by simp [Builtin.len_, run_underlying hd]; rfl) h1 (.int _ _)⟩
  ·exact ⟨_, _, e4, fin Builtin.len_ (fun _ _ => rfl) _ _ w st1.heap ρ1 (by simp [Builtin.len_, run_underlying hd]; rfl) h1 (.int _ _)⟩
  ·cases e4
 ·rename_i t x
  obtain ⟨y, rfl, hy⟩ := one' hv
  obtain ⟨d, hd, e4⟩ := Option.bind_eq_some_iff.1 e3
  clear e3
  split at e4
  ·obtain ⟨s, hs, e5⟩ := Option.bind_eq_some_iff.1 e4
   clear e4
   obtain ⟨hn, e6⟩ := bif_some e5
   clear e5
   have hyx := hy
   rw [toSl_eq hs] at hyx
   obtain ⟨s1, s2, s3⟩ := s
   simp only at hn hyx e6
   cases s1 with
   | some _ => cases hn
   | none =>
    cases hyx
    exact ⟨_, _, e6, fin Builtin.cap_ (fun _ _ => rfl) _ _ w st1.heap ρ1 (by simp [Builtin.cap_, run_underlying hd]; rfl) h1 (.int _ _)⟩
  ·cases e4
 ·rename_i t tx s x
  obtain ⟨y, z, rfl, hy, hz⟩ := two (xs := []) hv
  obtain ⟨d, hd, e4⟩ := Option.bind_eq_some_iff.1 e3
  clear e3
  split at e4
  ·rename_i e'
   obtain ⟨ti, hti, e5⟩ := Option.bind_eq_some_iff.1 e4
   clear e4
   obtain ⟨q, hq, e6⟩ := Option.bind_eq_some_iff.1 e5
   clear e5
   obtain ⟨zs, hzs, e7⟩ := Option.bind_eq_some_iff.1 e6
   clear e6
   obtain ⟨dx, hdx, e8⟩ := Option.bind_eq_some_iff.1 e7
   clear e7
   rw [toSl_eq hq] at hy
   split at e8
   ·obtain ⟨m, hm, e9⟩ := Option.bind_eq_some_iff.1 e8
    clear e8
    obtain ⟨n, hn, e10⟩ := Option.bind_eq_some_iff.1 e9
    clear e9
    obtain ⟨hc, e11⟩ := bif_some e10
    clear e10
    simp only [Bool.and_eq_true] at hc
    obtain ⟨kq, _, rfl⟩ := hz.intOfV hm
    obtain ⟨rfl, hle⟩ := upTo_eq hn
    have hb : n * ti.bytes ≤ 140737488355328 := Nat.le_of_ble_eq_true hc.1.2
    obtain ⟨v, hp, ek, w', ρ', v', hr, hrel, hvr⟩ := appendz_rel h1 (ty := o.type) hd hdx hti hzs (by simpa using hc.1.1) hy (kq := kq) hb hle (Nat.le_of_ble_eq_true hc.2) e11
    exact ⟨_, _, ek, fin Builtin.append_ (fun _ _ => rfl) _ _ w' hp ρ' hr hrel hvr⟩
   ·obtain ⟨m, hm, e9⟩ := Option.bind_eq_some_iff.1 e8
    clear e8
    obtain ⟨n, hn, e10⟩ := Option.bind_eq_some_iff.1 e9
    clear e9
    rw [toSl_eq hm] at hz
    obtain ⟨ws, hsrc, hvs, hone, _⟩ := news_rel h1.h hz hn (tx := tx) (.inl ⟨_, hdx⟩) (fun s hs => by cases hs)
    obtain ⟨v, hp, ek, w', ρ', v', hr, hrel, hvr⟩ := append_rel h1 (ty := o.type) hd hti hzs hy hsrc hvs hone e10
    exact ⟨_, _, ek, fin Builtin.append_ (fun _ _ => rfl) _ _ w' hp ρ' hr hrel hvr⟩
   ·obtain ⟨m, hm, e9⟩ := Option.bind_eq_some_iff.1 e8
    clear e8
    obtain ⟨h1s, e10⟩ := bif_some e9
    clear e9
    obtain ⟨n, hn, e11⟩ := Option.bind_eq_some_iff.1 e10
    clear e10
    obtain ⟨rfl, rfl⟩ := hz.toStr hm
    obtain ⟨ws, hsrc, hvs, hone, _⟩ := news_rel h1.h hz hn (tx := tx) (.inr hdx) (fun s hs => Nat.eq_of_beq_eq_true h1s)
    obtain ⟨v, hp, ek, w', ρ', v', hr, hrel, hvr⟩ := append_rel h1 (ty := o.type) hd hti hzs hy hsrc hvs hone e11
    exact ⟨_, _, ek, fin Builtin.append_ (fun _ _ => rfl) _ _ w' hp ρ' hr hrel hvr⟩
   ·cases e8
  ·cases e4
 ·rename_i t tx s x
  obtain ⟨y, z, rfl, hy, hz⟩ := two (xs := []) hv
  obtain ⟨d, hd, e4⟩ := Option.bind_eq_some_iff.1 e3
  clear e3
  split at e4
  ·rename_i e'
   obtain ⟨ti, hti, e5⟩ := Option.bind_eq_some_iff.1 e4
   clear e4
   obtain ⟨q, hq, e6⟩ := Option.bind_eq_some_iff.1 e5
   clear e5
   obtain ⟨q', hq', e7⟩ := Option.bind_eq_some_iff.1 e6
   clear e6
   rw [toSl_eq hq] at hy
   rw [toSl_eq hq'] at hz
   obtain ⟨v, hp, ek, w', hr, hrel, hvr⟩ := copy_rel h1 (tx := tx) (ty := o.type) hd hti hy hz (k := fun v h => k (.v v) { st1 with heap := h }) e7
   exact ⟨_, _, ek, fin Builtin.copy_ (fun _ _ => rfl) _ _ w' hp ρ1 hr hrel hvr⟩
  ·cases e4
 ·obtain ⟨y, z, rfl, hy, hz⟩ := two (xs := []) hv
  cases hy
  cases hz
  obtain ⟨hk, e4⟩ := bif_some e3
  have hk := of_decide_eq_true hk
  subst hk
  exact ⟨_, _, e4, fin Builtin.min_ (fun _ _ => rfl) _ _ w st1.heap ρ1 (by simp [Builtin.min_, Builtin.min2]) h1 (.int _ _)⟩
 ·obtain ⟨y, z, rfl, hy, hz⟩ := two (xs := []) hv
  cases hy
  cases hz
  obtain ⟨hk, e4⟩ := bif_some e3
  have hk := of_decide_eq_true hk
  subst hk
  exact ⟨_, _, e4, fin Builtin.max_ (fun _ _ => rfl) _ _ w st1.heap ρ1 (by simp [Builtin.max_, Builtin.max2]) h1 (.int _ _)⟩
 ·cases e3
theorem op_appQ (h : Rel P E ρ β st a w) {args : Array Operand} {ts : Array TypeId} (ho : o.op = .call ⟨.builtin .append, args, ts⟩) {ss : List Slot} (e : opds st args.toList = some ss) {R : Type} {k : Slot → St → Option R} {r : R}
  (e2 : (outs st ss fun xs st => appQ P ts.toList xs st k) = some r) : ∃ s' st', k s' st' = some r ∧ o.wpR P E.ro a w (Done P E β st' o s') Q := by
 obtain ⟨ρ1, xs, st1, hx1, h1, hv, e3, _⟩ := outs_rel h (opds_rel h e) e2
 have hts : ts = ⟨ts.toList⟩ := rfl
 have hargs : args.map a.eval = ⟨args.toList.map a.eval⟩ := Array.ext' (by simp)
 have fin : ∀ (f : Array TypeId → TypeId → Array Value → Sem Value), (∀ consts args, builtin .append ts o.type consts args = (do pure (.value (← f ts o.type args)) : Sem Next)) → ∀ (v : Value) (v' : Value) (w' : World) (hp : Heap) (ρ' : Rho), (f ts o.type ⟨args.toList.map a.eval⟩).run P w = .ok v' w' → Rel P E ρ' β { st1 with heap := hp } a w' → VR ρ' v v' → o.wpR P E.ro a w (Done P E β { st1 with heap := hp } o (.v v)) Q :=
  fun f hf v v' w' hp ρ' hr hrel hvv => done_value (run_builtin ho f hf (by rw [hargs]; exact hr)) hrel hvv
 generalize args.toList.map a.eval = ys at hv fin
 generalize htl : ts.toList = tl at e3 hts
 subst hts
 unfold appQ at e3
 split at e3
 ·rename_i t tx s x
  obtain ⟨y, z, rfl, hy, hz⟩ := two (xs := []) hv
  obtain ⟨d, hd, e4⟩ := Option.bind_eq_some_iff.1 e3
  clear e3
  split at e4
  ·rename_i e'
   obtain ⟨ti, hti, e5⟩ := Option.bind_eq_some_iff.1 e4
   clear e4
   obtain ⟨q, hq, e6⟩ := Option.bind_eq_some_iff.1 e5
   clear e5
   obtain ⟨zs, hzs, e7⟩ := Option.bind_eq_some_iff.1 e6
   clear e6
   obtain ⟨dx, hdx, e8⟩ := Option.bind_eq_some_iff.1 e7
   clear e7
   rw [toSl_eq hq] at hy
   split at e8
   ·obtain ⟨m, hm, e9⟩ := Option.bind_eq_some_iff.1 e8
    clear e8
    obtain ⟨n, hn, e10⟩ := Option.bind_eq_some_iff.1 e9
    clear e9
    rw [toSl_eq hm] at hz
    obtain ⟨ws, hsrc, hvs, hone, _⟩ := news_rel h1.h hz hn (tx := tx) (.inl ⟨_, hdx⟩) (fun s hs => by cases hs)
    obtain ⟨v, hp, ek, w', ρ', v', hr, hrel, hvr⟩ := appendQ_rel h1 (ty := o.type) hd hti hzs hy hsrc hvs hone e10
    exact ⟨_, _, ek, fin Builtin.append_ (fun _ _ => rfl) _ _ w' hp ρ' hr hrel hvr⟩
   ·obtain ⟨m, hm, e9⟩ := Option.bind_eq_some_iff.1 e8
    clear e8
    obtain ⟨h1s, e10⟩ := bif_some e9
    clear e9
    obtain ⟨n, hn, e11⟩ := Option.bind_eq_some_iff.1 e10
    clear e10
    obtain ⟨rfl, rfl⟩ := hz.toStr hm
    obtain ⟨ws, hsrc, hvs, hone, _⟩ := news_rel h1.h hz hn (tx := tx) (.inr hdx) (fun s hs => Nat.eq_of_beq_eq_true h1s)
    obtain ⟨v, hp, ek, w', ρ', v', hr, hrel, hvr⟩ := appendQ_rel h1 (ty := o.type) hd hti hzs hy hsrc hvs hone e11
    exact ⟨_, _, ek, fin Builtin.append_ (fun _ _ => rfl) _ _ w' hp ρ' hr hrel hvr⟩
   ·cases e8
  ·cases e4
 ·cases e3
end
end Go.Pv
end
section
namespace Go.Pv
variable [Glob]
section
variable {P : Program} {E : Env} {ρ : Rho} {β : List (Option Nat)} {st : St} {a : Act} {w : World} {Q : Exit → Act → World → Prop} {next : Act → World → Prop} {o : Oper}
theorem Rel.called (h : Rel P E ρ β st a w) {r : Value × Heap} {y : Value} {ρ' : Rho} {w' : World} (l : Left P ρ st.heap w r y ρ' w') : Rel P E ρ' β { st with heap := r.2 } a w' := by
 have hle := l.ext.le
 have hwr : ∀ b, Writable ρ st.heap b → E.A0 b ∨ E.w0.heap.size ≤ b := by
  rintro b ⟨id, bl, rb, h1, h2, ⟨h3, h4⟩ | h3, rfl⟩
  ·exact h.n.wh id bl rb h1 h2 h3 h4
  ·exact h.n.wo id bl rb h1 h2 h3
 have hnew : ∀ b, (Writable ρ st.heap b ∨ w.heap.size ≤ b) → E.A0 b ∨ E.w0.heap.size ≤ b := by
  rintro b (hb | hb)
  ·exact hwr b hb
  ·exact .inr (Nat.le_trans h.f.size hb)
 have hold : ∀ id rb, ρ'.at id rb → id < st.heap.length → ρ.at id rb := by
  intro id rb hr hid
  obtain ⟨m, rfl⟩ := l.ext
  exact Rho.at_snoc hr (by rw [h.h.len]; exact hid)
 have hbox : ∀ (d : Nat) cs e b, st.boxes[d]? = some (.loc cs e) → β[d]? = some (some b) → ¬ Writable ρ st.heap b ∧ b < w.heap.size := by
  intro d cs e b hd hb
  constructor
  ·rintro ⟨id, bl, rb, h1, h2, ⟨h3, _⟩ | h3, rfl⟩
   ·exact h.b.sepH d cs e _ id bl rb hd hb h1 h2 h3 rfl
   ·obtain ⟨b', ys, hb', hc, _⟩ := h.b.loc d cs e hd
    rw [hb] at hb'
    cases hb'
    cases ho : bl.obj with
    | none => rw [ho] at h3; cases h3
    | some o =>
     obtain ⟨_, x, hx, hox⟩ := h.h.o.obj id bl rb o h1 h2 ho
     rw [hc] at hx
     cases hx
     exact hox.noCells _ _ _ rfl
  ·obtain ⟨b', ys, hb', hc, _⟩ := h.b.loc d cs e hd
   rw [hb] at hb'
   cases hb'
   exact aget_lt hc
 refine ⟨l.hr, ⟨h.b.len, ?_, ?_, h.b.sepB⟩, h.t.mono hle, ⟨l.f.os.trans h.f.os, l.f.tape.trans h.f.tape, l.f.output.trans h.f.output, Nat.le_trans h.f.size l.f.size, ?_⟩, ⟨?_, h.n.wb, ?_, Nat.le_trans h.n.len l.n.len, ?_, ?_⟩, h.d, h.bl, h.e.trans l.ext, h.g⟩
 ·intro d cs e hd
  obtain ⟨b, ys, hb, hc, hv, h1⟩ := h.b.loc d cs e hd
  obtain ⟨hw, hlt⟩ := hbox d cs e b hd hb
  exact ⟨b, ys, hb, (l.f.block b hlt hw).trans hc, hv.mono hle, h1⟩
 ·intro d cs e b id bl rb hd hb hi hr hl
  obtain ⟨hw, hlt⟩ := hbox d cs e b hd hb
  by_cases hid : id < st.heap.length
  ·obtain ⟨b0, hb0, hl0⟩ := l.n.liv id bl hid hi hl
   exact h.b.sepH d cs e b id b0 rb hd hb hb0 (hold id rb hr hid) hl0
  ·rcases l.n.wn id rb (by simpa using hid) hr with hh | hh
   ·intro hbb
    exact hw (hbb ▸ hh)
   ·have : w.heap.size ≤ rb.b := hh
    omega
 ·intro b hb hA
  have hw : ¬ Writable ρ st.heap b := by
   intro hw
   rcases hwr b hw with hh | hh
   ·exact hA hh
   ·omega
  exact (l.f.block b (Nat.lt_of_lt_of_le hb h.f.size) hw).trans (h.f.block b hb hA)
 ·intro id bl rb hi hr hl hro
  exact hnew _ (l.n.wh id bl rb hi hr hl hro)
 ·intro id rb hid hr
  by_cases hlt : id < st.heap.length
  ·exact h.n.wn id rb hid (hold id rb hr hlt)
  ·exact hnew _ (l.n.wn id rb (by simpa using hlt) hr)
 ·intro id bl hid hi hl
  obtain ⟨b0, hb0, hl0⟩ := l.n.liv id bl (Nat.lt_of_lt_of_le hid h.n.len) hi hl
  exact h.n.liv id b0 hid hb0 hl0
 ·intro id bl rb hi hr ho
  exact hnew _ (l.n.wo id bl rb hi hr ho)
theorem shield_get {h : Heap} {id : Nat} {b : Blk} (e : (shield h)[id]? = some b) : ∃ c, h[id]? = some c ∧ b = { c with ro := true, obj := none } := by
 unfold shield at e
 rw [List.getElem?_map] at e
 cases hc : h[id]? with
 | none => rw [hc] at e; cases e
 | some c => rw [hc] at e; cases e; exact ⟨c, rfl, rfl⟩
theorem shield_length (h : Heap) : (shield h).length = h.length := by simp [shield]
theorem HRel.shield {h : Heap} (hr : HRel P ρ h w) : HRel P ρ (Pv.shield h) w := by
 refine ⟨by rw [shield_length]; exact hr.len, ?_, ?_, hr.o.of (Rho.le.refl ρ) (fun id b rb o h1 _ h3 => by obtain ⟨c, _, rfl⟩ := shield_get h1; cases h3) fun _ _ _ _ _ _ _ _ h4 _ => h4⟩
 ·intro id b rb hb hat hl
  obtain ⟨c, hc, rfl⟩ := shield_get hb
  obtain ⟨cs, e, fr, h1, h2, h3, _, h5⟩ := hr.blk id c rb hc hat hl
  exact ⟨cs, e, fr, h1, h2, h3, (fun hh => by cases hh), h5⟩
 ·intro i j bi bj ri rj _ hi _ _ _ _ _ hro
  obtain ⟨c, hc, rfl⟩ := shield_get hi
  cases hro
theorem not_writable_shield (ρ : Rho) (h : Heap) (b : Nat) : ¬ Writable ρ (shield h) b := by
 rintro ⟨id, bl, rb, h1, _, h4, _⟩
 obtain ⟨c, _, rfl⟩ := shield_get h1
 rcases h4 with ⟨_, h4⟩ | h4 <;> cases h4
theorem Left.unshield {h : Heap} (hr : HRel P ρ h w) {v : Value} {h' : Heap} {y : Value} {ρ' : Rho} {w' : World} (l : Left P ρ (shield h) w (v, h') y ρ' w') : Left P ρ h w (v, h ++ h'.drop h.length) y ρ' w' := by
 have hl0 := l.n.len
 simp only [shield_length] at hl0
 have hget : ∀ (id : Nat) b, (h ++ h'.drop h.length)[id]? = some b → (id < h.length ∧ h[id]? = some b) ∨ (h.length ≤ id ∧ h'[id]? = some b) := by
  intro id b hb
  by_cases hid : id < h.length
  ·rw [List.getElem?_append_left hid] at hb
   exact .inl ⟨hid, hb⟩
  ·rw [List.getElem?_append_right (by omega), List.getElem?_drop] at hb
   rw [show h.length + (id - h.length) = id by omega] at hb
   exact .inr ⟨by omega, hb⟩
 have hat : ∀ id rb, ρ'.at id rb → id < h.length → ρ.at id rb := by
  intro id rb hh hid
  obtain ⟨m, rfl⟩ := l.ext
  exact Rho.at_snoc hh (by rw [hr.len]; exact hid)
 have hnew : ∀ id rb, h.length ≤ id → ρ'.at id rb → w.heap.size ≤ rb.b := by
  intro id rb hid hh
  rcases l.n.wn id rb (by simpa [shield_length] using hid) hh with hw | hw
  ·exact absurd hw (not_writable_shield ρ h _)
  ·exact hw
 have holt : ∀ id b rb o, h[id]? = some b → ρ.at id rb → b.obj = some o → rb.b < w.heap.size := fun id b rb o h1 h2 h3 => by
  obtain ⟨_, x, hx, _⟩ := hr.o.obj id b rb o h1 h2 h3
  exact aget_lt hx
 have horel : ORel ρ' (h ++ h'.drop h.length) w' := by
  refine ⟨fun id b rb o h1 h2 h3 => ?_, fun i j bi bj ri rj oi oj hij h1 h2 h3 h4 h5 h6 => ?_⟩
  ·rcases hget id b h1 with ⟨hid, hb⟩ | ⟨hid, hb⟩
   ·obtain ⟨hlv, x, hx, hox⟩ := hr.o.obj id b rb o hb (hat id rb h2 hid) h3
    exact ⟨hlv, x, (l.f.block rb.b (aget_lt hx) (not_writable_shield ρ h _)).trans hx, hox.mono l.ext.le⟩
   ·exact l.hr.o.obj id b rb o hb h2 h3
  ·rcases hget i bi h1 with ⟨hid, hi2⟩ | ⟨hid, hi2⟩
   ·have h7 := holt i bi ri oi hi2 (hat i ri h3 hid) h5
    rcases hget j bj h2 with ⟨hjd, hj2⟩ | ⟨hjd, hj2⟩
    ·exact hr.o.sep i j bi bj ri rj oi oj hij hi2 hj2 (hat i ri h3 hid) (hat j rj h4 hjd) h5 h6
    ·have := hnew j rj hjd h4
     omega
   ·have h7 := hnew i ri hid h3
    rcases hget j bj h2 with ⟨hjd, hj2⟩ | ⟨hjd, hj2⟩
    ·have := holt j bj rj oj hj2 (hat j rj h4 hjd) h6
     omega
    ·exact l.hr.o.sep i j bi bj ri rj oi oj hij hi2 hj2 h3 h4 h5 h6
 refine ⟨l.ext, ⟨?_, ?_, ?_, horel⟩, l.v, ⟨l.f.os, l.f.tape, l.f.output, l.f.size, fun b hb _ => l.f.block b hb (not_writable_shield ρ h b)⟩, ⟨?_, ?_, ?_, ?_, ?_, ?_⟩⟩
 ·rw [l.hr.len]; simp; omega
 ·intro id b rb hb hh hl
  rcases hget id b hb with ⟨hid, hb⟩ | ⟨hid, hb⟩
  ·have hb2 := hr.blk id b rb hb (hat id rb hh hid) hl
   exact hb2.same l.ext.le (l.f.block rb.b hb2.lt (not_writable_shield ρ h _))
  ·exact l.hr.blk id b rb hb hh hl
 ·intro i j bi bj ri rj hij hi hj hri hrj hli hlj hro
  rcases hget i bi hi with ⟨hid, hi2⟩ | ⟨hid, hi2⟩
  ·have h1 := (hr.blk i bi ri hi2 (hat i ri hri hid) hli).lt
   rcases hget j bj hj with ⟨hjd, hj2⟩ | ⟨hjd, hj2⟩
   ·exact hr.sep i j bi bj ri rj hij hi2 hj2 (hat i ri hri hid) (hat j rj hrj hjd) hli hlj hro
   ·have := hnew j rj hjd hrj
    omega
  ·have h1 := hnew i ri hid hri
   rcases hget j bj hj with ⟨hjd, hj2⟩ | ⟨hjd, hj2⟩
   ·have := (hr.blk j bj rj hj2 (hat j rj hrj hjd) hlj).lt
    omega
   ·exact l.hr.sep i j bi bj ri rj hij hi2 hj2 hri hrj hli hlj hro
 ·intro id bl rb hb hh hl hro
  rcases hget id bl hb with ⟨hid, hb⟩ | ⟨hid, hb⟩
  ·exact .inl ⟨id, bl, rb, hb, hat id rb hh hid, .inl ⟨hl, hro⟩, rfl⟩
  ·exact .inr (hnew id rb hid hh)
 ·intro d cs e b hd
  simp at hd
 ·intro id rb hid hh
  exact .inr (hnew id rb hid hh)
 ·simp
 ·intro id bl hid hb hl
  rcases hget id bl hb with ⟨_, hb⟩ | ⟨hid2, _⟩
  ·exact ⟨bl, hb, hl⟩
  ·have : id < h.length := hid
   omega
 ·intro id bl rb hb hh ho
  rcases hget id bl hb with ⟨hid, hb⟩ | ⟨hid, hb⟩
  ·exact .inl ⟨id, bl, rb, hb, hat id rb hh hid, .inr ho, rfl⟩
  ·exact .inr (hnew id rb hid hh)
theorem callP_ok {C : CallF} (hC : CallOK P C) (prot : Bool) : CallOK P (callP C prot) := by
 cases prot with
 | false => exact hC
 | true =>
  intro f xs h r e ρ w ys hg hr hv ro o a next Q hn
  obtain ⟨r', he, e1⟩ := Option.bind_eq_some_iff.1 e
  cases e1
  exact hC f xs (shield h) r' he ρ w ys hg hr.shield hv ro o a next Q fun y w' ⟨ρ', l⟩ => hn y w' ⟨ρ', l.unshield hr⟩
theorem op_call {C : CallF} (hC : CallOK P C) (h : Rel P E ρ β st a w) {f : Operand} {args : Array Operand} {ts : Array TypeId} (ho : o.op = .call ⟨.value f, args, ts⟩) {sf : Slot} {g : FuncId} {first captured : Array Value} (ef : opd st f = some sf) (ev : valS sf = some (.func (.func g) first captured)) {ss : List Slot} (e : opds st args.toList = some ss) {R : Type} {k : Slot → St → Option R} {r : R}
  (e2 : (outs st ss fun xs st => (C g (first.toList ++ xs ++ captured.toList) st.heap).bind fun r => typed P o.type r.1 fun x => k (.v x) { st with heap := r.2 }) = some r) : ∃ s' st', k s' st' = some r ∧ o.wpR P E.ro a w (Done P E β st' o s') Q := by
 have hf := opd_val h ef ev
 obtain ⟨ρ1, xs, st1, hx1, h1, hv, e3, hsl⟩ := outs_rel h (opds_rel h e) e2
 obtain ⟨q, hq, e4⟩ := Option.bind_eq_some_iff.1 e3
 have e5 := typed_some e4
 refine ⟨_, _, e5, ?_⟩
 have hf' := hf.mono hx1.le
 generalize hy : a.eval f = y at hf'
 cases hf' with
 | func fn hfy xs1 ys1 zs1 ws1 hv1 hv2 =>
  have hrun : (execOp a.eval o).run P w = (callFunc g ⟨ys1 ++ args.toList.map a.eval ++ ws1⟩).run P w := by
   have : args.map a.eval = ⟨args.toList.map a.eval⟩ := Array.ext' (by simp)
   simp [execOp, ho, resolve, hy, Deferred.ofValue, invoke, this]
  refine ⟨fun _ _ => trivial, ?_⟩
  rw [Oper.semAt_eq _ _ _ (by simp [ho]), hrun]
  refine hC g _ _ q hq ρ1 w _ (h1.g.mono h1.e.le) h1.h ((hv1.append hv).append hv2) E.ro o a _ Q fun y w' ⟨ρ', l⟩ => ?_
  exact ⟨ρ', β, (h1.called l).put o.dst (s := .v q.1) l.v, fun _ _ => rfl⟩
end
end Go.Pv
end
section
namespace Go.Pv
variable [Glob]
section
variable {P : Program} {E : Env} {ρ : Rho} {β : List (Option Nat)} {st : St} {a : Act} {w : World} {Q : Exit → Act → World → Prop} {next : Act → World → Prop} {o : Oper}
theorem evalOp_sound {C : CallF} (hC : CallOK P C) (prot : Bool) (h : Rel P E ρ β st a w) {R : Type} {k : Slot → St → Option R} {r : R} (e : evalOp P C prot o st k = some r) :
  ∃ s' st', k s' st' = some r ∧ o.wpR P E.ro a w (Done P E β st' o s') Q := by
 unfold evalOp at e
 split at e
 ·rename_i x ho
  obtain ⟨s, hs, e1⟩ := Option.bind_eq_some_iff.1 e
  exact ⟨_, _, e1, op_move h (.inl ho) hs⟩
 ·rename_i x ho
  obtain ⟨s, hs, e1⟩ := Option.bind_eq_some_iff.1 e
  exact ⟨_, _, e1, op_move h (.inr ho) hs⟩
 ·rename_i c x y ho
  obtain ⟨s, hs, e1⟩ := Option.bind_eq_some_iff.1 e
  obtain ⟨v, hv, e2⟩ := Option.bind_eq_some_iff.1 e1
  obtain ⟨t, ht, e3⟩ := Option.bind_eq_some_iff.1 e2
  cases t with
  | true =>
   obtain ⟨s', hs', e4⟩ := Option.bind_eq_some_iff.1 e3
   exact ⟨_, _, e4, op_pick h ho hs hv ht hs'⟩
  | false =>
   obtain ⟨s', hs', e4⟩ := Option.bind_eq_some_iff.1 e3
   exact ⟨_, _, e4, op_pick h ho hs hv ht hs'⟩
 ·rename_i t ho
  obtain ⟨d, hd, e1⟩ := Option.bind_eq_some_iff.1 e
  obtain ⟨ti, hti, e2⟩ := Option.bind_eq_some_iff.1 e1
  obtain ⟨z, hz, e3⟩ := Option.bind_eq_some_iff.1 e2
  obtain ⟨hb, e4⟩ := bif_some e3
  exact ⟨_, _, e4, op_alloc h ho hti hz hd (Nat.le_of_ble_eq_true hb)⟩
 ·rename_i t x ho
  obtain ⟨d, hd, e1⟩ := Option.bind_eq_some_iff.1 e
  obtain ⟨ti, hti, e2⟩ := Option.bind_eq_some_iff.1 e1
  obtain ⟨s, hs, e3⟩ := Option.bind_eq_some_iff.1 e2
  obtain ⟨st', hk, hw⟩ := op_box h ho hs hd e3
  exact ⟨_, _, hk, hw⟩
 ·rename_i t parts ho
  obtain ⟨ti, hti, e1⟩ := Option.bind_eq_some_iff.1 e
  obtain ⟨z, hz, e2⟩ := Option.bind_eq_some_iff.1 e1
  obtain ⟨ps, hps, e3⟩ := Option.bind_eq_some_iff.1 e2
  split at e3
  ·rename_i fs hd
   obtain ⟨hall, e4⟩ := bif_some e3
   obtain ⟨cs, hcs, e5⟩ := Option.bind_eq_some_iff.1 e4
   exact ⟨_, _, e5, op_build_struct h ho hti hd hall hz hps hcs⟩
  ·rename_i n e' hd
   obtain ⟨te, hte, e4⟩ := Option.bind_eq_some_iff.1 e3
   obtain ⟨cs, hcs, e5⟩ := Option.bind_eq_some_iff.1 e4
   exact ⟨_, _, e5, op_build_array h ho hti hd hte hz hps hcs⟩
  ·cases e3
 ·rename_i t len parts ho
  obtain ⟨ti, hti, e1⟩ := Option.bind_eq_some_iff.1 e
  obtain ⟨ps, hps, e3⟩ := Option.bind_eq_some_iff.1 e1
  split at e3
  ·rename_i e' hd
   obtain ⟨te, hte, e4⟩ := Option.bind_eq_some_iff.1 e3
   obtain ⟨z, hz, e5⟩ := Option.bind_eq_some_iff.1 e4
   obtain ⟨hb, e6⟩ := bif_some e5
   obtain ⟨cs, hcs, e7⟩ := Option.bind_eq_some_iff.1 e6
   obtain ⟨hb1, hb2⟩ := Bool.and_eq_true_iff.1 hb
   exact ⟨_, _, e7, op_buildSlice h ho hti hd hte hz (Nat.le_of_ble_eq_true hb2) hps (Nat.le_of_ble_eq_true hb1) hcs⟩
  ·cases e3
 ·rename_i t x ho
  obtain ⟨ti, hti, e1⟩ := Option.bind_eq_some_iff.1 e
  obtain ⟨s, hs, e2⟩ := Option.bind_eq_some_iff.1 e1
  split at e2
  ·rename_i hg
   obtain ⟨cs, hcs, e3⟩ := Option.bind_eq_some_iff.1 e2
   exact ⟨_, _, e3, op_load_agg h ho hti hg hs hcs⟩
  ·rename_i hg
   obtain ⟨v, hv, e3⟩ := Option.bind_eq_some_iff.1 e2
   exact ⟨_, _, typed_some e3, op_load_one h ho hti hg hs hv⟩
 ·rename_i t x y ho
  obtain ⟨ti, hti, e1⟩ := Option.bind_eq_some_iff.1 e
  obtain ⟨sa, hsa, e2⟩ := Option.bind_eq_some_iff.1 e1
  obtain ⟨sx, hsx, e3⟩ := Option.bind_eq_some_iff.1 e2
  obtain ⟨st', hk, hw⟩ := op_store h ho hti hsa hsx e3
  exact ⟨_, _, hk, hw⟩
 ·rename_i x ho
  obtain ⟨s, hs, e1⟩ := Option.bind_eq_some_iff.1 e
  split at e1
  ·rename_i d off
   obtain ⟨s', hs', e2⟩ := Option.bind_eq_some_iff.1 e1
   obtain ⟨A, hA, hsp, hsl⟩ := moved_rel (opd_rel h hs) hs'
   have : A.add 0 = A := by cases A; cases hsp; exact add_mk _ _ 0
   rw [this] at hsl
   exact ⟨_, _, e2, op_nilCheck h ho hs hA hsl⟩
  ·rename_i v
   obtain ⟨p, hp, e2⟩ := Option.bind_eq_some_iff.1 e1
   obtain ⟨q, rfl, e3⟩ := Option.bind_eq_some_iff.1 e2
   have hv : VR ρ v (a.eval x) := opd_rel h hs
   rw [toPtr_eq hp] at hv
   generalize hy : a.eval x = y at hv
   cases hv with
   | ptr id off rb hr => exact ⟨_, _, e3, op_nilCheck h ho hs hy (.ptr id off rb hr)⟩
  ·cases e1
 ·rename_i op t x y ty ho
  obtain ⟨sx, hsx, e1⟩ := Option.bind_eq_some_iff.1 e
  obtain ⟨sy, hsy, e2⟩ := Option.bind_eq_some_iff.1 e1
  obtain ⟨u, hu, e3⟩ := Option.bind_eq_some_iff.1 e2
  obtain ⟨v, hv, e4⟩ := Option.bind_eq_some_iff.1 e3
  obtain ⟨r', hr, e5⟩ := Option.bind_eq_some_iff.1 e4
  exact ⟨_, _, e5, op_binOp h ho hsx hsy hu hv hr⟩
 ·rename_i op t x ho
  obtain ⟨sx, hsx, e1⟩ := Option.bind_eq_some_iff.1 e
  obtain ⟨u, hu, e3⟩ := Option.bind_eq_some_iff.1 e1
  obtain ⟨r', hr, e5⟩ := Option.bind_eq_some_iff.1 e3
  exact ⟨_, _, e5, op_unOp h ho hsx hu hr⟩
 ·rename_i src dst x ho
  obtain ⟨ds, hds, e1⟩ := Option.bind_eq_some_iff.1 e
  obtain ⟨dd, hdd, e2⟩ := Option.bind_eq_some_iff.1 e1
  obtain ⟨sx, hsx, e3⟩ := Option.bind_eq_some_iff.1 e2
  obtain ⟨u, hu, e4⟩ := Option.bind_eq_some_iff.1 e3
  split at e4
  ·obtain ⟨n, hn, e5⟩ := Option.bind_eq_some_iff.1 e4
   exact ⟨_, _, e5, op_convert_int h ho hds hdd hsx hu hn⟩
  ·split at e4
   ·rename_i e'
    obtain ⟨q, hq, e5⟩ := Option.bind_eq_some_iff.1 e4
    obtain ⟨hb, e6⟩ := bif_some e5
    have he : P.underlying e' = some (.int .u8) := by
     split at hb
     ·assumption
     ·cases hb
    split at e6
    ·rename_i hq1
     exact ⟨_, _, e6, op_convert_bytes h ho hds hdd he hsx hu hq (.inl ⟨hq1, rfl⟩)⟩
    ·rename_i ad hq1
     obtain ⟨p, hp, e7⟩ := Option.bind_eq_some_iff.1 e6
     obtain ⟨cs, hcs, e8⟩ := Option.bind_eq_some_iff.1 e7
     obtain ⟨bs, hbs, e9⟩ := Option.bind_eq_some_iff.1 e8
     exact ⟨_, _, e9, op_convert_bytes h ho hds hdd he hsx hu hq (.inr ⟨ad, p, cs, hq1, hp, hcs, hbs⟩)⟩
   ·obtain ⟨b, hb, e5⟩ := Option.bind_eq_some_iff.1 e4
    exact ⟨_, _, e5, op_convert_str h ho hds hdd hsx hu hb⟩
   ·cases e4
  ·rename_i e'
   split at e4
   ·obtain ⟨b, hb, e5⟩ := Option.bind_eq_some_iff.1 e4
    obtain ⟨hc, e6⟩ := bif_some e5
    simp only [Bool.and_eq_true] at hc
    have he : P.underlying e' = some (.int .u8) := by
     have h1 := hc.1.1
     split at h1
     ·assumption
     ·cases h1
    exact ⟨_, _, e6, op_convert_tobytes h ho hds hdd he hsx hu hb (Nat.le_of_ble_eq_true hc.2) (Nat.eq_of_beq_eq_true hc.1.2)⟩
   ·cases e4
  ·cases e4
 ·rename_i arr x ho
  obtain ⟨d, hd, e1⟩ := Option.bind_eq_some_iff.1 e
  obtain ⟨sx, hsx, e2⟩ := Option.bind_eq_some_iff.1 e1
  obtain ⟨u, hu, e3⟩ := Option.bind_eq_some_iff.1 e2
  obtain ⟨q, hq, e4⟩ := Option.bind_eq_some_iff.1 e3
  split at e4
  ·obtain ⟨hb, e5⟩ := bif_some e4
   obtain ⟨hb1, hb2⟩ := Bool.and_eq_true_iff.1 hb
   exact ⟨_, _, e5, op_toArray h ho hd hsx hu hq (Nat.le_of_ble_eq_true hb1) (Nat.le_of_ble_eq_true hb2)⟩
  ·cases e4
 ·rename_i t x ho
  obtain ⟨d, hd, e1⟩ := Option.bind_eq_some_iff.1 e
  obtain ⟨sx, hsx, e2⟩ := Option.bind_eq_some_iff.1 e1
  by_cases hint : ∃ ms, d = .interface ms
  ·obtain ⟨ms, rfl⟩ := hint
   exfalso
   cases sx with
   | v x => simp [out] at e2
   | dead => simp [out] at e2
   | lp d off =>
    simp only [out] at e2
    obtain ⟨_, _, e3⟩ := Option.bind_eq_some_iff.1 e2
    cases e3
  ·have e3 : (out st sx fun x st => k (.v (.iface t x)) st) = some r := by
    rw [← e2]
    congr 1
    funext x st
    cases d <;> first | rfl | exact absurd ⟨_, rfl⟩ hint
   obtain ⟨x, st', hk, hw⟩ := op_makeInterface h ho hd (fun ms hh => hint ⟨ms, hh⟩) hsx (k := k) (r := r) e3
   exact ⟨_, _, hk, hw⟩
 ·rename_i fn first captured ho
  obtain ⟨hy, e0⟩ := bif_none e
  obtain ⟨sf, hsf, e1⟩ := Option.bind_eq_some_iff.1 e0
  obtain ⟨sc, hsc, e2⟩ := Option.bind_eq_some_iff.1 e1
  obtain ⟨fs, cs, st', hk, hw⟩ := op_makeFunc h ho hy hsf hsc e2
  exact ⟨_, _, hk, hw⟩
 ·rename_i t l c ho
  obtain ⟨ti, hti, e1⟩ := Option.bind_eq_some_iff.1 e
  obtain ⟨sl, hsl, e2⟩ := Option.bind_eq_some_iff.1 e1
  obtain ⟨sc, hsc, e3⟩ := Option.bind_eq_some_iff.1 e2
  obtain ⟨u, hu, e4⟩ := Option.bind_eq_some_iff.1 e3
  obtain ⟨v, hv, e5⟩ := Option.bind_eq_some_iff.1 e4
  obtain ⟨i, hi, e6⟩ := Option.bind_eq_some_iff.1 e5
  obtain ⟨j, hj, e7⟩ := Option.bind_eq_some_iff.1 e6
  split at e7
  ·rename_i e' hd
   obtain ⟨te, hte, e8⟩ := Option.bind_eq_some_iff.1 e7
   obtain ⟨z, hz, e9⟩ := Option.bind_eq_some_iff.1 e8
   obtain ⟨n, hn, e10⟩ := Option.bind_eq_some_iff.1 e9
   obtain ⟨m, hm, e11⟩ := Option.bind_eq_some_iff.1 e10
   obtain ⟨hb, e12⟩ := bif_some e11
   obtain ⟨hb1, hb2⟩ := Bool.and_eq_true_iff.1 hb
   have := Nat.eq_of_beq_eq_true hb1
   subst this
   exact ⟨_, _, e12, op_makeSlice h ho hti hd hte hz hsl hsc hu hv hi hj hn hm (Nat.le_of_ble_eq_true hb2)⟩
  ·cases e7
 ·rename_i t x lo hi mx ho
  obtain ⟨hmx, e0⟩ := bif_some e
  have hmx : mx.isSome = true → hi.isSome = true := by
   intro hh
   cases mx with
   | none => cases hh
   | some _ => simpa using hmx
  obtain ⟨d, hd, e1⟩ := Option.bind_eq_some_iff.1 e0
  obtain ⟨sx, hsx, e2⟩ := Option.bind_eq_some_iff.1 e1
  obtain ⟨slo, hlo, e3⟩ := Option.bind_eq_some_iff.1 e2
  obtain ⟨shi, hhi, e4⟩ := Option.bind_eq_some_iff.1 e3
  obtain ⟨smx, hmx', e5⟩ := Option.bind_eq_some_iff.1 e4
  split at e5
  ·obtain ⟨u, hu, e6⟩ := Option.bind_eq_some_iff.1 e5
   obtain ⟨b, hb, e7⟩ := Option.bind_eq_some_iff.1 e6
   split at e7
   ·obtain ⟨hh, hhh, e8⟩ := Option.bind_eq_some_iff.1 e7
    obtain ⟨l, hl, e9⟩ := Option.bind_eq_some_iff.1 e8
    cases mx with
    | some _ =>
     simp only [opdO] at hmx'
     obtain ⟨_, _, hm⟩ := Option.bind_eq_some_iff.1 hmx'
     cases hm
    | none => exact ⟨_, _, e9, op_slice_string h ho hd hsx hu hb hlo hhi hhh hl⟩
   ·cases e7
  ·rename_i e'
   obtain ⟨te, hte, e6⟩ := Option.bind_eq_some_iff.1 e5
   obtain ⟨hts, e6⟩ := bif_some e6
   have hts := Nat.le_of_ble_eq_true hts
   obtain ⟨u, hu, e7⟩ := Option.bind_eq_some_iff.1 e6
   obtain ⟨q, hq, e8⟩ := Option.bind_eq_some_iff.1 e7
   obtain ⟨m, hm, e9⟩ := Option.bind_eq_some_iff.1 e8
   obtain ⟨hh, hhh, e10⟩ := Option.bind_eq_some_iff.1 e9
   obtain ⟨l, hl, e11⟩ := Option.bind_eq_some_iff.1 e10
   split at e11
   ·rename_i hq1
    exact ⟨_, _, e11, op_slice_slice h ho hd hte hsx hu hq hlo hhi hmx' hm hhh hl hmx hts (.inl ⟨hq1, rfl⟩)⟩
   ·rename_i ad hq1
    obtain ⟨p, hp, e12⟩ := Option.bind_eq_some_iff.1 e11
    exact ⟨_, _, e12, op_slice_slice h ho hd hte hsx hu hq hlo hhi hmx' hm hhh hl hmx hts (.inr ⟨ad, p, hq1, hp, rfl⟩)⟩
  ·rename_i n e'
   obtain ⟨hn63, e6⟩ := bif_some e5
   have hn63 := Nat.le_of_ble_eq_true hn63
   obtain ⟨te, hte, e7⟩ := Option.bind_eq_some_iff.1 e6
   obtain ⟨m, hm, e8⟩ := Option.bind_eq_some_iff.1 e7
   obtain ⟨hh, hhh, e9⟩ := Option.bind_eq_some_iff.1 e8
   obtain ⟨l, hl, e10⟩ := Option.bind_eq_some_iff.1 e9
   split at e10
   ·rename_i d off
    obtain ⟨⟨id, st1⟩, hp, e11⟩ := Option.bind_eq_some_iff.1 e10
    obtain ⟨ρ', hx, h', hv, _, _⟩ := h.promote hp
    obtain ⟨rb, hr, hu, hA⟩ := hv off _ (opd_rel h hsx)
    exact ⟨_, _, e11, op_slice_array h ho hd hn63 hte hlo hhi hmx' hm hhh hl hmx h' hr hu hA⟩
   ·rename_i v
    obtain ⟨p, hp, e11⟩ := Option.bind_eq_some_iff.1 e10
    obtain ⟨q, hq, e12⟩ := Option.bind_eq_some_iff.1 e11
    obtain ⟨b, hb, e13⟩ := Option.bind_eq_some_iff.1 e12
    obtain ⟨hrow, e14⟩ := bif_none e13
    simp only [Bool.or_eq_false_iff, Bool.not_eq_false'] at hrow
    have hv : VR ρ v (a.eval x) := opd_rel h hsx
    have hpp := toPtr_eq hp
    rw [addrOf_eq hq] at hpp
    subst hpp
    generalize hy : a.eval x = y at hv
    cases hv with
    | ptr id off rb hr =>
     obtain ⟨cs, el, fr, _, _, _, _, hun⟩ := h.h.blk _ b rb hb hr hrow.2
     exact ⟨_, _, e14, op_slice_array h ho hd hn63 hte hlo hhi hmx' hm hhh hl hmx h hr (hun hrow.1) hy⟩
   ·cases e10
  ·cases e5
 ·rename_i t x f ho
  obtain ⟨d, hd, e1⟩ := Option.bind_eq_some_iff.1 e
  obtain ⟨s, hs, e2⟩ := Option.bind_eq_some_iff.1 e1
  split at e2
  ·obtain ⟨q, hq, e3⟩ := Option.bind_eq_some_iff.1 e2
   obtain ⟨hb, e4⟩ := bif_none e3
   obtain ⟨s', hs', e5⟩ := Option.bind_eq_some_iff.1 e4
   exact ⟨_, _, e5, op_fieldAddr h ho hd hs hq hb hs'⟩
  ·cases e2
 ·rename_i t x f ho
  obtain ⟨d, hd, e1⟩ := Option.bind_eq_some_iff.1 e
  obtain ⟨s, hs, e2⟩ := Option.bind_eq_some_iff.1 e1
  obtain ⟨u, hu, e3⟩ := Option.bind_eq_some_iff.1 e2
  obtain ⟨cs, hcs, e4⟩ := Option.bind_eq_some_iff.1 e3
  split at e4
  ·obtain ⟨q, hq, e5⟩ := Option.bind_eq_some_iff.1 e4
   split at e5
   ·rename_i hg
    obtain ⟨_, e6⟩ := bif_some e5
    exact ⟨_, _, e6, op_field_agg h ho hd hs hu hcs hq hg⟩
   ·rename_i hg
    obtain ⟨z, hz, e6⟩ := Option.bind_eq_some_iff.1 e5
    exact ⟨_, _, typed_some e6, op_field_one h ho hd hs hu hcs hq hg hz⟩
  ·cases e4
 ·rename_i t x i ho
  obtain ⟨d, hd, e1⟩ := Option.bind_eq_some_iff.1 e
  obtain ⟨s, hs, e2⟩ := Option.bind_eq_some_iff.1 e1
  obtain ⟨si, hsi, e3⟩ := Option.bind_eq_some_iff.1 e2
  obtain ⟨v, hv, e4⟩ := Option.bind_eq_some_iff.1 e3
  obtain ⟨i', hi, e5⟩ := Option.bind_eq_some_iff.1 e4
  split at e5
  ·obtain ⟨te, hte, e6⟩ := Option.bind_eq_some_iff.1 e5
   obtain ⟨j, hj, e7⟩ := Option.bind_eq_some_iff.1 e6
   obtain ⟨s', hs', e8⟩ := Option.bind_eq_some_iff.1 e7
   exact ⟨_, _, e8, op_indexAddr_array h ho hd hte hs hsi hv hi hj hs'⟩
  ·obtain ⟨te, hte, e6⟩ := Option.bind_eq_some_iff.1 e5
   obtain ⟨u, hu, e7⟩ := Option.bind_eq_some_iff.1 e6
   obtain ⟨q, hq, e8⟩ := Option.bind_eq_some_iff.1 e7
   obtain ⟨j, hj, e9⟩ := Option.bind_eq_some_iff.1 e8
   obtain ⟨p, hp, e10⟩ := Option.bind_eq_some_iff.1 e9
   exact ⟨_, _, e10, op_indexAddr_slice h ho hd hte hs hu hsi hv hi hq hj hp⟩
  ·cases e5
 ·rename_i t x i ho
  obtain ⟨d, hd, e1⟩ := Option.bind_eq_some_iff.1 e
  obtain ⟨s, hs, e2⟩ := Option.bind_eq_some_iff.1 e1
  obtain ⟨si, hsi, e3⟩ := Option.bind_eq_some_iff.1 e2
  obtain ⟨u, hu, e4⟩ := Option.bind_eq_some_iff.1 e3
  obtain ⟨v, hv, e5⟩ := Option.bind_eq_some_iff.1 e4
  obtain ⟨i', hi, e6⟩ := Option.bind_eq_some_iff.1 e5
  split at e6
  ·obtain ⟨b, hb, e7⟩ := Option.bind_eq_some_iff.1 e6
   obtain ⟨j, hj, e8⟩ := Option.bind_eq_some_iff.1 e7
   exact ⟨_, _, e8, op_index_string h ho hd hs hsi hu hv hi hb hj⟩
  ·obtain ⟨te, hte, e7⟩ := Option.bind_eq_some_iff.1 e6
   obtain ⟨cs, hcs, e8⟩ := Option.bind_eq_some_iff.1 e7
   obtain ⟨j, hj, e9⟩ := Option.bind_eq_some_iff.1 e8
   split at e9
   ·rename_i hg
    obtain ⟨_, e10⟩ := bif_some e9
    exact ⟨_, _, e10, op_index_agg h ho hd hte hg hs hsi hu hv hi hcs hj⟩
   ·rename_i hg
    obtain ⟨z, hz, e10⟩ := Option.bind_eq_some_iff.1 e9
    exact ⟨_, _, typed_some e10, op_index_one h ho hd hte hg hs hsi hu hv hi hcs hj hz⟩
  ·cases e6
 ·rename_i t ix ho
  obtain ⟨s, hs, e1⟩ := Option.bind_eq_some_iff.1 e
  obtain ⟨u, hu, e2⟩ := Option.bind_eq_some_iff.1 e1
  obtain ⟨vs, hvs, e3⟩ := Option.bind_eq_some_iff.1 e2
  obtain ⟨z, hz, e4⟩ := Option.bind_eq_some_iff.1 e3
  exact ⟨_, _, typed_some e4, op_extract h ho hs hu hvs hz⟩
 ·rename_i c ho
  obtain ⟨callee, args, ts⟩ := c
  simp only at e
  split at e
  ·rename_i f
   obtain ⟨sf, hsf, e1⟩ := Option.bind_eq_some_iff.1 e
   obtain ⟨fv, hfv, e2⟩ := Option.bind_eq_some_iff.1 e1
   obtain ⟨ss, hss, e3⟩ := Option.bind_eq_some_iff.1 e2
   cases fv with
   | func fn first captured =>
    cases fn with
    | func g => exact op_call (callP_ok hC prot) h ho hsf hfv hss e3
    | _ =>
     exfalso
     obtain ⟨_, _, _, _, _, _, hh, _⟩ := outs_rel h (opds_rel h hss) e3
     cases hh
   | _ =>
    exfalso
    obtain ⟨_, _, _, _, _, _, hh, _⟩ := outs_rel h (opds_rel h hss) e3
    cases hh
  ·rename_i b
   obtain ⟨ss, hss, e1⟩ := Option.bind_eq_some_iff.1 e
   cases hpa : isApp prot b with
   | true =>
    rw [hpa] at e1
    have hba : b = .append := by cases b <;> first | rfl | cases hpa
    subst hba
    exact op_appQ h ho hss e1
   | false =>
    rw [hpa] at e1
    exact op_builtin h ho hss e1
  ·cases e
 ·cases e
end
end Go.Pv
end
section
namespace Go.Pv
variable [Glob]
section
variable {P : Program} {E : Env} {ρ : Rho} {β : List (Option Nat)} {st : St} {a : Act} {w : World} {Q : Exit → Act → World → Prop} {next : Act → World → Prop} {o : Oper}
theorem set_eq {α : Type} {l : List α} {i : Nat} {x : α} (h : l[i]? = some x) : l.set i x = l := by
 apply List.ext_getElem?
 intro j
 rw [List.getElem?_set]
 by_cases e : i = j
 ·subst e
  rw [if_pos rfl, if_pos (get_lt h), h]
 ·rw [if_neg e]
theorem guardK_sound (h : Rel P E ρ β st a w) {ops : Array Oper} {R : Type} {run skip : St → Option R} {r : R} (e : guardK ops o st run skip = some r) :
  (Region.wanted o (yielded ops a.tmps) = true ∧ run st = some r) ∨ (Region.wanted o (yielded ops a.tmps) = false ∧ skip st = some r) := by
 unfold guardK at e
 split at e
 ·rename_i hg
  exact .inl ⟨by simp [Region.wanted, hg], e⟩
 ·rename_i j want hg
  obtain ⟨g, hj, e1⟩ := Option.bind_eq_some_iff.1 e
  obtain ⟨s, hs, e2⟩ := Option.bind_eq_some_iff.1 e1
  obtain ⟨x, hx, e3⟩ := Option.bind_eq_some_iff.1 e2
  have hsx := valS_eq hx
  subst hsx
  obtain ⟨y, hy, hr⟩ := h.t.2 g _ hs
  have hyl : yielded ops a.tmps j = match y with | .bool b => some b | _ => none := by
   simp only [yielded, hj, Option.bind_some, hy]
   cases y <;> rfl
  cases x with
  | bool b =>
   cases hr
   simp only at hyl e3
   have hset := set_eq hs
   cases b <;> cases want <;> simp only [cond_true, cond_false, hset] at e3 <;> simp only [Region.wanted, hg, hyl]
   ·exact .inl ⟨by decide, e3⟩
   ·exact .inr ⟨by decide, e3⟩
   ·exact .inr ⟨by decide, e3⟩
   ·exact .inl ⟨by decide, e3⟩
  | tuple vs =>
   cases hr
   exact .inr ⟨by simp [Region.wanted, hg, hyl], e3⟩
  | _ => cases e3
theorem wpOps_run {ro : Option Nat} {ops : Array Oper} {i : Nat} {l : List Nat} (ho : ops[i]? = some o) (hw : Region.wanted o (yielded ops a.tmps) = true) (h : o.wpR P ro a w (wpOpsIn (fen ro) 0 P ops Q l) Q) : wpOpsIn (fen ro) 0 P ops Q (i :: l) a w := by
 simp only [wpOpsIn, ho, hw, if_true]
 exact h
theorem wpOps_skip {ro : Option Nat} {ops : Array Oper} {i : Nat} {l : List Nat} (ho : ops[i]? = some o) (hw : Region.wanted o (yielded ops a.tmps) = false) (h : wpOpsIn (fen ro) 0 P ops Q l (a.put o.dst undef) w) : wpOpsIn (fen ro) 0 P ops Q (i :: l) a w := by
 simp only [wpOpsIn, ho, hw, Bool.false_eq_true, if_false]
 exact ⟨fun _ _ => trivial, h⟩
def At (P : Program) (E : Env) {R : Type} (r : R) (k : PExit → St → Option R) (e : Exit) (a : Act) (w : World) : Prop :=
 ∃ pe st' ρ' β', k pe st' = some r ∧ Rel P E ρ' β' st' a w ∧ match pe, e with
  | .normal, .normal => True
  | .exit i, .exit j => i = j
  | .goto i, .goto j => i = j
  | .ret, .ret => True
  | .panic v, .panic ch => ∃ y, ch = [{ v := y, recovered := false }] ∧ VR ρ' v y
  | _, _ => False
def DrawOK (P : Program) (C : CallF) : Prop := ∀ (E : Env) (id : Nat) (ops : Array Oper) (R : Type) (k : PExit → St → Option R) (r : R) (st : St) (ρ : Rho) (β : List (Option Nat)) (a : Act) (w : World),
 Rel P E ρ β st a w → evalRegion P C true ops st (fun st => k .normal st) = some r → (Code.region id ops true).wpIn (fen E.ro) 0 P (At P E r k) a w
end
end Go.Pv
end
section
namespace Go.Pv
variable [Glob]
def heapFree (P : Program) (o : Oper) (st : St) : Bool :=
 match o.op with
 | .move _ | .assign _ | .pick _ _ _ | .alloc _ | .box _ _ | .build _ _ | .nilCheck _ | .binOp _ _ _ _ _ | .unOp _ _ _ | .extract _ _ | .field _ _ _ | .index _ _ _ | .indexAddr _ _ _ | .fieldAddr _ _ _ | .makeInterface _ _ | .makeFunc _ _ _ => true
 | .convert _ dst _ => match P.underlying dst with
  | some (.int _) => true
  | _ => false
 | .load _ x => match opd st x with
  | some (.lp d _) => match st.boxes[d]? with
   | some (.loc _ _) => true
   | _ => false
  | _ => false
 | .slice t _ _ _ _ => match P.underlying t with
  | some .string | some (.slice _) => true
  | _ => false
 | .call c => match c.callee with
  | .builtin .len | .builtin .cap | .builtin .min | .builtin .max => true
  | _ => false
 | _ => false
def Keep (o : Oper) (st st' : St) : Prop :=
 (∃ l, st'.heap = st.heap ++ l) ∧ ((makes o.op = true ∧ ∃ d cs e, o.dst = some d ∧ d < st.boxes.length ∧ st'.boxes = st.boxes.set d (.loc cs e)) ∨ (makes o.op = false ∧ st'.boxes = st.boxes))
structure Shape (P : Program) (C : CallF) (prot : Bool) (o : Oper) (st : St) (s : Slot) (st' : St) : Prop where
 nat : ∀ {R : Type} (k : Slot → St → Option R), evalOp P C prot o st k = k s st'
 keep : floats o.op = true → prot = true → (mayLp o.op = true ∨ lpsOf st.tmps = []) → Keep o st st'
 free : heapFree P o st = true → (mayLp o.op = true ∨ lpsOf st.tmps = []) → st'.heap = st.heap ∧ ∀ (g : Heap) {R : Type} (k : Slot → St → Option R), evalOp P C prot o { st with heap := g } k = k s { st' with heap := g }
section
variable {P : Program} {C : CallF} {prot : Bool} {o : Oper} {st : St}
theorem lpsOf_nil : ∀ {l : List Slot}, lpsOf l = [] → ∀ (t : Nat) d off, l[t]? ≠ some (.lp d off)
 | [], _, t, d, off => by simp
 | .v x :: r, h, 0, d, off => by simp
 | .dead :: r, h, 0, d, off => by simp
 | .lp _ _ :: r, h, t, d, off => by cases h
 | .v x :: r, h, t + 1, d, off => by
  have := lpsOf_nil (l := r) (by simpa [lpsOf] using h) t d off
  simpa using this
 | .dead :: r, h, t + 1, d, off => by
  have := lpsOf_nil (l := r) (by simpa [lpsOf] using h) t d off
  simpa using this
theorem opd_noLp (h : lpsOf st.tmps = []) {x : Operand} {s : Slot} (e : opd st x = some s) : ∀ d off, s ≠ .lp d off := by
 intro d off hs
 subst hs
 cases x with
 | tmp t => exact lpsOf_nil h t d off e
 | const c =>
  simp only [opd] at e
  obtain ⟨_, e⟩ := bif_some e
  cases e
 | global g =>
  simp only [opd] at e
  obtain ⟨_, _, e⟩ := Option.bind_eq_some_iff.1 e
  cases e
 | func f => cases e
theorem opds_noLp (h : lpsOf st.tmps = []) : ∀ {l : List Operand} {ss : List Slot}, opds st l = some ss → ∀ s ∈ ss, ∀ d off, s ≠ .lp d off
 | [], ss, e, s, hs => by cases e; cases hs
 | x :: r, ss, e, s, hs => by
  simp only [opds] at e
  obtain ⟨s', hs', e⟩ := Option.bind_eq_some_iff.1 e
  obtain ⟨l', hl', e⟩ := Option.bind_eq_some_iff.1 e
  cases e
  rcases List.mem_cons.1 hs with rfl | hs
  ·exact opd_noLp h hs'
  ·exact opds_noLp h hl' s hs
theorem opd_g (g : Heap) (x : Operand) : opd { st with heap := g } x = opd st x := by cases x <;> rfl
theorem opds_g (g : Heap) : ∀ l : List Operand, opds { st with heap := g } l = opds st l
 | [] => rfl
 | x :: r => by simp only [opds, opd_g, opds_g g r]
theorem opdO_g (g : Heap) (x : Option Operand) : opdO { st with heap := g } x = opdO st x := by cases x <;> simp only [opdO, opd_g]
theorem valsAt_g (g : Heap) : ∀ l : List (Nat × Operand), valsAt { st with heap := g } l = valsAt st l
 | [] => rfl
 | p :: r => by simp only [valsAt, opd_g, valsAt_g g r]
theorem moved_g (g : Heap) (n : Nat) (s : Slot) : moved { st with heap := g } n s = moved st n s := by cases s <;> rfl
theorem out_nat {R : Type} {s : Slot} {k : Value → St → Option R} {r : R} (e : out st s k = some r) : ∃ x st', k x st' = some r ∧ (∀ {R' : Type} (k' : Value → St → Option R'), out st s k' = k' x st') ∧
  ((∀ d off, s ≠ .lp d off) → st' = st ∧ ∀ (g : Heap) {R' : Type} (k' : Value → St → Option R'), out { st with heap := g } s k' = k' x { st with heap := g }) := by
 cases s with
 | v x => exact ⟨x, st, e, fun _ => rfl, fun _ => ⟨rfl, fun _ _ _ => rfl⟩⟩
 | dead => cases e
 | lp d off =>
  simp only [out] at e
  obtain ⟨p, hp, e⟩ := Option.bind_eq_some_iff.1 e
  exact ⟨_, _, e, fun k' => by simp only [out, hp, Option.bind_some], fun h => absurd rfl (h d off)⟩
theorem outs_nat {R : Type} : ∀ {ss : List Slot} {st : St} {k : List Value → St → Option R} {r : R} (e : outs st ss k = some r), ∃ xs st', k xs st' = some r ∧ (∀ {R' : Type} (k' : List Value → St → Option R'), outs st ss k' = k' xs st') ∧
  ((∀ s ∈ ss, ∀ d off, s ≠ .lp d off) → st' = st ∧ ∀ (g : Heap) {R' : Type} (k' : List Value → St → Option R'), outs { st with heap := g } ss k' = k' xs { st with heap := g })
 | [], st, k, r, e => ⟨[], st, e, fun _ => rfl, fun _ => ⟨rfl, fun _ _ _ => rfl⟩⟩
 | s :: ss, st, k, r, e => by
  simp only [outs] at e
  obtain ⟨x, st1, e1, hn, hg⟩ := out_nat e
  obtain ⟨xs, st2, e2, hn2, hg2⟩ := outs_nat e1
  refine ⟨x :: xs, st2, e2, fun k' => by simp only [outs]; rw [hn, hn2], fun h => ?_⟩
  obtain ⟨rfl, hg⟩ := hg (h s (.head _))
  obtain ⟨rfl, hg2⟩ := hg2 fun s hs => h s (.tail _ hs)
  exact ⟨rfl, fun g R' k' => by simp only [outs]; rw [hg, hg2]⟩
theorem typed_nat {R : Type} {t : TypeId} {x : Value} {k : Value → Option R} {r : R} (h : typed P t x k = some r) {R' : Type} (k' : Value → Option R') : typed P t x k' = k' x := by
 unfold typed at *
 split at h
 ·obtain ⟨n, e, h⟩ := Option.bind_eq_some_iff.1 h
  rw [e]
  cases x <;> try (simp [toInt] at e; done)
  rename_i kd _ _ k' m
  by_cases hk : kd = k'
  ·subst hk
   simp [toInt] at e
   subst e; rfl
  ·simp [toInt, hk] at e
 ·obtain ⟨n, e, h⟩ := Option.bind_eq_some_iff.1 h
  rw [e]
  cases x <;> simp [toBool] at e
  subst e; rfl
 ·obtain ⟨n, e, h⟩ := Option.bind_eq_some_iff.1 h
  rw [e]
  cases x <;> simp [toStr] at e
  subst e; rfl
 ·obtain ⟨n, e, h⟩ := Option.bind_eq_some_iff.1 h
  rw [e]
  cases x <;> simp [toAgg] at e
  subst e; rfl
 ·obtain ⟨n, e, h⟩ := Option.bind_eq_some_iff.1 h
  rw [e]
  cases x <;> simp [toAgg] at e
  subst e; rfl
 ·obtain ⟨n, e, h⟩ := Option.bind_eq_some_iff.1 h
  rw [e]
  cases x <;> simp [toSl] at e
  subst e; rfl
 ·obtain ⟨n, e, h⟩ := Option.bind_eq_some_iff.1 h
  rw [e]
  cases x <;> simp [toPtr] at e
  subst e; rfl
 ·obtain ⟨n, e, h⟩ := Option.bind_eq_some_iff.1 h
  rw [e]
  cases x <;> simp [toTup] at e
  subst e; rfl
 ·rfl
theorem Keep.same (hm : makes o.op = false) {st' : St} (hb : st'.boxes = st.boxes) {l : Heap} (hh : st'.heap = st.heap ++ l) : Keep o st st' := ⟨⟨l, hh⟩, .inr ⟨hm, hb⟩⟩
theorem Keep.refl (hm : makes o.op = false) : Keep o st st := ⟨⟨[], by simp⟩, .inr ⟨hm, rfl⟩⟩
theorem Shape.pure {s : Slot} (hm : makes o.op = false) (nat : ∀ {R : Type} (k : Slot → St → Option R), evalOp P C prot o st k = k s st)
  (free : heapFree P o st = true → (mayLp o.op = true ∨ lpsOf st.tmps = []) → ∀ (g : Heap) {R : Type} (k : Slot → St → Option R), evalOp P C prot o { st with heap := g } k = k s { st with heap := g }) : Shape P C prot o st s st :=
 ⟨nat, fun _ _ _ => .refl hm, fun h1 h2 => ⟨rfl, free h1 h2⟩⟩
end
end Go.Pv
end
section
namespace Go.Pv
variable [Glob]
section
variable {P : Program} {C : CallF} {prot : Bool} {o : Oper} {st : St}
theorem appendP_nat {R : Type} {h : Heap} {e : TypeId} {ti : TI} {a : Option Addr} {len c n : Nat} {cs : List Value} {k : Value → Heap → Option R} {r : R} (ek : appendP h e ti a len c n cs k = some r) : ∃ v hp, k v hp = some r ∧ ∀ {R' : Type} (k' : Value → Heap → Option R'), appendP h e ti a len c n cs k' = k' v hp := by
 unfold appendP at ek
 obtain ⟨h0, e1⟩ := bif_some ek
 cases a with
 | none =>
  simp only at e1
  obtain ⟨h1, e2⟩ := bif_some e1
  cases hn : Nat.beq n 0 with
  | true => rw [hn] at e2; exact ⟨_, _, e2, fun k' => by simp only [appendP, h0, h1, hn, cond_true]⟩
  | false => rw [hn] at e2; exact ⟨_, _, e2, fun k' => by simp only [appendP, h0, h1, hn, cond_true, cond_false]⟩
 | some a =>
  simp only at e1
  obtain ⟨p, hp, e2⟩ := Option.bind_eq_some_iff.1 e1
  obtain ⟨b, hb, e3⟩ := Option.bind_eq_some_iff.1 e2
  obtain ⟨h1, e4⟩ := bif_some e3
  cases hn : (!Nat.beq c len && Nat.ble (len + n) c) with
  | true =>
   rw [hn] at e4
   obtain ⟨h', hst, e5⟩ := Option.bind_eq_some_iff.1 e4
   exact ⟨_, _, e5, fun k' => by simp only [appendP, h0, h1, hn, hp, hb, hst, cond_true, Option.bind_some]⟩
  | false =>
   rw [hn] at e4
   obtain ⟨h2, e5⟩ := bif_some e4
   exact ⟨_, _, e5, fun k' => by simp only [appendP, h0, h1, hn, hp, hb, h2, cond_true, cond_false, Option.bind_some]⟩
theorem builtinP_nat {R : Type} {b : Builtin} {ts : List TypeId} {xs : List Value} {k : Slot → St → Option R} {r : R} (e : builtinP P b ts xs st k = some r) : ∃ s st', k s st' = some r ∧ (∀ {R' : Type} (k' : Slot → St → Option R'), builtinP P b ts xs st k' = k' s st') ∧
  ((b = .len ∨ b = .cap ∨ b = .min ∨ b = .max) → st' = st ∧ ∀ (g : Heap) {R' : Type} (k' : Slot → St → Option R'), builtinP P b ts xs { st with heap := g } k' = k' s { st with heap := g }) := by
 unfold builtinP at e
 split at e
 ·obtain ⟨d, hd, e1⟩ := Option.bind_eq_some_iff.1 e
  split at e1
  ·obtain ⟨s, hs, e2⟩ := Option.bind_eq_some_iff.1 e1
   exact ⟨_, _, e2, fun k' => by simp only [builtinP, hd, hs, Option.bind_some], fun _ => ⟨rfl, fun g _ k' => by simp only [builtinP, hd, hs, Option.bind_some]⟩⟩
  ·obtain ⟨s, hs, e2⟩ := Option.bind_eq_some_iff.1 e1
   exact ⟨_, _, e2, fun k' => by simp only [builtinP, hd, hs, Option.bind_some], fun _ => ⟨rfl, fun g _ k' => by simp only [builtinP, hd, hs, Option.bind_some]⟩⟩
  ·exact ⟨_, _, e1, fun k' => by simp only [builtinP, hd, Option.bind_some], fun _ => ⟨rfl, fun g _ k' => by simp only [builtinP, hd, Option.bind_some]⟩⟩
  ·cases e1
 ·obtain ⟨d, hd, e1⟩ := Option.bind_eq_some_iff.1 e
  split at e1
  ·obtain ⟨s, hs, e2⟩ := Option.bind_eq_some_iff.1 e1
   obtain ⟨hc, e3⟩ := bif_some e2
   exact ⟨_, _, e3, fun k' => by simp only [builtinP, hd, hs, hc, Option.bind_some, cond_true], fun _ => ⟨rfl, fun g _ k' => by simp only [builtinP, hd, hs, hc, Option.bind_some, cond_true]⟩⟩
  ·cases e1
 ·obtain ⟨d, hd, e1⟩ := Option.bind_eq_some_iff.1 e
  split at e1
  ·obtain ⟨ti, hti, e2⟩ := Option.bind_eq_some_iff.1 e1
   obtain ⟨q, hq, e3⟩ := Option.bind_eq_some_iff.1 e2
   obtain ⟨z, hz, e4⟩ := Option.bind_eq_some_iff.1 e3
   obtain ⟨dx, hdx, e5⟩ := Option.bind_eq_some_iff.1 e4
   split at e5
   ·obtain ⟨m, hm, e6⟩ := Option.bind_eq_some_iff.1 e5
    obtain ⟨n, hn, e7⟩ := Option.bind_eq_some_iff.1 e6
    obtain ⟨hc, e8⟩ := bif_some e7
    obtain ⟨v, hp, e9, hnat⟩ := appendP_nat e8
    exact ⟨_, _, e9, fun k' => by simp only [builtinP, hd, hti, hq, hz, hdx, hm, hn, hc, hnat, Option.bind_some, cond_true], fun h => by simp at h⟩
   ·obtain ⟨m, hm, e6⟩ := Option.bind_eq_some_iff.1 e5
    obtain ⟨n, hn, e7⟩ := Option.bind_eq_some_iff.1 e6
    obtain ⟨v, hp, e9, hnat⟩ := appendP_nat e7
    exact ⟨_, _, e9, fun k' => by simp only [builtinP, hd, hti, hq, hz, hdx, hm, hn, hnat, Option.bind_some], fun h => by simp at h⟩
   ·obtain ⟨m, hm, e6⟩ := Option.bind_eq_some_iff.1 e5
    obtain ⟨hc, e7⟩ := bif_some e6
    obtain ⟨n, hn, e8⟩ := Option.bind_eq_some_iff.1 e7
    obtain ⟨v, hp, e9, hnat⟩ := appendP_nat e8
    exact ⟨_, _, e9, fun k' => by simp only [builtinP, hd, hti, hq, hz, hdx, hm, hc, hn, hnat, Option.bind_some, cond_true], fun h => by simp at h⟩
   ·cases e5
  ·cases e1
 ·obtain ⟨d, hd, e1⟩ := Option.bind_eq_some_iff.1 e
  split at e1
  ·obtain ⟨ti, hti, e2⟩ := Option.bind_eq_some_iff.1 e1
   obtain ⟨q, hq, e3⟩ := Option.bind_eq_some_iff.1 e2
   obtain ⟨q', hq', e4⟩ := Option.bind_eq_some_iff.1 e3
   obtain ⟨q1, q2, q3⟩ := q
   obtain ⟨x1, x2, x3⟩ := q'
   simp only at e4
   split at e4
   ·obtain ⟨p, hp, e5⟩ := Option.bind_eq_some_iff.1 e4
    obtain ⟨p', hp', e6⟩ := Option.bind_eq_some_iff.1 e5
    obtain ⟨cs, hcs, e7⟩ := Option.bind_eq_some_iff.1 e6
    obtain ⟨h', hst, e8⟩ := Option.bind_eq_some_iff.1 e7
    exact ⟨_, _, e8, fun k' => by simp only [builtinP, hd, hti, hq, hq', hp, hp', hcs, hst, Option.bind_some], fun h => by simp at h⟩
   ·rename_i hno
    obtain ⟨hc, e5⟩ := bif_some e4
    refine ⟨_, _, e5, fun k' => ?_, fun h => by simp at h⟩
    simp only [builtinP, hd, hti, hq, hq', Option.bind_some]
    cases q1 with
    | none => simp only [hc, cond_true]
    | some _ =>
     cases x1 with
     | none => simp only [hc, cond_true]
     | some _ => exact absurd rfl (hno _ _ rfl)
  ·cases e1
 ·obtain ⟨hc, e1⟩ := bif_some e
  exact ⟨_, _, e1, fun k' => by simp only [builtinP, hc, cond_true], fun _ => ⟨rfl, fun g _ k' => by simp only [builtinP, hc, cond_true]⟩⟩
 ·obtain ⟨hc, e1⟩ := bif_some e
  exact ⟨_, _, e1, fun k' => by simp only [builtinP, hc, cond_true], fun _ => ⟨rfl, fun g _ k' => by simp only [builtinP, hc, cond_true]⟩⟩
 ·cases e
theorem appendQ_nat {R : Type} {h : Heap} {e : TypeId} {ti : TI} {a : Option Addr} {len c n : Nat} {cs : List Value} {k : Value → Heap → Option R} {r : R} (ek : appendQ h e ti a len c n cs k = some r) :
  ∃ v h', k v h' = some r ∧ (∀ {R' : Type} (k' : Value → Heap → Option R'), appendQ h e ti a len c n cs k' = k' v h') ∧ ∃ l, h' = h ++ l := by
 unfold appendQ at ek
 obtain ⟨hc, e1⟩ := bif_some ek
 split at e1
 ·cases hn : Nat.beq n 0 with
  | true =>
   rw [hn] at e1
   exact ⟨_, _, e1, fun k' => by simp only [appendQ, hc, hn, cond_true], [], by simp⟩
  | false =>
   rw [hn] at e1
   exact ⟨_, _, e1, fun k' => by simp only [appendQ, hc, hn, cond_true, cond_false], _, rfl⟩
 ·rename_i ad
  obtain ⟨p, hp, e2⟩ := Option.bind_eq_some_iff.1 e1
  obtain ⟨b, hb, e3⟩ := Option.bind_eq_some_iff.1 e2
  obtain ⟨hc2, e4⟩ := bif_some e3
  cases hn : Nat.beq n 0 with
  | true =>
   rw [hn] at e4
   exact ⟨_, _, e4, fun k' => by simp only [appendQ, hc, hp, hb, hc2, hn, cond_true, Option.bind_some], [], by simp⟩
  | false =>
   rw [hn] at e4
   exact ⟨_, _, e4, fun k' => by simp only [appendQ, hc, hp, hb, hc2, hn, cond_true, cond_false, Option.bind_some], _, rfl⟩
theorem appQ_nat {R : Type} {ts : List TypeId} {xs : List Value} {k : Slot → St → Option R} {r : R} (e : appQ P ts xs st k = some r) :
  ∃ s st', k s st' = some r ∧ (∀ {R' : Type} (k' : Slot → St → Option R'), appQ P ts xs st k' = k' s st') ∧ (∃ l, st'.heap = st.heap ++ l) ∧ st'.boxes = st.boxes := by
 unfold appQ at e
 split at e
 ·obtain ⟨d, hd, e1⟩ := Option.bind_eq_some_iff.1 e
  split at e1
  ·obtain ⟨ti, hti, e2⟩ := Option.bind_eq_some_iff.1 e1
   obtain ⟨q, hq, e3⟩ := Option.bind_eq_some_iff.1 e2
   obtain ⟨z, hz, e4⟩ := Option.bind_eq_some_iff.1 e3
   obtain ⟨dx, hdx, e5⟩ := Option.bind_eq_some_iff.1 e4
   split at e5
   ·obtain ⟨x, hx, e6⟩ := Option.bind_eq_some_iff.1 e5
    obtain ⟨m, hm, e7⟩ := Option.bind_eq_some_iff.1 e6
    obtain ⟨v, h', e8, hn, l, hl⟩ := appendQ_nat e7
    exact ⟨_, _, e8, fun k' => by simp only [appQ, hd, hti, hq, hz, hdx, hx, hm, hn, Option.bind_some], ⟨l, hl⟩, rfl⟩
   ·obtain ⟨x, hx, e6⟩ := Option.bind_eq_some_iff.1 e5
    obtain ⟨hc, e6⟩ := bif_some e6
    obtain ⟨m, hm, e7⟩ := Option.bind_eq_some_iff.1 e6
    obtain ⟨v, h', e8, hn, l, hl⟩ := appendQ_nat e7
    exact ⟨_, _, e8, fun k' => by simp only [appQ, hd, hti, hq, hz, hdx, hx, hc, hm, hn, Option.bind_some, cond_true], ⟨l, hl⟩, rfl⟩
   ·cases e5
  ·cases e1
 ·cases e
theorem evalOp_shape {R : Type} {k : Slot → St → Option R} {r : R} (e : evalOp P C prot o st k = some r) : ∃ s' st', k s' st' = some r ∧ Shape P C prot o st s' st' := by
 unfold evalOp at e
 split at e
 ·rename_i x ho
  obtain ⟨s, hs, e1⟩ := Option.bind_eq_some_iff.1 e
  exact ⟨_, _, e1, .pure (by simp [makes, ho]) (fun k => by simp only [evalOp, ho, hs, Option.bind_some]) fun _ _ g _ k => by simp only [evalOp, ho, opd_g, hs, Option.bind_some]⟩
 ·rename_i x ho
  obtain ⟨s, hs, e1⟩ := Option.bind_eq_some_iff.1 e
  exact ⟨_, _, e1, .pure (by simp [makes, ho]) (fun k => by simp only [evalOp, ho, hs, Option.bind_some]) fun _ _ g _ k => by simp only [evalOp, ho, opd_g, hs, Option.bind_some]⟩
 ·rename_i c x y ho
  obtain ⟨s, hs, e1⟩ := Option.bind_eq_some_iff.1 e
  obtain ⟨v, hv, e2⟩ := Option.bind_eq_some_iff.1 e1
  obtain ⟨t, ht, e3⟩ := Option.bind_eq_some_iff.1 e2
  cases t with
  | true =>
   obtain ⟨s', hs', e4⟩ := Option.bind_eq_some_iff.1 e3
   exact ⟨_, _, e4, .pure (by simp [makes, ho]) (fun k => by simp only [evalOp, ho, hs, hv, ht, hs', Option.bind_some, cond_true]) fun _ _ g _ k => by simp only [evalOp, ho, opd_g, hs, hv, ht, hs', Option.bind_some, cond_true]⟩
  | false =>
   obtain ⟨s', hs', e4⟩ := Option.bind_eq_some_iff.1 e3
   exact ⟨_, _, e4, .pure (by simp [makes, ho]) (fun k => by simp only [evalOp, ho, hs, hv, ht, hs', Option.bind_some, cond_false]) fun _ _ g _ k => by simp only [evalOp, ho, opd_g, hs, hv, ht, hs', Option.bind_some, cond_false]⟩
 ·rename_i t ho
  obtain ⟨d, hd, e1⟩ := Option.bind_eq_some_iff.1 e
  obtain ⟨ti, hti, e2⟩ := Option.bind_eq_some_iff.1 e1
  obtain ⟨z, hz, e3⟩ := Option.bind_eq_some_iff.1 e2
  obtain ⟨hb, e4⟩ := bif_some e3
  refine ⟨_, _, e4, fun k => by simp only [evalOp, ho, hd, hti, hz, hb, Option.bind_some, cond_true], fun _ _ _ => ⟨⟨[], by simp [St.newBox]⟩, .inl ⟨by simp [makes, ho], d, z, t, hd, Nat.le_of_ble_eq_true hb, rfl⟩⟩, fun _ _ => ⟨rfl, fun g _ k => ?_⟩⟩
  simp only [evalOp, ho, hd, hti, hz, hb, Option.bind_some, cond_true]
  rfl
 ·rename_i t x ho
  obtain ⟨d, hd, e1⟩ := Option.bind_eq_some_iff.1 e
  obtain ⟨ti, hti, e2⟩ := Option.bind_eq_some_iff.1 e1
  obtain ⟨s, hs, e3⟩ := Option.bind_eq_some_iff.1 e2
  obtain ⟨v, st1, e4, hn, hg⟩ := out_nat e3
  obtain ⟨cs, hcs, e5⟩ := Option.bind_eq_some_iff.1 e4
  obtain ⟨hb, e6⟩ := bif_some e5
  refine ⟨_, _, e6, fun k => by simp only [evalOp, ho, hd, hti, hs, hn, hcs, hb, Option.bind_some, cond_true], fun _ _ hl => ?_, fun _ hl => ?_⟩
  ·obtain ⟨rfl, _⟩ := hg (opd_noLp (hl.resolve_left (by simp [mayLp, ho])) hs)
   exact ⟨⟨[], by simp [St.newBox]⟩, .inl ⟨by simp [makes, ho], d, cs, t, hd, Nat.le_of_ble_eq_true hb, rfl⟩⟩
  ·obtain ⟨rfl, hg⟩ := hg (opd_noLp (hl.resolve_left (by simp [mayLp, ho])) hs)
   refine ⟨rfl, fun g _ k => ?_⟩
   simp only [evalOp, ho, hd, hti, opd_g, hs, hg, hcs, hb, Option.bind_some, cond_true]
   rfl
 ·rename_i t parts ho
  obtain ⟨ti, hti, e1⟩ := Option.bind_eq_some_iff.1 e
  obtain ⟨z, hz, e2⟩ := Option.bind_eq_some_iff.1 e1
  obtain ⟨ps, hps, e3⟩ := Option.bind_eq_some_iff.1 e2
  split at e3
  ·rename_i fs hd
   obtain ⟨hall, e4⟩ := bif_some e3
   obtain ⟨cs, hcs, e5⟩ := Option.bind_eq_some_iff.1 e4
   exact ⟨_, _, e5, .pure (by simp [makes, ho]) (fun k => by simp only [evalOp, ho, hti, hz, hps, hd, hall, hcs, Option.bind_some, cond_true]) fun _ _ g _ k => by simp only [evalOp, ho, hti, hz, valsAt_g, hps, hd, hall, hcs, Option.bind_some, cond_true]⟩
  ·rename_i n e' hd
   obtain ⟨te, hte, e4⟩ := Option.bind_eq_some_iff.1 e3
   obtain ⟨cs, hcs, e5⟩ := Option.bind_eq_some_iff.1 e4
   exact ⟨_, _, e5, .pure (by simp [makes, ho]) (fun k => by simp only [evalOp, ho, hti, hz, hps, hd, hte, hcs, Option.bind_some, cond_true]) fun _ _ g _ k => by simp only [evalOp, ho, hti, hz, valsAt_g, hps, hd, hte, hcs, Option.bind_some, cond_true]⟩
  ·cases e3
 ·rename_i t len parts ho
  obtain ⟨ti, hti, e1⟩ := Option.bind_eq_some_iff.1 e
  obtain ⟨ps, hps, e3⟩ := Option.bind_eq_some_iff.1 e1
  split at e3
  ·rename_i e' hd
   obtain ⟨te, hte, e4⟩ := Option.bind_eq_some_iff.1 e3
   obtain ⟨z, hz, e5⟩ := Option.bind_eq_some_iff.1 e4
   obtain ⟨hb, e6⟩ := bif_some e5
   obtain ⟨cs, hcs, e7⟩ := Option.bind_eq_some_iff.1 e6
   exact ⟨_, _, e7, fun k => by simp only [evalOp, ho, hti, hps, hd, hte, hz, hb, hcs, Option.bind_some, cond_true], fun _ _ _ => .same (by simp [makes, ho]) rfl rfl, fun h => by simp [heapFree, ho] at h⟩
  ·cases e3
 ·rename_i t x ho
  obtain ⟨ti, hti, e1⟩ := Option.bind_eq_some_iff.1 e
  obtain ⟨s, hs, e2⟩ := Option.bind_eq_some_iff.1 e1
  have lp : heapFree P o st = true → ∃ d off cs el, s = .lp d off ∧ st.boxes[d]? = some (.loc cs el) := by
   intro h
   simp only [heapFree, ho, hs] at h
   split at h
   ·rename_i hh
    cases hh
    split at h
    ·rename_i hB
     exact ⟨_, _, _, _, rfl, hB⟩
    ·cases h
   ·cases h
  split at e2
  ·rename_i hg
   obtain ⟨cs, hcs, e3⟩ := Option.bind_eq_some_iff.1 e2
   refine ⟨_, _, e3, .pure (by simp [makes, ho]) (fun k => by simp only [evalOp, ho, hti, hs, hg, hcs, Option.bind_some]) fun hf _ g _ k => ?_⟩
   obtain ⟨d, off, cs', el, rfl, hB⟩ := lp hf
   have : cellsAt { st with heap := g } ti.size (.lp d off) = some cs := by
    rw [← hcs]
    simp only [cellsAt, hB]
   simp only [evalOp, ho, hti, opd_g, hs, hg, this, Option.bind_some]
  ·rename_i hg
   obtain ⟨v, hv, e3⟩ := Option.bind_eq_some_iff.1 e2
   refine ⟨_, _, typed_some e3, .pure (by simp [makes, ho]) (fun k => ?_) fun hf _ g _ k => ?_⟩
   ·simp only [evalOp, ho, hti, hs, hg, hv, Option.bind_some]
    exact typed_nat e3 _
   ·obtain ⟨d, off, cs', el, rfl, hB⟩ := lp hf
    have : cellAt { st with heap := g } (.lp d off) = some v := by
     rw [← hv]
     simp only [cellAt, hB]
    simp only [evalOp, ho, hti, opd_g, hs, hg, this, Option.bind_some]
    exact typed_nat e3 _
 ·rename_i t x y ho
  obtain ⟨ti, hti, e1⟩ := Option.bind_eq_some_iff.1 e
  obtain ⟨sa, hsa, e2⟩ := Option.bind_eq_some_iff.1 e1
  obtain ⟨sx, hsx, e3⟩ := Option.bind_eq_some_iff.1 e2
  obtain ⟨v, st1, e4, hn, hg⟩ := out_nat e3
  obtain ⟨cs, hcs, e5⟩ := Option.bind_eq_some_iff.1 e4
  obtain ⟨st2, hst, e6⟩ := Option.bind_eq_some_iff.1 e5
  exact ⟨_, _, e6, fun k => by simp only [evalOp, ho, hti, hsa, hsx, hn, hcs, hst, Option.bind_some], fun h => by simp [floats, ho] at h, fun h => by simp [heapFree, ho] at h⟩
 ·rename_i x ho
  obtain ⟨s, hs, e1⟩ := Option.bind_eq_some_iff.1 e
  split at e1
  ·rename_i d off
   obtain ⟨s', hs', e2⟩ := Option.bind_eq_some_iff.1 e1
   exact ⟨_, _, e2, .pure (by simp [makes, ho]) (fun k => by simp only [evalOp, ho, hs, hs', Option.bind_some]) fun _ _ g _ k => by simp only [evalOp, ho, opd_g, hs, moved_g, hs', Option.bind_some]⟩
  ·rename_i v
   obtain ⟨p, hp, e2⟩ := Option.bind_eq_some_iff.1 e1
   obtain ⟨q, rfl, e3⟩ := Option.bind_eq_some_iff.1 e2
   exact ⟨_, _, e3, .pure (by simp [makes, ho]) (fun k => by simp only [evalOp, ho, hs, hp, Option.bind_some]) fun _ _ g _ k => by simp only [evalOp, ho, opd_g, hs, hp, Option.bind_some]⟩
  ·cases e1
 ·rename_i op t x y ty ho
  obtain ⟨sx, hsx, e1⟩ := Option.bind_eq_some_iff.1 e
  obtain ⟨sy, hsy, e2⟩ := Option.bind_eq_some_iff.1 e1
  obtain ⟨u, hu, e3⟩ := Option.bind_eq_some_iff.1 e2
  obtain ⟨v, hv, e4⟩ := Option.bind_eq_some_iff.1 e3
  obtain ⟨r', hr, e5⟩ := Option.bind_eq_some_iff.1 e4
  refine ⟨_, _, e5, .pure (by simp [makes, ho]) (fun k => ?_) fun _ _ g _ k => ?_⟩
  ·simp only [evalOp, ho, hsx, hsy, hu, hv, hr, Option.bind_some]
  ·simp only [evalOp, ho, opd_g, hsx, hsy, hu, hv, hr, Option.bind_some]
 ·rename_i op t x ho
  obtain ⟨sx, hsx, e1⟩ := Option.bind_eq_some_iff.1 e
  obtain ⟨u, hu, e3⟩ := Option.bind_eq_some_iff.1 e1
  obtain ⟨r', hr, e5⟩ := Option.bind_eq_some_iff.1 e3
  exact ⟨_, _, e5, .pure (by simp [makes, ho]) (fun k => by simp only [evalOp, ho, hsx, hu, hr, Option.bind_some]) fun _ _ g _ k => by simp only [evalOp, ho, opd_g, hsx, hu, hr, Option.bind_some]⟩
 ·rename_i src dst x ho
  obtain ⟨ds, hds, e1⟩ := Option.bind_eq_some_iff.1 e
  obtain ⟨dd, hdd, e2⟩ := Option.bind_eq_some_iff.1 e1
  obtain ⟨sx, hsx, e3⟩ := Option.bind_eq_some_iff.1 e2
  obtain ⟨u, hu, e4⟩ := Option.bind_eq_some_iff.1 e3
  split at e4
  ·obtain ⟨n, hn, e5⟩ := Option.bind_eq_some_iff.1 e4
   exact ⟨_, _, e5, .pure (by simp [makes, ho]) (fun k => by simp only [evalOp, ho, hds, hdd, hsx, hu, hn, Option.bind_some]) fun _ _ g _ k => by simp only [evalOp, ho, opd_g, hds, hdd, hsx, hu, hn, Option.bind_some]⟩
  ·have nf : ¬ heapFree P o st = true := by simp [heapFree, ho, hdd]
   split at e4
   ·rename_i e'
    obtain ⟨q, hq, e5⟩ := Option.bind_eq_some_iff.1 e4
    obtain ⟨hb, e6⟩ := bif_some e5
    split at e6
    ·rename_i hq1
     exact ⟨_, _, e6, .pure (by simp [makes, ho]) (fun k => by simp only [evalOp, ho, hds, hdd, hsx, hu, hq, hb, hq1, Option.bind_some, cond_true]) fun hf => absurd hf nf⟩
    ·rename_i ad hq1
     obtain ⟨p, hp, e7⟩ := Option.bind_eq_some_iff.1 e6
     obtain ⟨cs, hcs, e8⟩ := Option.bind_eq_some_iff.1 e7
     obtain ⟨bs, hbs, e9⟩ := Option.bind_eq_some_iff.1 e8
     exact ⟨_, _, e9, .pure (by simp [makes, ho]) (fun k => by simp only [evalOp, ho, hds, hdd, hsx, hu, hq, hb, hq1, hp, hcs, hbs, Option.bind_some, cond_true]) fun hf => absurd hf nf⟩
   ·obtain ⟨b, hb, e5⟩ := Option.bind_eq_some_iff.1 e4
    exact ⟨_, _, e5, .pure (by simp [makes, ho]) (fun k => by simp only [evalOp, ho, hds, hdd, hsx, hu, hb, Option.bind_some]) fun hf => absurd hf nf⟩
   ·cases e4
  ·rename_i e'
   have nf : ¬ heapFree P o st = true := by simp [heapFree, ho, hdd]
   split at e4
   ·obtain ⟨b, hb, e5⟩ := Option.bind_eq_some_iff.1 e4
    obtain ⟨hc, e6⟩ := bif_some e5
    exact ⟨_, _, e6, fun k => by simp only [evalOp, ho, hds, hdd, hsx, hu, hb, hc, Option.bind_some, cond_true], fun _ _ _ => .same (by simp [makes, ho]) rfl rfl, fun hf => absurd hf nf⟩
   ·cases e4
  ·cases e4
 ·rename_i arr x ho
  obtain ⟨d, hd, e1⟩ := Option.bind_eq_some_iff.1 e
  obtain ⟨sx, hsx, e2⟩ := Option.bind_eq_some_iff.1 e1
  obtain ⟨u, hu, e3⟩ := Option.bind_eq_some_iff.1 e2
  obtain ⟨q, hq, e4⟩ := Option.bind_eq_some_iff.1 e3
  split at e4
  ·obtain ⟨hb, e5⟩ := bif_some e4
   exact ⟨_, _, e5, .pure (by simp [makes, ho]) (fun k => by simp only [evalOp, ho, hd, hsx, hu, hq, hb, Option.bind_some, cond_true]) fun hf => by simp [heapFree, ho] at hf⟩
  ·cases e4
 ·rename_i t x ho
  obtain ⟨d, hd, e1⟩ := Option.bind_eq_some_iff.1 e
  obtain ⟨sx, hsx, e2⟩ := Option.bind_eq_some_iff.1 e1
  obtain ⟨v, st1, e3, hn, hg⟩ := out_nat e2
  split at e3
  ·cases e3
  ·rename_i hint
   have run : ∀ {R' : Type} (k' : Slot → St → Option R') (st0 : St), (match d with | .interface _ => none | _ => k' (.v (.iface t v)) st0) = k' (.v (.iface t v)) st0 := by
    intro R' k' st0
    cases d <;> first | rfl | exact absurd rfl (hint _)
   refine ⟨_, _, e3, fun k => ?_, fun _ _ hl => ?_, fun _ hl => ?_⟩
   ·simp only [evalOp, ho, hd, hsx, hn, Option.bind_some]
   ·obtain ⟨rfl, _⟩ := hg (opd_noLp (hl.resolve_left (by simp [mayLp, ho])) hsx)
    exact .refl (by simp [makes, ho])
   ·obtain ⟨rfl, hg⟩ := hg (opd_noLp (hl.resolve_left (by simp [mayLp, ho])) hsx)
    refine ⟨rfl, fun g _ k => ?_⟩
    simp only [evalOp, ho, hd, opd_g, hsx, hg, Option.bind_some]
 ·rename_i fn first captured ho
  obtain ⟨hy, e0⟩ := bif_none e
  obtain ⟨sf, hsf, e1⟩ := Option.bind_eq_some_iff.1 e0
  obtain ⟨sc, hsc, e2⟩ := Option.bind_eq_some_iff.1 e1
  obtain ⟨fs, st1, e3, hn, hg⟩ := outs_nat e2
  obtain ⟨cs, st2, e4, hn2, hg2⟩ := outs_nat e3
  refine ⟨_, _, e4, fun k => by simp only [evalOp, ho, hy, cond_false, hsf, hsc, Option.bind_some, hn, hn2], fun _ _ hl => ?_, fun _ hl => ?_⟩
  ·have hl := hl.resolve_left (by simp [mayLp, ho])
   obtain ⟨rfl, _⟩ := hg (opds_noLp hl hsf)
   obtain ⟨rfl, _⟩ := hg2 (opds_noLp hl hsc)
   exact .refl (by simp [makes, ho])
  ·have hl := hl.resolve_left (by simp [mayLp, ho])
   obtain ⟨rfl, hg⟩ := hg (opds_noLp hl hsf)
   obtain ⟨rfl, hg2⟩ := hg2 (opds_noLp hl hsc)
   exact ⟨rfl, fun g _ k => by simp only [evalOp, ho, hy, cond_false, opds_g, hsf, hsc, Option.bind_some, hg, hg2]⟩
 ·rename_i t l c ho
  obtain ⟨ti, hti, e1⟩ := Option.bind_eq_some_iff.1 e
  obtain ⟨sl, hsl, e2⟩ := Option.bind_eq_some_iff.1 e1
  obtain ⟨sc, hsc, e3⟩ := Option.bind_eq_some_iff.1 e2
  obtain ⟨u, hu, e4⟩ := Option.bind_eq_some_iff.1 e3
  obtain ⟨v, hv, e5⟩ := Option.bind_eq_some_iff.1 e4
  obtain ⟨i, hi, e6⟩ := Option.bind_eq_some_iff.1 e5
  obtain ⟨j, hj, e7⟩ := Option.bind_eq_some_iff.1 e6
  split at e7
  ·rename_i e' hd
   obtain ⟨te, hte, e8⟩ := Option.bind_eq_some_iff.1 e7
   obtain ⟨z, hz, e9⟩ := Option.bind_eq_some_iff.1 e8
   obtain ⟨n, hn, e10⟩ := Option.bind_eq_some_iff.1 e9
   obtain ⟨m, hm, e11⟩ := Option.bind_eq_some_iff.1 e10
   obtain ⟨hb, e12⟩ := bif_some e11
   exact ⟨_, _, e12, fun k => by simp only [evalOp, ho, hti, hsl, hsc, hu, hv, hi, hj, hd, hte, hz, hn, hm, hb, Option.bind_some, cond_true], fun _ _ _ => .same (by simp [makes, ho]) rfl rfl, fun hf => by simp [heapFree, ho] at hf⟩
  ·cases e7
 ·rename_i t x lo hi mx ho
  obtain ⟨hmx, e0⟩ := bif_some e
  obtain ⟨d, hd, e1⟩ := Option.bind_eq_some_iff.1 e0
  obtain ⟨sx, hsx, e2⟩ := Option.bind_eq_some_iff.1 e1
  obtain ⟨slo, hlo, e3⟩ := Option.bind_eq_some_iff.1 e2
  obtain ⟨shi, hhi, e4⟩ := Option.bind_eq_some_iff.1 e3
  obtain ⟨smx, hmx', e5⟩ := Option.bind_eq_some_iff.1 e4
  split at e5
  ·obtain ⟨u, hu, e6⟩ := Option.bind_eq_some_iff.1 e5
   obtain ⟨b, hb, e7⟩ := Option.bind_eq_some_iff.1 e6
   split at e7
   ·obtain ⟨hh, hhh, e8⟩ := Option.bind_eq_some_iff.1 e7
    obtain ⟨l, hl, e9⟩ := Option.bind_eq_some_iff.1 e8
    exact ⟨_, _, e9, .pure (by simp [makes, ho]) (fun k => by simp only [evalOp, ho, hmx, hd, hsx, hlo, hhi, hmx', hu, hb, hhh, hl, Option.bind_some, cond_true]) fun _ _ g _ k => by simp only [evalOp, ho, hmx, hd, opd_g, opdO_g, hsx, hlo, hhi, hmx', hu, hb, hhh, hl, Option.bind_some, cond_true]⟩
   ·cases e7
  ·rename_i e'
   obtain ⟨te, hte, e6⟩ := Option.bind_eq_some_iff.1 e5
   obtain ⟨hts, e6⟩ := bif_some e6
   obtain ⟨u, hu, e7⟩ := Option.bind_eq_some_iff.1 e6
   obtain ⟨q, hq, e8⟩ := Option.bind_eq_some_iff.1 e7
   obtain ⟨m, hm, e9⟩ := Option.bind_eq_some_iff.1 e8
   obtain ⟨hh, hhh, e10⟩ := Option.bind_eq_some_iff.1 e9
   obtain ⟨l, hl, e11⟩ := Option.bind_eq_some_iff.1 e10
   split at e11
   ·rename_i hq1
    exact ⟨_, _, e11, .pure (by simp [makes, ho]) (fun k => by simp only [evalOp, ho, hmx, hd, hte, hsx, hlo, hhi, hmx', hts, hu, hq, hm, hhh, hl, hq1, Option.bind_some, cond_true]) fun _ _ g _ k => by simp only [evalOp, ho, hmx, hd, hte, opd_g, opdO_g, hsx, hlo, hhi, hmx', hts, hu, hq, hm, hhh, hl, hq1, Option.bind_some, cond_true]⟩
   ·rename_i ad hq1
    obtain ⟨p, hp, e12⟩ := Option.bind_eq_some_iff.1 e11
    exact ⟨_, _, e12, .pure (by simp [makes, ho]) (fun k => by simp only [evalOp, ho, hmx, hd, hte, hsx, hlo, hhi, hmx', hts, hu, hq, hm, hhh, hl, hq1, hp, Option.bind_some, cond_true]) fun _ _ g _ k => by simp only [evalOp, ho, hmx, hd, hte, opd_g, opdO_g, hsx, hlo, hhi, hmx', hts, hu, hq, hm, hhh, hl, hq1, hp, Option.bind_some, cond_true]⟩
  ·rename_i n e'
   have nf : ¬ heapFree P o st = true := by simp [heapFree, ho, hd]
   obtain ⟨hn63, e6⟩ := bif_some e5
   obtain ⟨te, hte, e7⟩ := Option.bind_eq_some_iff.1 e6
   obtain ⟨m, hm, e8⟩ := Option.bind_eq_some_iff.1 e7
   obtain ⟨hh, hhh, e9⟩ := Option.bind_eq_some_iff.1 e8
   obtain ⟨l, hl, e10⟩ := Option.bind_eq_some_iff.1 e9
   split at e10
   ·rename_i d' off
    obtain ⟨q, hp, e11⟩ := Option.bind_eq_some_iff.1 e10
    exact ⟨_, _, e11, fun k => by simp only [evalOp, ho, hmx, hd, hn63, hte, hsx, hlo, hhi, hmx', hm, hhh, hl, hp, Option.bind_some, cond_true], fun _ _ hl => absurd rfl (opd_noLp (hl.resolve_left (by simp [mayLp, ho])) hsx d' off), fun hf => absurd hf nf⟩
   ·rename_i v
    obtain ⟨p, hp, e11⟩ := Option.bind_eq_some_iff.1 e10
    obtain ⟨q, hq, e12⟩ := Option.bind_eq_some_iff.1 e11
    obtain ⟨b, hb, e13⟩ := Option.bind_eq_some_iff.1 e12
    obtain ⟨hrow, e14⟩ := bif_none e13
    exact ⟨_, _, e14, .pure (by simp [makes, ho]) (fun k => by simp only [evalOp, ho, hmx, hd, hn63, hte, hsx, hlo, hhi, hmx', hm, hhh, hl, hp, hq, hb, hrow, Option.bind_some, cond_true, cond_false]) fun hf => absurd hf nf⟩
   ·cases e10
  ·cases e5
 ·rename_i t x f ho
  obtain ⟨d, hd, e1⟩ := Option.bind_eq_some_iff.1 e
  obtain ⟨s, hs, e2⟩ := Option.bind_eq_some_iff.1 e1
  split at e2
  ·obtain ⟨q, hq, e3⟩ := Option.bind_eq_some_iff.1 e2
   obtain ⟨hb, e4⟩ := bif_none e3
   obtain ⟨s', hs', e5⟩ := Option.bind_eq_some_iff.1 e4
   exact ⟨_, _, e5, .pure (by simp [makes, ho]) (fun k => by simp only [evalOp, ho, hd, hs, hq, hb, hs', Option.bind_some, cond_false]) fun _ _ g _ k => by simp only [evalOp, ho, hd, opd_g, moved_g, hs, hq, hb, hs', Option.bind_some, cond_false]⟩
  ·cases e2
 ·rename_i t x f ho
  obtain ⟨d, hd, e1⟩ := Option.bind_eq_some_iff.1 e
  obtain ⟨s, hs, e2⟩ := Option.bind_eq_some_iff.1 e1
  obtain ⟨u, hu, e3⟩ := Option.bind_eq_some_iff.1 e2
  obtain ⟨cs, hcs, e4⟩ := Option.bind_eq_some_iff.1 e3
  split at e4
  ·obtain ⟨q, hq, e5⟩ := Option.bind_eq_some_iff.1 e4
   split at e5
   ·rename_i hg
    obtain ⟨hb, e6⟩ := bif_some e5
    exact ⟨_, _, e6, .pure (by simp [makes, ho]) (fun k => by simp only [evalOp, ho, hd, hs, hu, hcs, hq, hg, hb, Option.bind_some, cond_true]) fun _ _ g _ k => by simp only [evalOp, ho, hd, opd_g, hs, hu, hcs, hq, hg, hb, Option.bind_some, cond_true]⟩
   ·rename_i hg
    obtain ⟨z, hz, e6⟩ := Option.bind_eq_some_iff.1 e5
    refine ⟨_, _, typed_some e6, .pure (by simp [makes, ho]) (fun k => ?_) fun _ _ g _ k => ?_⟩
    ·simp only [evalOp, ho, hd, hs, hu, hcs, hq, hg, hz, Option.bind_some]
     exact typed_nat e6 _
    ·simp only [evalOp, ho, hd, opd_g, hs, hu, hcs, hq, hg, hz, Option.bind_some]
     exact typed_nat e6 _
  ·cases e4
 ·rename_i t x i ho
  obtain ⟨d, hd, e1⟩ := Option.bind_eq_some_iff.1 e
  obtain ⟨s, hs, e2⟩ := Option.bind_eq_some_iff.1 e1
  obtain ⟨si, hsi, e3⟩ := Option.bind_eq_some_iff.1 e2
  obtain ⟨v, hv, e4⟩ := Option.bind_eq_some_iff.1 e3
  obtain ⟨i', hi, e5⟩ := Option.bind_eq_some_iff.1 e4
  split at e5
  ·obtain ⟨te, hte, e6⟩ := Option.bind_eq_some_iff.1 e5
   obtain ⟨j, hj, e7⟩ := Option.bind_eq_some_iff.1 e6
   obtain ⟨s', hs', e8⟩ := Option.bind_eq_some_iff.1 e7
   exact ⟨_, _, e8, .pure (by simp [makes, ho]) (fun k => by simp only [evalOp, ho, hd, hs, hsi, hv, hi, hte, hj, hs', Option.bind_some]) fun _ _ g _ k => by simp only [evalOp, ho, hd, opd_g, moved_g, hs, hsi, hv, hi, hte, hj, hs', Option.bind_some]⟩
  ·obtain ⟨te, hte, e6⟩ := Option.bind_eq_some_iff.1 e5
   obtain ⟨u, hu, e7⟩ := Option.bind_eq_some_iff.1 e6
   obtain ⟨q, hq, e8⟩ := Option.bind_eq_some_iff.1 e7
   obtain ⟨j, hj, e9⟩ := Option.bind_eq_some_iff.1 e8
   obtain ⟨p, hp, e10⟩ := Option.bind_eq_some_iff.1 e9
   exact ⟨_, _, e10, .pure (by simp [makes, ho]) (fun k => by simp only [evalOp, ho, hd, hs, hsi, hv, hi, hte, hu, hq, hj, hp, Option.bind_some]) fun _ _ g _ k => by simp only [evalOp, ho, hd, opd_g, hs, hsi, hv, hi, hte, hu, hq, hj, hp, Option.bind_some]⟩
  ·cases e5
 ·rename_i t x i ho
  obtain ⟨d, hd, e1⟩ := Option.bind_eq_some_iff.1 e
  obtain ⟨s, hs, e2⟩ := Option.bind_eq_some_iff.1 e1
  obtain ⟨si, hsi, e3⟩ := Option.bind_eq_some_iff.1 e2
  obtain ⟨u, hu, e4⟩ := Option.bind_eq_some_iff.1 e3
  obtain ⟨v, hv, e5⟩ := Option.bind_eq_some_iff.1 e4
  obtain ⟨i', hi, e6⟩ := Option.bind_eq_some_iff.1 e5
  split at e6
  ·obtain ⟨b, hb, e7⟩ := Option.bind_eq_some_iff.1 e6
   obtain ⟨j, hj, e8⟩ := Option.bind_eq_some_iff.1 e7
   exact ⟨_, _, e8, .pure (by simp [makes, ho]) (fun k => by simp only [evalOp, ho, hd, hs, hsi, hu, hv, hi, hb, hj, Option.bind_some]) fun _ _ g _ k => by simp only [evalOp, ho, hd, opd_g, hs, hsi, hu, hv, hi, hb, hj, Option.bind_some]⟩
  ·obtain ⟨te, hte, e7⟩ := Option.bind_eq_some_iff.1 e6
   obtain ⟨cs, hcs, e8⟩ := Option.bind_eq_some_iff.1 e7
   obtain ⟨j, hj, e9⟩ := Option.bind_eq_some_iff.1 e8
   split at e9
   ·rename_i hg
    obtain ⟨hb, e10⟩ := bif_some e9
    exact ⟨_, _, e10, .pure (by simp [makes, ho]) (fun k => by simp only [evalOp, ho, hd, hs, hsi, hu, hv, hi, hte, hcs, hj, hg, hb, Option.bind_some, cond_true]) fun _ _ g _ k => by simp only [evalOp, ho, hd, opd_g, hs, hsi, hu, hv, hi, hte, hcs, hj, hg, hb, Option.bind_some, cond_true]⟩
   ·rename_i hg
    obtain ⟨z, hz, e10⟩ := Option.bind_eq_some_iff.1 e9
    refine ⟨_, _, typed_some e10, .pure (by simp [makes, ho]) (fun k => ?_) fun _ _ g _ k => ?_⟩
    ·simp only [evalOp, ho, hd, hs, hsi, hu, hv, hi, hte, hcs, hj, hg, hz, Option.bind_some]
     exact typed_nat e10 _
    ·simp only [evalOp, ho, hd, opd_g, hs, hsi, hu, hv, hi, hte, hcs, hj, hg, hz, Option.bind_some]
     exact typed_nat e10 _
  ·cases e6
 ·rename_i t ix ho
  obtain ⟨s, hs, e1⟩ := Option.bind_eq_some_iff.1 e
  obtain ⟨u, hu, e2⟩ := Option.bind_eq_some_iff.1 e1
  obtain ⟨vs, hvs, e3⟩ := Option.bind_eq_some_iff.1 e2
  obtain ⟨z, hz, e4⟩ := Option.bind_eq_some_iff.1 e3
  refine ⟨_, _, typed_some e4, .pure (by simp [makes, ho]) (fun k => ?_) fun _ _ g _ k => ?_⟩
  ·simp only [evalOp, ho, hs, hu, hvs, hz, Option.bind_some]
   exact typed_nat e4 _
  ·simp only [evalOp, ho, opd_g, hs, hu, hvs, hz, Option.bind_some]
   exact typed_nat e4 _
 ·rename_i c ho
  obtain ⟨callee, args, ts⟩ := c
  simp only at e
  split at e
  ·rename_i f
   have nf : ¬ heapFree P o st = true := by simp [heapFree, ho]
   obtain ⟨sf, hsf, e1⟩ := Option.bind_eq_some_iff.1 e
   obtain ⟨fv, hfv, e2⟩ := Option.bind_eq_some_iff.1 e1
   obtain ⟨ss, hss, e3⟩ := Option.bind_eq_some_iff.1 e2
   obtain ⟨xs, st1, e4, hn, hg⟩ := outs_nat e3
   split at e4
   ·obtain ⟨q, hq, e5⟩ := Option.bind_eq_some_iff.1 e4
    refine ⟨_, _, typed_some e5, fun k => ?_, fun _ hp hl => ?_, fun hf => absurd hf nf⟩
    ·simp only [evalOp, ho, hsf, hfv, hss, hn, hq, Option.bind_some]
     exact typed_nat e5 _
    ·obtain ⟨rfl, _⟩ := hg (opds_noLp (hl.resolve_left (by simp [mayLp, ho])) hss)
     subst hp
     obtain ⟨q', _, hq'⟩ := Option.bind_eq_some_iff.1 hq
     cases hq'
     exact .same (by simp [makes, ho]) rfl rfl
   ·cases e4
  ·rename_i b
   obtain ⟨ss, hss, e1⟩ := Option.bind_eq_some_iff.1 e
   obtain ⟨xs, st1, e2, hn, hg⟩ := outs_nat e1
   cases hpa : isApp prot b with
   | true =>
    rw [hpa] at e2
    have hba : b = .append := by cases b <;> first | rfl | cases hpa
    subst hba
    obtain ⟨s, st2, e3, hn2, ⟨l, hl2⟩, hb2⟩ := appQ_nat e2
    refine ⟨_, _, e3, fun k => by simp only [evalOp, ho, hss, Option.bind_some, hn, hpa, hn2], fun hf _ hl => ?_, fun hf hl => by simp [heapFree, ho] at hf⟩
    obtain ⟨rfl, _⟩ := hg (opds_noLp (hl.resolve_left (by simp [mayLp, ho])) hss)
    exact ⟨⟨l, hl2⟩, .inr ⟨by simp [makes, ho], hb2⟩⟩
   | false =>
   rw [hpa] at e2
   obtain ⟨s, st2, e3, hn2, hg2⟩ := builtinP_nat e2
   have hb : floats o.op = true → prot = true → b = .len ∨ b = .cap ∨ b = .min ∨ b = .max := by
    intro h hpr
    simp only [floats, ho] at h
    split at h
    ·rename_i hh
     cases hh
    all_goals first | (rename_i hh; cases hh; simp; done) | (rename_i hh; cases hh; rw [hpr] at hpa; cases hpa) | cases h
   have hb2 : heapFree P o st = true → b = .len ∨ b = .cap ∨ b = .min ∨ b = .max := by
    intro h
    simp only [heapFree, ho] at h
    split at h
    all_goals first | (rename_i hh; cases hh; simp; done) | cases h
   refine ⟨_, _, e3, fun k => by simp only [evalOp, ho, hss, Option.bind_some, hn, hpa, hn2], fun hf hpr hl => ?_, fun hf hl => ?_⟩
   ·obtain ⟨rfl, _⟩ := hg (opds_noLp (hl.resolve_left (by simp [mayLp, ho])) hss)
    obtain ⟨rfl, _⟩ := hg2 (hb hf hpr)
    exact .refl (by simp [makes, ho])
   ·obtain ⟨rfl, hg⟩ := hg (opds_noLp (hl.resolve_left (by simp [mayLp, ho])) hss)
    obtain ⟨rfl, hg2⟩ := hg2 (hb2 hf)
    exact ⟨rfl, fun g _ k => by simp only [evalOp, ho, opds_g, hss, Option.bind_some, hg, hpa, hg2]⟩
  ·cases e
 ·cases e
end
end Go.Pv
end
section
namespace Go.Pv
variable [Glob]
def Sc (n : Nat) (x : Value) : Prop := ∃ (ρ0 : Rho) (y0 : Value), ρ0.length ≤ n ∧ VR ρ0 x y0
def ScS (n : Nat) (bx : List Box) (s : Slot) : Prop := ∃ (ρ0 : Rho) (β0 : List (Option Nat)) (y0 : Value), ρ0.length ≤ n ∧ SlotR ρ0 β0 bx s y0
theorem Rho.cut {ρ ρ0 : Rho} {id n : Nat} {rb rb0 : RB} (h : ρ.at id rb) (h0 : ρ0.at id rb0) (hn : ρ0.length ≤ n) : Rho.at (ρ.take n) id rb := by
 have := Rho.at_lt h0
 unfold Rho.at at *
 rw [List.getElem?_take_of_lt (by omega)]
 exact h
theorem VR.cut {ρ : Rho} {n : Nat} {x y : Value} (h : VR ρ x y) : Sc n x → VR (ρ.take n) x y := by
 rintro ⟨ρ0, y0, hn, h0⟩
 revert y0
 refine VR.rec (motive_1 := fun x y _ => ∀ y0, VR ρ0 x y0 → VR (ρ.take n) x y) (motive_2 := fun xs ys _ => ∀ ys0, VRs ρ0 xs ys0 → VRs (ρ.take n) xs ys) ?_ ?_ ?_ ?_ ?_ ?_ ?_ ?_ ?_ ?_ ?_ ?_ ?_ ?_ ?_ ?_ ?_ h
 ·exact fun k n _ _ => .int k n
 ·exact fun b _ _ => .bool b
 ·exact fun s _ _ => .string s
 ·exact fun _ _ => .nilFunc
 ·exact fun _ _ => .nilIface
 ·exact fun _ _ => .nilPtr
 ·intro id off rb h y0 h0
  cases h0 with
  | ptr _ _ rb0 h0 => exact .ptr id off rb (Rho.cut h h0 hn)
 ·exact fun _ _ => .nilSlice
 ·intro id off k c c' rb h hk hc hm hu y0 h0
  cases h0 with
  | slice _ _ _ _ _ rb0 h0 => exact .slice id off k c c' rb (Rho.cut h h0 hn) hk hc hm hu
  | empty _ _ _ rb0 h0 => exact .slice id off _ _ c' rb (Rho.cut h h0 hn) hk hc hm hu
 ·intro id off A rb h y0 h0
  cases h0 with
  | slice _ _ _ _ _ rb0 h0 => exact .empty id off A rb (Rho.cut h h0 hn)
  | empty _ _ _ rb0 h0 => exact .empty id off A rb (Rho.cut h h0 hn)
 ·intro fn hf xs ys zs ws _ _ ih ih2 y0 h0
  cases h0 with
  | func _ _ _ ys0 _ ws0 h1 h2 => exact .func fn hf xs ys zs ws (ih ys0 h1) (ih2 ws0 h2)
  | yield => cases hf
 ·intro id rb h y0 h0
  cases h0 with
  | func _ hf => cases hf
  | yield _ rb0 h0 => exact .yield id rb (Rho.cut h h0 hn)
 ·intro t x y _ ih y0 h0
  cases h0 with
  | iface _ _ y0 h0 => exact .iface t x y (ih y0 h0)
 ·intro xs ys _ h1 ih y0 h0
  cases h0 with
  | agg _ ys0 h0 _ => exact .agg xs ys (ih ys0 h0) h1
 ·intro xs ys _ ih y0 h0
  cases h0 with
  | tuple _ ys0 h0 => exact .tuple xs ys (ih ys0 h0)
 ·exact fun _ _ => .nil
 ·intro x y xs ys _ _ ih ih2 ys0 h0
  cases h0 with
  | cons _ y0 _ ys0 h1 h2 => exact .cons x y xs ys (ih y0 h1) (ih2 ys0 h2)
theorem VRs.cut {ρ : Rho} {n : Nat} : ∀ {xs ys : List Value}, VRs ρ xs ys → (∀ x ∈ xs, Sc n x) → VRs (ρ.take n) xs ys
 | _, _, .nil, _ => .nil
 | _, _, .cons x y xs ys h t, hs => .cons x y xs ys (h.cut (hs x (.head _))) (t.cut fun z hz => hs z (.tail _ hz))
theorem SlotR.cut {ρ : Rho} {β : List (Option Nat)} {n : Nat} {bx : List Box} {s : Slot} {y : Value} (h : SlotR ρ β bx s y) (hs : ScS n bx s) : SlotR (ρ.take n) β bx s y := by
 obtain ⟨ρ0, β0, y0, hn, h0⟩ := hs
 cases s with
 | v x => exact VR.cut h ⟨ρ0, y0, hn, h0⟩
 | dead => trivial
 | lp d off =>
  intro B hB
  have h1 := h B hB
  have h2 := h0 B hB
  cases B with
  | no => trivial
  | loc cs e => exact h1
  | prom id =>
   obtain ⟨rb, hr, hu, hy⟩ := h1
   obtain ⟨rb0, hr0, _⟩ := h2
   exact ⟨rb, Rho.cut hr hr0 hn, hu, hy⟩
section
variable {P : Program} {E : Env} {ρ : Rho} {β : List (Option Nat)} {st : St} {a : Act} {w : World} {Q : Exit → Act → World → Prop} {next : Act → World → Prop} {o : Oper}
theorem wp_put {ro : Option Nat} (h : o.wpR P ro a w next Q) (hd : ∀ a' w', next a' w' → a'.defers = a.defers) : o.wpR P ro a w (fun a' w' => next a' w' ∧ ∃ v, a' = a.put o.dst v) Q := by
 obtain ⟨h0, h⟩ := h
 refine ⟨h0, ?_⟩
 generalize (o.semAt (fen ro).round a.eval).run P w = r at *
 cases r with
 | ok n w' =>
  cases n <;> simp only [Oper.uponIn] at h ⊢
  case value v => exact ⟨h, v, rfl⟩
  case skip => exact ⟨h, undef, rfl⟩
  case «defer» d =>
   have := hd _ _ h
   rw [Act.put_defers'] at this
   have := congrArg List.length this
   simp at this
  case enter f args => exact ⟨h.1, CallsIn.mono h.2 fun e w'' he => by cases e <;> first | exact ⟨he, _, rfl⟩ | exact he⟩
  case row row args => exact ⟨h.1, RowsIn.mono h.2 fun v w'' he => ⟨he, v, rfl⟩⟩
  case round l f tmps assign body => exact ⟨h.1, RoundIn.mono h.2 fun e w'' he => by cases e <;> first | exact ⟨he, _, rfl⟩ | exact he⟩
 | halt x w' => cases x <;> simp only [Oper.uponIn] at h ⊢ <;> exact h
def joined (o : Oper) (s : Slot) (X φ : St) : St := { merge o s X φ with heap := φ.heap ++ X.heap.drop φ.heap.length }
structure Part (P : Program) (ρ : Rho) (X φ : St) : Prop where
 heap : ∃ l, X.heap = φ.heap ++ l
 tlen : φ.tmps.length = X.tmps.length
 tmps : ∀ (t : Nat) s, φ.tmps[t]? = some s → s = .dead ∨ (X.tmps[t]? = some s ∧ ScS φ.heap.length φ.boxes s)
 blen : φ.boxes.length = X.boxes.length
 boxes : ∀ (d : Nat) B, φ.boxes[d]? = some B → B = .no ∨ (X.boxes[d]? = some B ∧ ∀ cs e, B = .loc cs e → ∀ x ∈ cs, Sc φ.heap.length x)
 cells : ∀ (id : Nat) b rb, φ.heap[id]? = some b → ρ.at id rb → (b.live = true ∨ b.obj.isSome = true) → ∀ x ∈ b.cells, Sc φ.heap.length x
theorem take_at {n id : Nat} {rb : RB} (h : Rho.at (ρ.take n) id rb) : id < n ∧ ρ.at id rb := by
 have hl := Rho.at_lt h
 simp only [List.length_take] at hl
 refine ⟨by omega, ?_⟩
 unfold Rho.at at *
 rwa [List.getElem?_take_of_lt (by omega)] at h
def PartEnv (E : Env) (w : World) (ρ : Rho) (β : List (Option Nat)) (φ : St) : Env :=
 ⟨w, fun b => Writable (ρ.take φ.heap.length) φ.heap b ∨ ∃ (d : Nat) (cs : List Value) (e : TypeId), φ.boxes[d]? = some (.loc cs e) ∧ β[d]? = some (some b), φ.heap, ρ.take φ.heap.length, E.ro, E.ds⟩
theorem Part.box {X φ : St} (p : Part P ρ X φ) {d : Nat} {cs : List Value} {e : TypeId} (h : φ.boxes[d]? = some (.loc cs e)) : X.boxes[d]? = some (.loc cs e) ∧ ∀ x ∈ cs, Sc φ.heap.length x := by
 rcases p.boxes d _ h with h' | ⟨h1, h2⟩
 ·cases h'
 ·exact ⟨h1, h2 cs e rfl⟩
theorem Part.blk {X φ : St} (p : Part P ρ X φ) {id : Nat} {b : Blk} (h : φ.heap[id]? = some b) : X.heap[id]? = some b := by
 obtain ⟨l, hl⟩ := p.heap
 rw [hl, List.getElem?_append_left (get_lt h)]
 exact h
theorem ObjR.cut {n : Nat} {cs : List Value} {o : LObj} {x : Obj} (h : ObjR ρ cs o x) (hs : ∀ x ∈ cs, Sc n x) : ObjR (ρ.take n) cs o x := by
 cases o with
 | dfr => exact h
 | loop r =>
  obtain ⟨fn, ys, d, h1, h2, h3, h4⟩ := h
  exact ⟨fn, ys, d, h1, h2, h3, fun t s ht => (h4 t s ht).imp id fun ⟨y, hy, hr⟩ => ⟨y, hy, hr.cut (hs s (List.mem_of_getElem? ht))⟩⟩
theorem ObjR.sc {n : Nat} {cs : List Value} {o : LObj} {x : Obj} (h : ObjR ρ cs o x) (hn : ρ.length ≤ n) : ∀ x ∈ cs, Sc n x := by
 intro z hz
 cases o with
 | dfr => rw [h.2] at hz; cases hz
 | loop r =>
  obtain ⟨fn, ys, d, h1, h2, h3, h4⟩ := h
  obtain ⟨t, ht⟩ := List.getElem?_of_mem hz
  rcases h4 t z ht with ⟨_, rfl⟩ | ⟨y, _, hr⟩
  ·exact ⟨[], undef, Nat.zero_le _, .tuple _ _ .nil⟩
  ·exact ⟨ρ, y, hn, hr⟩
theorem Part.rel {X φ : St} (p : Part P ρ X φ) (h : Rel P E ρ β X a w) (hE2 : E.ρ0.length ≤ φ.heap.length) : Rel P (PartEnv E w ρ β φ) (ρ.take φ.heap.length) β φ a w := by
 have hlen : φ.heap.length ≤ ρ.length := by
  obtain ⟨l, hl⟩ := p.heap
  rw [h.h.len, hl]
  simp
 have horel : ORel (ρ.take φ.heap.length) φ.heap w := by
  refine ⟨fun id b rb o hb hr ho => ?_, fun i j bi bj ri rj oi oj hij hi hj hri hrj hoi hoj => h.h.o.sep i j bi bj ri rj oi oj hij (p.blk hi) (p.blk hj) (take_at hri).2 (take_at hrj).2 hoi hoj⟩
  obtain ⟨_, hr⟩ := take_at hr
  obtain ⟨hl, x, hx, hox⟩ := h.h.o.obj id b rb o (p.blk hb) hr ho
  exact ⟨hl, x, hx, hox.cut (p.cells id b rb hb hr (.inr (by rw [ho]; rfl)))⟩
 have hgok : GOK (ρ.take φ.heap.length) := fun g i hi => by
  obtain ⟨rb, h1, h2⟩ := h.g g i hi
  refine ⟨rb, ?_, h2⟩
  have hlt := Rho.at_lt h1
  have := h.e.le _ _ h1
  unfold Rho.at at this ⊢
  rw [List.getElem?_take_of_lt (by omega)]
  exact this
 refine ⟨⟨by simp; omega, ?_, ?_, horel⟩, ⟨h.b.len.trans p.blen.symm, ?_, ?_, ?_⟩, ⟨p.tlen.trans h.t.1, ?_⟩, ⟨rfl, rfl, rfl, Nat.le_refl _, fun _ _ _ => rfl⟩, ⟨?_, ?_, ?_, Nat.le_refl _, fun id bl _ hb hl => ⟨bl, by exact hb, hl⟩, fun id bl rb h1 h2 h3 => .inl (.inl ⟨id, bl, rb, h1, h2, .inr h3, rfl⟩)⟩, h.d, ?_, .refl _, hgok⟩
 ·intro id b rb hb hr hl
  obtain ⟨_, hr⟩ := take_at hr
  obtain ⟨cs, e, fr, h1, h2, h3, h4⟩ := h.h.blk id b rb (p.blk hb) hr hl
  refine ⟨cs, e, fr, h1, h2, fun i x hx => ?_, h4⟩
  obtain ⟨ho, y, hy, hv⟩ := h3 i x hx
  exact ⟨ho, y, hy, hv.cut (p.cells id b rb hb hr (.inl hl) x (List.mem_of_getElem? hx))⟩
 ·intro i j bi bj ri rj hij hi hj hri hrj
  exact h.h.sep i j bi bj ri rj hij (p.blk hi) (p.blk hj) (take_at hri).2 (take_at hrj).2
 ·intro d cs e hd
  obtain ⟨hX, hs⟩ := p.box hd
  obtain ⟨b, ys, hb, hc, hv, h1⟩ := h.b.loc d cs e hX
  exact ⟨b, ys, hb, hc, hv.cut hs, h1⟩
 ·intro d cs e b id bl rb hd hb hi hr hl
  exact h.b.sepH d cs e b id bl rb (p.box hd).1 hb (p.blk hi) (take_at hr).2 hl
 ·intro d d' cs e cs' e' b b' hne hd hd' hb hb'
  exact h.b.sepB d d' cs e cs' e' b b' hne (p.box hd).1 (p.box hd').1 hb hb'
 ·intro t s hs
  rcases p.tmps t s hs with rfl | ⟨hX, hsc⟩
  ·have hlt : t < a.tmps.size := by
    have := get_lt hs
    rw [← h.t.1, ← p.tlen]; exact this
   exact ⟨_, Array.getElem?_eq_getElem hlt, trivial⟩
  ·obtain ⟨y, hy, hr⟩ := h.t.2 t s hX
   refine ⟨y, hy, SlotR.cut ?_ hsc⟩
   cases s with
   | v x => exact hr
   | dead => trivial
   | lp d off =>
    intro B hB
    rcases p.boxes d B hB with rfl | ⟨h1, _⟩
    ·trivial
    ·exact hr B h1
 ·intro id bl rb h1 h2 h3 h4
  exact .inl (.inl ⟨id, bl, rb, h1, h2, .inl ⟨h3, h4⟩, rfl⟩)
 ·intro d cs e b hd hb
  exact .inl (.inr ⟨d, cs, e, hd, hb⟩)
 ·intro id rb hid hr
  have h1 := (take_at hr).1
  have h2 : φ.heap.length ≤ id := hid
  omega
 ·rw [p.blen, p.tlen]; exact h.bl
theorem Part.join {X φ φ' : St} (p : Part P ρ X φ) (h : Rel P E ρ β X a w) (hE : E.h0.length ≤ φ.heap.length) (hE2 : E.ρ0.length ≤ φ.heap.length) {s : Slot} (hole : ∀ id, φ.heap.length ≤ id → id < φ'.heap.length → ρ[id]? = some none) (hlen : φ'.heap.length ≤ X.heap.length)
  (hbx : (makes o.op = true ∧ ∃ d cs e, o.dst = some d ∧ d < φ.boxes.length ∧ φ'.boxes = φ.boxes.set d (.loc cs e) ∧ X.boxes[d]? = some .no ∧ ∀ (t : Nat) off, X.tmps[t]? ≠ some (.lp d off)) ∨ (makes o.op = false ∧ φ'.boxes = φ.boxes))
  (hlp : ∀ d off, s = .lp d off → ∃ B, φ'.boxes[d]? = some B ∧ B ≠ .no) {ρr : Rho} {βr : List (Option Nat)} {a' : Act} {w' : World} (hr : Rel P (PartEnv E w ρ β φ) ρr βr (φ'.put o.dst s) a' w') (hβ : ∀ d, (makes o.op = true → o.dst ≠ some d) → βr[d]? = β[d]?) (hput : ∃ v, a' = a.put o.dst v) :
  ∃ ρ' β', Rel P E ρ' β' (joined o s X φ') a' w' ∧ (∀ id : Nat, φ'.heap.length ≤ id → ρ'[id]? = ρ[id]?) ∧ (∀ id : Nat, id < φ.heap.length → ρ'[id]? = ρ[id]?) ∧ (∀ d, o.dst = some d → d < X.tmps.length → ScS φ'.heap.length (joined o s X φ').boxes s) ∧
   (∀ (id : Nat) b rb, φ'.heap[id]? = some b → ρ'.at id rb → (b.live = true ∨ b.obj.isSome = true) → ∀ x ∈ b.cells, Sc φ'.heap.length x) ∧ (∀ (d : Nat) cs e, φ'.boxes[d]? = some (.loc cs e) → ∀ x ∈ cs, Sc φ'.heap.length x) := by
 have hφh : (φ'.put o.dst s).heap = φ'.heap := by cases o.dst <;> rfl
 have hφb : (φ'.put o.dst s).boxes = φ'.boxes := by cases o.dst <;> rfl
 have rh := hr.h
 have rb' := hr.b
 have rt := hr.t
 have rf := hr.f
 have rn := hr.n
 rw [hφh] at rh
 rw [hφh, hφb] at rb'
 rw [hφb] at rt
 have hρr : ρr.length = φ'.heap.length := rh.len
 have hge : φ.heap.length ≤ φ'.heap.length := by have := rn.len; rw [hφh] at this; exact this
 have hρ : ρ.length = X.heap.length := h.h.len
 -- ρ
 obtain ⟨l, hl⟩ : ∃ l, ρr = ρ.take φ.heap.length ++ l := hr.e
 have lo : ∀ id : Nat, id < φ.heap.length → ρr[id]? = ρ[id]? := by
  intro id hid
  rw [hl, List.getElem?_append_left (by simp; omega), List.getElem?_take_of_lt hid]
 have hi' : ∀ id : Nat, φ'.heap.length ≤ id → (ρr ++ ρ.drop φ'.heap.length)[id]? = ρ[id]? := by
  intro id hid
  rw [List.getElem?_append_right (by omega), List.getElem?_drop, hρr]
  congr 1; omega
 have lo' : ∀ id : Nat, id < φ'.heap.length → (ρr ++ ρ.drop φ'.heap.length)[id]? = ρr[id]? := by
  intro id hid
  rw [List.getElem?_append_left (by omega)]
 have le1 : ρr.le (ρr ++ ρ.drop φ'.heap.length) := Rho.le.snoc _ _
 have le2 : ρ.le (ρr ++ ρ.drop φ'.heap.length) := by
  intro id rb hat
  unfold Rho.at at *
  by_cases h1 : id < φ.heap.length
  ·rw [lo' id (by omega), lo id h1]; exact hat
  ·by_cases h2 : id < φ'.heap.length
   ·rw [hole id (by omega) h2] at hat; cases hat
   ·rw [hi' id (by omega)]; exact hat
 have atlo : ∀ {id rb}, Rho.at (ρr ++ ρ.drop φ'.heap.length) id rb → id < φ'.heap.length → ρr.at id rb := fun {id rb} hat hid => by
  unfold Rho.at at *; rwa [lo' id hid] at hat
 have athi : ∀ {id rb}, Rho.at (ρr ++ ρ.drop φ'.heap.length) id rb → φ'.heap.length ≤ id → ρ.at id rb := fun {id rb} hat hid => by
  unfold Rho.at at *; rwa [hi' id hid] at hat
 have atin : ∀ {id rb}, ρr.at id rb → id < φ.heap.length → ρ.at id rb := fun {id rb} hat hid => by
  unfold Rho.at at *; rwa [lo id hid] at hat
 -- the heap
 have hlo : ∀ {id : Nat} {b : Blk}, (joined o s X φ').heap[id]? = some b → id < φ'.heap.length → φ'.heap[id]? = some b := fun {id b} hb hid => by
  simp only [joined] at hb
  rwa [List.getElem?_append_left hid] at hb
 have hhi : ∀ {id : Nat} {b : Blk}, (joined o s X φ').heap[id]? = some b → φ'.heap.length ≤ id → X.heap[id]? = some b := fun {id b} hb hid => by
  simp only [joined] at hb
  rw [List.getElem?_append_right hid, List.getElem?_drop] at hb
  rwa [show φ'.heap.length + (id - φ'.heap.length) = id by omega] at hb
 have hold : ∀ {id : Nat} {b : Blk}, φ'.heap[id]? = some b → b.live = true → id < φ.heap.length → ∃ b0, X.heap[id]? = some b0 ∧ b0.live = true := fun {id b} hb hl hid => by
  obtain ⟨b0, h1, h2⟩ := rn.liv id b hid (by rw [hφh]; exact hb) hl
  exact ⟨b0, p.blk h1, h2⟩
 -- what the part may write
 have A1 : ∀ {b}, (PartEnv E w ρ β φ).A0 b → E.A0 b ∨ E.w0.heap.size ≤ b := fun {b} hb => by
  rcases hb with ⟨id, bl, rb, h1, h2, ⟨h3, h4⟩ | h3, rfl⟩ | ⟨d, cs, e, h1, h2⟩
  ·exact h.n.wh id bl rb (p.blk h1) (take_at h2).2 h3 h4
  ·exact h.n.wo id bl rb (p.blk h1) (take_at h2).2 h3
  ·exact h.n.wb d cs e b (p.box h1).1 h2
 have kind : ∀ {id : Nat} {bl : Blk} {rb : RB}, X.heap[id]? = some bl → ρ.at id rb → bl.obj.isSome = true → ∃ x, w.heap[rb.b]? = some x ∧ ∀ cs e fr, x ≠ .cells cs e fr := fun {id bl rb} h1 h2 h3 => by
  cases ho : bl.obj with
  | none => rw [ho] at h3; cases h3
  | some o =>
   obtain ⟨_, x, hx, hox⟩ := h.h.o.obj id bl rb o h1 h2 ho
   exact ⟨x, hx, hox.noCells⟩
 have kindL : ∀ {id : Nat} {bl : Blk} {rb : RB}, X.heap[id]? = some bl → ρ.at id rb → bl.live = true → ∃ cs e fr, w.heap[rb.b]? = some (.cells cs e fr) := fun {id bl rb} h1 h2 h3 => by
  obtain ⟨cs, e, fr, h4, _⟩ := h.h.blk id bl rb h1 h2 h3
  exact ⟨cs, e, fr, h4⟩
 have kindB : ∀ {d : Nat} {cs : List Value} {e : TypeId} {b : Nat}, X.boxes[d]? = some (Box.loc cs e) → β[d]? = some (some b) → ∃ cs e fr, w.heap[b]? = some (.cells cs e fr) := fun {d cs e b} h1 h2 => by
  obtain ⟨b', ys, hb', hc, _⟩ := h.b.loc d cs e h1
  rw [h2] at hb'
  cases hb'
  exact ⟨_, _, _, hc⟩
 have clash : ∀ {b b' : Nat} {x : Obj}, w.heap[b]? = some x → (∀ cs e fr, x ≠ .cells cs e fr) → (∃ cs e fr, w.heap[b']? = some (.cells cs e fr)) → b ≠ b' := fun {b b' x} h1 h2 ⟨cs, e, fr, h3⟩ hh => by
  subst hh
  rw [h1] at h3
  cases h3
  exact h2 _ _ _ rfl
 have A2o : ∀ {b id : Nat} {bl rb}, (PartEnv E w ρ β φ).A0 b → φ'.heap.length ≤ id → X.heap[id]? = some bl → ρ.at id rb → bl.obj.isSome = true → b ≠ rb.b := fun {b id bl rb} hb hid hX hat ho => by
  obtain ⟨x, hx, hnx⟩ := kind hX hat ho
  rcases hb with ⟨id2, bl2, rb2, h1, h2, ⟨h3, h4⟩ | h3, rfl⟩ | ⟨d, cs, e, h1, h2⟩
  ·exact (clash hx hnx (kindL (p.blk h1) (take_at h2).2 h3)).symm
  ·have := get_lt h1
   cases ho1 : bl.obj with
   | none => rw [ho1] at ho; cases ho
   | some o1 =>
    cases ho2 : bl2.obj with
    | none => rw [ho2] at h3; cases h3
    | some o2 => exact h.h.o.sep id2 id bl2 bl rb2 rb o2 o1 (by omega) (p.blk h1) hX (take_at h2).2 hat ho2 ho1
  ·exact (clash hx hnx (kindB (p.box h1).1 h2)).symm
 have A2 : ∀ {b id : Nat} {bl rb}, (PartEnv E w ρ β φ).A0 b → φ'.heap.length ≤ id → X.heap[id]? = some bl → ρ.at id rb → bl.live = true → b ≠ rb.b := fun {b id bl rb} hb hid hX hat hl => by
  rcases hb with ⟨id2, bl2, rb2, h1, h2, ⟨h3, h4⟩ | h3, rfl⟩ | ⟨d, cs, e, h1, h2⟩
  ·have := get_lt h1
   exact h.h.sep id2 id bl2 bl rb2 rb (by omega) (p.blk h1) hX (take_at h2).2 hat h3 hl h4
  ·obtain ⟨x, hx, hnx⟩ := kind (p.blk h1) (take_at h2).2 h3
   exact clash hx hnx (kindL hX hat hl)
  ·exact (h.b.sepH d cs e b id bl rb (p.box h1).1 h2 hX hat hl).symm
 have A3 : ∀ {b : Nat} {d : Nat} {cs e} {b2 : Nat}, (PartEnv E w ρ β φ).A0 b → X.boxes[d]? = some (Box.loc cs e) → β[d]? = some (some b2) → (∀ cs' e', φ.boxes[d]? ≠ some (Box.loc cs' e')) → b ≠ b2 := fun {b d cs e b2} hb hX hb2 hno => by
  rcases hb with ⟨id2, bl2, rb2, h1, h2, ⟨h3, h4⟩ | h3, rfl⟩ | ⟨d2, cs2, e2, h1, h2⟩
  ·exact h.b.sepH d cs e b2 id2 bl2 rb2 hX hb2 (p.blk h1) (take_at h2).2 h3
  ·obtain ⟨x, hx, hnx⟩ := kind (p.blk h1) (take_at h2).2 h3
   exact clash hx hnx (kindB hX hb2)
  ·have hne : d2 ≠ d := fun hh => hno cs2 e2 (hh ▸ h1)
   exact h.b.sepB d2 d cs2 e2 cs e b b2 hne (p.box h1).1 hX h2 hb2
 have new : ∀ {b}, ((PartEnv E w ρ β φ).A0 b ∨ (PartEnv E w ρ β φ).w0.heap.size ≤ b) → E.A0 b ∨ E.w0.heap.size ≤ b := fun {b} hb => by
  rcases hb with hb | hb
  ·exact A1 hb
  ·exact .inr (Nat.le_trans h.f.size hb)
 have restlt : ∀ {id : Nat} {bl rb}, X.heap[id]? = some bl → ρ.at id rb → bl.live = true → rb.b < w.heap.size := fun {id bl rb} h1 h2 h3 => (h.h.blk id bl rb h1 h2 h3).lt
 have boxlt : ∀ {d : Nat} {cs e} {b : Nat}, X.boxes[d]? = some (Box.loc cs e) → β[d]? = some (some b) → b < w.heap.size := fun {d cs e b} h1 h2 => by
  obtain ⟨b', ys, hb', hc, _⟩ := h.b.loc d cs e h1
  rw [h2] at hb'
  cases hb'
  exact aget_lt hc
 have frame : ∀ {b}, b < w.heap.size → ¬ (PartEnv E w ρ β φ).A0 b → w'.heap[b]? = w.heap[b]? := fun {b} h1 h2 => rf.block b h1 h2
 -- the boxes
 obtain ⟨β', hβl, hcl, hkeep, hXno⟩ : ∃ β' : List (Option Nat), β'.length = (joined o s X φ').boxes.length ∧
   (∀ (d : Nat) cs e, (joined o s X φ').boxes[d]? = some (.loc cs e) → (φ'.boxes[d]? = some (.loc cs e) ∧ β'[d]? = βr[d]?) ∨ (X.boxes[d]? = some (.loc cs e) ∧ β'[d]? = β[d]? ∧ ∀ cs' e', φ.boxes[d]? ≠ some (.loc cs' e'))) ∧
   (∀ (d : Nat) B, φ'.boxes[d]? = some B → B ≠ .no → (joined o s X φ').boxes[d]? = some B ∧ β'[d]? = βr[d]?) ∧
   (∀ (t : Nat) d off, X.tmps[t]? = some (.lp d off) → (joined o s X φ').boxes[d]? = X.boxes[d]? ∧ β'[d]? = β[d]?) := by
  rcases hbx with ⟨hm, d0, cs0, e0, hd, hd0, hb0, hX0, hno⟩ | ⟨hm, hb0⟩
  ·have hjb : (joined o s X φ').boxes = X.boxes.set d0 (.loc cs0 e0) := by
    simp [joined, merge, hm, hd, hb0, hd0]
   have hd0X : d0 < X.boxes.length := by rw [← p.blen]; exact hd0
   have hd0β : d0 < β.length := by rw [h.b.len]; exact hd0X
   refine ⟨β.set d0 (βr[d0]?.getD none), by rw [hjb]; simp [h.b.len], ?_, ?_, ?_⟩
   ·intro d cs e hd2
    rw [hjb] at hd2
    rcases set_get hd2 with ⟨rfl, he, _⟩ | ⟨hne, hd2⟩
    ·cases he
     refine .inl ⟨by rw [hb0]; exact set_same hd0, ?_⟩
     rw [set_same hd0β]
     have : d < βr.length := by rw [rb'.len, hb0]; simpa using hd0
     rw [List.getElem?_eq_getElem this]
     rfl
    ·rw [set_ne hne]
     cases hφd : φ.boxes[d]? with
     | none => exact .inr ⟨hd2, rfl, fun _ _ hh => by cases hh⟩
     | some B =>
      rcases p.boxes d B hφd with rfl | ⟨hB, _⟩
      ·exact .inr ⟨hd2, rfl, fun _ _ hh => by cases hh⟩
      ·rw [hd2] at hB
       cases hB
       exact .inl ⟨by rw [hb0, set_ne hne]; exact hφd, (hβ d fun _ hh => by rw [hd] at hh; cases hh; exact hne rfl).symm⟩
   ·intro d B hB hBn
    rw [hb0] at hB
    rw [hjb]
    rcases set_get hB with ⟨rfl, rfl, _⟩ | ⟨hne, hB⟩
    ·refine ⟨set_same hd0X, ?_⟩
     rw [set_same hd0β]
     have : d < βr.length := by rw [rb'.len, hb0]; simpa using hd0
     rw [List.getElem?_eq_getElem this]
     rfl
    ·rw [set_ne hne, set_ne hne]
     rcases p.boxes d B hB with rfl | ⟨hX, _⟩
     ·exact absurd rfl hBn
     ·exact ⟨hX, (hβ d fun _ hh => by rw [hd] at hh; cases hh; exact hne rfl).symm⟩
   ·intro t d off ht
    have hne : d ≠ d0 := by
     rintro rfl
     exact hno t off ht
    rw [hjb, set_ne hne, set_ne hne]
    exact ⟨rfl, rfl⟩
  ·have hjb : (joined o s X φ').boxes = X.boxes := by
    simp [joined, merge, hm]
   have hβ' : ∀ d, βr[d]? = β[d]? := fun d => hβ d fun hh => by rw [hm] at hh; cases hh
   refine ⟨β, by rw [hjb]; exact h.b.len, ?_, ?_, ?_⟩
   ·intro d cs e hd2
    rw [hjb] at hd2
    cases hφd : φ.boxes[d]? with
    | none => exact .inr ⟨hd2, rfl, fun _ _ hh => by cases hh⟩
    | some B =>
     rcases p.boxes d B hφd with rfl | ⟨hB, _⟩
     ·exact .inr ⟨hd2, rfl, fun _ _ hh => by cases hh⟩
     ·rw [hd2] at hB
      cases hB
      exact .inl ⟨by rw [hb0]; exact hφd, (hβ' d).symm⟩
   ·intro d B hB hBn
    rw [hb0] at hB
    rw [hjb]
    rcases p.boxes d B hB with rfl | ⟨hX, _⟩
    ·exact absurd rfl hBn
    ·exact ⟨hX, (hβ' d).symm⟩
   ·intro t d off ht
    rw [hjb]
    exact ⟨rfl, rfl⟩
 -- a slot of the part's is one of the whole's
 have slot' : ∀ {ρx : Rho}, ρr.le ρx → ∀ {y}, SlotR ρr βr φ'.boxes s y → SlotR ρx β' (joined o s X φ').boxes s y := fun {ρx} lex {y} hs => by
  cases s with
  | v x => exact VR.mono lex hs
  | dead => trivial
  | lp d off =>
   obtain ⟨B0, hB0, hne⟩ := hlp d off rfl
   obtain ⟨hj, hb⟩ := hkeep d B0 hB0 hne
   intro B hB
   rw [hj] at hB
   cases hB
   have := hs B0 hB0
   cases B0 with
   | no => trivial
   | loc cs e =>
    obtain ⟨b, h1, h2⟩ := this
    exact ⟨b, hb.trans h1, h2⟩
   | prom id =>
    obtain ⟨rb, h1, h2, h3⟩ := this
    exact ⟨rb, lex _ _ h1, h2, h3⟩
 have horel : ORel (ρr ++ ρ.drop φ'.heap.length : Rho) (joined o s X φ').heap w' := by
  have lt' : ∀ {id : Nat} {bl : Blk} {rb : RB} {ob : LObj}, X.heap[id]? = some bl → ρ.at id rb → bl.obj = some ob → rb.b < w.heap.size := fun {id bl rb ob} h1 h2 h3 => by
   obtain ⟨x, hx, _⟩ := kind h1 h2 (by rw [h3]; rfl)
   exact aget_lt hx
  refine ⟨fun id b rb ob hb hat ho => ?_, fun i j bi bj ri rj oi oj hij hi hj hri hrj hoi hoj => ?_⟩
  ·by_cases hid : id < φ'.heap.length
   ·obtain ⟨hl, x, hx, hox⟩ := rh.o.obj id b rb ob (hlo hb hid) (atlo hat hid) ho
    exact ⟨hl, x, hx, hox.mono le1⟩
   ·have hX := hhi hb (by omega)
    have hat' := athi hat (by omega)
    obtain ⟨hl, x, hx, hox⟩ := h.h.o.obj id b rb ob hX hat' ho
    exact ⟨hl, x, (frame (aget_lt hx) fun hA => A2o hA (by omega) hX hat' (by rw [ho]; rfl) rfl).trans hx, hox.mono le2⟩
  ·by_cases hid : i < φ'.heap.length
   ·by_cases hjd : j < φ'.heap.length
    ·exact rh.o.sep i j bi bj ri rj oi oj hij (hlo hi hid) (hlo hj hjd) (atlo hri hid) (atlo hrj hjd) hoi hoj
    ·have hXj := hhi hj (by omega)
     have hatj := athi hrj (by omega)
     rcases rn.wo i bi ri (by rw [hφh]; exact hlo hi hid) (atlo hri hid) (by rw [hoi]; rfl) with hA | hA
     ·exact A2o hA (by omega) hXj hatj (by rw [hoj]; rfl)
     ·have := lt' hXj hatj hoj
      have h2 : w.heap.size ≤ ri.b := hA
      omega
   ·have hXi := hhi hi (by omega)
    have hati := athi hri (by omega)
    by_cases hjd : j < φ'.heap.length
    ·rcases rn.wo j bj rj (by rw [hφh]; exact hlo hj hjd) (atlo hrj hjd) (by rw [hoj]; rfl) with hA | hA
     ·exact (A2o hA (by omega) hXi hati (by rw [hoi]; rfl)).symm
     ·have := lt' hXi hati hoi
      have h2 : w.heap.size ≤ rj.b := hA
      omega
    ·exact h.h.o.sep i j bi bj ri rj oi oj hij hXi (hhi hj (by omega)) hati (athi hrj (by omega)) hoi hoj
 refine ⟨ρr ++ ρ.drop φ'.heap.length, β', ⟨⟨?_, ?_, ?_, horel⟩, ⟨hβl, ?_, ?_, ?_⟩, ⟨?_, ?_⟩, ⟨rf.os.trans h.f.os, rf.tape.trans h.f.tape, rf.output.trans h.f.output, Nat.le_trans h.f.size rf.size, ?_⟩, ⟨?_, ?_, ?_, ?_, ?_, ?_⟩, ?_, ?_, ?_, h.g⟩, hi', fun id hid => (lo' id (by omega)).trans (lo id hid), ?_, ?_, ?_⟩
 ·simp [joined, hρr]; omega
 ·intro id b rb hb hat hl
  by_cases hid : id < φ'.heap.length
  ·exact (rh.blk id b rb (hlo hb hid) (atlo hat hid) hl).same le1 rfl
  ·have hX := hhi hb (by omega)
   have hat' := athi hat (by omega)
   refine (h.h.blk id b rb hX hat' hl).same le2 (frame (restlt hX hat' hl) fun hA => A2 hA (by omega) hX hat' hl rfl)
 ·intro i j bi bj ri rj hij hi hj hri hrj hli hlj hro
  by_cases hid : i < φ'.heap.length
  ·by_cases hjd : j < φ'.heap.length
   ·exact rh.sep i j bi bj ri rj hij (hlo hi hid) (hlo hj hjd) (atlo hri hid) (atlo hrj hjd) hli hlj hro
   ·have hXj := hhi hj (by omega)
    have hatj := athi hrj (by omega)
    rcases rn.wh i bi ri (by rw [hφh]; exact hlo hi hid) (atlo hri hid) hli hro with hA | hA
    ·exact A2 hA (by omega) hXj hatj hlj
    ·have := restlt hXj hatj hlj
     have h2 : w.heap.size ≤ ri.b := hA
     omega
  ·have hXi := hhi hi (by omega)
   have hati := athi hri (by omega)
   by_cases hjd : j < φ'.heap.length
   ·by_cases hj0 : j < φ.heap.length
    ·obtain ⟨b0, hb0, hl0⟩ := hold (hlo hj hjd) hlj hj0
     exact h.h.sep i j bi b0 ri rj hij hXi hb0 hati (atin (atlo hrj hjd) hj0) hli hl0 hro
    ·rcases rn.wn j rj (by exact Nat.le_of_not_lt hj0) (atlo hrj hjd) with hA | hA
     ·exact (A2 hA (by omega) hXi hati hli).symm
     ·have := restlt hXi hati hli
      have h2 : w.heap.size ≤ rj.b := hA
      omega
   ·exact h.h.sep i j bi bj ri rj hij hXi (hhi hj (by omega)) hati (athi hrj (by omega)) hli hlj hro
 ·intro d cs e hd
  rcases hcl d cs e hd with ⟨h1, h2⟩ | ⟨h1, h2, h3⟩
  ·obtain ⟨b, ys, hb, hc, hv, ho⟩ := rb'.loc d cs e h1
   exact ⟨b, ys, h2.trans hb, hc, hv.mono le1, ho⟩
  ·obtain ⟨b, ys, hb, hc, hv, ho⟩ := h.b.loc d cs e h1
   exact ⟨b, ys, h2.trans hb, (frame (aget_lt hc) fun hA => A3 hA h1 hb h3 rfl).trans hc, hv.mono le2, ho⟩
 ·intro d cs e b id bl rb hd hb hi hat hl
  rcases hcl d cs e hd with ⟨h1, h2⟩ | ⟨h1, h2, h3⟩
  ·rw [h2] at hb
   by_cases hid : id < φ'.heap.length
   ·exact rb'.sepH d cs e b id bl rb h1 hb (hlo hi hid) (atlo hat hid) hl
   ·have hX := hhi hi (by omega)
    have hat' := athi hat (by omega)
    rcases rn.wb d cs e b (by rw [hφb]; exact h1) hb with hA | hA
    ·exact (A2 hA (by omega) hX hat' hl).symm
    ·have := restlt hX hat' hl
     have h2 : w.heap.size ≤ b := hA
     omega
  ·rw [h2] at hb
   by_cases hid : id < φ'.heap.length
   ·by_cases hi0 : id < φ.heap.length
    ·obtain ⟨b0, hb0, hl0⟩ := hold (hlo hi hid) hl hi0
     exact h.b.sepH d cs e b id b0 rb h1 hb hb0 (atin (atlo hat hid) hi0) hl0
    ·rcases rn.wn id rb (by exact Nat.le_of_not_lt hi0) (atlo hat hid) with hA | hA
     ·exact A3 hA h1 hb h3
     ·have := boxlt h1 hb
      have h2 : w.heap.size ≤ rb.b := hA
      omega
   ·exact h.b.sepH d cs e b id bl rb h1 hb (hhi hi (by omega)) (athi hat (by omega)) hl
 ·intro d d' cs e cs' e' b b' hne hd hd' hb hb'
  rcases hcl d cs e hd with ⟨h1, h2⟩ | ⟨h1, h2, h3⟩
  ·rw [h2] at hb
   rcases hcl d' cs' e' hd' with ⟨k1, k2⟩ | ⟨k1, k2, k3⟩
   ·rw [k2] at hb'
    exact rb'.sepB d d' cs e cs' e' b b' hne h1 k1 hb hb'
   ·rw [k2] at hb'
    rcases rn.wb d cs e b (by rw [hφb]; exact h1) hb with hA | hA
    ·exact A3 hA k1 hb' k3
    ·have := boxlt k1 hb'
     have h2 : w.heap.size ≤ b := hA
     omega
  ·rw [h2] at hb
   rcases hcl d' cs' e' hd' with ⟨k1, k2⟩ | ⟨k1, k2, k3⟩
   ·rw [k2] at hb'
    rcases rn.wb d' cs' e' b' (by rw [hφb]; exact k1) hb' with hA | hA
    ·exact (A3 hA h1 hb h3).symm
    ·have := boxlt h1 hb
     have h2 : w.heap.size ≤ b' := hA
     omega
   ·rw [k2] at hb'
    exact h.b.sepB d d' cs e cs' e' b b' hne h1 k1 hb hb'
 ·obtain ⟨v, rfl⟩ := hput
  simp only [joined, merge]
  cases o.dst <;> simp [Act.put, h.t.1]
 ·intro t s' hs'
  obtain ⟨v, rfl⟩ := hput
  have old : ∀ {y}, X.tmps[t]? = some s' → SlotR ρ β X.boxes s' y → SlotR (ρr ++ ρ.drop φ'.heap.length) β' (joined o s X φ').boxes s' y := fun {y} hX hs => by
   cases s' with
   | v x => exact VR.mono le2 hs
   | dead => trivial
   | lp d off =>
    obtain ⟨hj, hb⟩ := hXno t d off hX
    intro B hB
    rw [hj] at hB
    have := hs B hB
    cases B with
    | no => trivial
    | loc cs e =>
     obtain ⟨b, h1, h2⟩ := this
     exact ⟨b, hb.trans h1, h2⟩
    | prom id =>
     obtain ⟨rb, h1, h2, h3⟩ := this
     exact ⟨rb, le2 _ _ h1, h2, h3⟩
  cases hdst : o.dst with
  | none =>
   simp only [joined, merge, hdst] at hs'
   obtain ⟨y, hy, hr'⟩ := h.t.2 t s' hs'
   exact ⟨y, by simpa [Act.put] using hy, old hs' hr'⟩
  | some d =>
   simp only [joined, merge, hdst] at hs'
   rcases set_get hs' with ⟨rfl, rfl, hlt⟩ | ⟨hne, hs'⟩
   ·have hφt : ((φ'.put o.dst s').tmps)[t]? = some s' := by
     have h1 := rt.1
     have hlt2 : t < φ'.tmps.length := by
      simp only [hdst, St.put, List.length_set, Act.put, Array.size_setIfInBounds] at h1
      rw [h1, ← h.t.1]; exact hlt
     simp only [hdst, St.put]
     exact set_same hlt2
    obtain ⟨y, hy, hr'⟩ := rt.2 t s' hφt
    rw [hdst] at hy
    exact ⟨y, hy, slot' le1 hr'⟩
   ·obtain ⟨y, hy, hr'⟩ := h.t.2 t s' hs'
    refine ⟨y, ?_, old hs' hr'⟩
    simp only [Act.put]
    rw [Array.getElem?_setIfInBounds_ne (Ne.symm hne)]
    exact hy
 ·intro b hb hA
  refine (frame (Nat.lt_of_lt_of_le hb h.f.size) fun hA' => ?_).trans (h.f.block b hb hA)
  rcases A1 hA' with hh | hh
  ·exact hA hh
  ·omega
 ·intro id bl rb hb hat hl hro
  by_cases hid : id < φ'.heap.length
  ·exact new (rn.wh id bl rb (by rw [hφh]; exact hlo hb hid) (atlo hat hid) hl hro)
  ·exact h.n.wh id bl rb (hhi hb (by omega)) (athi hat (by omega)) hl hro
 ·intro d cs e b hd hb
  rcases hcl d cs e hd with ⟨h1, h2⟩ | ⟨h1, h2, h3⟩
  ·rw [h2] at hb
   exact new (rn.wb d cs e b (by rw [hφb]; exact h1) hb)
  ·rw [h2] at hb
   exact h.n.wb d cs e b h1 hb
 ·intro id rb hid hat
  by_cases hi1 : id < φ'.heap.length
  ·by_cases hi0 : id < φ.heap.length
   ·exact h.n.wn id rb hid (atin (atlo hat hi1) hi0)
   ·exact new (rn.wn id rb (by exact Nat.le_of_not_lt hi0) (atlo hat hi1))
  ·exact h.n.wn id rb hid (athi hat (by omega))
 ·have := h.n.len
  simp only [joined, List.length_append, List.length_drop]
  omega
 ·intro id bl hid hb hl
  have hi0 : id < φ.heap.length := by omega
  obtain ⟨b0, hb0, hl0⟩ := hold (hlo hb (by omega)) hl hi0
  exact h.n.liv id b0 hid hb0 hl0
 ·intro id bl rb hb hat ho
  by_cases hid : id < φ'.heap.length
  ·exact new (rn.wo id bl rb (by rw [hφh]; exact hlo hb hid) (atlo hat hid) ho)
  ·exact h.n.wo id bl rb (hhi hb (by omega)) (athi hat (by omega)) ho
 ·exact hr.d
 ·have h1 : (joined o s X φ').boxes.length = X.boxes.length := by
   simp only [joined, merge]
   split <;> simp
  have h2 : (joined o s X φ').tmps.length = X.tmps.length := by
   simp only [joined, merge]
   cases o.dst <;> simp
  rw [h1, h2]; exact h.bl
 ·obtain ⟨l0, hl0⟩ := h.e
  refine ⟨l0.take (φ.heap.length - E.ρ0.length) ++ l ++ ρ.drop φ'.heap.length, ?_⟩
  rw [hl, hl0, List.take_append, List.take_of_length_le hE2]
  simp [List.append_assoc]
 ·intro d hd hlt
  have hφt : ((φ'.put o.dst s).tmps)[d]? = some s := by
   obtain ⟨v, rfl⟩ := hput
   have h1 := rt.1
   have hlt2 : d < φ'.tmps.length := by
    simp only [hd, St.put, List.length_set, Act.put, Array.size_setIfInBounds] at h1
    rw [h1, ← h.t.1]; exact hlt
   simp only [hd, St.put]
   exact set_same hlt2
  obtain ⟨y, hy, hr'⟩ := rt.2 d s hφt
  exact ⟨ρr, β', y, by omega, slot' (Rho.le.refl ρr) hr'⟩
 ·intro id b rb hb hat hl x hx
  rcases hl with hl | hl
  ·obtain ⟨cs, e, fr, _, _, h3, _⟩ := rh.blk id b rb hb (atlo hat (get_lt hb)) hl
   obtain ⟨i, hi⟩ := List.getElem?_of_mem hx
   obtain ⟨_, y, _, hv⟩ := h3 i x hi
   exact ⟨ρr, y, by omega, hv⟩
  ·cases ho : b.obj with
   | none => rw [ho] at hl; cases hl
   | some ob =>
    obtain ⟨_, z, _, hox⟩ := rh.o.obj id b rb ob hb (atlo hat (get_lt hb)) ho
    exact hox.sc (by omega) x hx
 ·intro d cs e hd x hx
  obtain ⟨b, ys, _, _, hv, _⟩ := rb'.loc d cs e hd
  obtain ⟨i, hi⟩ := List.getElem?_of_mem hx
  obtain ⟨y, _, hr'⟩ := hv.get hi
  exact ⟨ρr, y, by omega, hr'⟩
end
end Go.Pv
end
section
namespace Go.Pv
variable [Glob]
def GT (ops : Array Oper) (o : Oper) (st : St) : Prop :=
 o.guard = none ∨ ∃ j want g, o.guard = some (j, want) ∧ (ops[j]?).bind (·.dst) = some g ∧ st.tmps[g]? = some (.v (.bool want))
def GF (ops : Array Oper) (o : Oper) (st : St) : Prop :=
 ∃ j want g x, o.guard = some (j, want) ∧ (ops[j]?).bind (·.dst) = some g ∧ st.tmps[g]? = some (.v x) ∧ (x = .bool (!want) ∨ ∃ vs, x = .tuple vs)
theorem guardK_nat {ops : Array Oper} {o : Oper} {st : St} {R : Type} {run skip : St → Option R} {r : R} (e : guardK ops o st run skip = some r) : (GT ops o st ∧ run st = some r) ∨ (GF ops o st ∧ skip st = some r) := by
 unfold guardK at e
 split at e
 ·rename_i hg
  exact .inl ⟨.inl hg, e⟩
 ·rename_i j want hg
  obtain ⟨g, hj, e1⟩ := Option.bind_eq_some_iff.1 e
  obtain ⟨s, hs, e2⟩ := Option.bind_eq_some_iff.1 e1
  obtain ⟨x, hx, e3⟩ := Option.bind_eq_some_iff.1 e2
  have hsx := valS_eq hx
  subst hsx
  cases x with
  | bool b =>
   have hset := set_eq hs
   cases b <;> cases want <;> simp only [cond_true, cond_false, hset] at e3
   ·exact .inl ⟨.inr ⟨j, false, g, hg, hj, hs⟩, e3⟩
   ·exact .inr ⟨⟨j, true, g, _, hg, hj, hs, .inl rfl⟩, e3⟩
   ·exact .inr ⟨⟨j, false, g, _, hg, hj, hs, .inl rfl⟩, e3⟩
   ·exact .inl ⟨.inr ⟨j, true, g, hg, hj, hs⟩, e3⟩
  | tuple vs => exact .inr ⟨⟨j, want, g, _, hg, hj, hs, .inr ⟨vs, rfl⟩⟩, e3⟩
  | _ => cases e3
theorem GT.wanted {P : Program} {E : Env} {ρ : Rho} {β : List (Option Nat)} {st : St} {a : Act} {w : World} (h : Rel P E ρ β st a w) {ops : Array Oper} {o : Oper} (hg : GT ops o st) : Region.wanted o (yielded ops a.tmps) = true := by
 rcases hg with hg | ⟨j, want, g, hg, hj, hs⟩
 ·simp [Region.wanted, hg]
 ·obtain ⟨y, hy, hr⟩ := h.t.2 g _ hs
  cases hr
  simp [Region.wanted, hg, yielded, hj, hy]
theorem GF.wanted {P : Program} {E : Env} {ρ : Rho} {β : List (Option Nat)} {st : St} {a : Act} {w : World} (h : Rel P E ρ β st a w) {ops : Array Oper} {o : Oper} (hg : GF ops o st) : Region.wanted o (yielded ops a.tmps) = false := by
 obtain ⟨j, want, g, x, hg, hj, hs, hx⟩ := hg
 obtain ⟨y, hy, hr⟩ := h.t.2 g _ hs
 rcases hx with rfl | ⟨vs, rfl⟩
 ·cases hr
  cases want <;> simp [Region.wanted, hg, yielded, hj, hy]
 ·cases hr
  simp [Region.wanted, hg, yielded, hj, hy]
inductive Step (P : Program) (C : CallF) (ops : Array Oper) (ms : List Nat) (i : Nat) (o : Oper) (X : St) : Slot → St → Prop where
 | skipF (hf : frm ops ms i = true) (hg : GF ops o X) (hc : clearLp ops (i + 1) (X.put o.dst (.v undef)).tmps = true) : Step P C ops ms i o X (.v undef) (X.put o.dst (.v undef))
 | runF (s : Slot) (Y : St) (hf : frm ops ms i = true) (hg : GT ops o X) (he : evalOp P C false o X (fun s st => some (s, st)) = some (s, Y)) (hc : clearLp ops (i + 1) (Y.put o.dst s).tmps = true) : Step P C ops ms i o X s (Y.put o.dst s)
 | skip (hf : frm ops ms i = false) (hg : GF ops o X) : Step P C ops ms i o X (.v undef) (X.put o.dst (.v undef))
 | run (s : Slot) (φ : St) (hf : frm ops ms i = false) (hg : GT ops o X) (hok : floatOK o X (focus ops o X) = true) (he : evalOp P C true o (focus ops o X) (fun s st => some (s, st)) = some (s, φ)) (hl : lpOK ops ms i s = true) (hi : lpIn φ s = true) : Step P C ops ms i o X s (merge o s X φ)
structure Path (P : Program) (C : CallF) (ops : Array Oper) (ms : List Nat) (i : Nat) (σ : Nat → St) (s : Nat → Slot) : Prop where
 step : ∀ j o, i ≤ j → ops[j]? = some o → Step P C ops ms j o (σ j) (s j) (σ (j + 1))
theorem evalDraw_path {P : Program} {C : CallF} {ops : Array Oper} {ms : List Nat} {R : Type} {k : St → Option R} {r : R} : ∀ (l : List Oper) (i : Nat) {st : St}, ops.toList.drop i = l → i ≤ ops.size → evalDraw P C ops ms i l st k = some r → ∃ σ s, σ i = st ∧ k (σ ops.size) = some r ∧ Path P C ops ms i σ s
 | [], i, st, hl, hi, e => by
  have : i = ops.size := by
   have h := congrArg List.length hl
   simp at h
   omega
  subst this
  exact ⟨fun _ => st, fun _ => .dead, rfl, e, ⟨fun j o hj ho => by have := aget_lt ho; omega⟩⟩
 | o :: l, i, st, hl, hi, e => by
  have ho : ops[i]? = some o := by
   have : (ops.toList.drop i)[0]? = some o := by rw [hl]; rfl
   rw [List.getElem?_drop] at this
   simpa using this
  have hl' : ops.toList.drop (i + 1) = l := by
   rw [← List.drop_drop, hl]; rfl
  have hi' := aget_lt ho
  have key : ∀ (s0 : Slot) (X' : St), Step P C ops ms i o st s0 X' → evalDraw P C ops ms (i + 1) l X' k = some r → ∃ σ s, σ i = st ∧ k (σ ops.size) = some r ∧ Path P C ops ms i σ s := by
   intro s0 X' hstep e'
   obtain ⟨σ, s, h0, hk, hp⟩ := evalDraw_path l (i + 1) hl' (by omega) e'
   refine ⟨fun j => if j = i then st else σ j, fun j => if j = i then s0 else s j, by simp, ?_, ⟨fun j o' hj ho' => ?_⟩⟩
   ·have : ¬ ops.size = i := by omega
    simp only [if_neg this]; exact hk
   ·by_cases hji : j = i
    ·subst hji
     rw [ho] at ho'
     cases ho'
     have : ¬ j + 1 = j := by omega
     simp only [if_neg this, if_true, h0]
     exact hstep
    ·have : ¬ j + 1 = i := by omega
     simp only [if_neg hji, if_neg this]
     exact hp.step j o' (by omega) ho'
  simp only [evalDraw] at e
  cases hf : frm ops ms i with
  | true =>
   rw [hf] at e
   simp only [cond_true] at e
   rcases guardK_nat e with ⟨hg, e1⟩ | ⟨hg, e1⟩
   ·obtain ⟨s', st', e2, hsh⟩ := evalOp_shape e1
    obtain ⟨hc, e3⟩ := bif_some e2
    exact key _ _ (.runF s' st' hf hg (hsh.nat _) hc) e3
   ·obtain ⟨hc, e3⟩ := bif_some e1
    exact key _ _ (.skipF hf hg hc) e3
  | false =>
   rw [hf] at e
   simp only [cond_false] at e
   rcases guardK_nat e with ⟨hg, e1⟩ | ⟨hg, e1⟩
   ·obtain ⟨hok, e2⟩ := bif_some e1
    obtain ⟨s', st', e3, hsh⟩ := evalOp_shape e2
    obtain ⟨hc, e4⟩ := bif_some e3
    obtain ⟨h1, h2⟩ := Bool.and_eq_true_iff.1 hc
    exact key _ _ (.run s' st' hf hg hok (hsh.nat _) h1 h2) e4
   ·exact key _ _ (.skip hf hg) e1
theorem behind_lt {ops : Array Oper} {ms : List Nat} (h : drawOK ops ms = true) {k j : Nat} (hk : k < ops.size) (hb : behind ms k j = true) : j < k := by
 unfold drawOK at h
 have := List.all_eq_true.1 h k (List.mem_range.2 hk)
 obtain ⟨h1, _⟩ := Bool.and_eq_true_iff.1 this
 have h1 : ms.getD k 0 < 2 ^ k := Nat.le_of_ble_eq_true h1
 rcases Nat.lt_or_ge j k with h' | h'
 ·exact h'
 ·unfold behind at hb
  have : ms.getD k 0 < 2 ^ j := Nat.lt_of_lt_of_le h1 (Nat.pow_le_pow_right (by omega) h')
  rw [Nat.testBit_lt_two_pow this] at hb
  cases hb
theorem testBit_maskOf {ms : List Nat} {o : Oper} {j : Nat} (h : Nat.testBit (maskOf ms o) j = true) : ∃ e ∈ o.after, Region.binds .any e = true ∧ (e.on = j ∨ Nat.testBit (ms.getD e.on 0) j = true) := by
 unfold maskOf at h
 have key : ∀ (l : List Edge) (m : Nat), Nat.testBit (l.foldl (fun m e => bif Region.binds .any e then Nat.lor m (Nat.lor (2 ^ e.on) (ms.getD e.on 0)) else m) m) j = true → Nat.testBit m j = true ∨ ∃ e ∈ l, Region.binds .any e = true ∧ (e.on = j ∨ Nat.testBit (ms.getD e.on 0) j = true) := by
  intro l
  induction l with
  | nil => intro m h; exact .inl h
  | cons e l ih =>
   intro m h
   simp only [List.foldl_cons] at h
   rcases ih _ h with h | ⟨e', he', hb⟩
   ·cases hb : Region.binds .any e with
    | false => rw [hb] at h; exact .inl h
    | true =>
     rw [hb] at h
     simp only [cond_true] at h
     change (m ||| (2 ^ e.on ||| ms.getD e.on 0)).testBit j = true at h
     rw [Nat.testBit_or, Nat.testBit_or, Nat.testBit_two_pow, Bool.or_eq_true, Bool.or_eq_true, decide_eq_true_iff] at h
     rcases h with h | h | h
     ·exact .inl h
     ·exact .inr ⟨e, .head _, hb, .inl h⟩
     ·exact .inr ⟨e, .head _, hb, .inr h⟩
   ·exact .inr ⟨e', .tail _ he', hb⟩
 rcases key _ _ h with h | ⟨e, he, hb⟩
 ·simp at h
 ·exact ⟨e, by simpa using he, hb⟩
theorem maskOf_bit {ms : List Nat} {o : Oper} {e : Edge} (he : e ∈ o.after) (hb : Region.binds .any e = true) : Nat.testBit (maskOf ms o) e.on = true := by
 unfold maskOf
 have mono : ∀ (l : List Edge) (m j : Nat), Nat.testBit m j = true → Nat.testBit (l.foldl (fun m e => bif Region.binds .any e then Nat.lor m (Nat.lor (2 ^ e.on) (ms.getD e.on 0)) else m) m) j = true := by
  intro l
  induction l with
  | nil => intro m j h; exact h
  | cons x l ih =>
   intro m j h
   simp only [List.foldl_cons]
   refine ih _ j ?_
   cases Region.binds .any x with
   | false => exact h
   | true =>
    change (m ||| (2 ^ x.on ||| ms.getD x.on 0)).testBit j = true
    rw [Nat.testBit_or, h, Bool.true_or]
 have key : ∀ (l : List Edge) (m : Nat), e ∈ l → Nat.testBit (l.foldl (fun m e => bif Region.binds .any e then Nat.lor m (Nat.lor (2 ^ e.on) (ms.getD e.on 0)) else m) m) e.on = true := by
  intro l
  induction l with
  | nil => intro m h; cases h
  | cons x l ih =>
   intro m h
   simp only [List.foldl_cons]
   rcases List.mem_cons.1 h with rfl | h
   ·refine mono l _ _ ?_
    rw [hb]
    change (m ||| (2 ^ e.on ||| ms.getD e.on 0)).testBit e.on = true
    rw [Nat.testBit_or, Nat.testBit_or, Nat.testBit_two_pow_self, Bool.true_or, Bool.or_true]
   ·exact ih _ h
 exact key _ 0 (by simpa using he)
theorem masksOf_get : ∀ (l : List Oper) (ms : List Nat), (∀ k, k < ms.length → (masksOf l ms)[k]? = ms[k]?) ∧ ∀ k o, l[k]? = some o → ∃ ms', (masksOf l ms)[ms.length + k]? = some (maskOf ms' o) ∧ ∀ q, ms'.getD q 0 ≠ 0 → (masksOf l ms).getD q 0 = ms'.getD q 0
 | [], ms => ⟨fun k _ => rfl, fun k o h => by simp at h⟩
 | x :: l, ms => by
  obtain ⟨h1, h2⟩ := masksOf_get l (ms ++ [maskOf ms x])
  simp only [masksOf]
  have hp : ∀ k, k < ms.length → (masksOf l (ms ++ [maskOf ms x]))[k]? = ms[k]? := by
   intro k hk
   rw [h1 k (by simp; omega), List.getElem?_append_left hk]
  refine ⟨hp, fun k o h => ?_⟩
  cases k with
  | zero =>
   cases h
   refine ⟨ms, ?_, fun q hq => ?_⟩
   ·rw [Nat.add_zero, h1 ms.length (by simp)]
    simp
   ·have hlt : q < ms.length := by
     rcases Nat.lt_or_ge q ms.length with h | h
     ·exact h
     ·simp [List.getD_eq_getElem?_getD, List.getElem?_eq_none h] at hq
    rw [List.getD_eq_getElem?_getD, List.getD_eq_getElem?_getD, hp q hlt]
  | succ k =>
   obtain ⟨ms', h3, h4⟩ := h2 k o (by simpa using h)
   exact ⟨ms', by rw [← h3]; congr 1; simp; omega, h4⟩
theorem behind_closed {ops : Array Oper} (hd : drawOK ops (masksOf ops.toList []) = true) {D : Nat → Prop} (hD : ∀ i o, ops[i]? = some o → D i → ∀ e ∈ o.after, Region.binds .any e = true → D e.on) : ∀ (i : Nat) j o, ops[i]? = some o → (∀ e ∈ o.after, Region.binds .any e = true → D e.on) → behind (masksOf ops.toList []) i j = true → D j := by
 intro i
 induction i using Nat.strongRecOn with
 | _ i ih =>
  intro j o ho hDi hb
  obtain ⟨ms', h1, h2⟩ := (masksOf_get ops.toList []).2 i o (by simpa using ho)
  simp only [List.length_nil, Nat.zero_add] at h1
  unfold behind at hb
  rw [List.getD_eq_getElem?_getD, h1] at hb
  simp only [Option.getD_some] at hb
  obtain ⟨e, he, hbd, hh⟩ := testBit_maskOf hb
  rcases hh with rfl | hh
  ·exact hDi e he hbd
  ·have hDe := hDi e he hbd
   have hne : ms'.getD e.on 0 ≠ 0 := by
    intro h0
    rw [h0] at hh
    simp at hh
   have hb2 : behind (masksOf ops.toList []) e.on j = true := by
    unfold behind
    rw [h2 _ hne]; exact hh
   have hlt : e.on < i := by
    have : behind (masksOf ops.toList []) i e.on = true := by
     unfold behind
     rw [List.getD_eq_getElem?_getD, h1]
     exact maskOf_bit he hbd
    exact behind_lt hd (aget_lt ho) this
   have hlt2 : e.on < ops.size := by have := aget_lt ho; omega
   exact ih e.on hlt j ops[e.on] (Array.getElem?_eq_getElem hlt2) (hD e.on _ (Array.getElem?_eq_getElem hlt2) hDe) hb2
end Go.Pv
end
section
namespace Go.Pv
variable [Glob]
section
variable {P : Program} {C : CallF} {ops : Array Oper} {σ : Nat → St} {sl : Nat → Slot} {m e : Nat}
abbrev mks (ops : Array Oper) : List Nat := masksOf ops.toList []
theorem firm_spec {i j : Nat} (h : firm (mks ops) ops.size i = true) (hj : j < ops.size) : (j < i → behind (mks ops) i j = true) ∧ (i < j → behind (mks ops) j i = true) := by
 unfold firm at h
 have := List.all_eq_true.1 h j (List.mem_range.2 hj)
 cases hb : Nat.blt j i with
 | true =>
  rw [hb] at this
  have hlt : j < i := Nat.le_of_ble_eq_true hb
  exact ⟨fun _ => this, fun h => by omega⟩
 | false =>
  rw [hb] at this
  have hge : ¬ j < i := fun hh => by
   have : Nat.blt j i = true := Nat.ble_eq_true_of_le hh
   rw [hb] at this; cases this
  refine ⟨fun h => absurd h hge, fun hij => ?_⟩
  simp only [cond_false, Bool.or_eq_true] at this
  rcases this with hh | hh
  ·have := Nat.eq_of_beq_eq_true hh
   omega
  ·exact hh
theorem semi_spec {e : Nat} (h : semi ops (mks ops) e = true) : ∃ o, ops[e]? = some o ∧ isStore o = true ∧
  (∀ j, j < e → behind (mks ops) e j = true ∨ ∃ p d, ops[j]? = some p ∧ pureT ops p = true ∧ p.dst = some d ∧ d ∉ o.looksAt ops) ∧
  ∀ j, e < j → j < ops.size → behind (mks ops) j e = true ∧ ∀ l, l < e → behind (mks ops) e l = true ∨ behind (mks ops) j l = true := by
 unfold semi at h
 split at h
 ·rename_i o ho
  simp only [Bool.and_eq_true] at h
  obtain ⟨h1, h2⟩ := h
  refine ⟨o, ho, h1, fun j hj => ?_, fun j hj hjs => ?_⟩
  ·have := List.all_eq_true.1 h2 j (List.mem_range.2 (by have := aget_lt ho; omega))
   have hb : Nat.blt j e = true := Nat.ble_eq_true_of_le hj
   have hne : Nat.beq j e = false := Bool.eq_false_iff.2 fun hh => by have := Nat.eq_of_beq_eq_true hh; omega
   rw [hne, hb] at this
   simp only [Bool.false_or, cond_true, Bool.or_eq_true] at this
   rcases this with hh | hh
   ·exact .inl hh
   ·right
    split at hh
    ·rename_i p hp
     simp only [Bool.and_eq_true] at hh
     obtain ⟨h3, h4⟩ := hh
     split at h4
     ·rename_i d hd
      refine ⟨p, d, hp, h3, hd, fun hm => ?_⟩
      rw [List.elem_eq_true_of_mem hm] at h4
      cases h4
     ·cases h4
    ·cases hh
  ·have := List.all_eq_true.1 h2 j (List.mem_range.2 hjs)
   have hb : Nat.blt j e = false := Bool.eq_false_iff.2 fun hh => by have : j < e := Nat.le_of_ble_eq_true hh; omega
   have hne : Nat.beq j e = false := Bool.eq_false_iff.2 fun hh => by have := Nat.eq_of_beq_eq_true hh; omega
   rw [hne, hb] at this
   simp only [Bool.false_or, cond_false, Bool.and_eq_true] at this
   refine ⟨this.1, fun l hl => ?_⟩
   have := List.all_eq_true.1 this.2 l (List.mem_range.2 hl)
   simpa using this
 ·cases h
theorem frm_behind {i j : Nat} (h : frm ops (mks ops) i = true) (hj : j < ops.size) (hij : i < j) : behind (mks ops) j i = true := by
 unfold frm at h
 rcases Bool.or_eq_true_iff.1 h with h | h
 ·exact (firm_spec h hj).2 hij
 ·obtain ⟨_, _, _, _, h2⟩ := semi_spec h
  exact (h2 j hij hj).1
theorem frm_semi {i : Nat} (h : frm ops (mks ops) i = true) (hn : ∃ j, j < i ∧ j < ops.size ∧ behind (mks ops) i j = false) : semi ops (mks ops) i = true := by
 unfold frm at h
 rcases Bool.or_eq_true_iff.1 h with h | h
 ·obtain ⟨j, h1, h2, h3⟩ := hn
  rw [(firm_spec h h2).1 h1] at h3
  cases h3
 ·exact h
theorem pair_spec (hd : drawOK ops (mks ops) = true) {i k : Nat} {x y : Oper} (hik : i < k) (hx : ops[i]? = some x) (hy : ops[k]? = some y) (fi : frm ops (mks ops) i = false) (fk : frm ops (mks ops) k = false) :
  (∀ d, x.dst = some d → y.dst ≠ some d ∧ (behind (mks ops) k i = true ∨ d ∉ y.looksAt ops)) ∧ ∀ d, y.dst = some d → d ∉ x.looksAt ops := by
 unfold drawOK at hd
 have h1 := List.all_eq_true.1 hd k (List.mem_range.2 (aget_lt hy))
 rw [fk, Bool.false_or] at h1
 have h2 := List.all_eq_true.1 (Bool.and_eq_true_iff.1 h1).2 i (List.mem_range.2 hik)
 rw [fi, Bool.false_or] at h2
 simp only [pairOK, hx, hy, Bool.and_eq_true] at h2
 constructor
 ·intro d hd
  have := h2.1
  rw [hd] at this
  simp only [Bool.and_eq_true, Bool.or_eq_true] at this
  refine ⟨by simpa using this.1, this.2.imp id fun hh => by simpa using hh⟩
 ·intro d hd
  have := h2.2
  rw [hd] at this
  simpa using this
def Mk (ops : Array Oper) (σ : Nat → St) (i d : Nat) : Prop :=
 ∃ o cs el, ops[i]? = some o ∧ makes o.op = true ∧ o.dst = some d ∧ d < (σ i).boxes.length ∧ (σ i).boxes[d]? = some .no ∧ (σ (i + 1)).boxes = (σ i).boxes.set d (.loc cs el)
theorem Mk.al {i d : Nat} (h : Mk ops σ i d) : isAl ops i d = true := by
 obtain ⟨o, cs, el, ho, hm, hd, _⟩ := h
 simp [isAl, ho, hm, hd]
structure FF (ops : Array Oper) (σ : Nat → St) (sl : Nat → Slot) (i : Nat) (o : Oper) : Prop where
 tmps : (σ (i + 1)).tmps = match o.dst with
  | some d => (σ i).tmps.set d (sl i)
  | none => (σ i).tmps
 heap : ∃ l, (σ (i + 1)).heap = (σ i).heap ++ l
 boxes : (∃ d, Mk ops σ i d) ∨ (σ (i + 1)).boxes = (σ i).boxes
theorem focT_length (keep : List Nat) : ∀ (l : List Slot) (i : Nat), (focT keep i l).length = l.length
 | [], _ => rfl
 | _ :: r, i => by simp [focT, focT_length keep r (i + 1)]
theorem focB_length (keep : List Nat) : ∀ (l : List Box) (i : Nat), (focB keep i l).length = l.length
 | [], _ => rfl
 | _ :: r, i => by simp [focB, focB_length keep r (i + 1)]
theorem focT_get {keep : List Nat} : ∀ (l : List Slot) (i t : Nat) {s : Slot}, (focT keep i l)[t]? = some s → s = .dead ∨ (i + t ∈ keep ∧ l[t]? = some s)
 | [], i, t, s, h => by simp [focT] at h
 | x :: r, i, 0, s, h => by
  simp only [focT, List.getElem?_cons_zero, Option.some.injEq] at h
  cases hk : keep.elem i with
  | true =>
   rw [hk] at h
   exact .inr ⟨by simpa using hk, by simpa using h⟩
  | false => rw [hk] at h; exact .inl h.symm
 | x :: r, i, t + 1, s, h => by
  simp only [focT, List.getElem?_cons_succ] at h
  rcases focT_get r (i + 1) t h with h | ⟨h1, h2⟩
  ·exact .inl h
  ·exact .inr ⟨by rw [show i + (t + 1) = i + 1 + t by omega]; exact h1, by simpa using h2⟩
theorem focB_get {keep : List Nat} : ∀ (l : List Box) (i t : Nat) {s : Box}, (focB keep i l)[t]? = some s → s = .no ∨ (i + t ∈ keep ∧ l[t]? = some s)
 | [], i, t, s, h => by simp [focB] at h
 | x :: r, i, 0, s, h => by
  simp only [focB, List.getElem?_cons_zero, Option.some.injEq] at h
  cases hk : keep.elem i with
  | true =>
   rw [hk] at h
   exact .inr ⟨by simpa using hk, by simpa using h⟩
  | false => rw [hk] at h; exact .inl h.symm
 | x :: r, i, t + 1, s, h => by
  simp only [focB, List.getElem?_cons_succ] at h
  rcases focB_get r (i + 1) t h with h | ⟨h1, h2⟩
  ·exact .inl h
  ·exact .inr ⟨by rw [show i + (t + 1) = i + 1 + t by omega]; exact h1, by simpa using h2⟩
theorem mem_lpsOf : ∀ {l : List Slot} {d : Nat}, d ∈ lpsOf l → ∃ (t off : Nat), l[t]? = some (.lp d off)
 | .v x :: r, d, h => by
  obtain ⟨t, off, h⟩ := mem_lpsOf (l := r) h
  exact ⟨t + 1, off, by simpa using h⟩
 | .dead :: r, d, h => by
  obtain ⟨t, off, h⟩ := mem_lpsOf (l := r) h
  exact ⟨t + 1, off, by simpa using h⟩
 | .lp d' off' :: r, d, h => by
  simp only [lpsOf, List.mem_cons] at h
  rcases h with rfl | h
  ·exact ⟨0, off', rfl⟩
  ·obtain ⟨t, off, h⟩ := mem_lpsOf h
   exact ⟨t + 1, off, by simpa using h⟩
theorem run_keep {i : Nat} {o : Oper} {X φ : St} {s : Slot} (hok : floatOK o X (focus ops o X) = true) (he : evalOp P C true o (focus ops o X) (fun s st => some (s, st)) = some (s, φ)) :
  Keep o (focus ops o X) φ ∧ (makes o.op = true → ∃ d, o.dst = some d ∧ X.boxes[d]? = some .no) := by
 unfold floatOK at hok
 simp only [Bool.and_eq_true, Bool.or_eq_true, Bool.not_eq_true'] at hok
 obtain ⟨⟨h1, h2⟩, h3⟩ := hok
 obtain ⟨s', φ', h4, hsh⟩ := evalOp_shape he
 cases h4
 refine ⟨hsh.keep h1 rfl (h2.imp id fun hh => by simpa using hh), fun hm => ?_⟩
 rcases h3 with h3 | h3
 ·rw [hm] at h3; cases h3
 ·cases hd : o.dst with
  | none => rw [hd] at h3; cases h3
  | some d =>
   rw [hd] at h3
   refine ⟨d, rfl, ?_⟩
   simp only [Option.bind_some, isNo] at h3
   split at h3
   ·assumption
   ·cases h3
theorem Path.ff (hp : Path P C ops (mks ops) 0 σ sl) {i : Nat} {o : Oper} (ho : ops[i]? = some o) (hf : frm ops (mks ops) i = false) : FF ops σ sl i o := by
 have hst := hp.step i o (Nat.zero_le _) ho
 generalize hX' : σ (i + 1) = X' at hst
 generalize hs : sl i = s at hst
 cases hst with
 | skipF hf' => rw [hf] at hf'; cases hf'
 | runF s Y hf' => rw [hf] at hf'; cases hf'
 | skip _ hg =>
  refine ⟨?_, ⟨[], ?_⟩, .inr ?_⟩ <;> rw [hX']
  ·rw [hs]; cases o.dst <;> rfl
  ·cases o.dst <;> simp [St.put]
  ·cases o.dst <;> rfl
 | run s φ _ hg hok he hl hi =>
  obtain ⟨⟨⟨l, hl'⟩, hb⟩, hm⟩ := run_keep (i := i) hok he
  refine ⟨?_, ⟨l, ?_⟩, ?_⟩
  ·rw [hX', hs]; rfl
  ·rw [hX']; exact hl'
  ·rcases hb with ⟨hmk, d, cs, el, hd, hlt, hbx⟩ | ⟨hmk, hbx⟩
   ·obtain ⟨d', hd', hno⟩ := hm hmk
    rw [hd] at hd'
    cases hd'
    refine .inl ⟨d, o, cs, el, ho, hmk, hd, get_lt hno, hno, ?_⟩
    rw [hX']
    simp only [merge, hmk, hd, hbx]
    simp [hlt]
   ·right
    rw [hX']
    simp only [merge, hmk]
structure Seg (ops : Array Oper) (m e : Nat) : Prop where
 le : m ≤ e
 top : e ≤ ops.size
 soft : ∀ i, m ≤ i → i < e → frm ops (mks ops) i = false
variable (hp : Path P C ops (mks ops) 0 σ sl) (hs : Seg ops m e)
 include hp hs
theorem seg_tmps {i t : Nat} (hi : m ≤ i) : ∀ {i' : Nat}, i ≤ i' → i' ≤ e → (∀ k o, i ≤ k → k < i' → ops[k]? = some o → o.dst ≠ some t) → (σ i').tmps[t]? = (σ i).tmps[t]? := by
  intro i' hle
  induction hle with
  | refl => intro _ _; rfl
  | @step k hk ih =>
    have hk : i ≤ k := hk
    intro he hn
    have hlt : k < ops.size := by have := hs.top; omega
    have ff := hp.ff (Array.getElem?_eq_getElem hlt) (hs.soft k (by omega) (by omega))
    rw [ff.tmps, ← ih (by omega) fun k' o h1 h2 => hn k' o h1 (by omega)]
    have := hn k ops[k] hk (by omega) (Array.getElem?_eq_getElem hlt)
    cases hd : ops[k].dst with
    | none => rfl
    | some d =>
      simp only
      rw [set_ne]
      rintro rfl
      exact this hd
theorem seg_tlen {i : Nat} (hi : m ≤ i) : ∀ {i' : Nat}, i ≤ i' → i' ≤ e → (σ i').tmps.length = (σ i).tmps.length := by
 intro i' hle
 induction hle with
 | refl => intro _; rfl
 | @step k hk ih =>
  have hk : i ≤ k := hk
  intro he
  have hlt : k < ops.size := by have := hs.top; omega
  have ff := hp.ff (Array.getElem?_eq_getElem hlt) (hs.soft k (by omega) (by omega))
  rw [ff.tmps, ← ih (by omega)]
  cases ops[k].dst <;> simp
theorem seg_boxes {i d : Nat} (hi : m ≤ i) : ∀ {i' : Nat}, i ≤ i' → i' ≤ e → (∀ k, i ≤ k → k < i' → ¬ Mk ops σ k d) → (σ i').boxes[d]? = (σ i).boxes[d]? := by
 intro i' hle
 induction hle with
 | refl => intro _ _; rfl
 | @step k hk ih =>
  have hk : i ≤ k := hk
  intro he hn
  have hlt : k < ops.size := by have := hs.top; omega
  have ff := hp.ff (Array.getElem?_eq_getElem hlt) (hs.soft k (by omega) (by omega))
  rw [← ih (by omega) fun k' h1 h2 => hn k' h1 (by omega)]
  rcases ff.boxes with ⟨d', hm⟩ | hb
  ·have hne : d ≠ d' := by
    rintro rfl
    exact hn k hk (by omega) hm
   obtain ⟨_, _, _, _, _, _, _, _, hb⟩ := hm
   rw [hb, set_ne hne]
  ·rw [hb]
theorem seg_blen {i : Nat} (hi : m ≤ i) : ∀ {i' : Nat}, i ≤ i' → i' ≤ e → (σ i').boxes.length = (σ i).boxes.length := by
 intro i' hle
 induction hle with
 | refl => intro _; rfl
 | @step k hk ih =>
  have hk : i ≤ k := hk
  intro he
  have hlt : k < ops.size := by have := hs.top; omega
  have ff := hp.ff (Array.getElem?_eq_getElem hlt) (hs.soft k (by omega) (by omega))
  rw [← ih (by omega)]
  rcases ff.boxes with ⟨d', _, _, _, _, _, _, _, _, hb⟩ | hb <;> rw [hb]
  simp
theorem seg_heap {i : Nat} (hi : m ≤ i) : ∀ {i' : Nat}, i ≤ i' → i' ≤ e → ∃ l, (σ i').heap = (σ i).heap ++ l := by
 intro i' hle
 induction hle with
 | refl => intro _; exact ⟨[], by simp⟩
 | @step k hk ih =>
  have hk : i ≤ k := hk
  intro he
  have hlt : k < ops.size := by have := hs.top; omega
  have ff := hp.ff (Array.getElem?_eq_getElem hlt) (hs.soft k (by omega) (by omega))
  obtain ⟨l, hl⟩ := ih (by omega)
  obtain ⟨l', hl'⟩ := ff.heap
  exact ⟨l ++ l', by rw [hl', hl, List.append_assoc]⟩
theorem seg_hlen {i i' : Nat} (hi : m ≤ i) (h1 : i ≤ i') (h2 : i' ≤ e) : (σ i).heap.length ≤ (σ i').heap.length := by
 obtain ⟨l, hl⟩ := seg_heap hp hs hi h1 h2
 rw [hl]; simp
theorem seg_mk {k d : Nat} (h1 : m ≤ k) (h2 : k < e) (hk : Mk ops σ k d) (hd : drawOK ops (mks ops) = true) : (∀ i, m ≤ i → i ≤ k → (σ i).boxes[d]? = some .no) ∧ ∀ k', m ≤ k' → k' < e → Mk ops σ k' d → k' = k := by
 obtain ⟨o, cs, el, ho, hm, hdst, hlt, hno, hb⟩ := hk
 have uniq : ∀ k', m ≤ k' → k' < e → Mk ops σ k' d → k' = k := by
  rintro k' h1' h2' ⟨o', _, _, ho', _, hdst', _⟩
  rcases Nat.lt_trichotomy k' k with h | h | h
  ·exact absurd hdst ((pair_spec hd h ho' ho (hs.soft k' h1' h2') (hs.soft k h1 h2)).1 d hdst').1
  ·exact h
  ·exact absurd hdst' ((pair_spec hd h ho ho' (hs.soft k h1 h2) (hs.soft k' h1' h2')).1 d hdst).1
 refine ⟨fun i hi hik => ?_, uniq⟩
 rw [← seg_boxes hp hs hi hik (by omega) (d := d) fun q hq1 hq2 hM => ?_]
 ·exact hno
 ·have := uniq q (by omega) (by omega) hM
  omega
end
end Go.Pv
end

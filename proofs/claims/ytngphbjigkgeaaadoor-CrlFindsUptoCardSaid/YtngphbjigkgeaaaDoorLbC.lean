/- The evaluator of the program's form and its soundness against the model; what trees stand for. Parts: EvDraw3, EvDraw4, EvDraw5, EvX, EvX2, EvX3, EvX4, EvX5, EvX6, EvX7. -/
import Derived.RangeFuncRecord
import Derived.RecoverIn
import Derived.Scope
import Derived.Test.YtngphbjigkgeaaaDoorLbB
set_option linter.unusedVariables false
set_option linter.unusedSimpArgs false
set_option linter.unusedSectionVars false
section
namespace Go.Pv
variable [Glob]
section
variable {P : Program} {C : CallF} {ops : Array Oper} {σ : Nat → St} {sl : Nat → Slot} {m e : Nat}
structure DInv (P : Program) (ops : Array Oper) (σ : Nat → St) (sl : Nat → Slot) (m e : Nat) (E : Env) (D : Nat → Prop) (ρ : Rho) (β : List (Option Nat)) (X : St) (a : Act) (w : World) : Prop where
 rel : Rel P E ρ β X a w
 heap : X.heap = (σ e).heap
 hole : ∀ k, m ≤ k → k < e → ¬ D k → ∀ id : Nat, (σ k).heap.length ≤ id → id < (σ (k + 1)).heap.length → ρ[id]? = some none
 tin : ∀ k o t, m ≤ k → k < e → D k → ops[k]? = some o → o.dst = some t → X.tmps[t]? = (σ (k + 1)).tmps[t]?
 tout : ∀ t : Nat, (∀ k o, m ≤ k → k < e → D k → ops[k]? = some o → o.dst ≠ some t) → X.tmps[t]? = (σ m).tmps[t]?
 tlen : X.tmps.length = (σ m).tmps.length
 bno : ∀ k d, m ≤ k → k < e → ¬ D k → Mk ops σ k d → X.boxes[d]? = some .no
 byes : ∀ d : Nat, (∀ k, m ≤ k → k < e → ¬ D k → ¬ Mk ops σ k d) → X.boxes[d]? = (σ e).boxes[d]?
 blen : X.boxes.length = (σ e).boxes.length
 scm : ∀ (t : Nat) s, (σ m).tmps[t]? = some s → ScS (σ m).heap.length (σ e).boxes s
 sck : ∀ k o t, m ≤ k → k < e → D k → ops[k]? = some o → o.dst = some t → t < X.tmps.length → ScS (σ (k + 1)).heap.length (σ e).boxes (sl k)
 scb : ∀ (d : Nat) cs el, X.boxes[d]? = some (.loc cs el) → ∀ i, m ≤ i → i ≤ e → (∀ k, i ≤ k → k < e → ¬ Mk ops σ k d) → ∀ x ∈ cs, Sc (σ i).heap.length x
 sch : ∀ i, m ≤ i → i ≤ e → ∀ (id : Nat) b rb, (σ i).heap[id]? = some b → ρ.at id rb → (b.live = true ∨ b.obj.isSome = true) → ∀ x ∈ b.cells, Sc (σ i).heap.length x
 hE : E.h0.length ≤ (σ m).heap.length
 hE2 : E.ρ0.length ≤ (σ m).heap.length
theorem Sc.mono {n n' : Nat} (h : n ≤ n') {x : Value} : Sc n x → Sc n' x := fun ⟨ρ0, y0, h1, h2⟩ => ⟨ρ0, y0, by omega, h2⟩
theorem ScS.mono {n n' : Nat} (h : n ≤ n') {bx : List Box} {s : Slot} : ScS n bx s → ScS n' bx s := fun ⟨ρ0, β0, y0, h1, h2⟩ => ⟨ρ0, β0, y0, by omega, h2⟩
theorem ScS.boxes {n : Nat} {bx bx' : List Box} {s : Slot} (h : ScS n bx s) (hb : ∀ d off, s = .lp d off → ∀ B, bx'[d]? = some B → B = .no ∨ bx[d]? = some B) : ScS n bx' s := by
 obtain ⟨ρ0, β0, y0, h1, h2⟩ := h
 refine ⟨ρ0, β0, y0, h1, ?_⟩
 cases s with
 | v x => exact h2
 | dead => trivial
 | lp d off =>
  intro B hB
  rcases hb d off rfl B hB with rfl | hB'
  ·trivial
  ·exact h2 B hB'
theorem clearLp_spec {k m : Nat} {l : List Slot} (h : clearLp ops m l = true) {t d off : Nat} (ht : l[t]? = some (.lp d off)) (hk : isAl ops k d = true) : k < m := by
 unfold clearLp at h
 have h1 := List.all_eq_true.1 h _ (List.mem_of_getElem? ht)
 simp only at h1
 have hlt : k < ops.size := by
  unfold isAl at hk
  cases ho : ops[k]? with
  | none => rw [ho] at hk; cases hk
  | some o => exact aget_lt ho
 have h2 := List.all_eq_true.1 h1 k (List.mem_range.2 hlt)
 rw [hk] at h2
 simp only [Bool.not_true, Bool.false_or] at h2
 exact Nat.le_of_ble_eq_true h2
theorem lpOK_spec {ms : List Nat} {i k d off : Nat} (h : lpOK ops ms i (.lp d off) = true) (hk : isAl ops k d = true) : k = i ∨ behind ms i k = true := by
 unfold lpOK at h
 have hlt : k < ops.size := by
  unfold isAl at hk
  cases ho : ops[k]? with
  | none => rw [ho] at hk; cases hk
  | some o => exact aget_lt ho
 have h2 := List.all_eq_true.1 h k (List.mem_range.2 hlt)
 rw [hk] at h2
 simp only [Bool.not_true, Bool.false_or, Bool.or_eq_true] at h2
 exact h2.imp (fun hh => Nat.eq_of_beq_eq_true hh) id
variable (hp : Path P C ops (mks ops) 0 σ sl) (hs : Seg ops m e) (hd : drawOK ops (mks ops) = true) (hcl : clearLp ops m (σ m).tmps = true)
theorem Path.lp (hp : Path P C ops (mks ops) 0 σ sl) {k : Nat} {o : Oper} (ho : ops[k]? = some o) (hf : frm ops (mks ops) k = false) {d off : Nat} (hsl : sl k = .lp d off) {j : Nat} (hj : isAl ops j d = true) : j = k ∨ behind (mks ops) k j = true := by
 have hst := hp.step k o (Nat.zero_le _) ho
 generalize σ (k + 1) = X' at hst
 rw [hsl] at hst
 cases hst with
 | runF s Y hf' => rw [hf] at hf'; cases hf'
 | run s φ _ _ _ _ hl _ => exact lpOK_spec hl hj
 include hp hs hd hcl in
theorem DInv.look {E : Env} {D : Nat → Prop} {ρ : Rho} {β : List (Option Nat)} {X : St} {a : Act} {w : World} (h : DInv P ops σ sl m e E D ρ β X a w) (hD : ∀ i j, D i → behind (mks ops) i j = true → D j)
    {i : Nat} {o : Oper} (hi : m ≤ i) (hie : i < e) (ho : ops[i]? = some o) (hni : ¬ D i) (hb : ∀ j, behind (mks ops) i j = true → D j) {t : Nat} (ht : t ∈ o.looksAt ops) {s : Slot} (hts : (σ i).tmps[t]? = some s) :
    X.tmps[t]? = some s ∧ ScS (σ i).heap.length (σ e).boxes s ∧ ∀ d off, s = .lp d off → ∀ k, m ≤ k → k < e → Mk ops σ k d → D k ∧ k < i := by
  have fi := hs.soft i hi hie
  by_cases hex : ∃ k y, m ≤ k ∧ k < i ∧ ops[k]? = some y ∧ y.dst = some t
  · obtain ⟨k, y, hk, hki, hy, hdy⟩ := hex
    have fk := hs.soft k hk (by omega)
    have hbk : behind (mks ops) i k = true := by
      rcases ((pair_spec hd hki hy ho fk fi).1 t hdy).2 with h' | h'
      · exact h'
      · exact absurd ht h'
    have hDk := hb k hbk
    have h1 : (σ i).tmps[t]? = (σ (k + 1)).tmps[t]? := seg_tmps hp hs (by omega) (by omega) (by omega) fun q z hq hqi hz hdz => by
      exact ((pair_spec hd (show k < q by omega) hy hz fk (hs.soft q (by omega) (by omega))).1 t hdy).1 hdz
    have hX := h.tin k y t hk (by omega) hDk hy hdy
    have hlt : t < X.tmps.length := by
      rw [hX, ← h1] at *
      have := get_lt hts
      rw [h.tlen]
      rw [seg_tlen hp hs (Nat.le_refl m) hi (by omega)] at this
      exact this
    have hsk : s = sl k := by
      rw [h1, (hp.ff hy fk).tmps, hdy] at hts
      simp only at hts
      rcases set_get hts with ⟨_, h2, _⟩ | ⟨h2, _⟩
      · exact h2
      · exact absurd rfl h2
    refine ⟨by rw [hX, ← h1]; exact hts, ?_, fun d off hsd j hj hje hM => ?_⟩
    · rw [hsk]
      exact (h.sck k y t hk (by omega) hDk hy hdy hlt).mono (seg_hlen hp hs (by omega) (by omega) (by omega))
    · rcases hp.lp hy fk (hsk.symm.trans hsd) hM.al with rfl | hbj
      · exact ⟨hDk, hki⟩
      · have := behind_lt hd (aget_lt hy) hbj
        exact ⟨hD k j hDk hbj, by omega⟩
  · have h1 : (σ i).tmps[t]? = (σ m).tmps[t]? := seg_tmps hp hs (Nat.le_refl m) hi (by omega) fun k y hk hki hy hdy => hex ⟨k, y, hk, hki, hy, hdy⟩
    have hX : X.tmps[t]? = (σ m).tmps[t]? := h.tout t fun k y hk hke hDk hy hdy => by
      by_cases hki : k < i
      · exact hex ⟨k, y, hk, hki, hy, hdy⟩
      · have hne : k ≠ i := fun hh => hni (hh ▸ hDk)
        exact (pair_spec hd (show i < k by omega) ho hy fi (hs.soft k hk hke)).2 t hdy ht
    rw [h1] at hts
    refine ⟨hX.trans hts, (h.scm t s hts).mono (seg_hlen hp hs (Nat.le_refl m) hi (by omega)), fun d off hsd k hk hke hM => ?_⟩
    subst hsd
    have := clearLp_spec hcl hts hM.al
    omega
 include hp hs hcl in
theorem DInv.lps {E : Env} {D : Nat → Prop} {ρ : Rho} {β : List (Option Nat)} {X : St} {a : Act} {w : World} (h : DInv P ops σ sl m e E D ρ β X a w) (hD : ∀ i j, D i → behind (mks ops) i j = true → D j)
    {t d off : Nat} (ht : X.tmps[t]? = some (.lp d off)) {k : Nat} (hk : m ≤ k) (hke : k < e) (hM : Mk ops σ k d) : D k := by
  by_cases hex : ∃ q y, m ≤ q ∧ q < e ∧ D q ∧ ops[q]? = some y ∧ y.dst = some t
  · obtain ⟨q, y, hq, hqe, hDq, hy, hdy⟩ := hex
    have fq := hs.soft q hq hqe
    rw [h.tin q y t hq hqe hDq hy hdy, (hp.ff hy fq).tmps, hdy] at ht
    simp only at ht
    rcases set_get ht with ⟨_, h2, _⟩ | ⟨h2, _⟩
    · rcases hp.lp hy fq h2.symm hM.al with rfl | hb
      · exact hDq
      · exact hD q k hDq hb
    · exact absurd rfl h2
  · rw [h.tout t fun q y hq hqe hDq hy hdy => hex ⟨q, y, hq, hqe, hDq, hy, hdy⟩] at ht
    have := clearLp_spec hcl ht hM.al
    omega
 include hp hs hd hcl in
theorem DInv.part {E : Env} {D : Nat → Prop} {ρ : Rho} {β : List (Option Nat)} {X : St} {a : Act} {w : World} (h : DInv P ops σ sl m e E D ρ β X a w) (hD : ∀ i j, D i → behind (mks ops) i j = true → D j)
    {i : Nat} {o : Oper} (hi : m ≤ i) (hie : i < e) (ho : ops[i]? = some o) (hni : ¬ D i) (hb : ∀ j, behind (mks ops) i j = true → D j) : Part P ρ X (focus ops o (σ i)) := by
  have kept : ∀ (d : Nat) B, (focus ops o (σ i)).boxes[d]? = some B → B = .no ∨ (∃ t off, t ∈ o.looksAt ops ∧ (σ i).tmps[t]? = some (.lp d off) ∧ (σ i).boxes[d]? = some B) := by
    intro d B hB
    rcases focB_get _ _ _ hB with h1 | ⟨h1, h2⟩
    · exact .inl h1
    · rw [Nat.zero_add] at h1
      obtain ⟨t, off, h3⟩ := mem_lpsOf h1
      rcases focT_get _ _ _ h3 with h4 | ⟨h4, h5⟩
      · cases h4
      · exact .inr ⟨t, off, by simpa using h4, h5, h2⟩
  have bx : ∀ (d : Nat) B, (focus ops o (σ i)).boxes[d]? = some B → B = .no ∨ (X.boxes[d]? = some B ∧ (σ e).boxes[d]? = some B ∧ ∀ k, i ≤ k → k < e → ¬ Mk ops σ k d) := by
    intro d B hB
    rcases kept d B hB with h1 | ⟨t, off, h1, h2, h3⟩
    · exact .inl h1
    · obtain ⟨_, _, h4⟩ := h.look hp hs hd hcl hD hi hie ho hni hb h1 h2
      have h5 : ∀ k, i ≤ k → k < e → ¬ Mk ops σ k d := fun k hk hke hM => by
        have := (h4 d off rfl k (by omega) hke hM).2
        omega
      have h6 : (σ e).boxes[d]? = some B := by
        rw [seg_boxes hp hs hi (Nat.le_of_lt hie) (Nat.le_refl e) h5]; exact h3
      exact .inr ⟨by rw [h.byes d fun k hk hke hDk hM => hDk (h4 d off rfl k hk hke hM).1]; exact h6, h6, h5⟩
  refine ⟨?_, ?_, ?_, ?_, ?_, ?_⟩
  · obtain ⟨l, hl⟩ := seg_heap hp hs hi (Nat.le_of_lt hie) (Nat.le_refl e)
    exact ⟨l, by rw [h.heap]; exact hl⟩
  · simp only [focus, focT_length]
    rw [h.tlen]
    exact seg_tlen hp hs (Nat.le_refl m) hi (by omega)
  · intro t s hts
    rcases focT_get _ _ _ hts with h1 | ⟨h1, h2⟩
    · exact .inl h1
    · rw [Nat.zero_add] at h1
      obtain ⟨h3, h4, h5⟩ := h.look hp hs hd hcl hD hi hie ho hni hb h1 h2
      refine .inr ⟨h3, h4.boxes fun d off hsd B hB => ?_⟩
      rcases bx d B hB with h6 | ⟨_, h6, _⟩
      · exact .inl h6
      · exact .inr h6
  · simp only [focus, focB_length]
    rw [h.blen]
    exact (seg_blen hp hs hi (Nat.le_of_lt hie) (Nat.le_refl e)).symm
  · intro d B hB
    rcases bx d B hB with h1 | ⟨h1, _, h2⟩
    · exact .inl h1
    · refine .inr ⟨h1, fun cs el hBl x hx => ?_⟩
      subst hBl
      exact h.scb d cs el h1 i hi (Nat.le_of_lt hie) h2 x hx
  · exact h.sch i hi (Nat.le_of_lt hie)
end
end Go.Pv
end
section
namespace Go.Pv
variable [Glob]
section
variable {P : Program} {C : CallF} {ops : Array Oper} {σ : Nat → St} {sl : Nat → Slot} {m e : Nat}
variable (hp : Path P C ops (mks ops) 0 σ sl) (hs : Seg ops m e) (hd : drawOK ops (mks ops) = true) (hcl : clearLp ops m (σ m).tmps = true)
 include hp hs hd
theorem DInv.more {E : Env} {D : Nat → Prop} {ρ : Rho} {β : List (Option Nat)} {X : St} {a : Act} {w : World} (h : DInv P ops σ sl m e E D ρ β X a w)
    {i : Nat} {o : Oper} (hi : m ≤ i) (hie : i < e) (ho : ops[i]? = some o) (hni : ¬ D i) (hb : ∀ j, behind (mks ops) i j = true → D j)
    {ρ' : Rho} {β' : List (Option Nat)} {X' : St} {a' : Act} {w' : World} (rel' : Rel P E ρ' β' X' a' w') (heap' : X'.heap = (σ e).heap)
    (tmps' : X'.tmps = match o.dst with | some d => X.tmps.set d (sl i) | none => X.tmps)
    (boxes' : (∃ d cs el, Mk ops σ i d ∧ X'.boxes = X.boxes.set d (.loc cs el) ∧ (σ (i + 1)).boxes = (σ i).boxes.set d (.loc cs el) ∧ ∀ x ∈ cs, Sc (σ (i + 1)).heap.length x) ∨ ((∀ d, ¬ Mk ops σ i d) ∧ X'.boxes = X.boxes))
    (hhi : ∀ id : Nat, (σ (i + 1)).heap.length ≤ id → ρ'[id]? = ρ[id]?) (hlo : ∀ id : Nat, id < (σ i).heap.length → ρ'[id]? = ρ[id]?)
    (hsc : ∀ d, o.dst = some d → d < X.tmps.length → ScS (σ (i + 1)).heap.length X'.boxes (sl i))
    (hcells : ∀ (id : Nat) b rb, (σ (i + 1)).heap[id]? = some b → ρ'.at id rb → (b.live = true ∨ b.obj.isSome = true) → ∀ x ∈ b.cells, Sc (σ (i + 1)).heap.length x) :
    DInv P ops σ sl m e E (fun j => D j ∨ j = i) ρ' β' X' a' w' := by
  have fi := hs.soft i hi hie
  have tl' : X'.tmps.length = X.tmps.length := by rw [tmps']; cases o.dst <;> simp
  have byes' : ∀ d : Nat, (∀ k, m ≤ k → k < e → ¬ (D k ∨ k = i) → ¬ Mk ops σ k d) → X'.boxes[d]? = (σ e).boxes[d]? := by
    intro d hno
    have rest : ¬ Mk ops σ i d → X.boxes[d]? = (σ e).boxes[d]? := fun hM => h.byes d fun k hk hke hDk => by
      by_cases hki : k = i
      · rw [hki]; exact hM
      · exact hno k hk hke fun hh => hh.elim hDk hki
    rcases boxes' with ⟨d0, cs, el, hM, hX, hσ, _⟩ | ⟨hM, hX⟩
    · by_cases hdd : d = d0
      · subst hdd
        obtain ⟨_, uniq⟩ := seg_mk hp hs hi hie hM hd
        have hlt : d < (σ i).boxes.length := by obtain ⟨_, _, _, _, _, _, hlt, _⟩ := hM; exact hlt
        rw [hX, set_same (by rw [h.blen, seg_blen hp hs hi (Nat.le_of_lt hie) (Nat.le_refl e)]; exact hlt)]
        rw [seg_boxes hp hs (show m ≤ i + 1 by omega) (show i + 1 ≤ e by omega) (Nat.le_refl e) fun k hk hke hM' => by have := uniq k (by omega) hke hM'; omega]
        rw [hσ, set_same hlt]
      · rw [hX, set_ne hdd]
        refine rest fun hM' => ?_
        obtain ⟨o1, _, _, ho1, _, hd1, _⟩ := hM
        obtain ⟨o2, _, _, ho2, _, hd2, _⟩ := hM'
        rw [ho1] at ho2
        cases ho2
        rw [hd1] at hd2
        cases hd2
        exact hdd rfl
    · rw [hX]
      exact rest (hM d)
  refine ⟨rel', heap', ?_, ?_, ?_, by rw [tl', h.tlen], ?_, byes', ?_, h.scm, ?_, ?_, ?_, h.hE, h.hE2⟩
  · intro k hk hke hDk id h1 h2
    have hki : k ≠ i := fun hh => hDk (.inr hh)
    have h0 := h.hole k hk hke (fun hh => hDk (.inl hh)) id h1 h2
    by_cases hid : id < (σ i).heap.length
    · rw [hlo id hid]; exact h0
    · by_cases hid2 : id < (σ (i + 1)).heap.length
      · rcases Nat.lt_or_gt_of_ne hki with hlt | hgt
        · have := seg_hlen hp hs (show m ≤ k + 1 by omega) (show k + 1 ≤ i by omega) (Nat.le_of_lt hie)
          omega
        · have := seg_hlen hp hs (show m ≤ i + 1 by omega) (show i + 1 ≤ k by omega) (Nat.le_of_lt hke)
          omega
      · rw [hhi id (by omega)]; exact h0
  · intro k y t hk hke hDk hy hdy
    by_cases hki : k = i
    · subst hki
      rw [ho] at hy
      cases hy
      rw [tmps', (hp.ff ho fi).tmps, hdy]
      simp only [List.getElem?_set]
      rw [h.tlen, ← seg_tlen hp hs (Nat.le_refl m) hi (Nat.le_of_lt hie)]
      simp
    · have hDk := hDk.resolve_right hki
      rw [← h.tin k y t hk hke hDk hy hdy, tmps']
      have fk := hs.soft k hk hke
      have hne : o.dst ≠ some t := by
        rcases Nat.lt_or_gt_of_ne hki with hlt | hgt
        · exact ((pair_spec hd hlt hy ho fk fi).1 t hdy).1
        · exact fun hh => ((pair_spec hd hgt ho hy fi fk).1 t hh).1 hdy
      cases hod : o.dst with
      | none => rfl
      | some d =>
        simp only
        rw [set_ne]
        rintro rfl
        exact hne hod
  · intro t hno
    have hne := hno i o hi hie (.inr rfl) ho
    rw [← h.tout t fun k y hk hke hDk => hno k y hk hke (.inl hDk), tmps']
    cases hod : o.dst with
    | none => rfl
    | some d =>
      simp only
      rw [set_ne]
      rintro rfl
      exact hne hod
  · intro k d hk hke hDk hM
    have h0 := h.bno k d hk hke (fun hh => hDk (.inl hh)) hM
    rcases boxes' with ⟨d0, cs, el, hM0, hX, _⟩ | ⟨_, hX⟩
    · rw [hX, set_ne]
      · exact h0
      · rintro rfl
        exact hDk (.inr ((seg_mk hp hs hi hie hM0 hd).2 k hk hke hM))
    · rw [hX]; exact h0
  · rcases boxes' with ⟨d0, cs, el, hM0, hX, _⟩ | ⟨_, hX⟩ <;> rw [hX]
    · simp [h.blen]
    · exact h.blen
  · intro k y t hk hke hDk hy hdy hlt
    by_cases hki : k = i
    · subst hki
      rw [ho] at hy
      cases hy
      refine (hsc t hdy (by rw [← tl']; exact hlt)).boxes fun d off hsd B hB => .inr ?_
      rw [byes' d fun q hq hqe hDq hM => ?_]
      · exact hB
      · rcases hp.lp ho fi hsd hM.al with rfl | hbq
        · exact hDq (.inr rfl)
        · exact hDq (.inl (hb q hbq))
    · exact h.sck k y t hk hke (hDk.resolve_right hki) hy hdy (by rw [← tl']; exact hlt)
  · intro d cs el hX' i' hi' hi'e hno x hx
    have old : X.boxes[d]? = some (.loc cs el) → Sc (σ i').heap.length x := fun hX => h.scb d cs el hX i' hi' hi'e hno x hx
    rcases boxes' with ⟨d0, cs0, el0, hM0, hX, _, hs0⟩ | ⟨_, hX⟩
    · rw [hX] at hX'
      rcases set_get hX' with ⟨rfl, hB, _⟩ | ⟨_, hX'⟩
      · cases hB
        have hii : i < i' := by
          rcases Nat.lt_or_ge i i' with h' | h'
          · exact h'
          · exact absurd hM0 (hno i h' hie)
        exact (hs0 x hx).mono (seg_hlen hp hs (by omega) (by omega) hi'e)
      · exact old hX'
    · rw [hX] at hX'
      exact old hX'
  · intro i' hi' hi'e id b rb hbl hat hl x hx
    have old : ρ'[id]? = ρ[id]? → Sc (σ i').heap.length x := fun hh => h.sch i' hi' hi'e id b rb hbl (by unfold Rho.at at *; rw [← hh]; exact hat) hl x hx
    by_cases hid : id < (σ i).heap.length
    · exact old (hlo id hid)
    · by_cases hid2 : id < (σ (i + 1)).heap.length
      · have hlt := get_lt hbl
        have hii : i < i' := by
          rcases Nat.lt_or_ge i i' with h' | h'
          · exact h'
          · have := seg_hlen hp hs hi' h' (Nat.le_of_lt hie)
            omega
        obtain ⟨l, hl'⟩ := seg_heap hp hs (show m ≤ i + 1 by omega) (show i + 1 ≤ i' by omega) hi'e
        have hb2 : (σ (i + 1)).heap[id]? = some b := by
          rw [hl', List.getElem?_append_left hid2] at hbl
          exact hbl
        exact (hcells id b rb hb2 hat hl x hx).mono (seg_hlen hp hs (by omega) (by omega) hi'e)
      · exact old (hhi id (by omega))
 include hcl in
theorem DInv.step (hC : CallOK P C) {E : Env} {D : Nat → Prop} {ρ : Rho} {β : List (Option Nat)} {X : St} {a : Act} {w : World} (h : DInv P ops σ sl m e E D ρ β X a w) (hD : ∀ i j, D i → behind (mks ops) i j = true → D j)
    {i : Nat} {o : Oper} (hi : m ≤ i) (hie : i < e) (ho : ops[i]? = some o) (hni : ¬ D i) (hb : ∀ j, behind (mks ops) i j = true → D j)
    {Q : Exit → Act → World → Prop} {K : Act → World → Prop} (hK : ∀ ρ' β' X' a' w', DInv P ops σ sl m e E (fun j => D j ∨ j = i) ρ' β' X' a' w' → K a' w') : wpOpIn (fen E.ro) 0 P ops Q i K a w := by
  have fi := hs.soft i hi hie
  have part := h.part hp hs hd hcl hD hi hie ho hni hb
  have ff := hp.ff ho fi
  have hst := hp.step i o (Nat.zero_le _) ho
  have guardT : ∀ {t s}, t ∈ o.looksAt ops → (σ i).tmps[t]? = some s → X.tmps[t]? = some s := fun ht hts => (h.look hp hs hd hcl hD hi hie ho hni hb ht hts).1
  have gl : ∀ {j want g}, o.guard = some (j, want) → (ops[j]?).bind (·.dst) = some g → g ∈ o.looksAt ops := fun {j want g} h1 h2 => by
    simp [Oper.looksAt, h1, h2]
  have gt : GT ops o (σ i) → GT ops o X := by
    rintro (h1 | ⟨j, want, g, h1, h2, h3⟩)
    · exact .inl h1
    · exact .inr ⟨j, want, g, h1, h2, guardT (gl h1 h2) h3⟩
  have gf : GF ops o (σ i) → GF ops o X := by
    rintro ⟨j, want, g, x, h1, h2, h3, h4⟩
    exact ⟨j, want, g, x, h1, h2, guardT (gl h1 h2) h3, h4⟩
  have hlen : (σ (i + 1)).heap.length ≤ X.heap.length := by
    rw [h.heap]
    exact seg_hlen hp hs (by omega) (by omega) (Nat.le_refl e)
  generalize hXi : σ (i + 1) = Xi at hst
  generalize hsi : sl i = si at hst
  unfold wpOpIn
  rw [ho]
  simp only
  cases hst with
  | skipF hf' => rw [fi] at hf'; cases hf'
  | runF s Y hf' => rw [fi] at hf'; cases hf'
  | skip _ hg =>
    rw [(gf hg).wanted h.rel]
    simp only [Bool.false_eq_true, if_false]
    have hheap : (σ (i + 1)).heap = (σ i).heap := by rw [hXi]; cases o.dst <;> rfl
    have hbx : (σ (i + 1)).boxes = (σ i).boxes := by rw [hXi]; cases o.dst <;> rfl
    have hnm : ∀ d, ¬ Mk ops σ i d := by
      rintro d ⟨o', cs, el, _, _, _, hlt, hno, hb'⟩
      rw [hbx] at hb'
      rw [hb', set_same hlt] at hno
      cases hno
    have hput : (X.put o.dst (.v undef)).heap = X.heap ∧ (X.put o.dst (.v undef)).boxes = X.boxes := by cases o.dst <;> exact ⟨rfl, rfl⟩
    refine ⟨fun _ _ => trivial, ?_⟩
    refine hK _ _ _ _ _ (h.more hp hs hd hi hie ho hni hb (h.rel.put o.dst (s := .v undef) (.tuple _ _ .nil)) (hput.1.trans h.heap) (by rw [hsi]; cases o.dst <;> rfl) (.inr ⟨hnm, hput.2⟩) (fun _ _ => rfl) (fun _ _ => rfl) (fun d _ _ => ?_) ?_)
    · rw [hsi]
      exact ⟨[], [], undef, Nat.zero_le _, .tuple _ _ .nil⟩
    · rw [hheap]
      exact h.sch i hi (Nat.le_of_lt hie)
  | run s φ _ hg hok he hl hin =>
    rw [(gt hg).wanted h.rel]
    simp only [if_true]
    obtain ⟨⟨⟨lΔ, hΔ⟩, hbx⟩, hmk⟩ := run_keep (i := i) hok he
    have hXh : (σ (i + 1)).heap = φ.heap := by rw [hXi]; rfl
    have hfh : (focus ops o (σ i)).heap = (σ i).heap := rfl
    have hh1 : E.ρ0.length ≤ (focus ops o (σ i)).heap.length := Nat.le_trans h.hE2 (seg_hlen hp hs (Nat.le_refl m) hi (Nat.le_of_lt hie))
    obtain ⟨s2, φ2, h2, hwp⟩ := evalOp_sound hC true (part.rel h.rel hh1) he (o := o) (Q := Q)
    simp only [Option.some.injEq, Prod.mk.injEq] at h2
    rw [h2.1, h2.2] at hwp
    have hwp2 := wp_put hwp fun a' w' ⟨_, _, hr, _⟩ => hr.d.trans h.rel.d.symm
    refine Oper.wpIn_mono ?_ hwp2
    rintro a' w' ⟨⟨ρr, βr, hr, hβ⟩, hput⟩
    have hh0 : E.h0.length ≤ (focus ops o (σ i)).heap.length := Nat.le_trans h.hE (seg_hlen hp hs (Nat.le_refl m) hi (Nat.le_of_lt hie))
    have hbx2 : (makes o.op = true ∧ ∃ d cs el, o.dst = some d ∧ d < (focus ops o (σ i)).boxes.length ∧ φ.boxes = (focus ops o (σ i)).boxes.set d (.loc cs el) ∧ X.boxes[d]? = some .no ∧ ∀ (t : Nat) off, X.tmps[t]? ≠ some (.lp d off)) ∨ (makes o.op = false ∧ φ.boxes = (focus ops o (σ i)).boxes) := by
      rcases hbx with ⟨hm, d, cs, el, hdst, hlt, hb'⟩ | h'
      · obtain ⟨d', hd', hno⟩ := hmk hm
        rw [hdst] at hd'
        cases hd'
        have hM : Mk ops σ i d := by
          refine ⟨o, cs, el, ho, hm, hdst, get_lt hno, hno, ?_⟩
          rw [hXi]
          simp only [merge, hm, hdst, hb']
          simp [hlt]
        exact .inl ⟨hm, d, cs, el, hdst, hlt, hb', h.bno i d hi hie hni hM, fun t off ht => hni (h.lps hp hs hcl hD ht hi hie hM)⟩
      · exact .inr h'
    have hlp : ∀ d off, si = .lp d off → ∃ B, φ.boxes[d]? = some B ∧ B ≠ .no := by
      rintro d off rfl
      simp only [lpIn] at hin
      split at hin
      · cases hin
      · rename_i B hne hB
        exact ⟨B, hB, fun hh => hne hh⟩
      · cases hin
    obtain ⟨ρ', β', hrel, hhi, hlo, hsc, hcells, hbsc⟩ := part.join h.rel hh0 hh1 (s := si) (fun id h1 h2 => h.hole i hi hie hni id h1 (by rw [hXh]; exact h2)) (by rw [← hXh]; exact hlen) hbx2 hlp hr hβ hput
    refine hK _ _ _ _ _ (h.more hp hs hd hi hie ho hni hb hrel ?_ (by rw [hsi]; rfl) ?_ (fun id hid => hhi id (by rw [← hXh]; exact hid)) (fun id hid => hlo id hid) (fun d hd' hlt => ?_) (by rw [hXh]; exact hcells))
    · obtain ⟨l, hl'⟩ := seg_heap hp hs (show m ≤ i + 1 by omega) (show i + 1 ≤ e by omega) (Nat.le_refl e)
      simp only [joined]
      rw [h.heap, hl', hXh, List.drop_left]
    · rcases hbx2 with ⟨hm, d, cs, el, hdst, hlt, hb', hno, _⟩ | ⟨hm, hb'⟩
      · obtain ⟨d', hd', hno'⟩ := hmk hm
        rw [hdst] at hd'
        cases hd'
        have hσ : (σ (i + 1)).boxes = (σ i).boxes.set d (.loc cs el) := by
          rw [hXi]
          simp only [merge, hm, hdst, hb']
          simp [hlt]
        refine .inl ⟨d, cs, el, ⟨o, cs, el, ho, hm, hdst, get_lt hno', hno', hσ⟩, ?_, hσ, ?_⟩
        · simp only [joined, merge, hm, hdst, hb']
          simp [hlt]
        · rw [hXh]
          exact hbsc d cs el (by rw [hb']; exact set_same hlt)
      · refine .inr ⟨?_, ?_⟩
        · rintro d ⟨o', _, _, ho', hm', _⟩
          rw [ho] at ho'
          cases ho'
          rw [hm] at hm'
          cases hm'
        · simp only [joined, merge, hm]
    · rw [hXh, hsi]
      exact hsc d hd' hlt
end
end Go.Pv
end
section
namespace Go.Pv
variable [Glob]
section
variable {P : Program} {C : CallF} {ops : Array Oper} {σ : Nat → St} {sl : Nat → Slot} {m e : Nat}
theorem ghost_at {ρ : Rho} {k id : Nat} {rb : RB} (h : Rho.at (ρ ++ List.replicate k none) id rb) : id < ρ.length ∧ ρ.at id rb := by
 unfold Rho.at at *
 by_cases hid : id < ρ.length
 ·rw [List.getElem?_append_left hid] at h
  exact ⟨hid, h⟩
 ·rw [List.getElem?_append_right (by omega)] at h
  have := List.mem_of_getElem? h
  have := (List.mem_replicate.1 this).2
  cases this
theorem Rel.ghost {E : Env} {ρ : Rho} {β : List (Option Nat)} {st : St} {a : Act} {w : World} (h : Rel P E ρ β st a w) (l : Heap) : Rel P E (ρ ++ List.replicate l.length none) β { st with heap := st.heap ++ l } a w := by
 have hle : ρ.le (ρ ++ List.replicate l.length none) := Rho.le.snoc ρ _
 have hlen := h.h.len
 have hb : ∀ {id : Nat} {b : Blk} {rb}, (st.heap ++ l)[id]? = some b → Rho.at (ρ ++ List.replicate l.length none) id rb → st.heap[id]? = some b ∧ ρ.at id rb := fun {id b rb} h1 h2 => by
  obtain ⟨h3, h4⟩ := ghost_at h2
  rw [List.getElem?_append_left (by omega)] at h1
  exact ⟨h1, h4⟩
 refine ⟨⟨by simp [hlen], ?_, ?_, h.h.o.of hle (fun id b rb o h1 h2 h3 => ⟨⟨b, (hb h1 h2).1, h3, rfl, fun hh => hh⟩, (hb h1 h2).2⟩) fun _ _ _ _ _ _ _ _ h4 _ => h4⟩, ⟨h.b.len, ?_, ?_, h.b.sepB⟩, h.t.mono hle, h.f, ⟨?_, h.n.wb, ?_, by have := h.n.len; simp; omega, ?_, fun id bl rb h1 h2 h3 => h.n.wo id bl rb (hb h1 h2).1 (hb h1 h2).2 h3⟩, h.d, h.bl, h.e.trans ⟨_, rfl⟩, h.g⟩
 ·intro id b rb h1 h2 h3
  obtain ⟨h4, h5⟩ := hb h1 h2
  exact (h.h.blk id b rb h4 h5 h3).same hle rfl
 ·intro i j bi bj ri rj hij hi hj hri hrj
  obtain ⟨h1, h2⟩ := hb hi hri
  obtain ⟨h3, h4⟩ := hb hj hrj
  exact h.h.sep i j bi bj ri rj hij h1 h3 h2 h4
 ·intro d cs el hd
  obtain ⟨b, ys, h1, h2, h3, h4⟩ := h.b.loc d cs el hd
  exact ⟨b, ys, h1, h2, h3.mono hle, h4⟩
 ·intro d cs el b id bl rb hd hb' hi hr hl
  obtain ⟨h1, h2⟩ := hb hi hr
  exact h.b.sepH d cs el b id bl rb hd hb' h1 h2 hl
 ·intro id bl rb h1 h2
  obtain ⟨h3, h4⟩ := hb h1 h2
  exact h.n.wh id bl rb h3 h4
 ·intro id rb hid hr
  exact h.n.wn id rb hid (ghost_at hr).2
 ·intro id bl hid hb' hl
  have := h.n.len
  rw [List.getElem?_append_left (by omega)] at hb'
  exact h.n.liv id bl hid hb' hl
theorem Rel.fewer {E : Env} {ρ : Rho} {β : List (Option Nat)} {st : St} {a : Act} {w : World} (h : Rel P E ρ β st a w) {ts : List Slot} (hl : ts.length = st.tmps.length) (ht : ∀ (t : Nat) s, ts[t]? = some s → s = .dead ∨ st.tmps[t]? = some s) : Rel P E ρ β { st with tmps := ts } a w := by
 refine ⟨h.h, h.b, ⟨hl.trans h.t.1, fun t s hs => ?_⟩, h.f, ⟨h.n.wh, h.n.wb, h.n.wn, h.n.len, h.n.liv, h.n.wo⟩, h.d, by rw [hl]; exact h.bl, h.e, h.g⟩
 rcases ht t s hs with rfl | h'
 ·have hlt := get_lt hs
  rw [hl, h.t.1] at hlt
  exact ⟨_, Array.getElem?_eq_getElem hlt, trivial⟩
 ·exact h.t.2 t s h'
theorem Rel.killAll {E : Env} {ρ : Rho} {β : List (Option Nat)} {a : Act} {w : World} : ∀ (l : List Nat) {st : St}, Rel P E ρ β st a w → Rel P E ρ β (Pv.killAll l st) a w
 | [], st, h => h
 | d :: r, st, h => by
  refine Rel.killAll r ?_
  exact (h.kill d).fewer (ts := killLp d (st.tmps.set d .dead)) (by rw [killLp_length]) fun t s hs => (killLp_get d _ t s hs).imp id fun hh => hh.1
theorem seg_ex (ops : Array Oper) : ∀ (k m : Nat), m + k = ops.size → ∃ e, Seg ops m e ∧ (e = ops.size ∨ (e < ops.size ∧ frm ops (mks ops) e = true))
 | 0, m, h => ⟨ops.size, ⟨by omega, by omega, fun i h1 h2 => by omega⟩, .inl rfl⟩
 | k + 1, m, h => by
  cases hf : frm ops (mks ops) m with
  | true => exact ⟨m, ⟨by omega, by omega, fun i h1 h2 => by omega⟩, .inr ⟨by omega, hf⟩⟩
  | false =>
   obtain ⟨e, hs, he⟩ := seg_ex ops k (m + 1) (by omega)
   refine ⟨e, ⟨by have := hs.le; omega, hs.top, fun i h1 h2 => ?_⟩, he⟩
   by_cases hi : i = m
   ·rw [hi]; exact hf
   ·exact hs.soft i (by omega) h2
variable (hp : Path P C ops (mks ops) 0 σ sl) (hd : drawOK ops (mks ops) = true)
 include hp hd
theorem DInv.start (hs : Seg ops m e) (hcl : clearLp ops m (σ m).tmps = true) {E : Env} {ρ : Rho} {β : List (Option Nat)} {a : Act} {w : World} (h : Rel P E ρ β (σ m) a w) {D : Nat → Prop} (hD : ∀ k, m ≤ k → k < e → ¬ D k) :
    ∃ ρ' X, DInv P ops σ sl m e E D ρ' β X a w := by
  obtain ⟨l, hl⟩ := seg_heap hp hs (Nat.le_refl m) hs.le (Nat.le_refl e)
  have hlen : ρ.length = (σ m).heap.length := h.h.len
  have hE2 : E.ρ0.length ≤ ρ.length := by
    obtain ⟨l', hl'⟩ := h.e
    rw [hl']; simp
  refine ⟨_, _, ⟨h.ghost l, hl.symm, ?_, fun k o t h1 h2 h3 => absurd h3 (hD k h1 h2), fun t _ => rfl, rfl, ?_, ?_, ?_, ?_, fun k o t h1 h2 h3 => absurd h3 (hD k h1 h2), ?_, ?_, h.n.len, by omega⟩⟩
  · intro k h1 h2 _ id h3 h4
    have h5 := seg_hlen hp hs (Nat.le_refl m) h1 (Nat.le_of_lt h2)
    have h6 := seg_hlen hp hs (show m ≤ k + 1 by omega) (show k + 1 ≤ e by omega) (Nat.le_refl e)
    have h7 : (σ e).heap.length = (σ m).heap.length + l.length := by rw [hl]; simp
    rw [List.getElem?_append_right (by omega), List.getElem?_replicate, if_pos (by omega)]
  · intro k d h1 h2 _ hM
    exact (seg_mk hp hs h1 h2 hM hd).1 m (Nat.le_refl m) h1
  · intro d hno
    exact (seg_boxes hp hs (Nat.le_refl m) hs.le (Nat.le_refl e) fun k h1 h2 => hno k h1 h2 (hD k h1 h2)).symm
  · exact (seg_blen hp hs (Nat.le_refl m) hs.le (Nat.le_refl e)).symm
  · intro t s hts
    obtain ⟨y, _, hr⟩ := h.t.2 t s hts
    refine ScS.boxes (bx := (σ m).boxes) ⟨ρ, β, y, by omega, hr⟩ fun d off hsd B hB => .inr ?_
    subst hsd
    rw [← seg_boxes hp hs (Nat.le_refl m) hs.le (Nat.le_refl e) fun k h1 h2 hM => ?_]
    · exact hB
    · have := clearLp_spec hcl hts hM.al
      omega
  · intro d cs el hX i h1 h2 _ x hx
    obtain ⟨b, ys, _, _, hv, _⟩ := h.b.loc d cs el hX
    obtain ⟨j, hj⟩ := List.getElem?_of_mem hx
    obtain ⟨y, _, hr⟩ := hv.get hj
    exact Sc.mono (seg_hlen hp hs (Nat.le_refl m) h1 h2) ⟨ρ, y, by omega, hr⟩
  · intro i h1 h2 id b rb hb hat hlv x hx
    obtain ⟨hid, hat'⟩ := ghost_at hat
    obtain ⟨l', hl'⟩ := seg_heap hp hs (Nat.le_refl m) h1 h2
    rw [hl', List.getElem?_append_left (by omega)] at hb
    rcases hlv with hlv | hlv
    · obtain ⟨cs, el, fr, _, _, h3, _⟩ := h.h.blk id b rb hb hat' hlv
      obtain ⟨j, hj⟩ := List.getElem?_of_mem hx
      obtain ⟨_, y, _, hr⟩ := h3 j x hj
      exact Sc.mono (seg_hlen hp hs (Nat.le_refl m) h1 h2) ⟨ρ, y, by omega, hr⟩
    · cases ho : b.obj with
      | none => rw [ho] at hlv; cases hlv
      | some ob =>
        obtain ⟨_, z, _, hox⟩ := h.h.o.obj id b rb ob hb hat' ho
        exact Sc.mono (seg_hlen hp hs (Nat.le_refl m) h1 h2) (hox.sc (by omega) x hx)
theorem DInv.full (hs : Seg ops m e) {E : Env} {ρ : Rho} {β : List (Option Nat)} {X : St} {a : Act} {w : World} {D : Nat → Prop} (h : DInv P ops σ sl m e E D ρ β X a w) (hD : ∀ k, m ≤ k → k < e → D k) : Rel P E ρ β (σ e) a w := by
 have ht : X.tmps = (σ e).tmps := by
  apply List.ext_getElem?
  intro t
  by_cases hex : ∃ k y, m ≤ k ∧ k < e ∧ ops[k]? = some y ∧ y.dst = some t
  ·obtain ⟨k, y, h1, h2, hy, hdy⟩ := hex
   rw [h.tin k y t h1 h2 (hD k h1 h2) hy hdy]
   exact (seg_tmps hp hs (show m ≤ k + 1 by omega) (show k + 1 ≤ e by omega) (Nat.le_refl e) fun q z hq hqe hz hdz =>
    ((pair_spec hd (show k < q by omega) hy hz (hs.soft k h1 h2) (hs.soft q (by omega) hqe)).1 t hdy).1 hdz).symm
  ·rw [h.tout t fun k y h1 h2 _ hy hdy => hex ⟨k, y, h1, h2, hy, hdy⟩]
   exact (seg_tmps hp hs (Nat.le_refl m) hs.le (Nat.le_refl e) fun k y h1 h2 hy hdy => hex ⟨k, y, h1, h2, hy, hdy⟩).symm
 have hb : X.boxes = (σ e).boxes := by
  apply List.ext_getElem?
  intro d
  exact h.byes d fun k h1 h2 h3 => absurd (hD k h1 h2) h3
 have hX : X = σ e := by
  have hh := h.heap
  cases hX : X
  cases hσ : σ e
  simp only [hX, hσ] at ht hb hh
  rw [ht, hb, hh]
 rw [← hX]
 exact h.rel
 omit hp hd in
theorem focT_in {keep : List Nat} : ∀ (l : List Slot) (i t : Nat), i + t ∈ keep → (focT keep i l)[t]? = l[t]?
  | [], i, t, _ => by simp [focT]
  | s :: r, i, 0, h => by
    have : keep.elem i = true := List.elem_eq_true_of_mem (by simpa using h)
    show some (bif keep.elem i then s else .dead) = some s
    rw [this]
    rfl
  | s :: r, i, t + 1, h => by
    simp only [focT, List.getElem?_cons_succ]
    exact focT_in r (i + 1) t (by rw [show i + 1 + t = i + (t + 1) by omega]; exact h)
 omit hp hd in
theorem pure_on {o : Oper} (ho : pureT ops o = true) {φ0 φ : St} {s : Slot} (he : evalOp P C true o φ0 (fun s st => some (s, st)) = some (s, φ)) {X : St} (ht : ∀ t ∈ o.looksAt ops, X.tmps[t]? = φ0.tmps[t]?) : evalOp P C false o X (fun s st => some (s, st)) = some (s, X) := by
  unfold pureT at ho
  obtain ⟨_, ho⟩ := Bool.and_eq_true_iff.1 ho
  have look : ∀ t, Operand.tmp t ∈ o.op.operands → t ∈ o.looksAt ops := fun t hm => List.mem_append_left _ (List.mem_filterMap.2 ⟨.tmp t, by simpa using hm, rfl⟩)
  split at ho
  · rename_i x hop
    have hx : X.tmps[x]? = φ0.tmps[x]? := ht x (look x (by simp [hop, Op.operands]))
    simp only [evalOp, hop, opd] at he ⊢
    obtain ⟨s', h1, h2⟩ := Option.bind_eq_some_iff.1 he
    cases h2
    rw [hx, h1]
    rfl
  · rename_i t x y ty hop
    have hx : X.tmps[x]? = φ0.tmps[x]? := ht x (look x (by simp [hop, Op.operands]))
    have hy : X.tmps[y]? = φ0.tmps[y]? := ht y (look y (by simp [hop, Op.operands]))
    simp only [evalOp, hop, opd] at he ⊢
    obtain ⟨sx, h1, he⟩ := Option.bind_eq_some_iff.1 he
    obtain ⟨sy, h2, he⟩ := Option.bind_eq_some_iff.1 he
    obtain ⟨u, h3, he⟩ := Option.bind_eq_some_iff.1 he
    obtain ⟨v, h4, he⟩ := Option.bind_eq_some_iff.1 he
    obtain ⟨r, h5, he⟩ := Option.bind_eq_some_iff.1 he
    cases he
    simp only [hx, hy, h1, h2, h3, h4, h5, Option.bind_some]
  · rename_i x ix hop
    have hx : X.tmps[x]? = φ0.tmps[x]? := ht x (look x (by simp [hop, Op.operands]))
    simp only [evalOp, hop, opd] at he ⊢
    obtain ⟨sx, h1, he⟩ := Option.bind_eq_some_iff.1 he
    obtain ⟨u, h3, he⟩ := Option.bind_eq_some_iff.1 he
    obtain ⟨vs, h4, he⟩ := Option.bind_eq_some_iff.1 he
    obtain ⟨y, h5, he⟩ := Option.bind_eq_some_iff.1 he
    have e1 := typed_some he
    simp only [hx, h1, h3, h4, h5, Option.bind_some]
    rw [typed_nat he]
    cases e1
    rfl
  · cases ho
 omit hp hd in
theorem store_on {o : Oper} (ho : isStore o = true) {S Y : St} {s : Slot} (he : evalOp P C false o S (fun s st => some (s, st)) = some (s, Y)) {X : St} (hb : X.boxes = S.boxes) (hh : X.heap = S.heap) (ht : ∀ t ∈ o.looksAt ops, X.tmps[t]? = S.tmps[t]?) :
    evalOp P C false o X (fun s st => some (s, st)) = some (s, { Y with tmps := X.tmps }) ∧ Y.tmps = S.tmps := by
  unfold isStore at ho
  obtain ⟨_, ho⟩ := Bool.and_eq_true_iff.1 ho
  have look : ∀ t, Operand.tmp t ∈ o.op.operands → t ∈ o.looksAt ops := fun t hm => List.mem_append_left _ (List.mem_filterMap.2 ⟨.tmp t, by simpa using hm, rfl⟩)
  obtain ⟨xt, xb, xh⟩ := X
  simp only at hb hh ht
  subst hb hh
  split at ho
  · rename_i ty ta tx hop
    have ha : xt[ta]? = S.tmps[ta]? := ht ta (look ta (by simp [hop, Op.operands]))
    have hx : xt[tx]? = S.tmps[tx]? := ht tx (look tx (by simp [hop, Op.operands]))
    simp only [evalOp, hop, opd] at he ⊢
    obtain ⟨ti, h1, he⟩ := Option.bind_eq_some_iff.1 he
    obtain ⟨sa, h2, he⟩ := Option.bind_eq_some_iff.1 he
    obtain ⟨sx, h3, he⟩ := Option.bind_eq_some_iff.1 he
    simp only [ha, hx, h1, h2, h3, Option.bind_some]
    -- the store itself
    have fin : ∀ (T : St) (v : Value), ((cellsOfV ti v).bind fun vs => (storeAt T vs sa).bind fun st => some (Slot.v undef, st)) = some (s, Y) →
        ((cellsOfV ti v).bind fun vs => (storeAt { T with tmps := xt } vs sa).bind fun st => some (Slot.v undef, st)) = some (s, { Y with tmps := xt }) ∧ Y.tmps = T.tmps := by
      intro T v e
      obtain ⟨vs, h4, e⟩ := Option.bind_eq_some_iff.1 e
      obtain ⟨Y', h5, e⟩ := Option.bind_eq_some_iff.1 e
      cases e
      simp only [h4, Option.bind_some]
      unfold storeAt at h5 ⊢
      cases sa with
      | lp d off =>
        simp only at h5 ⊢
        cases hB : T.boxes[d]? with
        | none => rw [hB] at h5; cases h5
        | some B =>
          rw [hB] at h5
          cases B with
          | no => cases h5
          | loc cs e =>
            simp only at h5 ⊢
            obtain ⟨h6, h7⟩ := bif_some h5
            cases h7
            rw [h6]
            exact ⟨rfl, rfl⟩
          | prom id =>
            simp only at h5 ⊢
            obtain ⟨g, h6, h7⟩ := Option.bind_eq_some_iff.1 h5
            cases h7
            rw [h6]
            exact ⟨rfl, rfl⟩
      | v y =>
        simp only at h5 ⊢
        obtain ⟨p, h6, h5⟩ := Option.bind_eq_some_iff.1 h5
        obtain ⟨q, h7, h5⟩ := Option.bind_eq_some_iff.1 h5
        obtain ⟨g, h8, h5⟩ := Option.bind_eq_some_iff.1 h5
        cases h5
        refine ⟨?_, rfl⟩
        simp only [h6, h7, h8, Option.bind_some]
      | dead => cases h5
    unfold out at he ⊢
    cases sx with
    | v y => exact fin S y he
    | lp d off =>
      simp only at he ⊢
      obtain ⟨⟨id, T⟩, h4, he⟩ := Option.bind_eq_some_iff.1 he
      unfold promote at h4
      cases hB : S.boxes[d]? with
      | none => rw [hB] at h4; cases h4
      | some B =>
        rw [hB] at h4
        cases B with
        | no => cases h4
        | loc cs e =>
          simp only [Option.some.injEq, Prod.mk.injEq] at h4
          obtain ⟨rfl, rfl⟩ := h4
          have := fin _ _ he
          simp only [promote, hB, Option.bind_some]
          exact this
        | prom id' =>
          simp only [Option.some.injEq, Prod.mk.injEq] at h4
          obtain ⟨rfl, rfl⟩ := h4
          have := fin _ _ he
          simp only [promote, hB, Option.bind_some]
          exact this
    | dead => cases he
  · cases ho
def I1 (P : Program) (ops : Array Oper) (σ : Nat → St) (sl : Nat → Slot) (E : Env) (listed : Array Bool) (a : Act) (w : World) : Prop :=
 ∃ m e ρ β X, Seg ops m e ∧ (e = ops.size ∨ (e < ops.size ∧ frm ops (mks ops) e = true)) ∧ clearLp ops m (σ m).tmps = true ∧ (∀ i, i < m → listed.getD i false = true) ∧ (∀ i, e ≤ i → ¬ listed.getD i false = true) ∧
   (∀ i o, ops[i]? = some o → listed.getD i false = true → ∀ ed ∈ o.after, Region.binds .any ed = true → listed.getD ed.on false = true) ∧ DInv P ops σ sl m e E (fun i => listed.getD i false = true) ρ β X a w
def I2 (P : Program) (ops : Array Oper) (σ : Nat → St) (E : Env) (listed : Array Bool) (a : Act) (w : World) : Prop :=
 ∃ m e ρ β X, Seg ops m e ∧ e < ops.size ∧ semi ops (mks ops) e = true ∧ clearLp ops (e + 1) (σ (e + 1)).tmps = true ∧ (σ (e + 1)).tmps = (σ e).tmps ∧ (∀ i, i < m → listed.getD i false = true) ∧ listed.getD e false = true ∧ (∀ i, e < i → ¬ listed.getD i false = true) ∧ (∃ l, l < e ∧ ¬ listed.getD l false = true) ∧
   (∀ i, behind (mks ops) e i = true → listed.getD i false = true) ∧
   (∀ i o, ops[i]? = some o → listed.getD i false = true → ∀ ed ∈ o.after, Region.binds .any ed = true → listed.getD ed.on false = true) ∧
   Rel P E ρ β X a w ∧ X.heap = (σ (e + 1)).heap ∧ X.boxes = (σ (e + 1)).boxes ∧ X.tmps.length = (σ (e + 1)).tmps.length ∧
   ∀ t, (∀ j o, j < e → ¬ listed.getD j false = true → ops[j]? = some o → o.dst ≠ some t) → X.tmps[t]? = (σ (e + 1)).tmps[t]?
theorem I1.of {E : Env} {listed : Array Bool} {ρ : Rho} {β : List (Option Nat)} {a : Act} {w : World} {m : Nat} (hm : m ≤ ops.size) (hb : ∀ i, i < m → listed.getD i false = true) (ho : ∀ i, m ≤ i → ¬ listed.getD i false = true)
  (hcl : ∀ i o, ops[i]? = some o → listed.getD i false = true → ∀ ed ∈ o.after, Region.binds .any ed = true → listed.getD ed.on false = true) (hc : clearLp ops m (σ m).tmps = true) (h : Rel P E ρ β (σ m) a w) : I1 P ops σ sl E listed a w := by
 obtain ⟨e', hs', he'⟩ := seg_ex ops (ops.size - m) m (by omega)
 obtain ⟨ρ'', X'', hI''⟩ := DInv.start hp hd hs' hc h (D := fun j => listed.getD j false = true) fun j h1 h2 hh => ho j h1 hh
 exact ⟨m, e', ρ'', β, X'', hs', he', hc, hb, fun j hj hh => ho j (by have := hs'.le; omega) hh, hcl, hI''⟩
theorem draw_any (hC : CallOK P C) {E : Env} {R : Type} {k : PExit → St → Option R} {r : R} (hk : k .normal (σ ops.size) = some r) : ∀ (fuel : Nat) (listed : Array Bool) (a : Act) (w : World),
  (I1 P ops σ sl E listed a w ∨ I2 P ops σ E listed a w) →
  listed.size = ops.size → (List.range ops.size).countP (fun i => !listed.getD i false) ≤ fuel → wpAnyIn (fen E.ro) 0 P .any ops (At P E r k) fuel listed a w := by
 -- what is ready, when nothing is
 have least : ∀ (listed : Array Bool), (∀ i o, ops[i]? = some o → listed.getD i false = true → ∀ ed ∈ o.after, Region.binds .any ed = true → listed.getD ed.on false = true) → listed.size = ops.size → Region.ready .any ops listed = [] → ∀ i, i < ops.size → listed.getD i false = true := by
  intro listed hcl hsz hr i
  induction i using Nat.strongRecOn with
  | _ i ih =>
   intro hi
   cases hli : listed.getD i false with
   | true => rfl
   | false =>
    exfalso
    have hmem : i ∈ Region.ready .any ops listed := by
     rw [mem_ready]
     refine ⟨?_, ops[i], Array.getElem?_eq_getElem hi, fun ed hed hbd => ?_⟩
     ·simp only [Array.getD_eq_getD_getElem?] at hli ⊢
      rw [Array.getElem?_eq_getElem (by omega)] at hli ⊢
      exact hli
     ·have hb : behind (mks ops) i ed.on = true := by
       obtain ⟨ms', h1, _⟩ := (masksOf_get ops.toList []).2 i ops[i] (by simp [hi])
       simp only [List.length_nil, Nat.zero_add] at h1
       unfold behind
       rw [List.getD_eq_getElem?_getD, h1]
       exact maskOf_bit hed hbd
      have hlt := behind_lt hd hi hb
      exact ih ed.on hlt (by omega)
    rw [hr] at hmem
    cases hmem
 have stop : ∀ (listed : Array Bool) (a : Act) (w : World), (I1 P ops σ sl E listed a w ∨ I2 P ops σ E listed a w) → (∀ i, i < ops.size → listed.getD i false = true) → At P E r k .normal a w := by
  rintro listed a w (⟨m, e, ρ, β, X, hs, he, _, _, hout, _, hI⟩ | ⟨m, e, ρ, β, X, hs, he, _, _, _, _, _, _, ⟨l, hl, hnl⟩, _⟩) hall
  rotate_left
  ·exact absurd (hall l (by omega)) hnl
  have heq : e = ops.size := by
   rcases he with he | ⟨he, _⟩
   ·exact he
   ·exact absurd (hall e he) (hout e (Nat.le_refl e))
  subst heq
  exact ⟨.normal, σ ops.size, ρ, β, hk, hI.full hp hd hs fun k h1 h2 => hall k h2, trivial⟩
 intro fuel
 induction fuel with
 | zero =>
  intro listed a w hI hsz hcnt
  have hall : ∀ i, i < ops.size → listed.getD i false = true := by
   intro i hi
   have h0 : (List.range ops.size).countP (fun i => !listed.getD i false) = 0 := by omega
   have := List.countP_eq_zero.1 h0 i (List.mem_range.2 hi)
   simpa using this
  refine ⟨?_, stop listed a w hI hall⟩
  rw [List.eq_nil_iff_forall_not_mem]
  intro i hmem
  rw [mem_ready] at hmem
  obtain ⟨h0, o, ho, _⟩ := hmem
  have hi := aget_lt ho
  have := hall i hi
  simp only [Array.getD_eq_getD_getElem?] at this h0
  rw [Array.getElem?_eq_getElem (by omega)] at this h0
  simp at this h0
  rw [this] at h0
  cases h0
 | succ fuel ih =>
  intro listed a w hI hsz hcnt
  have hclosed0 : ∀ i o, ops[i]? = some o → listed.getD i false = true → ∀ ed ∈ o.after, Region.binds .any ed = true → listed.getD ed.on false = true := by
   rcases hI with ⟨_, _, _, _, _, _, _, _, _, _, h, _⟩ | ⟨_, _, _, _, _, _, _, _, _, _, _, _, _, _, _, h, _⟩ <;> exact h
  refine ⟨fun hr => stop listed a w hI (least listed hclosed0 hsz hr), fun i hi => ?_⟩
  rw [mem_ready] at hi
  obtain ⟨h0, o, ho, hdeps⟩ := hi
  have hin := aget_lt ho
  have hni : ¬ listed.getD i false = true := by
   simp only [Array.getD_eq_getD_getElem?] at h0 ⊢
   rw [Array.getElem?_eq_getElem (by omega)] at h0 ⊢
   simp at h0 ⊢
   exact h0
  have hclosed := hclosed0
  have hcb : ∀ i j, listed.getD i false = true → behind (mks ops) i j = true → listed.getD j false = true := by
   intro i j hi hb
   cases hoi : ops[i]? with
   | none =>
    have hge : ops.size ≤ i := by
     rcases Nat.lt_or_ge i ops.size with h | h
     ·rw [Array.getElem?_eq_getElem h] at hoi; cases hoi
     ·exact h
    simp only [Array.getD_eq_getD_getElem?] at hi
    rw [Array.getElem?_eq_none (by omega)] at hi
    cases hi
   | some oi => exact behind_closed hd hclosed i j oi hoi (fun ed hed hbd => hclosed i oi hoi hi ed hed hbd) hb
  have hbi : ∀ j, behind (mks ops) i j = true → listed.getD j false = true := fun j hb => behind_closed hd hclosed i j o ho hdeps hb
  -- the set that has been carried out
  have hset : ∀ j, (listed.setIfInBounds i true).getD j false = true ↔ (listed.getD j false = true ∨ j = i) := by
   intro j
   by_cases hji : i = j
   ·subst hji
    simp [Array.getD_eq_getD_getElem?, show i < listed.size by omega]
   ·rw [getD_set_ne false hji]
    exact ⟨fun h => .inl h, fun h => h.resolve_right fun hh => hji hh.symm⟩
  have hcnt' : (List.range ops.size).countP (fun j => !(listed.setIfInBounds i true).getD j false) ≤ fuel := by
   have hlt : (List.range ops.size).countP (fun j => !(listed.setIfInBounds i true).getD j false) < (List.range ops.size).countP (fun j => !listed.getD j false) := by
    have key : ∀ (l : List Nat), i ∈ l → l.countP (fun j => !(listed.setIfInBounds i true).getD j false) < l.countP (fun j => !listed.getD j false) := by
     have mono : ∀ l : List Nat, l.countP (fun j => !(listed.setIfInBounds i true).getD j false) ≤ l.countP (fun j => !listed.getD j false) := fun l => List.countP_mono_left fun j _ hj => by
      simp only [Bool.not_eq_true'] at hj ⊢
      cases hh : listed.getD j false with
      | false => rfl
      | true =>
       have := (hset j).2 (.inl hh)
       rw [this] at hj; cases hj
     intro l
     induction l with
     | nil => intro h; cases h
     | cons x l ihl =>
      intro h
      by_cases hx : x = i
      ·subst hx
       have h1 : (!(listed.setIfInBounds x true).getD x false) = false := by rw [(hset x).2 (.inr rfl)]; rfl
       have h2 : (!listed.getD x false) = true := by simpa using hni
       rw [List.countP_cons_of_neg (by rw [h1]; decide), List.countP_cons_of_pos (p := fun j => !listed.getD j false) (by exact h2)]
       have := mono l
       omega
      ·have hm : i ∈ l := by
        rcases List.mem_cons.1 h with h | h
        ·exact absurd h.symm hx
        ·exact h
       have := ihl hm
       have h1 : (!(listed.setIfInBounds i true).getD x false) = (!listed.getD x false) := by rw [getD_set_ne false (Ne.symm hx)]
       simp only [List.countP_cons, h1]
       omega
    exact key _ (List.mem_range.2 hin)
   omega
  have hclosed' : ∀ j o', ops[j]? = some o' → (listed.setIfInBounds i true).getD j false = true → ∀ ed ∈ o'.after, Region.binds .any ed = true → (listed.setIfInBounds i true).getD ed.on false = true := by
   intro j o' hj hlj ed hed hbd
   rcases (hset j).1 hlj with h | rfl
   ·exact (hset _).2 (.inl (hclosed j o' hj h ed hed hbd))
   ·rw [ho] at hj
    cases hj
    exact (hset _).2 (.inl (hdeps ed hed hbd))
  have hDeq : (fun j => listed.getD j false = true ∨ j = i) = (fun j => (listed.setIfInBounds i true).getD j false = true) := funext fun j => propext (hset j).symm
  have phase2 : I2 P ops σ E listed a w → wpOpIn (fen E.ro) 0 P ops (At P E r k) i (wpAnyIn (fen E.ro) 0 P .any ops (At P E r k) fuel (listed.setIfInBounds i true)) a w := by
   rintro ⟨m, e, ρ, β, X, hs, hen, hsem, hcl, hse, hbelow, hel, hout, ⟨l, hl, hnl⟩, hbe, _, hrel, hXh, hXb, hXl, hXt⟩
   obtain ⟨oe, hoe, _, hlate, hafter⟩ := semi_spec hsem
   have hlb : behind (mks ops) e l = false := by
    cases hb : behind (mks ops) e l with
    | false => rfl
    | true => exact absurd (hbe l hb) hnl
   have hie : i < e := by
    rcases Nat.lt_trichotomy i e with h | h | h
    ·exact h
    ·rw [h] at hni; exact absurd hel hni
    ·rcases (hafter i h hin).2 l hl with h1 | h1
     ·rw [h1] at hlb; cases hlb
     ·exact absurd (hbi l h1) hnl
   have hmi : m ≤ i := by
    rcases Nat.lt_or_ge i m with h | h
    ·exact absurd (hbelow i h) hni
    ·exact h
   have hfi := hs.soft i hmi hie
   have hpt : pureT ops o = true := by
    rcases hlate i hie with h | ⟨p, d, hp', hpt, _, _⟩
    ·exact absurd (hbe i h) hni
    ·rw [ho] at hp'; cases hp'; exact hpt
   obtain ⟨d, hdst, hdl⟩ : ∃ d, o.dst = some d ∧ d ∉ o.looksAt ops := by
    have h1 := (Bool.and_eq_true_iff.1 (Bool.and_eq_true_iff.1 hpt).1).2
    cases hd' : o.dst with
    | none => rw [hd'] at h1; cases h1
    | some d =>
     rw [hd'] at h1
     refine ⟨d, rfl, fun hm => ?_⟩
     have h1 : (!(o.looksAt ops).elem d) = true := h1
     rw [List.elem_eq_true_of_mem hm] at h1
     cases h1
   have hgu : o.guard = none := by
    have h1 := (Bool.and_eq_true_iff.1 (Bool.and_eq_true_iff.1 hpt).1).1
    simpa using h1
   -- what it looks at is there
   have hlook : ∀ t ∈ o.looksAt ops, X.tmps[t]? = (σ i).tmps[t]? := fun t ht => by
    rw [hXt t fun j oj hj hnj hoj hdj => ?_, hse]
    ·refine seg_tmps hp hs hmi (Nat.le_of_lt hie) (Nat.le_refl e) fun q z hq hqe hz hdz => ?_
     by_cases hqi : q = i
     ·subst hqi
      rw [ho] at hz; cases hz
      rw [hdst] at hdz; cases hdz
      exact hdl ht
     ·exact (pair_spec hd (show i < q by omega) ho hz hfi (hs.soft q (by omega) hqe)).2 t hdz ht
    ·have hmj : m ≤ j := by
      rcases Nat.lt_or_ge j m with h | h
      ·exact absurd (hbelow j h) hnj
      ·exact h
     rcases Nat.lt_trichotomy j i with h | h | h
     ·rcases ((pair_spec hd h hoj ho (hs.soft j hmj hj) hfi).1 t hdj).2 with h1 | h1
      ·exact absurd (hbi j h1) hnj
      ·exact h1 ht
     ·subst h
      rw [ho] at hoj; cases hoj
      rw [hdst] at hdj; cases hdj
      exact hdl ht
     ·exact (pair_spec hd h ho hoj hfi (hs.soft j hmj hj)).2 t hdj ht
   have hst := hp.step i o (Nat.zero_le _) ho
   have hff := hp.ff ho hfi
   generalize hXi : σ (i + 1) = Xi at hst
   generalize hsi : sl i = si at hst
   unfold wpOpIn
   rw [ho]
   simp only
   have fin : ∀ s, sl i = s → ∀ ρ' β' a' w', Rel P E ρ' β' (X.put o.dst s) a' w' → wpAnyIn (fen E.ro) 0 P .any ops (At P E r k) fuel (listed.setIfInBounds i true) a' w' := by
    intro s hs' ρ' β' a' w' hr
    have hlen : (σ i).tmps.length = (σ (e + 1)).tmps.length := by
     rw [hse]
     exact (seg_tlen hp hs hmi (Nat.le_of_lt hie) (Nat.le_refl e)).symm
    have hput : (X.put o.dst s).tmps = X.tmps.set d s := by rw [hdst]; rfl
    have hmore : ∀ t, (∀ j o', j < e → ¬ (listed.setIfInBounds i true).getD j false = true → ops[j]? = some o' → o'.dst ≠ some t) → (X.put o.dst s).tmps[t]? = (σ (e + 1)).tmps[t]? := by
     intro t hu
     rw [hput]
     by_cases htd : t = d
     ·subst htd
      have h1 : (σ (e + 1)).tmps[t]? = (σ (i + 1)).tmps[t]? := by
       rw [hse]
       exact seg_tmps hp hs (show m ≤ i + 1 by omega) (show i + 1 ≤ e by omega) (Nat.le_refl e) fun q z hq hqe hz hdz =>
        ((pair_spec hd (show i < q by omega) ho hz hfi (hs.soft q (by omega) hqe)).1 t hdst).1 hdz
      have h2 : (σ (i + 1)).tmps = (σ i).tmps.set t s := by
       have := hff.tmps
       rw [hdst] at this
       rw [this, hs']
      rw [h1, h2]
      have hXi2 : X.tmps.length = (σ i).tmps.length := hXl.trans hlen.symm
      by_cases hlt : t < X.tmps.length
      ·rw [set_same hlt, set_same (by rw [← hXi2]; exact hlt)]
      ·have g1 : (X.tmps.set t s)[t]? = none := List.getElem?_eq_none (by rw [List.length_set]; exact Nat.le_of_not_lt hlt)
       have g2 : ((σ i).tmps.set t s)[t]? = none := List.getElem?_eq_none (by rw [List.length_set, ← hXi2]; exact Nat.le_of_not_lt hlt)
       rw [g1, g2]
     ·rw [set_ne htd]
      refine hXt t fun j oj hj hnj hoj => ?_
      by_cases hji : j = i
      ·subst hji
       rw [ho] at hoj; cases hoj
       rw [hdst]
       exact fun hh => htd (Option.some.inj hh).symm
      ·exact hu j oj hj (fun hh => ((hset j).1 hh).elim hnj hji) hoj
    have hb2 : (X.put o.dst s).boxes = (σ (e + 1)).boxes := by rw [hdst]; exact hXb
    have hh2 : (X.put o.dst s).heap = (σ (e + 1)).heap := by rw [hdst]; exact hXh
    have hl2 : (X.put o.dst s).tmps.length = (σ (e + 1)).tmps.length := by rw [hput, List.length_set]; exact hXl
    by_cases hmo : ∃ l, l < e ∧ ¬ (listed.setIfInBounds i true).getD l false = true
    ·exact ih _ a' w' (.inr ⟨m, e, ρ', β', X.put o.dst s, hs, hen, hsem, hcl, hse, fun j hj => (hset j).2 (.inl (hbelow j hj)), (hset e).2 (.inl hel), fun j hj hh => by
      rcases (hset j).1 hh with h | h
      ·exact hout j hj h
      ·omega, hmo, fun j hj => (hset j).2 (.inl (hbe j hj)), hclosed', hr, hh2, hb2, hl2, hmore⟩) (by simp [hsz]) hcnt'
    ·have hall : ∀ j, j < e → (listed.setIfInBounds i true).getD j false = true := fun j hj => by
      cases hh : (listed.setIfInBounds i true).getD j false with
      | true => rfl
      | false => exact absurd ⟨j, hj, by rw [hh]; exact Bool.false_ne_true⟩ hmo
     have hX : X.put o.dst s = σ (e + 1) := by
      have ht : (X.put o.dst s).tmps = (σ (e + 1)).tmps := List.ext_getElem? fun t => hmore t fun j o' hj hnj => absurd (hall j hj) hnj
      cases h1 : X.put o.dst s
      cases h2 : σ (e + 1)
      rw [h1, h2] at ht hb2 hh2
      simp only at ht hb2 hh2
      rw [ht, hb2, hh2]
     rw [hX] at hr
     refine ih _ a' w' (.inl (I1.of hp hd (m := e + 1) hen (fun j hj => ?_) (fun j hj hh => ?_) hclosed' hcl hr)) (by simp [hsz]) hcnt'
     ·rcases Nat.lt_or_ge j e with h | h
      ·exact hall j h
      ·have : j = e := by omega
       subst this
       exact (hset j).2 (.inl hel)
     ·rcases (hset j).1 hh with h | h
      ·exact hout j (by omega) h
      ·omega
   cases hst with
   | skipF hf' => rw [hfi] at hf'; cases hf'
   | runF s Y hf' => rw [hfi] at hf'; cases hf'
   | skip _ hg =>
    obtain ⟨_, _, _, _, hg, _⟩ := hg
    rw [hgu] at hg; cases hg
   | run s φ _ hg hok hev _ _ =>
    have hw : Region.wanted o (yielded ops a.tmps) = true := by simp [Region.wanted, hgu]
    rw [hw]
    simp only [if_true]
    have hev2 := pure_on hpt hev (X := X) fun t ht => by
     rw [hlook t ht]
     show _ = (focT (o.looksAt ops) 0 (σ i).tmps)[t]?
     rw [focT_in _ 0 t (by simpa using ht)]
    obtain ⟨s2, Y2, h2, hwp⟩ := evalOp_sound hC false hrel hev2 (o := o) (Q := At P E r k)
    simp only [Option.some.injEq, Prod.mk.injEq] at h2
    rw [h2.1, h2.2] at hwp
    exact Oper.wpIn_mono (fun a' w' ⟨ρ', β', hr, _⟩ => fin _ hsi ρ' β' a' w' hr) hwp
  rcases hI with ⟨m, e, ρ, β, X, hs, he, hcl, hbelow, hout, _, hI⟩ | hI2
  rotate_left
  ·exact phase2 hI2
  by_cases hie : i < e
  ·have hmi : m ≤ i := by
    rcases Nat.lt_or_ge i m with h | h
    ·exact absurd (hbelow i h) hni
    ·exact h
   refine hI.step hp hs hd hcl hC hcb hmi hie ho hni hbi fun ρ' β' X' a' w' hI' => ih _ a' w' (.inl ⟨m, e, ρ', β', X', hs, he, hcl, fun j hj => (hset j).2 (.inl (hbelow j hj)), fun j hj hh => ?_, hclosed', by rw [← hDeq]; exact hI'⟩) (by simp [hsz]) hcnt'
   rcases (hset j).1 hh with h | h
   ·exact hout j hj h
   ·omega
  ·have hen : e < ops.size := by omega
   obtain ⟨_, hfe⟩ : e < ops.size ∧ frm ops (mks ops) e = true := by
    rcases he with h | h
    ·omega
    ·exact h
   have hei : i = e := by
    rcases Nat.lt_or_ge e i with h | h
    ·exact absurd (hbi e (frm_behind hfe hin h)) (hout e (Nat.le_refl e))
    ·omega
   subst hei
   by_cases hmo : ∃ l, l < i ∧ ¬ listed.getD l false = true
   ·-- some lag behind
    obtain ⟨l, hl, hnl⟩ := hmo
    have hsem : semi ops (mks ops) i = true := frm_semi hfe ⟨l, hl, by omega, by
     cases hb : behind (mks ops) i l with
     | false => rfl
     | true => exact absurd (hbi l hb) hnl⟩
    obtain ⟨oe, hoe, hstore, hlate, _⟩ := semi_spec hsem
    rw [ho] at hoe; cases hoe
    have hgu : o.guard = none := by
     have h1 := (Bool.and_eq_true_iff.1 (Bool.and_eq_true_iff.1 hstore).1).1
     simpa using h1
    have hdn : o.dst = none := by
     have h1 := (Bool.and_eq_true_iff.1 (Bool.and_eq_true_iff.1 hstore).1).2
     simpa using h1
    have hlag : ∀ j, j < i → ¬ listed.getD j false = true → ∃ p d, ops[j]? = some p ∧ pureT ops p = true ∧ p.dst = some d ∧ d ∉ o.looksAt ops := fun j hj hnj => by
     rcases hlate j hj with h | h
     ·exact absurd (hbi j h) hnj
     ·exact h
    have hXt : ∀ t, (∀ j o', j < i → ¬ listed.getD j false = true → ops[j]? = some o' → o'.dst ≠ some t) → X.tmps[t]? = (σ i).tmps[t]? := by
     intro t hu
     by_cases hex : ∃ k y, m ≤ k ∧ k < i ∧ ops[k]? = some y ∧ y.dst = some t
     ·obtain ⟨k', y, h1, h2, hy, hdy⟩ := hex
      have hk : listed.getD k' false = true := by
       cases hh : listed.getD k' false with
       | true => rfl
       | false => exact absurd hdy (hu k' y h2 (by rw [hh]; exact Bool.false_ne_true) hy)
      rw [hI.tin k' y t h1 h2 hk hy hdy]
      exact (seg_tmps hp hs (show m ≤ k' + 1 by omega) (show k' + 1 ≤ i by omega) (Nat.le_refl i) fun q z hq hqe hz hdz =>
       ((pair_spec hd (show k' < q by omega) hy hz (hs.soft k' h1 h2) (hs.soft q (by omega) hqe)).1 t hdy).1 hdz).symm
     ·rw [hI.tout t fun k' y h1 h2 _ hy hdy => hex ⟨k', y, h1, h2, hy, hdy⟩]
      exact (seg_tmps hp hs (Nat.le_refl m) hs.le (Nat.le_refl i) fun k' y h1 h2 hy hdy => hex ⟨k', y, h1, h2, hy, hdy⟩).symm
    have hXb : X.boxes = (σ i).boxes := by
     apply List.ext_getElem?
     intro d
     refine hI.byes d fun k' h1 h2 h3 hmk => ?_
     obtain ⟨p, _, hp', hpt, _, _⟩ := hlag k' h2 h3
     obtain ⟨o', _, _, ho', hmk, _⟩ := hmk
     rw [hp'] at ho'; cases ho'
     unfold pureT at hpt
     have h4 := (Bool.and_eq_true_iff.1 hpt).2
     cases hop : p.op <;> rw [hop] at h4 hmk <;> first | (simp [makes] at hmk; done) | (simp at h4; done)
    have hst := hp.step i o (Nat.zero_le _) ho
    generalize hXi : σ (i + 1) = Xi at hst
    generalize hsi : sl i = si at hst
    unfold wpOpIn
    rw [ho]
    simp only
    cases hst with
    | skip hf' => rw [hfe] at hf'; cases hf'
    | run s φ hf' => rw [hfe] at hf'; cases hf'
    | skipF _ hg hc =>
     obtain ⟨_, _, _, _, hg, _⟩ := hg
     rw [hgu] at hg; cases hg
    | runF s Y _ hg hev hc =>
     have hw : Region.wanted o (yielded ops a.tmps) = true := by simp [Region.wanted, hgu]
     rw [hw]
     simp only [if_true]
     obtain ⟨hev2, hYt⟩ := store_on (ops := ops) hstore hev (X := X) hXb hI.heap fun t ht => hXt t fun j o' hj hnj hoj hdj => by
      obtain ⟨p, d, hp', _, hpd, hdl⟩ := hlag j hj hnj
      rw [hoj] at hp'; cases hp'
      rw [hpd] at hdj; cases hdj
      exact hdl ht
     have hXi' : σ (i + 1) = Y := by rw [hXi, hdn]; rfl
     obtain ⟨s2, Y2, h2, hwp⟩ := evalOp_sound hC false hI.rel hev2 (o := o) (Q := At P E r k)
     simp only [Option.some.injEq, Prod.mk.injEq] at h2
     rw [h2.1, h2.2] at hwp
     refine Oper.wpIn_mono (fun a' w' ⟨ρ', β', hr, _⟩ => ?_) hwp
     rw [hdn] at hr
     rw [hdn] at hc
     refine ih _ a' w' (.inr ⟨m, i, ρ', β', { Y with tmps := X.tmps }, hs, hin, hsem, by rw [hXi']; exact hc, by rw [hXi']; exact hYt, fun j hj => (hset j).2 (.inl (hbelow j hj)), (hset i).2 (.inr rfl), fun j hj hh => ?_, ⟨l, hl, fun hh => ?_⟩, fun j hj => (hset j).2 (.inl (hbi j hj)), hclosed', hr, by rw [hXi'], by rw [hXi'], ?_, fun t hu => ?_⟩) (by simp [hsz]) hcnt'
     ·rcases (hset j).1 hh with h | h
      ·exact hout j (by omega) h
      ·omega
     ·rcases (hset l).1 hh with h | h
      ·exact hnl h
      ·omega
     ·rw [hXi', hYt, hI.tlen]
      exact (seg_tlen hp hs (Nat.le_refl m) hs.le (Nat.le_refl i)).symm
     ·show X.tmps[t]? = _
      rw [hXi', hYt]
      refine hXt t fun j o' hj hnj hoj => hu j o' hj (fun hh => ?_) hoj
      rcases (hset j).1 hh with h | h
      ·exact hnj h
      ·omega
   have hall : ∀ j, j < i → listed.getD j false = true := fun j hj => by
    cases hh : listed.getD j false with
    | true => rfl
    | false => exact absurd ⟨j, hj, by rw [hh]; exact Bool.false_ne_true⟩ hmo
   have hrel := hI.full hp hd hs fun j h1 h2 => hall j h2
   have goOn : ∀ ρ' β' a' w', Rel P E ρ' β' (σ (i + 1)) a' w' → clearLp ops (i + 1) (σ (i + 1)).tmps = true → wpAnyIn (fen E.ro) 0 P .any ops (At P E r k) fuel (listed.setIfInBounds i true) a' w' := by
    intro ρ' β' a' w' hr hc
    refine ih _ a' w' (.inl (I1.of hp hd (m := i + 1) hin (fun j hj => ?_) (fun j hj hh => ?_) hclosed' hc hr)) (by simp [hsz]) hcnt'
    ·by_cases hji : j = i
     ·exact (hset j).2 (.inr hji)
     ·exact (hset j).2 (.inl (hall j (by omega)))
    ·rcases (hset j).1 hh with h | h
     ·exact hout j (by omega) h
     ·omega
   have hst := hp.step i o (Nat.zero_le _) ho
   generalize hXi : σ (i + 1) = Xi at hst goOn
   generalize hsi : sl i = si at hst
   unfold wpOpIn
   rw [ho]
   simp only
   cases hst with
   | skip hf' => rw [hfe] at hf'; cases hf'
   | run s φ hf' => rw [hfe] at hf'; cases hf'
   | skipF _ hg hc =>
    rw [hg.wanted hrel]
    simp only [Bool.false_eq_true, if_false]
    exact ⟨fun _ _ => trivial, goOn _ _ _ _ (hrel.put o.dst (s := .v undef) (.tuple _ _ .nil)) hc⟩
   | runF s Y _ hg hev hc =>
    rw [hg.wanted hrel]
    simp only [if_true]
    obtain ⟨s2, Y2, h2, hwp⟩ := evalOp_sound hC false hrel hev (o := o) (Q := At P E r k)
    simp only [Option.some.injEq, Prod.mk.injEq] at h2
    rw [h2.1, h2.2] at hwp
    exact Oper.wpIn_mono (fun a' w' ⟨ρ', β', hr, _⟩ => goOn ρ' β' a' w' hr hc) hwp
end
theorem pre_rel {P : Program} {E : Env} {β : List (Option Nat)} {a : Act} {w : World} {R : Type} {r : R} {k : St → Option R} : ∀ (l : List Nat) {st : St} {ρ : Rho}, Rel P E ρ β st a w → pre st l k = some r → ∃ ρ' st', Rel P E ρ' β st' a w ∧ k st' = some r
 | [], st, ρ, h, e => ⟨ρ, st, h, e⟩
 | t :: l, st, ρ, h, e => by
  unfold pre at e
  split at e
  ·rename_i d off hs
   cases hb : boxed st.boxes[d]? with
   | false => rw [hb] at e; exact pre_rel l h e
   | true =>
    rw [hb, cond_true] at e
    obtain ⟨y, hy, hsr⟩ := h.t.2 t _ hs
    obtain ⟨ρ1, x, st1, hx1, h1, hv, e1, hlen, hsl⟩ := out_rel h hsr e
    refine pre_rel l (⟨h1.h, h1.b, ⟨by simpa using h1.t.1, fun t' s' ht' => ?_⟩, h1.f, ⟨h1.n.wh, h1.n.wb, h1.n.wn, h1.n.len, h1.n.liv, h1.n.wo⟩, h1.d, by simpa using h1.bl, h1.e, h1.g⟩ : Rel P E ρ1 β { st1 with tmps := st1.tmps.set t (.v x) } a w) e1
    rcases set_get ht' with ⟨rfl, rfl, _⟩ | ⟨_, ht'⟩
    ·exact ⟨y, hy, hv⟩
    ·exact h1.t.2 t' s' ht'
  ·exact pre_rel l h e
theorem draw_ok {P : Program} {C : CallF} (hC : CallOK P C) : DrawOK P C := by
 intro E id ops R k r st ρ β a w h e
 simp only [evalRegion] at e
 obtain ⟨ρ, st, h, e⟩ := pre_rel _ h e
 obtain ⟨hc, e1⟩ := bif_some e
 simp only [Bool.and_eq_true] at hc
 obtain ⟨⟨hd, hm⟩, hcl⟩ := hc
 obtain ⟨σ, sl, h0, hk, hp⟩ := evalDraw_path ops.toList 0 rfl (Nat.zero_le _) e1
 refine wpIn_region_any hm ?_
 have hrel : Rel P E ρ β (σ 0) a w.drew := by
  rw [h0]
  exact (h.drew).killAll _
 obtain ⟨e', hs, he⟩ := seg_ex ops ops.size 0 (by omega)
 obtain ⟨ρ', X, hI⟩ := DInv.start hp hd hs (by rw [h0]; exact hcl) hrel (D := fun i => (Array.replicate ops.size false).getD i false = true) fun j _ _ hh => by
  simp only [Array.getD_eq_getD_getElem?, Array.getElem?_replicate] at hh
  split at hh <;> cases hh
 have hno : ∀ i, ¬ (Array.replicate ops.size false).getD i false = true := fun i hh => by
  simp only [Array.getD_eq_getD_getElem?, Array.getElem?_replicate] at hh
  split at hh <;> cases hh
 refine draw_any hp hd hC hk ops.size _ a w.drew (.inl ⟨0, e', ρ', β, X, hs, he, by rw [h0]; exact hcl, fun i hi => by omega, fun i _ => hno i, fun i o _ hh => absurd hh (hno i), hI⟩) (by simp) ?_
 have := List.countP_le_length (p := fun i => !(Array.replicate ops.size false).getD i false) (l := List.range ops.size)
 simpa using this
end Go.Pv
end
section
namespace Go.Pv
variable [Glob]
inductive Tgt where
 | fn (f : FuncId)
 | yield (l : Nat)
inductive Res where
 | ret (v : Value)
 | pan (v : Value)
abbrev CallX := Tgt → List Value → Heap → Option (Res × Heap)
def retOnly (X : CallX) : CallF := fun f xs h => (X (.fn f) xs h).bind fun r =>
 match r.1 with
 | .ret v => some (v, r.2)
 | .pan _ => none
inductive DItem where
 | mark (id : Nat)
 | call (g : FuncId) (args : List Value)
structure Tab where
 fn : FuncId → Option Func
 kill : FuncId → Nat → List Nat
 spec : FuncId → Option (List Value → Heap → Option (Res × Heap))
def afterCall {R : Type} (P : Program) (o : Oper) (st : St) (ds : List DItem) (k : Slot → St → List DItem → Option R) (kp : Value → St → List DItem → Option R) (r : Res × Heap) : Option R :=
 match r.1 with
 | .ret v => typed P o.type v fun x => k (.v x) { st with heap := r.2 } ds
 | .pan v => kp v { st with heap := r.2 } ds
def evalOpX {R : Type} (P : Program) (X : CallX) (rnd : Option Nat) (o : Oper) (st : St) (ds : List DItem) (k : Slot → St → List DItem → Option R) (kp : Value → St → List DItem → Option R) : Option R :=
 match o.op with
 | .call ⟨.value f, args, _⟩ => (opd st f).bind fun sf => (valS sf).bind fun fv => (opds st args.toList).bind fun ss => outs st ss fun xs st =>
   match fv with
   | .func (.func g) first captured => (X (.fn g) (first.toList ++ xs ++ captured.toList) st.heap).bind fun r => afterCall P o st ds k kp r
   | .func (.yield l) ⟨[]⟩ ⟨[]⟩ => (X (.yield l) xs st.heap).bind fun r => afterCall P o st ds k kp r
   | _ => none
 | .panic x => (opd st x).bind fun s => (valS s).bind fun v =>
   match v with
   | .iface t y => kp (.iface t y) st ds
   | _ => none
 | .defer ⟨.value f, args, _⟩ =>
   match rnd with
   | some _ => none
   | none => (opd st f).bind fun sf => (valS sf).bind fun fv => (opds st args.toList).bind fun ss => outs st ss fun xs st =>
    match fv with
    | .func (.func g) first captured => k (.v undef) st (.call g (first.toList ++ xs ++ captured.toList) :: ds)
    | _ => none
 | _ => evalOp P (retOnly X) false o st fun s st => k s st ds
def evalOpsX {R : Type} (P : Program) (X : CallX) (rnd : Option Nat) (ops : Array Oper) : List Oper → St → List DItem → (PExit → St → List DItem → Option R) → Option R
 | [], st, ds, k => k .normal st ds
 | o :: r, st, ds, k =>
  guardK ops o st (fun st => evalOpX P X rnd o st ds (fun s st ds => evalOpsX P X rnd ops r (st.put o.dst s) ds k) fun v st ds => k (.panic v) st ds)
   (fun st => evalOpsX P X rnd ops r (st.put o.dst (.v undef)) ds k)
def settle {R : Type} (st : St) (l : List Slot) (k : List Value → List Bool → St → Option R) : Option R :=
 match l with
 | [] => k [] [] st
 | .dead :: r => settle st r fun vs ds st => k (undef :: vs) (true :: ds) st
 | .v x :: r => settle st r fun vs ds st => k (x :: vs) (false :: ds) st
 | .lp d off :: r =>
  match st.boxes[d]? with
  | some .no => settle st r fun vs ds st => k (undef :: vs) (true :: ds) st
  | _ => out st (.lp d off) fun x st => settle st r fun vs ds st => k (x :: vs) (false :: ds) st
def loopAt (h : Heap) (l : Nat) : Option (Blk × LoopRec) := h[l]?.bind fun b =>
 match b.obj with
 | some (.loop r) => some (b, r)
 | _ => none
def setLoop (h : Heap) (l : Nat) (b : Blk) (r : LoopRec) : Heap := h.set l { b with obj := some (.loop r) }
def dfrBlk : Blk := ⟨[], 0, false, false, false, some .dfr⟩
def loopBlk (cs : List Value) (r : LoopRec) : Blk := ⟨cs, 0, false, false, false, some (.loop r)⟩
def endLoop {R : Type} (l : Nat) (st : St) (ds : List DItem) (k : PExit → St → List DItem → Option R) : Option R :=
 (loopAt st.heap l).bind fun q => bif q.2.state == .busy then none else
  match q.2.pending with
  | none => k .normal { st with heap := setLoop st.heap l q.1 { q.2 with state := .exhausted } } ds
  | some e => k e { st with heap := setLoop st.heap l q.1 { q.2 with state := .exhausted } } ds
def evalRange {R : Type} (P : Program) (X : CallX) (T : Tab) (K : Nat → List Nat) (rnd : Option Nat) (g : Operand) (ps : Array Tmp) (assign body : Code) (st : St) (ds : List DItem) (k : PExit → St → List DItem → Option R) : Option R :=
 (opd st g).bind fun sg => (valS sg).bind fun gv => settle st st.tmps fun cells dead st =>
  match gv with
  | .func (.func f) ⟨[]⟩ captured => (T.fn f).bind fun fn => bif (T.spec f).isNone && fn.body.isSome then
   match rnd with
   | none => (X (.fn f) ([.func (.yield (st.heap.length + 1)) ⟨[]⟩ ⟨[]⟩] ++ captured.toList) (st.heap ++ [dfrBlk] ++ [loopBlk cells ⟨.ready, none, dead, ps.toList, assign, body, K⟩])).bind fun r =>
     match r.1 with
     | .ret _ => endLoop (st.heap.length + 1) { st with heap := r.2 } (.mark st.heap.length :: ds) k
     | .pan v => k (.panic v) { st with heap := r.2 } (.mark st.heap.length :: ds)
   | some around => (loopAt st.heap around).bind fun _ => (X (.fn f) ([.func (.yield st.heap.length) ⟨[]⟩ ⟨[]⟩] ++ captured.toList) (st.heap ++ [loopBlk cells ⟨.ready, none, dead, ps.toList, assign, body, K⟩])).bind fun r =>
     match r.1 with
     | .ret _ => endLoop st.heap.length { st with heap := r.2 } ds k
     | .pan v => k (.panic v) { st with heap := r.2 } ds
   else none
  | _ => none
def loopK {R : Type} (kill : List Nat) (f : St → List DItem → (PExit → St → List DItem → Option R) → Option R) (k : PExit → St → List DItem → Option R) : Nat → St → List DItem → Option R
 | 0, _, _ => none
 | n + 1, st, ds => f st ds fun e st' ds' => match e with
  | .normal => loopK kill f k n (killTmps kill st') ds'
  | e => k e st' ds'
def evalK {R : Type} (P : Program) (X : CallX) (T : Tab) (K : Nat → List Nat) (n : Nat) (rnd : Option Nat) (id : Nat) : Code → St → List DItem → (PExit → St → List DItem → Option R) → Option R
 | .skip, st, ds, k => k .normal st ds
 | .region _ ops draw, st, ds, k =>
  match draw with
  | false => evalOpsX P X rnd ops ops.toList st ds k
  | true => evalRegion P (retOnly X) true ops st fun st => k .normal st ds
 | .seq a b, st, ds, k => evalK P X T K n rnd 0 a st ds fun e st ds => match e with
  | .normal => evalK P X T K n rnd 0 b st ds k
  | e => k e st ds
 | .cond c a b, st, ds, k => (opd st c).bind fun s => (valS s).bind fun x => (toBool x).bind fun t => bif t then evalK P X T K n rnd 0 a st ds k else evalK P X T K n rnd 0 b st ds k
 | .block i b, st, ds, k => evalK P X T K n rnd i b st ds fun e st ds => match e with
  | .exit j => bif Nat.beq j i then k .normal st ds else k (.exit j) st ds
  | e => k e st ds
 | .scope b, st, ds, k => evalK P X T K n rnd 0 b st ds fun e st ds => match e with
  | .goto _ => none
  | e => k e st ds
 | .loop b, st, ds, k => loopK (K id) (fun st ds k => evalK P X T K n rnd 0 b st ds k) k n (killTmps (K id) st) ds
 | .rangeFunc g ps assign body, st, ds, k => evalRange P X T K rnd g ps assign body st ds k
 | .exit i, st, ds, k => k (.exit i) st ds
 | .label _, st, ds, k => k .normal st ds
 | .ret, st, ds, k => k .ret st ds
 | _, _, _, _ => none
def resultsP {R : Type} (P : Program) (st : St) : List ResultVar → (List Value → St → Option R) → Option R
 | [], k => k [] st
 | .tmp t :: r, k => (st.tmps[t]?).bind fun s => out st s fun x st => resultsP P st r fun xs st => k (x :: xs) st
 | .cell a t :: r, k => (tiOf P t).bind fun ti => (st.tmps[a]?).bind fun s =>
   match ti.agg with
   | true => (cellsAt st ti.size s).bind fun cs => resultsP P st r fun xs st => k (.agg ⟨cs⟩ :: xs) st
   | false => (cellAt st s).bind fun x => resultsP P st r fun xs st => k (x :: xs) st
def tupled : List Value → Value
 | [x] => x
 | xs => .tuple ⟨xs⟩
def initSt (fn : Func) (xs : List Value) (h : Heap) : St :=
 { tmps := xs.map Slot.v ++ List.replicate (fn.ntmps - xs.length) (.v undef), boxes := List.replicate (xs.length + (fn.ntmps - xs.length)) .no, heap := h }
inductive Mode where
 | ret
 | pan (v : Value) (recovered : Bool)
def Mode.settled : Mode → Mode
 | .pan _ true => .ret
 | m => m
def isRecover (o : Oper) : Bool := match o.op with
 | .call ⟨.builtin .recover, args, _⟩ => args.isEmpty
 | _ => false
def still (o : Oper) : Bool := match o.op with
 | .move _ | .assign _ | .binOp _ _ _ _ _ => true
 | _ => false
def evalOpsS {R : Type} (P : Program) (X : CallX) (ops : Array Oper) : List Oper → Mode → St → (Mode → St → Option R) → Option R
 | [], m, st, k => k m st
 | o :: r, m, st, k => guardK ops o st (fun st =>
   match isRecover o with
   | true =>
    match m with
    | .pan v false => evalOpsS P X ops r (.pan v true) (st.put o.dst (.v v)) k
    | m => evalOpsS P X ops r m (st.put o.dst (.v .nilIface)) k
   | false => bif still o then evalOp P (retOnly X) false o st fun s st => evalOpsS P X ops r m (st.put o.dst s) k else none)
  (fun st => evalOpsS P X ops r m (st.put o.dst (.v undef)) k)
def evalS {R : Type} (P : Program) (X : CallX) (T : Tab) (K : Nat → List Nat) (n : Nat) : Code → Mode → St → (PExit → Mode → St → Option R) → Option R
 | .seq a b, m, st, k => evalS P X T K n a m st fun e m st => match e with
  | .normal => evalS P X T K n b m st k
  | e => k e m st
 | .cond c a b, m, st, k => (opd st c).bind fun s => (valS s).bind fun x => (toBool x).bind fun t => bif t then evalS P X T K n a m st k else evalS P X T K n b m st k
 | .region i ops draw, m, st, k => bif !draw && ops.any isRecover then evalOpsS P X ops ops.toList m st fun m st => k .normal m st
   else evalK P X T K n none 0 (.region i ops draw) st [] fun e st ds => match ds with
    | [] => k e m st
    | _ => none
 | c, m, st, k => evalK P X T K n none 0 c st [] fun e st ds => match ds with
  | [] => k e m st
  | _ => none
def evalD (P : Program) (X : CallX) (T : Tab) (n : Nat) (g : FuncId) (xs : List Value) (m : Mode) (h : Heap) : Option (Mode × Heap) :=
 bif (T.spec g).isSome then none else (T.fn g).bind fun fn => fn.body.bind fun c => evalS P X T (T.kill g) n c m (initSt fn xs h) fun e m st =>
  match e with
  | .normal | .ret => resultsP P st fn.results.toList fun _ st => some (m, st.heap)
  | _ => none
def leaveX (P : Program) (D : FuncId → List Value → Mode → Heap → Option (Mode × Heap)) (fn : Func) : List DItem → Mode → St → Option (Res × Heap)
 | [], m, st =>
  match m with
  | .ret => resultsP P st fn.results.toList fun vs st => some (.ret (tupled vs), st.heap)
  | .pan v false => some (.pan v, st.heap)
  | .pan _ true => none
 | .mark id :: r, m, st => (st.heap[id]?).bind fun b =>
  match b.obj with
  | some .dfr => leaveX P D fn r m { st with heap := st.heap.set id { b with obj := none } }
  | _ => none
 | .call g xs :: r, m, st => (D g xs m st.heap).bind fun q => leaveX P D fn r q.1.settled { st with heap := q.2 }
def evalBody (P : Program) (X : CallX) (T : Tab) (K : Nat → List Nat) (n : Nat) (fn : Func) (xs : List Value) (h : Heap) : Option (Res × Heap) :=
 fn.body.bind fun c => evalK P X T K n none 0 c (initSt fn xs h) [] fun e st ds =>
  match e with
  | .normal | .ret => leaveX P (evalD P X T n) fn ds .ret st
  | .panic v => leaveX P (evalD P X T n) fn ds (.pan v false) st
  | _ => none
def slotsOf : List Value → List Bool → List Slot
 | x :: xs, d :: ds => (match d with | true => .dead | false => .v x) :: slotsOf xs ds
 | _, _ => []
def setParams : List Slot → List Nat → List Value → List Slot
 | ts, p :: ps, x :: xs => setParams (ts.set p (.v x)) ps xs
 | ts, _, _ => ts
def endRound (l : Nat) (jump : Option PExit) (h : Heap) : Option (Res × Heap) :=
 (loopAt h l).bind fun q => some (.ret (.bool jump.isNone), setLoop h l q.1 { q.2 with state := if jump.isNone then .ready else .done, pending := jump })
def evalRound (P : Program) (X : CallX) (T : Tab) (n : Nat) (l : Nat) (xs : List Value) (h : Heap) : Option (Res × Heap) :=
 (loopAt h l).bind fun q => bif Nat.beq xs.length q.2.params.length && Nat.beq q.2.dead.length q.1.cells.length then
  evalK P X T q.2.kill n (some l) 0 q.2.assign ⟨setParams (slotsOf q.1.cells q.2.dead) q.2.params xs, List.replicate q.1.cells.length .no, h⟩ [] fun e st ds =>
   match e, ds with
   | .normal, [] => (loopAt st.heap l).bind fun q' => bif q'.2.state == .ready then
     evalK P X T q.2.kill n (some l) 0 q.2.body { st with heap := setLoop st.heap l q'.1 { q'.2 with state := .busy } } [] fun e st ds =>
      match e, ds with
      | .normal, [] => endRound l none st.heap
      | .ret, [] => endRound l (some .ret) st.heap
      | .exit i, [] => endRound l (some (.exit i)) st.heap
      | .goto i, [] => endRound l (some (.goto i)) st.heap
      | _, _ => none
     else none
   | _, _ => none
  else none
def evalCall (P : Program) (T : Tab) : Nat → CallX
 | 0, _, _, _ => none
 | n + 1, .fn f, xs, h =>
  match T.spec f with
  | some s => s xs h
  | none => (T.fn f).bind fun fn => evalBody P (evalCall P T n) T (T.kill f) n fn xs h
 | n + 1, .yield l, xs, h => evalRound P (evalCall P T n) T n l xs h
end Go.Pv
end
section
namespace Go.Pv
variable [Glob]
section
variable {P : Program} {E : Env} {ρ : Rho} {β : List (Option Nat)} {st : St} {a : Act} {w : World} {Q : Exit → Act → World → Prop} {next : Act → World → Prop} {o : Oper}
theorem Rel.objSet (h : Rel P E ρ β st a w) {id : Nat} {b : Blk} {ob : LObj} {rb : RB} (hb : st.heap[id]? = some b) (ho : b.obj = some ob) (hat : ρ.at id rb) (o' : Option LObj) (x' : Obj)
  (hx' : ∀ o'', o' = some o'' → ObjR ρ b.cells o'' x') : Rel P E ρ β { st with heap := st.heap.set id { b with obj := o' } } a (w.putObj rb.b x') := by
 obtain ⟨hlv, x, hx, hox⟩ := h.h.o.obj id b rb ob hb hat ho
 have hnc := hox.noCells
 have hlt := aget_lt hx
 have other : ∀ k, k ≠ rb.b → (w.putObj rb.b x').heap[k]? = w.heap[k]? := fun k hk => World.putObj_heap_other hk
 have cellsNe : ∀ {k : Nat} {cs e fr}, w.heap[k]? = some (Obj.cells cs e fr) → k ≠ rb.b := fun {k cs e fr} hk hh => by
  subst hh
  rw [hx] at hk
  cases hk
  exact hnc _ _ _ rfl
 have hold : ∀ {i : Nat} {c : Blk}, (st.heap.set id { b with obj := o' })[i]? = some c → c.live = true → st.heap[i]? = some c := fun {i c} hi hl => by
  rcases set_get hi with ⟨rfl, rfl, _⟩ | ⟨_, hi⟩
  ·rw [show ({ b with obj := o' } : Blk).live = b.live from rfl, hlv] at hl; cases hl
  ·exact hi
 have hA := h.n.wo id b rb hb hat (by rw [ho]; rfl)
 refine ⟨⟨by rw [h.h.len]; simp, ?_, ?_, ⟨?_, ?_⟩⟩, ⟨h.b.len, ?_, ?_, h.b.sepB⟩, h.t, ⟨h.f.os, h.f.tape, h.f.output, by simpa using h.f.size, ?_⟩, ⟨?_, h.n.wb, h.n.wn, by simpa using h.n.len, ?_, ?_⟩, h.d, h.bl, h.e, h.g⟩
 ·intro i c rb2 hi hr hl
  have h2 := h.h.blk i c rb2 (hold hi hl) hr hl
  have h3 := h2
  obtain ⟨cs, e, fr, hc, _⟩ := h3
  exact h2.same (Rho.le.refl ρ) (other _ (cellsNe hc))
 ·intro i j bi bj ri rj hij hi hj hri hrj hli hlj hro
  exact h.h.sep i j bi bj ri rj hij (hold hi hli) (hold hj hlj) hri hrj hli hlj hro
 ·intro i c rb2 oc hi hr hoc
  rcases set_get hi with ⟨rfl, rfl, _⟩ | ⟨hne, hi⟩
  ·have : rb2 = rb := Rho.at_uniq hr hat
   subst this
   exact ⟨hlv, x', World.putObj_heap_same hlt, hx' oc hoc⟩
  ·obtain ⟨h1, y, hy, hoy⟩ := h.h.o.obj i c rb2 oc hi hr hoc
   exact ⟨h1, y, (other _ (h.h.o.sep i id c b rb2 rb oc ob hne hi hb hr hat hoc ho)).trans hy, hoy⟩
 ·intro i j bi bj ri rj oi oj hij hi hj hri hrj hoi hoj
  have back : ∀ {k : Nat} {c : Blk} {oc : LObj}, (st.heap.set id { b with obj := o' })[k]? = some c → c.obj = some oc → ∃ c0 oc0, st.heap[k]? = some c0 ∧ c0.obj = some oc0 := fun {k c oc} hk hoc => by
   rcases set_get hk with ⟨rfl, rfl, _⟩ | ⟨_, hk⟩
   ·exact ⟨b, ob, hb, ho⟩
   ·exact ⟨c, oc, hk, hoc⟩
  obtain ⟨b1, o1, h1, h2⟩ := back hi hoi
  obtain ⟨b2, o2, h3, h4⟩ := back hj hoj
  exact h.h.o.sep i j b1 b2 ri rj o1 o2 hij h1 h3 hri hrj h2 h4
 ·intro d cs e hd
  obtain ⟨b2, ys, h1, h2, h3⟩ := h.b.loc d cs e hd
  exact ⟨b2, ys, h1, (other _ (cellsNe h2)).trans h2, h3⟩
 ·intro d cs e b2 i bl rb2 hd hb2 hi hr hl
  exact h.b.sepH d cs e b2 i bl rb2 hd hb2 (hold hi hl) hr hl
 ·intro k hk hAk
  refine (other k ?_).trans (h.f.block k hk hAk)
  rintro rfl
  rcases hA with hA | hA
  ·exact hAk hA
  ·omega
 ·intro i bl rb2 hi hr hl hro
  exact h.n.wh i bl rb2 (hold hi hl) hr hl hro
 ·intro i bl hid hi hl
  exact h.n.liv i bl hid (hold hi hl) hl
 ·intro i bl rb2 hi hr hob
  rcases set_get hi with ⟨rfl, rfl, _⟩ | ⟨_, hi⟩
  ·have : rb2 = rb := Rho.at_uniq hr hat
   subst this
   exact hA
  ·exact h.n.wo i bl rb2 hi hr hob
theorem Rel.objNew (h : Rel P E ρ β st a w) (cs : List Value) (ob : LObj) (x : Obj) (hx : ObjR ρ cs ob x) :
  Rel P E (ρ ++ [some ⟨w.heap.size, 0, 0, none⟩]) β { st with heap := st.heap ++ [⟨cs, 0, false, false, false, some ob⟩] } a (w.alloc x) := by
 have h' := h.alloc x
 have hle : ρ.le (ρ ++ [some ⟨w.heap.size, 0, 0, none⟩]) := Rho.le.snoc ρ _
 have hlen := h.h.len
 have hold : ∀ {id : Nat} {b : Blk} {rb : RB}, (st.heap ++ [⟨cs, 0, false, false, false, some ob⟩])[id]? = some b → (ρ ++ [some ⟨w.heap.size, 0, 0, none⟩] : Rho).at id rb →
   (st.heap[id]? = some b ∧ ρ.at id rb) ∨ (id = st.heap.length ∧ b = ⟨cs, 0, false, false, false, some ob⟩ ∧ rb = ⟨w.heap.size, 0, 0, none⟩) := fun {id b rb} hb hr => by
  rcases get_snoc hb with ⟨hlt, hb⟩ | ⟨rfl, rfl⟩
  ·exact .inl ⟨hb, Rho.at_snoc hr (by omega)⟩
  ·rw [← hlen] at hr
   exact .inr ⟨rfl, rfl, Rho.at_new hr⟩
 have holdL : ∀ {id : Nat} {b : Blk} {rb : RB}, (st.heap ++ [⟨cs, 0, false, false, false, some ob⟩])[id]? = some b → (ρ ++ [some ⟨w.heap.size, 0, 0, none⟩] : Rho).at id rb → b.live = true → st.heap[id]? = some b ∧ ρ.at id rb := fun {id b rb} hb hr hl => by
  rcases hold hb hr with h1 | ⟨_, rfl, _⟩
  ·exact h1
  ·cases hl
 refine ⟨⟨by simp [hlen], ?_, ?_, ⟨?_, ?_⟩⟩, ⟨h'.b.len, ?_, ?_, h'.b.sepB⟩, h'.t.mono hle, h'.f, ⟨?_, h.n.wb, ?_, by have := h.n.len; simp; omega, ?_, ?_⟩, h.d, h.bl, h.e.trans ⟨_, rfl⟩, h.g⟩
 ·intro id b rb hb hr hl
  obtain ⟨hb, hr⟩ := holdL hb hr hl
  exact (h'.h.blk id b rb hb hr hl).same hle rfl
 ·intro i j bi bj ri rj hij hi hj hri hrj hli hlj hro
  obtain ⟨h1, h2⟩ := holdL hi hri hli
  obtain ⟨h3, h4⟩ := holdL hj hrj hlj
  exact h.h.sep i j bi bj ri rj hij h1 h3 h2 h4 hli hlj hro
 ·intro id b rb oc hb hr hoc
  rcases hold hb hr with ⟨hb, hr⟩ | ⟨rfl, rfl, rfl⟩
  ·obtain ⟨h1, y, hy, hoy⟩ := h'.h.o.obj id b rb oc hb hr hoc
   exact ⟨h1, y, hy, hoy.mono hle⟩
  ·cases hoc
   exact ⟨rfl, x, alloc_new w x, hx.mono hle⟩
 ·intro i j bi bj ri rj oi oj hij hi hj hri hrj hoi hoj
  have lt' : ∀ {id : Nat} {bl : Blk} {rb : RB} {oc : LObj}, st.heap[id]? = some bl → ρ.at id rb → bl.obj = some oc → rb.b < w.heap.size := fun {id bl rb oc} h1 h2 h3 => by
   obtain ⟨_, y, hy, _⟩ := h.h.o.obj id bl rb oc h1 h2 h3
   exact aget_lt hy
  rcases hold hi hri with ⟨hi2, hri2⟩ | ⟨e1, e2, e3⟩
  ·rcases hold hj hrj with ⟨hj2, hrj2⟩ | ⟨e1, e2, e3⟩
   ·exact h.h.o.sep i j bi bj ri rj oi oj hij hi2 hj2 hri2 hrj2 hoi hoj
   ·have := lt' hi2 hri2 hoi
    rw [e3]; simp only; omega
  ·rcases hold hj hrj with ⟨hj2, hrj2⟩ | ⟨e4, e5, e6⟩
   ·have := lt' hj2 hrj2 hoj
    rw [e3]; simp only; omega
   ·exact absurd (e1.trans e4.symm) hij
 ·intro d c e hd
  obtain ⟨b, ys, hb, hc, hv, h1⟩ := h'.b.loc d c e hd
  exact ⟨b, ys, hb, hc, hv.mono hle, h1⟩
 ·intro d c e b id b2 rb hd hb hh hr hl
  obtain ⟨hh, hr⟩ := holdL hh hr hl
  exact h.b.sepH d c e b id b2 rb hd hb hh hr hl
 ·intro id b rb hb hr hl hro'
  obtain ⟨hb, hr⟩ := holdL hb hr hl
  exact h.n.wh id b rb hb hr hl hro'
 ·intro id rb hid hr
  by_cases hlt : id < ρ.length
  ·exact h.n.wn id rb hid (Rho.at_snoc hr hlt)
  ·have hl := Rho.at_lt hr
   simp at hl
   have : id = ρ.length := by omega
   subst this
   rw [Rho.at_new hr]
   exact .inr h.f.size
 ·intro id b hid hb hl
  rcases get_snoc hb with ⟨hlt, hb⟩ | ⟨rfl, rfl⟩
  ·exact h.n.liv id b hid hb hl
  ·cases hl
 ·intro id b rb hb hr ho
  rcases hold hb hr with ⟨hb, hr⟩ | ⟨rfl, rfl, rfl⟩
  ·exact h.n.wo id b rb hb hr ho
  ·exact .inr h.f.size
def CellsR (ρ : Rho) (cs : List Value) (dead : List Bool) (ys : List Value) : Prop :=
 cs.length = ys.length ∧ dead.length = ys.length ∧ ∀ (t : Nat) x, cs[t]? = some x → (dead[t]? = some true ∧ x = undef) ∨ (dead[t]? = some false ∧ ∃ y, ys[t]? = some y ∧ VR ρ x y)
theorem CellsR.mono {ρ' : Rho} (hle : ρ.le ρ') {cs : List Value} {dead : List Bool} {ys : List Value} (h : CellsR ρ cs dead ys) : CellsR ρ' cs dead ys :=
 ⟨h.1, h.2.1, fun t x hx => (h.2.2 t x hx).imp id fun ⟨h1, y, hy, hr⟩ => ⟨h1, y, hy, hr.mono hle⟩⟩
theorem CellsR.cons {cs : List Value} {dead : List Bool} {ys : List Value} (h : CellsR ρ cs dead ys) {x y : Value} {d : Bool} (hx : (d = true ∧ x = undef) ∨ (d = false ∧ VR ρ x y)) : CellsR ρ (x :: cs) (d :: dead) (y :: ys) := by
 refine ⟨by simp [h.1], by simp [h.2.1], fun t z hz => ?_⟩
 cases t with
 | zero =>
  simp at hz
  subst hz
  rcases hx with ⟨rfl, rfl⟩ | ⟨rfl, hr⟩
  ·exact .inl ⟨rfl, rfl⟩
  ·exact .inr ⟨rfl, y, rfl, hr⟩
 | succ t => exact h.2.2 t z hz
theorem settle_rel {R : Type} {r : R} : ∀ (l : List Slot) {st : St} {ρ : Rho} {ys : List Value} {k : List Value → List Bool → St → Option R}, Rel P E ρ β st a w → l.length = ys.length →
  (∀ (t : Nat) s, l[t]? = some s → ∃ y, ys[t]? = some y ∧ SlotR ρ β st.boxes s y) → settle st l k = some r →
  ∃ ρ' cs dead st', ρ.ext ρ' ∧ Rel P E ρ' β st' a w ∧ CellsR ρ' cs dead ys ∧ k cs dead st' = some r
 | [], st, ρ, ys, k, h, hl, hs, e => by
  cases ys with
  | nil => exact ⟨ρ, [], [], st, .refl ρ, h, ⟨rfl, rfl, fun t x hx => by simp at hx⟩, e⟩
  | cons _ _ => cases hl
 | s :: l, st, ρ, [], k, h, hl, hs, e => by cases hl
 | s :: l, st, ρ, y :: ys, k, h, hl, hs, e => by
  have hl' : l.length = ys.length := by simpa using hl
  have hs0 : SlotR ρ β st.boxes s y := by
   obtain ⟨y', hy', h0⟩ := hs 0 s rfl
   cases hy'
   exact h0
  have hs' : ∀ (t : Nat) s', l[t]? = some s' → ∃ z, ys[t]? = some z ∧ SlotR ρ β st.boxes s' z := fun t s' ht => hs (t + 1) s' (by simpa using ht)
  cases s with
  | dead =>
   simp only [settle] at e
   obtain ⟨ρ', cs, dead, st', hx, h', hc, e⟩ := settle_rel l h hl' hs' e
   exact ⟨ρ', _, _, st', hx, h', hc.cons (.inl ⟨rfl, rfl⟩), e⟩
  | v x =>
   simp only [settle] at e
   obtain ⟨ρ', cs, dead, st', hx, h', hc, e⟩ := settle_rel l h hl' hs' e
   exact ⟨ρ', _, _, st', hx, h', hc.cons (.inr ⟨rfl, VR.mono hx.le hs0⟩), e⟩
  | lp d off =>
   simp only [settle] at e
   split at e
   ·obtain ⟨ρ', cs, dead, st', hx, h', hc, e⟩ := settle_rel l h hl' hs' e
    exact ⟨ρ', _, _, st', hx, h', hc.cons (.inl ⟨rfl, rfl⟩), e⟩
   ·obtain ⟨ρ1, x, st1, hx1, h1, hv, e1, _, hsl⟩ := out_rel h hs0 e
    obtain ⟨ρ', cs, dead, st', hx, h', hc, e⟩ := settle_rel l h1 hl' (fun t s' ht => let ⟨z, hz, hr⟩ := hs' t s' ht; ⟨z, hz, hsl _ _ hr⟩) e1
    exact ⟨ρ', _, _, st', hx1.trans hx, h', hc.cons (.inr ⟨rfl, hv.mono hx.le⟩), e⟩
theorem CellsR.objR {cs : List Value} {dead : List Bool} {ys : List Value} (h : CellsR ρ cs dead ys) (fn : FuncId) (d : Nat) (ps : List Nat) (assign body : Code) (K : Nat → List Nat) :
  ObjR ρ cs (.loop ⟨.ready, none, dead, ps, assign, body, K⟩) (.loop { state := .ready, pending := none, fn := fn, tmps := ⟨ys⟩, params := ⟨ps⟩, assign := assign, body := body, defers := d }) :=
 ⟨fn, ys, d, rfl, (fun e (hh : none = some e) => (nomatch hh)), h.1, fun t x hx => (h.2.2 t x hx).imp id fun ⟨_, hh⟩ => hh⟩
theorem loopAt_eq {h : Heap} {l : Nat} {q : Blk × LoopRec} (e : loopAt h l = some q) : h[l]? = some q.1 ∧ q.1.obj = some (.loop q.2) := by
 unfold loopAt at e
 obtain ⟨b, hb, e⟩ := Option.bind_eq_some_iff.1 e
 split at e
 ·rename_i r hr
  cases e
  exact ⟨hb, hr⟩
 ·cases e
end
end Go.Pv
end
section
namespace Go.Pv
variable [Glob]
section
variable {P : Program} {E : Env} {ρ : Rho} {β : List (Option Nat)} {st : St} {a : Act} {w : World} {Q : Exit → Act → World → Prop} {next : Act → World → Prop} {o : Oper}
abbrev entry (y : Value) : PanicEntry := { v := y, recovered := false }
def TgtR (ρ : Rho) (ys : List Value) : Tgt → Sem Next → Prop
 | .fn f, s => s = callFunc f ⟨ys⟩
 | .yield l, s => ∃ rb, ρ.at l rb ∧ s = Instr.yield rb.b ⟨ys⟩
def XGives (P : Program) (s : Sem Next) (w : World) (Rr Rp : Value → World → Prop) : Prop :=
 ∀ (ro : Option Nat) (o : Oper) (a : Act) (next : Act → World → Prop) (Q : Exit → Act → World → Prop), (∀ y w', Rr y w' → next (a.put o.dst y) w') → (∀ y w', Rp y w' → Q (.panic [entry y]) a w') → o.uponIn (fen ro) 0 P a next Q (s.run P w)
def XOK (P : Program) (X : CallX) : Prop := ∀ t xs h r, X t xs h = some r → ∀ ρ w ys s, GOK ρ → HRel P ρ h w → VRs ρ xs ys → TgtR ρ ys t s →
 XGives P s w (fun y w' => ∃ v ρ', r.1 = .ret v ∧ Left P ρ h w (v, r.2) y ρ' w') (fun y w' => ∃ v ρ', r.1 = .pan v ∧ Left P ρ h w (v, r.2) y ρ' w')
theorem retOnly_ok {X : CallX} (hX : XOK P X) : CallOK P (retOnly X) := by
 intro f xs h r e ρ w ys hg hr hv ro o a next Q hn
 unfold retOnly at e
 obtain ⟨q, hq, e1⟩ := Option.bind_eq_some_iff.1 e
 split at e1
 ·rename_i v hv1
  cases e1
  refine hX (.fn f) xs h q hq ρ w ys _ hg hr hv rfl ro o a next Q ?_ ?_
  ·rintro y w' ⟨v', ρ', h1, l⟩
   rw [hv1] at h1
   cases h1
   exact hn y w' ⟨ρ', l⟩
  ·rintro y w' ⟨v', ρ', h1, l⟩
   rw [hv1] at h1
   cases h1
 ·cases e1
def DsR (ρ : Rho) : List DItem → List Deferred → Prop
 | [], [] => True
 | .mark id :: r, d :: ds => (∃ rb, ρ.at id rb ∧ d = { target := .collected rb.b, args := #[] }) ∧ DsR ρ r ds
 | .call g xs :: r, d :: ds => (∃ cap args, d = { target := .fn (.func g) ⟨cap⟩, args := ⟨args⟩ } ∧ VRs ρ xs (args ++ cap)) ∧ DsR ρ r ds
 | _, _ => False
theorem DsR.mono {ρ' : Rho} (hle : ρ.le ρ') : ∀ {l : List DItem} {ds : List Deferred}, DsR ρ l ds → DsR ρ' l ds
 | [], [], _ => trivial
 | .mark id :: r, d :: ds, ⟨⟨rb, h1, h2⟩, h3⟩ => ⟨⟨rb, hle _ _ h1, h2⟩, h3.mono hle⟩
 | .call g xs :: r, d :: ds, ⟨⟨cap, args, h1, h2⟩, h3⟩ => ⟨⟨cap, args, h1, h2.mono hle⟩, h3.mono hle⟩
structure EExt (E E' : Env) : Prop where
 w0 : E'.w0 = E.w0
 A0 : E'.A0 = E.A0
 h0 : E'.h0 = E.h0
 ro : E'.ro = E.ro
 ρ0 : E.ρ0.ext E'.ρ0
theorem EExt.refl (E : Env) : EExt E E := ⟨rfl, rfl, rfl, rfl, .refl _⟩
theorem EExt.trans {E E' E'' : Env} (h : EExt E E') (h' : EExt E' E'') : EExt E E'' := ⟨h'.w0.trans h.w0, h'.A0.trans h.A0, h'.h0.trans h.h0, h'.ro.trans h.ro, h.ρ0.trans h'.ρ0⟩
theorem Rel.rebase (h : Rel P E ρ β st a w) (ds : List Deferred) : Rel P { E with ρ0 := ρ, ds := ds } ρ β st { a with defers := ds } w ∧ EExt E { E with ρ0 := ρ, ds := ds } :=
 ⟨⟨h.h, h.b, h.t, ⟨h.f.os, h.f.tape, h.f.output, h.f.size, h.f.block⟩, ⟨h.n.wh, h.n.wb, h.n.wn, h.n.len, h.n.liv, h.n.wo⟩, rfl, h.bl, .refl ρ, h.g.mono h.e.le⟩, ⟨rfl, rfl, rfl, rfl, h.e⟩⟩
def AtX (P : Program) (E : Env) {R : Type} (r : R) (k : PExit → St → List DItem → Option R) (e : Exit) (a : Act) (w : World) : Prop :=
 ∃ pe st' ds' E' ρ' β', k pe st' ds' = some r ∧ Rel P E' ρ' β' st' a w ∧ EExt E E' ∧ DsR E'.ρ0 ds' E'.ds ∧ match pe, e with
  | .normal, .normal => True
  | .exit i, .exit j => i = j
  | .goto i, .goto j => i = j
  | .ret, .ret => True
  | .panic v, .panic ch => ∃ y, ch = [entry y] ∧ VR ρ' v y
  | _, _ => False
def RndR (E : Env) : Option Nat → Prop
 | none => E.ro = none
 | some l => ∃ rb, E.ρ0.at l rb ∧ E.ro = some rb.b
theorem RndR.ext {E E' : Env} {rnd : Option Nat} (h : RndR E rnd) (hE : EExt E E') : RndR E' rnd := by
 cases rnd with
 | none => exact hE.ro.trans h
 | some l => obtain ⟨rb, h1, h2⟩ := h; exact ⟨rb, hE.ρ0.le _ _ h1, hE.ro.trans h2⟩
def DoneX (P : Program) (E : Env) {R : Type} (r : R) (k : Slot → St → List DItem → Option R) (o : Oper) (a' : Act) (w' : World) : Prop :=
 ∃ s' st' ds' E' ρ' β', k s' st' ds' = some r ∧ Rel P E' ρ' β' (st'.put o.dst s') a' w' ∧ EExt E E' ∧ DsR E'.ρ0 ds' E'.ds
theorem called_ok {X : CallX} (hX : XOK P X) (h : Rel P E ρ β st a w) {ds : List DItem} (hd : DsR E.ρ0 ds E.ds) {t : Tgt} {xs : List Value} {ys : List Value} {s : Sem Next} {q : Res × Heap} (hq : X t xs st.heap = some q) (hv : VRs ρ xs ys) (ht : TgtR ρ ys t s)
  {R : Type} {k : Slot → St → List DItem → Option R} {kp : Value → St → List DItem → Option R} {r : R} (e : afterCall P o st ds k kp q = some r)
  (hQ : ∀ v st' y w' ρ' β', kp v st' ds = some r → Rel P E ρ' β' st' a w' → VR ρ' v y → Q (.panic [entry y]) a w') :
  o.uponIn (fen E.ro) 0 P a (DoneX P E r k o) Q (s.run P w) := by
 refine hX t xs st.heap q hq ρ w ys s (h.g.mono h.e.le) h.h hv ht E.ro o a _ Q ?_ ?_
 ·rintro y w' ⟨v, ρ', h1, l⟩
  unfold afterCall at e
  rw [h1] at e
  exact ⟨_, _, ds, E, ρ', β, typed_some e, (h.called l).put o.dst (s := .v v) l.v, .refl E, hd⟩
 ·rintro y w' ⟨v, ρ', h1, l⟩
  unfold afterCall at e
  rw [h1] at e
  exact hQ v _ y w' ρ' β e (h.called l) l.v
theorem evalOpX_sound {X : CallX} (hX : XOK P X) (h : Rel P E ρ β st a w) {ds : List DItem} (hd : DsR E.ρ0 ds E.ds) {rnd : Option Nat} (hrnd : RndR E rnd)
  {R : Type} {k : Slot → St → List DItem → Option R} {kp : Value → St → List DItem → Option R} {r : R} (e : evalOpX P X rnd o st ds k kp = some r)
  (hQ : ∀ v st' y w' ρ' β', kp v st' ds = some r → Rel P E ρ' β' st' a w' → VR ρ' v y → Q (.panic [entry y]) a w') :
  o.wpR P E.ro a w (DoneX P E r k o) Q := by
 unfold evalOpX at e
 split at e
 ·rename_i f args ts ho
  obtain ⟨sf, hsf, e1⟩ := Option.bind_eq_some_iff.1 e
  obtain ⟨fv, hfv, e2⟩ := Option.bind_eq_some_iff.1 e1
  obtain ⟨ss, hss, e3⟩ := Option.bind_eq_some_iff.1 e2
  have hf := opd_val h hsf hfv
  obtain ⟨ρ1, xs, st1, hx1, h1, hv, e4, hsl⟩ := outs_rel h (opds_rel h hss) e3
  have hf' := hf.mono hx1.le
  refine ⟨fun _ _ => trivial, ?_⟩
  rw [Oper.semAt_eq _ _ _ (by simp [ho])]
  have hmap : args.map a.eval = ⟨args.toList.map a.eval⟩ := Array.ext' (by simp)
  split at e4
  ·rename_i g first captured
   obtain ⟨q, hq, e5⟩ := Option.bind_eq_some_iff.1 e4
   generalize hy : a.eval f = y at hf'
   cases hf' with
   | func fn hfy xs1 ys1 zs1 ws1 hv1 hv2 =>
    have hrun : (execOp a.eval o).run P w = (callFunc g ⟨ys1 ++ args.toList.map a.eval ++ ws1⟩).run P w := by
     simp [execOp, ho, resolve, hy, Deferred.ofValue, invoke, hmap]
    rw [hrun]
    exact called_ok hX h1 hd hq ((hv1.append hv).append hv2) rfl e5 hQ
  ·rename_i l
   obtain ⟨q, hq, e5⟩ := Option.bind_eq_some_iff.1 e4
   generalize hy : a.eval f = y at hf'
   cases hf' with
   | func fn hfy => cases hfy
   | yield _ rb hr =>
    have hrun : (execOp a.eval o).run P w = (Instr.yield rb.b ⟨args.toList.map a.eval⟩).run P w := by
     simp [execOp, ho, resolve, hy, Deferred.ofValue, invoke, hmap]
    rw [hrun]
    exact called_ok hX h1 hd hq hv ⟨rb, hr, rfl⟩ e5 hQ
  ·cases e4
 ·rename_i x ho
  obtain ⟨s, hs, e1⟩ := Option.bind_eq_some_iff.1 e
  obtain ⟨v, hv, e2⟩ := Option.bind_eq_some_iff.1 e1
  split at e2
  ·rename_i t z
   have hvr := opd_val h hs hv
   refine ⟨fun _ _ => trivial, ?_⟩
   rw [Oper.semAt_eq _ _ _ (by simp [ho])]
   generalize hy : a.eval x = y at hvr
   have hrun : (execOp a.eval o).run P w = .halt (.panic y) w := by
    cases hvr
    simp [execOp, ho, hy, Instr.panic, goPanic]
   rw [hrun]
   exact hQ _ st y w ρ β e2 h hvr
  ·cases e2
 ·rename_i f args ts ho
  split at e
  ·cases e
  ·obtain ⟨sf, hsf, e1⟩ := Option.bind_eq_some_iff.1 e
   obtain ⟨fv, hfv, e2⟩ := Option.bind_eq_some_iff.1 e1
   obtain ⟨ss, hss, e3⟩ := Option.bind_eq_some_iff.1 e2
   have hf := opd_val h hsf hfv
   obtain ⟨ρ1, xs, st1, hx1, h1, hv, e4, hsl⟩ := outs_rel h (opds_rel h hss) e3
   have hf' := hf.mono hx1.le
   refine ⟨fun _ _ => trivial, ?_⟩
   have hro : E.ro = none := hrnd
   rw [show (fen E.ro).round = none from hro, Oper.semAt_none]
   have hmap : args.map a.eval = ⟨args.toList.map a.eval⟩ := Array.ext' (by simp)
   split at e4
   ·rename_i g first captured
    generalize hy : a.eval f = y at hf'
    cases hf' with
    | func fn hfy xs1 ys1 zs1 ws1 hv1 hv2 =>
     have hrun : (execOp a.eval o).run P w = .ok (.defer { target := .fn (.func g) ⟨ws1⟩, args := ⟨ys1 ++ args.toList.map a.eval⟩ }) w := by
      simp [execOp, ho, resolve, hy, Deferred.ofValue, hmap]
     rw [hrun]
     obtain ⟨h2, hE⟩ := h1.rebase ({ target := .fn (.func g) ⟨ws1⟩, args := ⟨ys1 ++ args.toList.map a.eval⟩ } :: a.defers)
     refine ⟨_, _, _, _, ρ1, β, e4, h2.put o.dst (s := .v undef) (.tuple _ _ .nil), hE, ?_⟩
     refine ⟨⟨ws1, ys1 ++ args.toList.map a.eval, rfl, ?_⟩, ?_⟩
     ·simpa using (hv1.append hv).append hv2
     ·rw [h.d]
      exact hd.mono h1.e.le
   ·cases e4
 ·obtain ⟨s', st', hk, hwp⟩ := evalOp_sound (retOnly_ok hX) false h e (Q := Q)
  exact Oper.wpIn_mono (fun a' w' ⟨ρ', β', hr, _⟩ => ⟨s', st', ds, E, ρ', β', hk, hr, .refl E, hd⟩) hwp
theorem evalOpsX_sound {X : CallX} (hX : XOK P X) {ops : Array Oper} {rnd : Option Nat} {E0 : Env} {R : Type} {k : PExit → St → List DItem → Option R} {r : R} : ∀ (l : List Oper) (i : Nat) {E : Env} {st : St} {ds : List DItem} {ρ : Rho} {β : List (Option Nat)} {a : Act} {w : World}, ops.toList.drop i = l → EExt E0 E → Rel P E ρ β st a w → DsR E.ρ0 ds E.ds → RndR E rnd →
  evalOpsX P X rnd ops l st ds k = some r → wpOpsIn (fen E0.ro) 0 P ops (AtX P E0 r k) (List.range' i l.length) a w
 | [], i, E, st, ds, ρ, β, a, w, hl, hE, h, hd, hrnd, e => ⟨.normal, st, ds, E, ρ, β, e, h, hE, hd, trivial⟩
 | o :: l, i, E, st, ds, ρ, β, a, w, hl, hE, h, hd, hrnd, e => by
  have ho : ops[i]? = some o := by
   have : (ops.toList.drop i)[0]? = some o := by rw [hl]; rfl
   rw [List.getElem?_drop] at this
   simpa using this
  have hl' : ops.toList.drop (i + 1) = l := by
   rw [← List.drop_drop, hl]; rfl
  simp only [evalOpsX] at e
  rw [show (o :: l).length = l.length + 1 from rfl, List.range'_succ]
  rcases guardK_sound h e with ⟨hw, e1⟩ | ⟨hw, e1⟩
  ·refine wpOps_run ho hw ?_
   rw [← hE.ro]
   refine Oper.wpIn_mono ?_ (evalOpX_sound hX h hd hrnd (Q := AtX P E0 r k) e1 fun v st' y w' ρ' β' hk hr hv => ⟨.panic v, st', ds, E, ρ', β', hk, hr, hE, hd, y, rfl, hv⟩)
   rintro a' w' ⟨s', st', ds', E', ρ', β', e2, hr, hE', hd'⟩
   rw [hE.ro]
   exact evalOpsX_sound hX l (i + 1) hl' (hE.trans hE') hr hd' (hrnd.ext hE') e2
  ·exact wpOps_skip ho hw (evalOpsX_sound hX l (i + 1) hl' hE (h.put o.dst (s := .v undef) (.tuple _ _ .nil)) hd hrnd e1)
end
end Go.Pv
end
section
namespace Go.Pv
variable [Glob]
section
variable {P : Program} {E : Env} {ρ : Rho} {β : List (Option Nat)} {st : St} {a : Act} {w : World} {Q : Exit → Act → World → Prop} {next : Act → World → Prop} {o : Oper}
structure TabOK (P : Program) (T : Tab) : Prop where
 fn : ∀ f fn, T.spec f = none → T.fn f = some fn → P.funcs[f]? = some fn ∧ (fn.name == "runtime.NumGoroutine") = false
 spec : ∀ f s, T.spec f = some s → XOK P fun t xs h => match t with
  | .fn g => if g = f then s xs h else none
  | .yield _ => none
theorem stepR_scope {P : Program} {b : Frame} {a : Act} {k : List Item} {cs : List Frame} {w : World} {c : Code} : step P (lone (b.atR a (.code (.scope c) :: k)) cs w) = .next (lone (b.atR a (.code c :: .inScope c :: k)) cs w) :=
 step_lone_go (by simp [stepG, stepG.exec, Frame.atR])
theorem stepR_inScope {P : Program} {b : Frame} {a : Act} {k : List Item} {cs : List Frame} {w : World} {c : Code} : step P (lone (b.atR a (.inScope c :: k)) cs w) = .next (lone (b.atR a k) cs w) :=
 step_lone_go (by simp [stepG, stepG.exec, Frame.atR])
theorem wpIn_scope {P : Program} {Q : Exit → Act → World → Prop} {a : Act} {w : World} {ro : Option Nat} {c : Code} (h : c.wpIn (fen ro) 0 P (Exit.noGoto Q) a w) : (Code.scope c).wpIn (fen ro) 0 P Q a w := by
 intro b k cs hro hb hr
 obtain ⟨e, a₁, w₁, hq, harr⟩ := h b (.inScope c :: k) cs hro hb hr
 cases e with
 | normal => exact ⟨.normal, a₁, w₁, hq, .of_steps (.one (fenced_calm hb hr rfl) stepR_scope) (StepsIn.trans harr (.one (fenced_calm hb hr rfl) stepR_inScope))⟩
 | exit id =>
  have hx : exitTo id (.inScope c :: k) = exitTo id k := by simp [exitTo]
  exact ⟨.exit id, a₁, w₁, hq, .of_steps (.one (fenced_calm hb hr rfl) stepR_scope) ⟨fun k' hk => harr.1 k' (by rw [hx]; exact hk), fun hr' hk => harr.2 hr' (by rw [hx]; exact hk)⟩⟩
 | goto l => exact hq.elim
 | ret => exact ⟨.ret, a₁, w₁, hq, .of_steps (.one (fenced_calm hb hr rfl) stepR_scope) harr⟩
 | panic ch => exact ⟨.panic ch, a₁, w₁, hq, .of_steps (.one (fenced_calm hb hr rfl) stepR_scope) harr⟩
 | outgrown => exact ⟨.outgrown, a₁, w₁, hq, .of_steps (.one (fenced_calm hb hr rfl) stepR_scope) harr⟩
def LoopWp (P : Program) (ro : Option Nat) (c : Code) (Q : Exit → Act → World → Prop) (a : Act) (w : World) : Prop :=
 ∀ (b : Frame) (k : List Item) (cs : List Frame), b.roundOf = (fen ro).round → (fen ro).fn b.fn → (fen ro).room (cs.length + 1 + 0) → ∃ e a' w', Q e a' w' ∧ ArrivesIn (Machine.fenced P (fen ro)) P (lone (b.atR a (.code c :: .inLoop c :: k)) cs w) b k cs e a' w'
theorem LoopWp.wp {ro : Option Nat} {c : Code} (h : LoopWp P ro c Q a w) : (Code.loop c).wpIn (fen ro) 0 P Q a w := fun b k cs hro hb hr =>
 let ⟨e, a', w', hq, harr⟩ := h b k cs hro hb hr
 ⟨e, a', w', hq, .of_steps (.one (fenced_calm hb hr rfl) stepR_loop) harr⟩
theorem LoopWp.round {ro : Option Nat} {c : Code} (h : c.wpIn (fen ro) 0 P (Exit.then (LoopWp P ro c Q) Q) a w) : LoopWp P ro c Q a w := by
 intro b k cs hro hb hr
 obtain ⟨e, a₁, w₁, hq, harr⟩ := h b (.inLoop c :: k) cs hro hb hr
 cases e with
 | normal =>
  obtain ⟨e₂, a₂, w₂, hq₂, harr₂⟩ := hq b k cs hro hb hr
  exact ⟨e₂, a₂, w₂, hq₂, .of_steps (StepsIn.trans harr (.one (fenced_calm hb hr rfl) stepR_inLoop)) harr₂⟩
 | exit id => exact ⟨_, a₁, w₁, hq, .pass (x := .inLoop c) rfl (fun _ _ => .inl (by simp)) harr⟩
 | goto l => exact ⟨_, a₁, w₁, hq, .pass (x := .inLoop c) rfl (fun _ _ => .inl (by simp)) harr⟩
 | ret => exact ⟨_, a₁, w₁, hq, .pass (x := .inLoop c) rfl (fun _ _ => .inl (by simp)) harr⟩
 | panic ch => exact ⟨_, a₁, w₁, hq, .pass (x := .inLoop c) rfl (fun _ _ => .inl (by simp)) harr⟩
 | outgrown => exact ⟨_, a₁, w₁, hq, .pass (x := .inLoop c) rfl (fun _ _ => .inl (by simp)) harr⟩
theorem callsIn_of_gives {ro : Option Nat} {f : FuncId} {fn : Func} (hf : P.funcs[f]? = some fn) (hb : fn.body.isSome = true) (hn : (fn.name == "runtime.NumGoroutine") = false) {ys : List Value} {Rr Rp : Value → World → Prop} (h : XGives P (callFunc f ⟨ys⟩) w Rr Rp) :
  (callFunc f ⟨ys⟩).run P w = .ok (.enter f ⟨ys⟩) w ∧ CallsIn (fen ro) 0 P f ⟨ys⟩ w fun
   | .returned y, w' => Rr y w'
   | .panicked ch, w' => ∃ y, ch = [entry y] ∧ Rp y w'
   | .outgrown, _ => False := by
 have hnone : fn.body ≠ none := by intro hh; rw [hh] at hb; cases hb
 have hn' : ¬ fn.name = "runtime.NumGoroutine" := by simpa using hn
 have hrun : (callFunc f ⟨ys⟩).run P w = .ok (.enter f ⟨ys⟩) w := by
  simp [callFunc, hf, hn', hnone]
 refine ⟨hrun, ?_⟩
 have h2 := h ro { (default : Oper) with dst := some 0 } { tmps := #[undef], defers := [] } (fun a' w' => ∃ y, a'.tmps[0]? = some y ∧ Rr y w') (fun e _ w' => match e with
  | .panic ch => ∃ y, ch = [entry y] ∧ Rp y w'
  | _ => False) (fun y w' hy => ⟨y, by simp [Act.put], hy⟩) (fun y w' hy => ⟨y, rfl, hy⟩)
 rw [hrun] at h2
 refine CallsIn.mono h2.2 fun e w' he => ?_
 cases e with
 | returned y =>
  obtain ⟨y', h3, h4⟩ := he
  simp [Act.put] at h3
  subst h3
  exact h4
 | panicked ch => exact he
 | outgrown => obtain ⟨_, _, hh⟩ := he; exact hh
theorem jump_wp {E0 : Env} {R : Type} {r : R} {k : PExit → St → List DItem → Option R} {e : PExit} {c : Code} (hc : jumpOf e = some c) {ds : List DItem} (hk : k e st ds = some r) (h : Rel P E ρ β st a w) (hE : EExt E0 E) (hd : DsR E.ρ0 ds E.ds) : c.wpIn (fen E0.ro) 0 P (AtX P E0 r k) a w := by
 cases e with
 | ret => cases hc; exact wpIn_ret ⟨.ret, st, ds, E, ρ, β, hk, h, hE, hd, trivial⟩
 | exit i => cases hc; exact wpIn_exit ⟨.exit i, st, ds, E, ρ, β, hk, h, hE, hd, rfl⟩
 | goto i => cases hc; exact wpIn_goto ⟨.goto i, st, ds, E, ρ, β, hk, h, hE, hd, rfl⟩
 | _ => cases hc
theorem endLoop_rel {E0 : Env} {R : Type} {r : R} {k : PExit → St → List DItem → Option R} {l : Nat} {rb : RB} {ds : List DItem} (h : Rel P E ρ β st a w) (hE : EExt E0 E) (hd : DsR E.ρ0 ds E.ds) (hat : ρ.at l rb) (e : endLoop l st ds k = some r) :
  ∃ jump w4, (Instr.endLoop rb.b).run P w = .ok jump w4 ∧ (match jump with | none => AtX P E0 r k .normal a w4 | some c => c.wpIn (fen E0.ro) 0 P (AtX P E0 r k) a w4) := by
 unfold endLoop at e
 obtain ⟨q, hq, e1⟩ := Option.bind_eq_some_iff.1 e
 obtain ⟨hb, e2⟩ := bif_none e1
 obtain ⟨hl, ho⟩ := loopAt_eq hq
 obtain ⟨qb, ⟨qs, qp, qd, qps, qa, qbd, qK⟩⟩ := q
 simp only at hl ho hb e2
 obtain ⟨_, x, hx, hox⟩ := h.h.o.obj l qb rb _ hl hat ho
 obtain ⟨fn, ys, d, rfl, hp, hlen, hv⟩ := hox
 have hnb : qs ≠ .busy := by
  intro hh
  rw [hh] at hb
  cases hb
 have hrun := run_endLoop (P := P) hx hnb
 have hset := h.objSet hl ho hat (some (.loop ⟨.exhausted, qp, qd, qps, qa, qbd, qK⟩)) (.loop { state := .exhausted, pending := qp.bind jumpOf, fn := fn, tmps := ⟨ys⟩, params := ⟨qps⟩, assign := qa, body := qbd, defers := d })
  (fun o'' hh => by cases hh; exact ⟨fn, ys, d, rfl, hp, hlen, hv⟩)
 refine ⟨_, _, hrun, ?_⟩
 cases qp with
 | none => exact ⟨.normal, _, ds, E, ρ, β, e2, hset, hE, hd, trivial⟩
 | some e' =>
  obtain ⟨c, hc⟩ := Option.isSome_iff_exists.1 (hp e' rfl)
  simp only [Option.bind_some, hc] at hset ⊢
  exact jump_wp hc e2 hset hE hd
theorem invoke_enter {f : FuncId} {captured args : List Value} (h : (callFunc f ⟨args ++ captured⟩).run P w = .ok (.enter f ⟨args ++ captured⟩) w) :
  (invoke (.fn (.func f) ⟨captured⟩) ⟨args⟩).run P w = .ok (.enter f ⟨args ++ captured⟩) w := by
 have : ((⟨args⟩ : Array Value) ++ (⟨captured⟩ : Array Value)) = ⟨args ++ captured⟩ := Array.ext' (by simp)
 simp only [invoke]
 rw [this]; exact h
theorem evalRange_sound {X : CallX} (hX : XOK P X) {T : Tab} (hT : TabOK P T) {K : Nat → List Nat} {rnd : Option Nat} {g : Operand} {ps : Array Tmp} {assign body : Code} (h : Rel P E ρ β st a w) {ds : List DItem} (hd : DsR E.ρ0 ds E.ds) (hrnd : RndR E rnd) {E0 : Env} (hE0 : EExt E0 E)
  {R : Type} {k : PExit → St → List DItem → Option R} {r : R} (e : evalRange P X T K rnd g ps assign body st ds k = some r) : (Code.rangeFunc g ps assign body).wpIn (fen E0.ro) 0 P (AtX P E0 r k) a w := by
 unfold evalRange at e
 obtain ⟨sg, hsg, e1⟩ := Option.bind_eq_some_iff.1 e
 obtain ⟨gv, hgv, e2⟩ := Option.bind_eq_some_iff.1 e1
 have hg := opd_val h hsg hgv
 obtain ⟨ρ1, cells, dead, st1, hx1, h1, hcs, e3⟩ := settle_rel st.tmps h (ys := a.tmps.toList) (by simpa using h.t.1) (fun t s hs => by simpa using h.t.2 t s hs) e2
 have hg := hg.mono hx1.le
 split at e3
 ·rename_i f captured _
  obtain ⟨fn, hfn, e4⟩ := Option.bind_eq_some_iff.1 e3
  obtain ⟨hb, e5⟩ := bif_some e4
  simp only [Bool.and_eq_true, Option.isNone_iff_eq_none] at hb
  obtain ⟨hs, hbody⟩ := hb
  obtain ⟨hf, hname⟩ := hT.fn f fn hs hfn
  generalize hy : a.eval g = y at hg
  cases hg with
  | func _ hfy xs1 ys1 zs1 ws1 hv1 hv2 =>
   cases hv1
   refine wpIn_rangeFunc fun fnid _ => ?_
   rw [← hE0.ro]
   have hres : ∀ (l : Nat) (W : World), (resolve a.eval (rangeCall g l) 0).run P W = .ok { target := .fn (.func f) ⟨ws1⟩, args := #[.func (.yield l) #[] #[]] } W := by
    intro l W
    simp only [resolve, hy]
    simp [Deferred.ofValue, Act.eval]
   have hat0 : (⟨a.tmps.toList⟩ : Array Value) = a.tmps := by cases a.tmps; rfl
   cases rnd with
   | none =>
    have hro : E.ro = none := hrnd
    rw [show (fen E.ro).round = none from hro]
    obtain ⟨q, hq, e6⟩ := Option.bind_eq_some_iff.1 e5
    have h2 := h1.objNew [] .dfr (.deferred (some [])) ⟨rfl, rfl⟩
    have h3 := h2.objNew cells (.loop ⟨.ready, none, dead, ps.toList, assign, body, K⟩) _ ((hcs.mono (Rho.le.snoc ρ1 _)).objR fnid w.heap.size ps.toList assign body K)
    have hpe : (⟨ps.toList⟩ : Array Tmp) = ps := by cases ps; rfl
    rw [hpe, hat0] at h3
    simp only [World.size_alloc] at h3
    have hsz : (w.alloc (.deferred (some []))).heap.size = w.heap.size + 1 := by simp
    have hl1 : ρ1.length = st1.heap.length := h1.h.len
    have hat1 : Rho.at (ρ1 ++ [some ⟨w.heap.size, 0, 0, none⟩] ++ [some ⟨w.heap.size + 1, 0, 0, none⟩]) st1.heap.length ⟨w.heap.size, 0, 0, none⟩ := by
     refine Rho.le.snoc _ _ _ _ ?_
     rw [← hl1]; exact Rho.at_new' ρ1 _
    have hat2 : Rho.at (ρ1 ++ [some ⟨w.heap.size, 0, 0, none⟩] ++ [some ⟨w.heap.size + 1, 0, 0, none⟩]) (st1.heap.length + 1) ⟨w.heap.size + 1, 0, 0, none⟩ := by
     have := Rho.at_new' (ρ1 ++ [some ⟨w.heap.size, 0, 0, none⟩]) ⟨w.heap.size + 1, 0, 0, none⟩
     simpa [hl1] using this
    have hv : VRs (ρ1 ++ [some ⟨w.heap.size, 0, 0, none⟩] ++ [some ⟨w.heap.size + 1, 0, 0, none⟩]) ([.func (.yield (st1.heap.length + 1)) ⟨[]⟩ ⟨[]⟩] ++ zs1) ([.func (.yield (w.heap.size + 1)) ⟨[]⟩ ⟨[]⟩] ++ ws1) :=
     VRs.append (.cons _ _ _ _ (.yield _ ⟨w.heap.size + 1, 0, 0, none⟩ hat2) .nil) ((hv2.mono (Rho.le.snoc ρ1 _)).mono (Rho.le.snoc _ _))
    have hgv := hX (.fn f) _ _ q hq _ _ _ _ (h3.g.mono h3.e.le) h3.h hv rfl
    obtain ⟨hrun, hcall⟩ := callsIn_of_gives (ro := E.ro) hf hbody hname hgv
    have hinv := invoke_enter (captured := ws1) (args := [.func (.yield (w.heap.size + 1)) ⟨[]⟩ ⟨[]⟩]) hrun
    refine ⟨w.heap.size + 1, [{ target := .collected w.heap.size, args := #[] }], _, _, _, f, _, _, run_enterLoop_outer fnid a.tmps ps assign body, hres _ _, fun _ _ => trivial, hinv, (fun (hh : (none : Option Nat).isSome = true) => nomatch hh), ?_⟩
    ·refine CallsIn.mono hcall fun ex w3 he => ?_
     have hreb : ∀ {y : Value} {v : Value} {ρ' : Rho}, Left P (ρ1 ++ [some ⟨w.heap.size, 0, 0, none⟩] ++ [some ⟨w.heap.size + 1, 0, 0, none⟩]) (st1.heap ++ [dfrBlk] ++ [loopBlk cells ⟨.ready, none, dead, ps.toList, assign, body, K⟩]) ((w.alloc (.deferred (some []))).alloc (.loop { state := .ready, pending := none, fn := fnid, tmps := a.tmps, params := ps, assign, body, defers := w.heap.size })) (v, q.2) y ρ' w3 →
       ∃ E2, Rel P E2 ρ' β { st1 with heap := q.2 } { a with defers := [{ target := .collected w.heap.size, args := #[] }] ++ a.defers } w3 ∧ EExt E0 E2 ∧ DsR E2.ρ0 (.mark st1.heap.length :: ds) E2.ds ∧ E2.ρ0 = ρ' := by
      intro y v ρ' l
      have h4 := h3.called l
      obtain ⟨h5, hE⟩ := h4.rebase ([{ target := .collected w.heap.size, args := #[] }] ++ a.defers)
      refine ⟨_, h5, hE0.trans hE, ⟨⟨_, l.ext.le _ _ hat1, rfl⟩, ?_⟩, rfl⟩
      have := hd.mono h4.e.le
      rw [← h.d] at this
      exact this
     cases ex with
     | returned y =>
      obtain ⟨v, ρ', hr, l⟩ := he
      obtain ⟨E2, h5, hE2, hd2, hρ⟩ := hreb l
      rw [hr] at e6
      obtain ⟨jump, w4, h6, h7⟩ := endLoop_rel (E0 := E0) h5 hE2 hd2 (l.ext.le _ _ hat2) e6
      refine ⟨jump, w4, h6, ?_⟩
      cases jump with
      | none => exact h7
      | some c => rw [hE0.ro]; exact h7
     | panicked ch =>
      obtain ⟨y, rfl, v, ρ', hr, l⟩ := he
      obtain ⟨E2, h5, hE2, hd2, hρ⟩ := hreb l
      rw [hr] at e6
      exact ⟨.panic v, _, _, E2, ρ', β, e6, h5, hE2, hd2, y, rfl, l.v⟩
     | outgrown => exact he.elim
   | some around =>
    obtain ⟨rba, hata, hro⟩ := hrnd
    rw [show (fen E.ro).round = some rba.b from hro]
    obtain ⟨qa, hqa, e5'⟩ := Option.bind_eq_some_iff.1 e5
    obtain ⟨hla, hoa⟩ := loopAt_eq hqa
    have hata1 : ρ1.at around rba := h1.e.le _ _ hata
    obtain ⟨_, xa, hxa, hoxa⟩ := h1.h.o.obj around qa.1 rba _ hla hata1 hoa
    obtain ⟨fna, ysa, da, rfl, _⟩ := hoxa
    obtain ⟨q, hq, e6⟩ := Option.bind_eq_some_iff.1 e5'
    have h3 := h1.objNew cells (.loop ⟨.ready, none, dead, ps.toList, assign, body, K⟩) _ (hcs.objR fnid da ps.toList assign body K)
    have hpe : (⟨ps.toList⟩ : Array Tmp) = ps := by cases ps; rfl
    rw [hpe, hat0] at h3
    have hl1 : ρ1.length = st1.heap.length := h1.h.len
    have hat2 : Rho.at (ρ1 ++ [some ⟨w.heap.size, 0, 0, none⟩]) st1.heap.length ⟨w.heap.size, 0, 0, none⟩ := by
     rw [← hl1]; exact Rho.at_new' ρ1 _
    have hv : VRs (ρ1 ++ [some ⟨w.heap.size, 0, 0, none⟩]) ([.func (.yield st1.heap.length) ⟨[]⟩ ⟨[]⟩] ++ zs1) ([.func (.yield w.heap.size) ⟨[]⟩ ⟨[]⟩] ++ ws1) :=
     VRs.append (.cons _ _ _ _ (.yield _ ⟨w.heap.size, 0, 0, none⟩ hat2) .nil) (hv2.mono (Rho.le.snoc ρ1 _))
    have hgv := hX (.fn f) _ _ q hq _ _ _ _ (h3.g.mono h3.e.le) h3.h hv rfl
    obtain ⟨hrun, hcall⟩ := callsIn_of_gives (ro := E.ro) hf hbody hname hgv
    have henter : (Instr.enterLoop fnid a.tmps ps assign body (some rba.b)).run P w = .ok (w.heap.size, []) (w.alloc (.loop { state := .ready, pending := none, fn := fnid, tmps := a.tmps, params := ps, assign, body, defers := da })) := by
     unfold Instr.enterLoop
     simp only [Sem.run_bind, run_getLoop hxa, run_newObj_alloc, Result.andThen, Sem.run_pure]
    have hinv := invoke_enter (captured := ws1) (args := [.func (.yield w.heap.size) ⟨[]⟩ ⟨[]⟩]) hrun
    refine ⟨w.heap.size, [], _, _, _, f, _, _, henter, hres _ _, fun _ _ => trivial, hinv, (fun (hh : (none : Option Nat).isSome = true) => nomatch hh), ?_⟩
    ·refine CallsIn.mono hcall fun ex w3 he => ?_
     have hae : ({ a with defers := [] ++ a.defers } : Act) = a := by cases a; rfl
     rw [hae]
     cases ex with
     | returned y =>
      obtain ⟨v, ρ', hr, l⟩ := he
      rw [hr] at e6
      obtain ⟨jump, w4, h6, h7⟩ := endLoop_rel (E0 := E0) (h3.called l) hE0 hd (l.ext.le _ _ hat2) e6
      refine ⟨jump, w4, h6, ?_⟩
      cases jump with
      | none => exact h7
      | some c => rw [hE0.ro]; exact h7
     | panicked ch =>
      obtain ⟨y, rfl, v, ρ', hr, l⟩ := he
      rw [hr] at e6
      exact ⟨.panic v, _, _, E, ρ', β, e6, h3.called l, hE0, hd, y, rfl, l.v⟩
     | outgrown => exact he.elim
 ·cases e3
theorem evalK_sound {X : CallX} (hX : XOK P X) {T : Tab} (hT : TabOK P T) (K : Nat → List Nat) (n : Nat) (rnd : Option Nat) {E0 : Env} (hrnd : RndR E0 rnd) {R : Type} {r : R} : ∀ (c : Code) (id : Nat) {k : PExit → St → List DItem → Option R} {E : Env} {st : St} {ds : List DItem} {ρ : Rho} {β : List (Option Nat)} {a : Act} {w : World}, EExt E0 E → Rel P E ρ β st a w → DsR E.ρ0 ds E.ds →
  evalK P X T K n rnd id c st ds k = some r → c.wpIn (fen E0.ro) 0 P (AtX P E0 r k) a w := by
 intro c
 induction c with
 | skip => intro id k E st ds ρ β a w hE h hd e; exact wpIn_skip ⟨.normal, st, ds, E, ρ, β, e, h, hE, hd, trivial⟩
 | region i ops draw =>
  intro id k E st ds ρ β a w hE h hd e
  cases draw with
  | true =>
   have := draw_ok (retOnly_ok hX) E i ops R (fun pe st => k pe st ds) r st ρ β a w h e
   rw [hE.ro] at this
   refine wpIn_mono this fun ex a' w' ⟨pe, st', ρ', β', hk, hr, hm⟩ => ⟨pe, st', ds, E, ρ', β', hk, hr, hE, hd, ?_⟩
   cases pe <;> cases ex <;> first | exact hm | exact hm.elim
  | false =>
   refine wpIn_region ?_
   have hr : List.range ops.size = List.range' 0 ops.toList.length := by rw [List.range_eq_range']; rfl
   rw [hr]
   exact evalOpsX_sound hX ops.toList 0 rfl hE h hd (hrnd.ext hE) e
 | seq x y ihx ihy =>
  intro id k E st ds ρ β a w hE h hd e
  refine wpIn_seq (wpIn_mono (ihx 0 hE h hd e) ?_)
  rintro ex a' w' ⟨pe, st', ds', E', ρ', β', hk, hr, hE', hd', hm⟩
  cases pe with
  | normal => cases ex <;> first | exact hm.elim | exact ihy 0 hE' hr hd' hk
  | exit i => cases ex <;> first | exact hm.elim | exact ⟨.exit i, st', ds', E', ρ', β', hk, hr, hE', hd', hm⟩
  | goto i => cases ex <;> first | exact hm.elim | exact ⟨.goto i, st', ds', E', ρ', β', hk, hr, hE', hd', hm⟩
  | ret => cases ex <;> first | exact hm.elim | exact ⟨.ret, st', ds', E', ρ', β', hk, hr, hE', hd', hm⟩
  | panic v => cases ex <;> first | exact hm.elim | exact ⟨.panic v, st', ds', E', ρ', β', hk, hr, hE', hd', hm⟩
 | cond c x y ihx ihy =>
  intro id k E st ds ρ β a w hE h hd e
  simp only [evalK] at e
  obtain ⟨s, hs, e1⟩ := Option.bind_eq_some_iff.1 e
  obtain ⟨v, hv, e2⟩ := Option.bind_eq_some_iff.1 e1
  obtain ⟨t, ht, e3⟩ := Option.bind_eq_some_iff.1 e2
  have hc := ((opd_val h hs hv).toBool ht).2
  cases t with
  | true => exact wpIn_cond_true hc (ihx 0 hE h hd e3)
  | false => exact wpIn_cond_false hc (ihy 0 hE h hd e3)
 | block i b ih =>
  intro id k E st ds ρ β a w hE h hd e
  refine wpIn_block (wpIn_mono (ih i hE h hd e) ?_)
  rintro ex a' w' ⟨pe, st', ds', E', ρ', β', hk, hr, hE', hd', hm⟩
  cases pe with
  | exit j =>
   cases ex with
   | exit j' =>
    have hj : j = j' := hm
    subst hj
    simp only at hk
    by_cases hji : j = i
    ·subst hji
     simp only [Nat.beq_refl, cond_true] at hk
     simp only [Exit.inBlock, if_true]
     exact ⟨.normal, st', ds', E', ρ', β', hk, hr, hE', hd', trivial⟩
    ·have : Nat.beq j i = false := Bool.eq_false_iff.2 fun hh => hji (Nat.eq_of_beq_eq_true hh)
     rw [this] at hk
     simp only [Exit.inBlock, if_neg hji]
     exact ⟨.exit j, st', ds', E', ρ', β', hk, hr, hE', hd', rfl⟩
   | _ => exact hm.elim
  | normal => cases ex <;> first | exact hm.elim | exact ⟨.normal, st', ds', E', ρ', β', hk, hr, hE', hd', hm⟩
  | goto i => cases ex <;> first | exact hm.elim | exact ⟨.goto i, st', ds', E', ρ', β', hk, hr, hE', hd', hm⟩
  | ret => cases ex <;> first | exact hm.elim | exact ⟨.ret, st', ds', E', ρ', β', hk, hr, hE', hd', hm⟩
  | panic v => cases ex <;> first | exact hm.elim | exact ⟨.panic v, st', ds', E', ρ', β', hk, hr, hE', hd', hm⟩
 | scope b ih =>
  intro id k E st ds ρ β a w hE h hd e
  refine wpIn_scope (wpIn_mono (ih 0 hE h hd e) ?_)
  rintro ex a' w' ⟨pe, st', ds', E', ρ', β', hk, hr, hE', hd', hm⟩
  cases pe with
  | normal => cases ex <;> first | exact hm.elim | exact ⟨.normal, st', ds', E', ρ', β', hk, hr, hE', hd', hm⟩
  | exit i => cases ex <;> first | exact hm.elim | exact ⟨.exit i, st', ds', E', ρ', β', hk, hr, hE', hd', hm⟩
  | goto i => cases hk
  | ret => cases ex <;> first | exact hm.elim | exact ⟨.ret, st', ds', E', ρ', β', hk, hr, hE', hd', hm⟩
  | panic v => cases ex <;> first | exact hm.elim | exact ⟨.panic v, st', ds', E', ρ', β', hk, hr, hE', hd', hm⟩
 | loop b ih =>
  intro id k E st ds ρ β a w hE h hd e
  refine LoopWp.wp ?_
  have key : ∀ (m : Nat) {E : Env} {st : St} {ds : List DItem} {ρ : Rho} {β : List (Option Nat)} {a : Act} {w : World}, EExt E0 E → Rel P E ρ β st a w → DsR E.ρ0 ds E.ds → loopK (K id) (fun st ds k => evalK P X T K n rnd 0 b st ds k) k m st ds = some r → LoopWp P E0.ro b (AtX P E0 r k) a w := by
   intro m
   induction m with
   | zero => intro E st ds ρ β a w hE h hd e; cases e
   | succ m ihm =>
    intro E st ds ρ β a w hE h hd e
    simp only [loopK] at e
    refine LoopWp.round (wpIn_mono (ih 0 hE h hd e) ?_)
    rintro ex a' w' ⟨pe, st', ds', E', ρ', β', hk, hr, hE', hd', hm⟩
    cases pe with
    | normal => cases ex <;> first | exact hm.elim | exact ihm hE' (hr.killTmps (K id)) hd' hk
    | exit i => cases ex <;> first | exact hm.elim | exact ⟨.exit i, st', ds', E', ρ', β', hk, hr, hE', hd', hm⟩
    | goto i => cases ex <;> first | exact hm.elim | exact ⟨.goto i, st', ds', E', ρ', β', hk, hr, hE', hd', hm⟩
    | ret => cases ex <;> first | exact hm.elim | exact ⟨.ret, st', ds', E', ρ', β', hk, hr, hE', hd', hm⟩
    | panic v => cases ex <;> first | exact hm.elim | exact ⟨.panic v, st', ds', E', ρ', β', hk, hr, hE', hd', hm⟩
  exact key n hE (h.killTmps (K id)) hd e
 | rangeFunc g ps assign body _ _ => intro id k E st ds ρ β a w hE h hd e; exact evalRange_sound hX hT h hd (hrnd.ext hE) hE e
 | exit i => intro id k E st ds ρ β a w hE h hd e; exact wpIn_exit ⟨.exit i, st, ds, E, ρ, β, e, h, hE, hd, rfl⟩
 | label l => intro id k E st ds ρ β a w hE h hd e; exact wpIn_label ⟨.normal, st, ds, E, ρ, β, e, h, hE, hd, trivial⟩
 | ret => intro id k E st ds ρ β a w hE h hd e; exact wpIn_ret ⟨.ret, st, ds, E, ρ, β, e, h, hE, hd, trivial⟩
 | _ => intro id k E st ds ρ β a w hE h hd e; cases e
end
end Go.Pv
end
section
namespace Go.Pv
variable [Glob]
section
variable {P : Program} {E : Env} {ρ : Rho} {β : List (Option Nat)} {st : St} {a : Act} {w : World} {Q : Exit → Act → World → Prop} {next : Act → World → Prop} {o : Oper}
theorem r_asAddr (A : Addr) (w : World) : (asAddr (.pointer (some A))).run P w = .ok A w := rfl
theorem resultsP_sound {R : Type} {r : R} : ∀ (l : List ResultVar) {st : St} {ρ : Rho} {k : List Value → St → Option R}, Rel P E ρ β st a w → resultsP P st l k = some r →
  ∃ vs st' ρ' ys, k vs st' = some r ∧ Rel P E ρ' β st' a w ∧ ρ.ext ρ' ∧ VRs ρ' vs ys ∧
   (l.mapM fun | .tmp t => pure (a.tmps.getD t undef) | .cell x t => do loadVar t (← asAddr (a.tmps.getD x undef)) : Sem (List Value)).run P w = .ok ys w
 | [], st, ρ, k, h, e => ⟨[], st, ρ, [], e, h, .refl ρ, .nil, rfl⟩
 | .tmp t :: l, st, ρ, k, h, e => by
  simp only [resultsP] at e
  obtain ⟨s, hs, e1⟩ := Option.bind_eq_some_iff.1 e
  obtain ⟨y, hy, hsl⟩ := h.t.2 t s hs
  obtain ⟨ρ1, x, st1, hx1, h1, hv, e2, _, _⟩ := out_rel h hsl e1
  obtain ⟨vs, st', ρ', ys, hk, hr, hle, hvs, hm⟩ := resultsP_sound l h1 e2
  refine ⟨x :: vs, st', ρ', y :: ys, hk, hr, hx1.trans hle, .cons _ _ _ _ (hv.mono hle.le) hvs, ?_⟩
  have : a.tmps.getD t undef = y := by simp [hy]
  simp only [List.mapM_cons, Sem.run_bind, Sem.run_pure, this, hm, Result.andThen_ok]
 | .cell x t :: l, st, ρ, k, h, e => by
  simp only [resultsP] at e
  obtain ⟨ti, hti, e0⟩ := Option.bind_eq_some_iff.1 e
  obtain ⟨s, hs, e1⟩ := Option.bind_eq_some_iff.1 e0
  obtain ⟨y, hy, hsl⟩ := h.t.2 x s hs
  have hyd : a.tmps.getD x undef = y := by simp [hy]
  split at e1
  ·rename_i hg
   obtain ⟨cs, hcs, e2⟩ := Option.bind_eq_some_iff.1 e1
   obtain ⟨h1, A, zs, rfl, hl, hv, hc⟩ := cellsAt_rel h hsl hcs
   obtain ⟨vs, st', ρ', ys, hk, hr, hle, hvs, hm⟩ := resultsP_sound l h e2
   refine ⟨_, st', ρ', .agg ⟨zs⟩ :: ys, hk, hr, hle, .cons _ _ _ _ (.agg _ _ (hv.mono hle.le) h1) hvs, ?_⟩
   have hld := run_loadVar_agg (P := P) (w := w) hti hg hl hc
   simp only [List.mapM_cons, hyd, Sem.run_bind, r_asAddr, Sem.run_pure, Result.andThen_ok, hld, hm]
  ·rename_i hg
   obtain ⟨v, hv, e2⟩ := Option.bind_eq_some_iff.1 e1
   obtain ⟨h1, A, z, rfl, hc, hvr⟩ := cellAt_rel h hsl hv
   obtain ⟨vs, st', ρ', ys, hk, hr, hle, hvs, hm⟩ := resultsP_sound l h e2
   refine ⟨_, st', ρ', z :: ys, hk, hr, hle, .cons _ _ _ _ (hvr.mono hle.le) hvs, ?_⟩
   have hld := run_loadVar_one (P := P) (w := w) hti hg hc
   simp only [List.mapM_cons, hyd, Sem.run_bind, r_asAddr, Sem.run_pure, Result.andThen_ok, hld, hm]
theorem run_results {fn : Func} {ts : Array Value} {ys : List Value}
  (h : (fn.results.toList.mapM fun | .tmp t => pure (ts.getD t undef) | .cell x t => do loadVar t (← asAddr (ts.getD x undef)) : Sem (List Value)).run P w = .ok ys w) : (results fn ts).run P w = .ok (tupled ys) w := by
 have hm : (fn.results.mapM fun | .tmp t => pure (ts.getD t undef) | .cell x t => do loadVar t (← asAddr (ts.getD x undef)) : Sem (Array Value)).run P w = .ok ⟨ys⟩ w := by
  rw [Array.mapM_eq_mapM_toList]
  change Sem.run P (_ >>= fun l => pure (List.toArray l)) w = _
  simp only [Sem.run_bind, h, Result.andThen_ok, Sem.run_pure]
 have hr : (results fn ts).run P w = .ok (if h : (⟨ys⟩ : Array Value).size = 1 then (⟨ys⟩ : Array Value)[0] else .tuple ⟨ys⟩) w := by
  unfold results
  rw [Sem.run_bind]
  exact congrArg (fun r => Result.andThen r _) hm
 rw [hr]
 match ys with
 | [] => rfl
 | [y] => rfl
 | y :: z :: l => simp [tupled]
theorem tupled_rel {xs ys : List Value} (h : VRs ρ xs ys) : VR ρ (tupled xs) (tupled ys) := by
 cases h with
 | nil => exact .tuple _ _ .nil
 | cons x y xs ys h t =>
  cases t with
  | nil => exact h
  | cons x' y' xs' ys' h' t' => exact .tuple _ _ (.cons _ _ _ _ h (.cons _ _ _ _ h' t'))
theorem Rel.start {h : Heap} (hg : GOK ρ) (hr : HRel P ρ h w) {xs ys : List Value} (hv : VRs ρ xs ys) (fn : Func) :
  Rel P ⟨w, Writable ρ h, h, ρ, none, []⟩ ρ (List.replicate (initSt fn xs h).boxes.length none) (initSt fn xs h) { tmps := (⟨ys⟩ : Array Value) ++ Array.replicate (fn.ntmps - (⟨ys⟩ : Array Value).size) undef, defers := [] } w where
 h := hr
 b := by
  have hno : ∀ (d : Nat) cs e, (initSt fn xs h).boxes[d]? ≠ some (.loc cs e) := by
   intro d cs e hd
   have := List.mem_of_getElem? hd
   simp [initSt] at this
  exact ⟨by simp, fun d cs e hd => absurd hd (hno d cs e), fun d cs e _ _ _ _ hd => absurd hd (hno d cs e), fun d _ cs e _ _ _ _ _ hd => absurd hd (hno d cs e)⟩
 t := by
  have hl := hv.length
  refine ⟨by simp [initSt, hl], fun t s hs => ?_⟩
  simp only [initSt] at hs
  by_cases ht : t < xs.length
  ·rw [List.getElem?_append_left (by simpa using ht), List.getElem?_map] at hs
   cases hx : xs[t]? with
   | none => rw [hx] at hs; cases hs
   | some x =>
    rw [hx] at hs
    cases hs
    obtain ⟨y, hy, hr⟩ := hv.get hx
    refine ⟨y, ?_, hr⟩
    rw [Array.getElem?_append_left (by simpa using get_lt hy)]
    simpa using hy
  ·rw [List.getElem?_append_right (by simpa using ht)] at hs
   have := List.mem_of_getElem? hs
   have hs2 := get_lt hs
   obtain ⟨_, rfl⟩ := List.mem_replicate.1 this
   simp only [List.length_map, List.length_replicate] at hs2
   refine ⟨undef, ?_, .tuple _ _ .nil⟩
   rw [Array.getElem?_append_right (by simp; omega), Array.getElem?_replicate, if_pos (by simp; omega)]
 f := ⟨rfl, rfl, rfl, Nat.le_refl _, fun _ _ _ => rfl⟩
 n := ⟨fun id bl rb h1 h2 h3 h4 => .inl ⟨id, bl, rb, h1, h2, .inl ⟨h3, h4⟩, rfl⟩, fun d cs e b hd => by
   have := List.mem_of_getElem? hd
   simp [initSt] at this, fun id rb hid hh => by
   have := Rho.at_lt hh
   rw [hr.len] at this
   have : h.length ≤ id := hid
   omega, Nat.le_refl _, fun id bl _ hb hl => ⟨bl, hb, hl⟩, fun id bl rb h1 h2 h3 => .inl ⟨id, bl, rb, h1, h2, .inr h3, rfl⟩⟩
 d := rfl
 bl := by simp [initSt]
 e := .refl ρ
 g := hg
theorem Rel.left {h : Heap} {E : Env} (hE : EExt ⟨w, Writable ρ h, h, ρ, none, []⟩ E) {ρ' : Rho} {w' : World} {v y : Value} (hr : Rel P E ρ' β st a w') (hv : VR ρ' v y) : Left P ρ h w (v, st.heap) y ρ' w' := by
 obtain ⟨E1, E2, E3, E4, E5, E6⟩ := E
 obtain ⟨h1, h2, h3, h4, h5⟩ := hE
 simp only at h1 h2 h3 h4 h5
 subst h1; subst h2; subst h3; subst h4
 exact ⟨h5.trans hr.e, hr.h, hv, ⟨hr.f.os, hr.f.tape, hr.f.output, hr.f.size, hr.f.block⟩, ⟨hr.n.wh, fun d cs e b hd => by simp at hd, hr.n.wn, hr.n.len, hr.n.liv, hr.n.wo⟩⟩
def ModeR (ρ : Rho) : Mode → FrameMode → Prop
 | .ret, u => u = .returning
 | .pan v c, u => ∃ y, u = .panicking [{ v := y, recovered := c }] ∧ VR ρ v y
theorem ModeR.mono {ρ' : Rho} (hle : ρ.le ρ') {m : Mode} {u : FrameMode} (h : ModeR ρ m u) : ModeR ρ' m u := by
 cases m with
 | ret => exact h
 | pan v c => obtain ⟨y, h1, h2⟩ := h; exact ⟨y, h1, h2.mono hle⟩
theorem ModeR.settled {m : Mode} {u : FrameMode} (h : ModeR ρ m u) : ModeR ρ m.settled (Go.settle u) := by
 cases m with
 | ret => cases h; rfl
 | pan v c =>
  obtain ⟨y, rfl, h2⟩ := h
  cases c with
  | false => exact ⟨y, rfl, h2⟩
  | true => rfl
theorem ModeR.notRun {m : Mode} {u : FrameMode} (h : ModeR ρ m u) : u ≠ .run := by
 cases m with
 | ret => cases h; simp
 | pan v c => obtain ⟨y, rfl, _⟩ := h; simp
def DOK (P : Program) (D : FuncId → List Value → Mode → Heap → Option (Mode × Heap)) : Prop := ∀ g xs m h q, D g xs m h = some q → ∀ ρ w ys u, GOK ρ → HRel P ρ h w → VRs ρ xs ys → ModeR ρ m u →
 (callFunc g ⟨ys⟩).run P w = .ok (.enter g ⟨ys⟩) w ∧ CallsDIn (fen none) 0 P g ⟨ys⟩ u w fun e u' w' => ∃ y ρ', e = .returned y ∧ Left P ρ h w (undef, q.2) undef ρ' w' ∧ ModeR ρ' q.1 u'
theorem leaveX_sound {D : FuncId → List Value → Mode → Heap → Option (Mode × Heap)} (hD : DOK P D) {fn : Func} {E0 : Env} {r : Res × Heap} : ∀ (l : List DItem) {m : Mode} {st : St} {E : Env} {ρ : Rho} {β : List (Option Nat)} {w : World} {u : FrameMode} {ds : List Deferred} {R : Ending → World → Prop},
  EExt E0 E → Rel P E ρ β st a w → DsR ρ l ds → ModeR ρ m u → leaveX P D fn l m st = some r →
  (∀ v y E ρ β st a w, r = (.ret v, st.heap) → EExt E0 E → Rel P E ρ β st a w → VR ρ v y → R (.returned y) w) →
  (∀ v y E ρ β st a w, r = (.pan v, st.heap) → EExt E0 E → Rel P E ρ β st a w → VR ρ v y → R (.panicked [entry y]) w) →
  LeavesInM (fen none) 0 P fn a.tmps R ds u w
 | [], m, st, E, ρ, β, w, u, ds, R, hE, h, hd, hm, e, hR, hP => by
  cases ds with
  | cons _ _ => exact hd.elim
  | nil =>
   simp only [leaveX] at e
   cases m with
   | ret =>
    cases hm
    simp only at e
    obtain ⟨vs, st', ρ', ys, hk, hr, hle, hvs, hrun⟩ := resultsP_sound _ h e
    cases hk
    exact ⟨tupled ys, run_results hrun, hR _ _ E ρ' β st' a w rfl hE hr (tupled_rel hvs)⟩
   | pan v c =>
    obtain ⟨y, rfl, hv⟩ := hm
    cases c with
    | true => cases e
    | false =>
     simp only [Option.some.injEq] at e
     exact hP v y E ρ β st a w e.symm hE h hv
 | .mark id :: l, m, st, E, ρ, β, w, u, ds, R, hE, h, hd, hm, e, hR, hP => by
  cases ds with
  | nil => exact hd.elim
  | cons d ds =>
   obtain ⟨⟨rb, hat, rfl⟩, hd⟩ := hd
   simp only [leaveX] at e
   obtain ⟨b, hb, e1⟩ := Option.bind_eq_some_iff.1 e
   split at e1
   ·rename_i hob
    obtain ⟨_, x, hx, hox⟩ := h.h.o.obj id b rb _ hb hat hob
    obtain ⟨rfl, _⟩ := hox
    have hset := h.objSet hb hob hat none (.deferred none) (fun o'' hh => by cases hh)
    exact ⟨hm.notRun, .inl ⟨rb.b, _, rfl, run_takeDeferred hx, leaveX_sound hD l hE hset hd hm e1 hR hP⟩⟩
   ·cases e1
 | .call g xs :: l, m, st, E, ρ, β, w, u, ds, R, hE, h, hd, hm, e, hR, hP => by
  cases ds with
  | nil => exact hd.elim
  | cons d ds =>
   obtain ⟨⟨cap, args, rfl, hvs⟩, hd⟩ := hd
   simp only [leaveX] at e
   obtain ⟨q, hq, e1⟩ := Option.bind_eq_some_iff.1 e
   obtain ⟨hrun, hcall⟩ := hD g xs m st.heap q hq ρ w _ u (h.g.mono h.e.le) h.h hvs hm
   refine ⟨hm.notRun, .inr ⟨(fun (hh : (none : Option Nat).isSome = true) => nomatch hh), .func g, ⟨cap⟩, g, _, rfl, invoke_enter hrun, fun _ _ => trivial, ?_⟩⟩
   refine CallsDIn.mono hcall fun ex u' w' he => ?_
   obtain ⟨y, ρ', rfl, lf, hm'⟩ := he
   exact leaveX_sound hD l hE (h.called lf) (hd.mono lf.ext.le) hm'.settled e1 hR hP
theorem evalBody_sound {n : Nat} {X : CallX} (hX : XOK P X) {T : Tab} (hT : TabOK P T) (hD : DOK P (evalD P X T n)) (K : Nat → List Nat) {f : FuncId} {fn : Func} (hf : P.funcs[f]? = some fn) {xs ys : List Value} {h : Heap} {r : Res × Heap} (hg : GOK ρ) (hr : HRel P ρ h w) (hv : VRs ρ xs ys)
  (e : evalBody P X T K n fn xs h = some r) : fn.body.isSome = true ∧ CallsIn (fen none) 0 P f ⟨ys⟩ w fun
   | .returned y, w' => ∃ v ρ', r.1 = .ret v ∧ Left P ρ h w (v, r.2) y ρ' w'
   | .panicked ch, w' => ∃ y, ch = [entry y] ∧ ∃ v ρ', r.1 = .pan v ∧ Left P ρ h w (v, r.2) y ρ' w'
   | .outgrown, _ => False := by
 unfold evalBody at e
 obtain ⟨c, hc, e1⟩ := Option.bind_eq_some_iff.1 e
 refine ⟨by rw [hc]; rfl, callsIn_of_wp_marks hf hc trivial (wpIn_mono (evalK_sound hX hT K n none (E0 := ⟨w, Writable ρ h, h, ρ, none, []⟩) rfl c 0 (.refl _) (Rel.start hg hr hv fn) (show DsR ρ [] [] from trivial) e1) ?_)⟩
 rintro ex a' w' ⟨pe, st', ds', E', ρ', β', hk, hrel, hE, hds, hm⟩
 have hds' : DsR ρ' ds' a'.defers := by rw [hrel.d]; exact hds.mono hrel.e.le
 have hR : ∀ v y E2 ρ2 β2 st2 a2 w2, r = (Res.ret v, St.heap st2) → EExt ⟨w, Writable ρ h, h, ρ, none, []⟩ E2 → Rel P E2 ρ2 β2 st2 a2 w2 → VR ρ2 v y → ∃ v ρ', r.1 = .ret v ∧ Left P ρ h w (v, r.2) y ρ' w2 := by
  intro v y E2 ρ2 β2 st2 a2 w2 h1 h2 h3 h4
  subst h1
  exact ⟨v, ρ2, rfl, h3.left h2 h4⟩
 have hP : ∀ v y E2 ρ2 β2 st2 a2 w2, r = (Res.pan v, St.heap st2) → EExt ⟨w, Writable ρ h, h, ρ, none, []⟩ E2 → Rel P E2 ρ2 β2 st2 a2 w2 → VR ρ2 v y → ∃ z, [entry y] = [entry z] ∧ ∃ v ρ', r.1 = .pan v ∧ Left P ρ h w (v, r.2) z ρ' w2 := by
  intro v y E2 ρ2 β2 st2 a2 w2 h1 h2 h3 h4
  subst h1
  exact ⟨y, rfl, v, ρ2, rfl, h3.left h2 h4⟩
 cases pe with
 | normal => cases ex <;> first | exact hm.elim | exact leaveX_sound hD ds' hE hrel hds' (show ModeR ρ' .ret .returning from rfl) hk hR hP
 | ret => cases ex <;> first | exact hm.elim | exact leaveX_sound hD ds' hE hrel hds' (show ModeR ρ' .ret .returning from rfl) hk hR hP
 | panic v =>
  cases ex with
  | panic ch =>
   obtain ⟨y, rfl, hvy⟩ := hm
   exact leaveX_sound hD ds' hE hrel hds' (show ModeR ρ' (.pan v false) (.panicking [entry y]) from ⟨y, rfl, hvy⟩) hk hR hP
  | _ => exact hm.elim
 | exit i => cases hk
 | goto i => cases hk
end
end Go.Pv
end
section
namespace Go.Pv
variable [Glob]
section
variable {P : Program} {E : Env} {ρ : Rho} {β : List (Option Nat)} {st : St} {a : Act} {w : World} {Q : Exit → Act → World → Prop} {next : Act → World → Prop} {o : Oper}
def AtS (P : Program) (E0 : Env) (c0 : Frame) (below : List Frame) {R : Type} (r : R) (k : PExit → Mode → St → Option R) (e : Exit) (a : Act) (cs : List Frame) (w : World) : Prop :=
 ∃ pe m' st' E' ρ' β' u', k pe m' st' = some r ∧ Rel P E' ρ' β' st' a w ∧ EExt E0 E' ∧ E'.ds = [] ∧ ModeR E'.ρ0 m' u' ∧ cs = { c0 with mode := u' } :: below ∧ match pe, e with
  | .normal, .normal => True
  | .exit i, .exit j => i = j
  | .goto i, .goto j => i = j
  | .ret, .ret => True
  | .panic _, .panic _ => True
  | _, _ => False
theorem frame_mode (c : Frame) {u : FrameMode} (h : c.mode = u) : ({ c with mode := u } : Frame) = c := by subst h; rfl
theorem still_run {X : CallX} (hX : XOK P X) (h : Rel P E ρ β st a w) (hs : still o = true) {R : Type} {k : Slot → St → Option R} {r : R} (e : evalOp P (retOnly X) false o st k = some r) :
  ∃ s' st' v w' ρ' β', k s' st' = some r ∧ (execOp a.eval o).run P w = .ok (.value v) w' ∧ Rel P E ρ' β' (st'.put o.dst s') (a.put o.dst v) w' ∧ ρ.le ρ' := by
 unfold still at hs
 unfold evalOp at e
 split at hs
 ·rename_i x ho
  simp only [ho] at e
  obtain ⟨s, hs', e1⟩ := Option.bind_eq_some_iff.1 e
  exact ⟨s, st, a.eval x, w, ρ, β, e1, by simp [execOp, ho], h.put o.dst (opd_rel h hs'), Rho.le.refl ρ⟩
 ·rename_i x ho
  simp only [ho] at e
  obtain ⟨s, hs', e1⟩ := Option.bind_eq_some_iff.1 e
  exact ⟨s, st, a.eval x, w, ρ, β, e1, by simp [execOp, ho], h.put o.dst (opd_rel h hs'), Rho.le.refl ρ⟩
 ·rename_i op t x y ty ho
  simp only [ho] at e
  obtain ⟨sx, hsx, e1⟩ := Option.bind_eq_some_iff.1 e
  obtain ⟨sy, hsy, e2⟩ := Option.bind_eq_some_iff.1 e1
  obtain ⟨u, hu, e3⟩ := Option.bind_eq_some_iff.1 e2
  obtain ⟨v, hv, e4⟩ := Option.bind_eq_some_iff.1 e3
  obtain ⟨r', hr, e5⟩ := Option.bind_eq_some_iff.1 e4
  obtain ⟨r2, hrun, hvr⟩ := binOp_run h ho hsx hsy hu hv hr
  exact ⟨_, st, r2, w, ρ, β, e5, hrun, h.put o.dst (s := .v r') hvr, Rho.le.refl ρ⟩
 ·cases hs
theorem wpSIn_mono {F : Fence} {n : Nat} {c : Code} {cs : List Frame} {Q Q' : Exit → Act → List Frame → World → Prop} (h : c.wpSIn F n P Q a cs w) (hq : ∀ e a cs w, Q e a cs w → Q' e a cs w) : c.wpSIn F n P Q' a cs w :=
 fun b k hb hr hF hroom => let ⟨e, a', cs', w', l, q, r⟩ := h b k hb hr hF hroom; ⟨e, a', cs', w', l, hq _ _ _ _ q, r⟩
theorem isRecover_run (h : isRecover o = true) : (execOp a.eval o).run P w = .ok .recover w := by
 unfold isRecover at h
 split at h
 ·rename_i args ts ho
  simp [execOp, ho, resolve, invoke, builtin]
 ·cases h
theorem recoverD_ret (c0 : Frame) (below : List Frame) : recoverD ({ c0 with mode := .returning } :: below) = none := rfl
theorem recoverD_done (c0 : Frame) (below : List Frame) (y : Value) : recoverD ({ c0 with mode := .panicking [{ v := y, recovered := true }] } :: below) = none := rfl
theorem recoverD_pan (c0 : Frame) (below : List Frame) (y : Value) : recoverD ({ c0 with mode := .panicking [{ v := y, recovered := false }] } :: below) = some (y, { c0 with mode := .panicking [{ v := y, recovered := true }] } :: below) := rfl
theorem evalOpsS_sound {X : CallX} (hX : XOK P X) {ops : Array Oper} {E0 : Env} (hro : E0.ro = none) {c0 : Frame} {below : List Frame} {R : Type} {k : PExit → Mode → St → Option R} {r : R} : ∀ (l : List Oper) (i : Nat) {m : Mode} {u : FrameMode} {E : Env} {st : St} {ρ : Rho} {β : List (Option Nat)} {a : Act} {w : World}, ops.toList.drop i = l → EExt E0 E → E.ds = [] → Rel P E ρ β st a w → ModeR E.ρ0 m u →
  evalOpsS P X ops l m st (fun m st => k .normal m st) = some r → wpOpsSIn (fen none) 0 P ops (AtS P E0 c0 below r k) (List.range' i l.length) a ({ c0 with mode := u } :: below) w
 | [], i, m, u, E, st, ρ, β, a, w, hl, hE, hds, h, hm, e => ⟨.normal, m, st, E, ρ, β, u, e, h, hE, hds, hm, rfl, trivial⟩
 | o :: l, i, m, u, E, st, ρ, β, a, w, hl, hE, hds, h, hm, e => by
  have ho : ops[i]? = some o := by
   have : (ops.toList.drop i)[0]? = some o := by rw [hl]; rfl
   rw [List.getElem?_drop] at this
   simpa using this
  have hl' : ops.toList.drop (i + 1) = l := by
   rw [← List.drop_drop, hl]; rfl
  simp only [evalOpsS] at e
  rw [show (o :: l).length = l.length + 1 from rfl, List.range'_succ]
  simp only [wpOpsSIn, ho]
  refine ⟨fun _ _ => trivial, ?_⟩
  rcases guardK_sound h e with ⟨hw, e1⟩ | ⟨hw, e1⟩
  ·simp only [hw, if_true]
   cases hir : isRecover o with
   | true =>
    rw [hir] at e1
    rw [isRecover_run (P := P) (a := a) (w := w) hir]
    simp only at e1 ⊢
    cases m with
    | ret =>
     cases hm
     rw [recoverD_ret]
     exact evalOpsS_sound hX hro l (i + 1) hl' hE hds (h.put o.dst (s := .v .nilIface) .nilIface) (show ModeR E.ρ0 .ret .returning from rfl) e1
    | pan v c =>
     obtain ⟨y, rfl, hv⟩ := hm
     cases c with
     | true =>
      rw [recoverD_done]
      exact evalOpsS_sound hX hro l (i + 1) hl' hE hds (h.put o.dst (s := .v .nilIface) .nilIface) (show ModeR E.ρ0 (.pan v true) (.panicking [{ v := y, recovered := true }]) from ⟨y, rfl, hv⟩) e1
     | false =>
      rw [recoverD_pan]
      exact evalOpsS_sound hX hro l (i + 1) hl' hE hds (h.put o.dst (s := .v v) (hv.mono h.e.le)) (show ModeR E.ρ0 (.pan v true) (.panicking [{ v := y, recovered := true }]) from ⟨y, rfl, hv⟩) e1
   | false =>
    rw [hir] at e1
    simp only at e1
    obtain ⟨hst, e2⟩ := bif_some e1
    obtain ⟨s', st', v, w', ρ', β', hk, hrun, hr, hle⟩ := still_run hX h hst e2
    rw [hrun]
    exact evalOpsS_sound hX hro l (i + 1) hl' hE hds hr hm hk
  ·simp only [hw, Bool.false_eq_true, if_false]
   exact evalOpsS_sound hX hro l (i + 1) hl' hE hds (h.put o.dst (s := .v undef) (.tuple _ _ .nil)) hm e1
theorem evalS_sound {X : CallX} (hX : XOK P X) {T : Tab} (hT : TabOK P T) (K : Nat → List Nat) (n : Nat) {E0 : Env} (hro : E0.ro = none) {c0 : Frame} {below : List Frame} {R : Type} {r : R} : ∀ (c : Code) {k : PExit → Mode → St → Option R} {m : Mode} {u : FrameMode} {E : Env} {st : St} {ρ : Rho} {β : List (Option Nat)} {a : Act} {w : World}, EExt E0 E → E.ds = [] → Rel P E ρ β st a w → ModeR E.ρ0 m u →
  evalS P X T K n c m st k = some r → c.wpSIn (fen none) 0 P (AtS P E0 c0 below r k) a ({ c0 with mode := u } :: below) w := by
 -- code without recover
 have plain : ∀ (c : Code) {k : PExit → Mode → St → Option R} {m : Mode} {u : FrameMode} {E : Env} {st : St} {ρ : Rho} {β : List (Option Nat)} {a : Act} {w : World}, EExt E0 E → E.ds = [] → Rel P E ρ β st a w → ModeR E.ρ0 m u →
   (evalK P X T K n none 0 c st [] fun e st ds => match ds with | [] => k e m st | _ => none) = some r → c.wpSIn (fen none) 0 P (AtS P E0 c0 below r k) a ({ c0 with mode := u } :: below) w := by
  intro c k m u E st ρ β a w hE hds h hm e
  refine wpSIn_of_wpIn rfl ?_
  have hroE : E.ro = none := hE.ro.trans hro
  have := evalK_sound hX hT K n none (E0 := E) hroE c 0 (.refl E) h (show DsR E.ρ0 [] E.ds by rw [hds]; trivial) e
  rw [hroE] at this
  refine wpIn_mono this ?_
  rintro ex a' w' ⟨pe, st', ds', E', ρ', β', hk, hr, hE', hd', hmm⟩
  cases ds' with
  | cons _ _ => cases hk
  | nil =>
   have hds' : E'.ds = [] := by
    cases hh : E'.ds with
    | nil => rfl
    | cons d ds => rw [hh] at hd'; exact hd'.elim
   refine ⟨pe, m, st', E', ρ', β', u, hk, hr, hE.trans hE', hds', hm.mono hE'.ρ0.le, rfl, ?_⟩
   cases pe <;> cases ex <;> first | trivial | exact hmm | exact hmm.elim
 intro c
 induction c with
 | seq x y ihx ihy =>
  intro k m u E st ρ β a w hE hds h hm e
  simp only [evalS] at e
  refine wpSIn_seq (wpSIn_mono (ihx hE hds h hm e) ?_)
  rintro ex a' cs' w' ⟨pe, m', st', E', ρ', β', u', hk, hr, hE', hds', hm', rfl, hmm⟩
  cases pe with
  | normal => cases ex <;> first | exact hmm.elim | exact ihy hE' hds' hr hm' hk
  | exit i => cases ex <;> first | exact hmm.elim | exact ⟨.exit i, m', st', E', ρ', β', u', hk, hr, hE', hds', hm', rfl, hmm⟩
  | goto i => cases ex <;> first | exact hmm.elim | exact ⟨.goto i, m', st', E', ρ', β', u', hk, hr, hE', hds', hm', rfl, hmm⟩
  | ret => cases ex <;> first | exact hmm.elim | exact ⟨.ret, m', st', E', ρ', β', u', hk, hr, hE', hds', hm', rfl, hmm⟩
  | panic v => cases ex <;> first | exact hmm.elim | exact ⟨.panic v, m', st', E', ρ', β', u', hk, hr, hE', hds', hm', rfl, hmm⟩
 | cond c x y ihx ihy =>
  intro k m u E st ρ β a w hE hds h hm e
  simp only [evalS] at e
  obtain ⟨s, hs, e1⟩ := Option.bind_eq_some_iff.1 e
  obtain ⟨v, hv, e2⟩ := Option.bind_eq_some_iff.1 e1
  obtain ⟨t, ht, e3⟩ := Option.bind_eq_some_iff.1 e2
  have hc := ((opd_val h hs hv).toBool ht).2
  cases t with
  | true => exact wpSIn_cond hc (ihx hE hds h hm e3)
  | false => exact wpSIn_cond hc (ihy hE hds h hm e3)
 | region i ops draw =>
  intro k m u E st ρ β a w hE hds h hm e
  simp only [evalS] at e
  cases hb : (!draw && ops.any isRecover) with
  | false =>
   rw [hb] at e
   exact plain _ hE hds h hm e
  | true =>
   rw [hb] at e
   have hdr : draw = false := by cases draw <;> simp at hb ⊢
   subst hdr
   refine wpSIn_region ?_
   have hr : List.range ops.size = List.range' 0 ops.toList.length := by rw [List.range_eq_range']; rfl
   rw [hr]
   exact evalOpsS_sound hX hro ops.toList 0 rfl hE hds h hm e
 | skip => intro k m u E st ρ β a w hE hds h hm e; exact plain _ hE hds h hm e
 | block i b _ => intro k m u E st ρ β a w hE hds h hm e; exact plain _ hE hds h hm e
 | loop b _ => intro k m u E st ρ β a w hE hds h hm e; exact plain _ hE hds h hm e
 | rangeFunc g ps x y _ _ => intro k m u E st ρ β a w hE hds h hm e; exact plain _ hE hds h hm e
 | exit i => intro k m u E st ρ β a w hE hds h hm e; exact plain _ hE hds h hm e
 | scope b _ => intro k m u E st ρ β a w hE hds h hm e; exact plain _ hE hds h hm e
 | label l => intro k m u E st ρ β a w hE hds h hm e; exact plain _ hE hds h hm e
 | goto l => intro k m u E st ρ β a w hE hds h hm e; exact plain _ hE hds h hm e
 | ret => intro k m u E st ρ β a w hE hds h hm e; exact plain _ hE hds h hm e
 | refuse s => intro k m u E st ρ β a w hE hds h hm e; exact plain _ hE hds h hm e
theorem evalD_ok {X : CallX} (hX : XOK P X) {T : Tab} (hT : TabOK P T) (n : Nat) : DOK P (evalD P X T n) := by
 intro g xs m h q e ρ w ys u hg hr hv hm
 unfold evalD at e
 cases hs : T.spec g with
 | some s => rw [hs] at e; cases e
 | none =>
  rw [hs] at e
  simp only [Option.isSome_none, cond_false] at e
  obtain ⟨fn, hfn, e1⟩ := Option.bind_eq_some_iff.1 e
  obtain ⟨c, hc, e2⟩ := Option.bind_eq_some_iff.1 e1
  obtain ⟨hf, hname⟩ := hT.fn g fn hs hfn
  have hn' : ¬ fn.name = "runtime.NumGoroutine" := by simpa using hname
  refine ⟨by simp [callFunc, hf, hn', hc], callsDIn_of_wpSIn hf hc trivial fun c0 below hc0 => ?_⟩
  have hcs : (c0 :: below) = { c0 with mode := u } :: below := by rw [frame_mode c0 hc0]
  rw [hcs]
  refine wpSIn_mono (evalS_sound hX hT (T.kill g) n (E0 := ⟨w, Writable ρ h, h, ρ, none, []⟩) rfl c (.refl _) rfl (Rel.start hg hr hv fn) hm e2) ?_
  rintro ex a' cs' w' ⟨pe, m', st', E', ρ', β', u', hk, hrel, hE, hds, hm', rfl, hmm⟩
  have fin : resultsP P st' fn.results.toList (fun _ st => some (m', st.heap)) = some q → a'.defers = [] ∧ ∃ u'', ({ c0 with mode := u' } : Frame) :: below = { c0 with mode := u'' } :: below ∧ ∃ v, (results fn a'.tmps).run P w' = .ok v w' ∧ ∃ y ρ', Ending.returned v = .returned y ∧ Left P ρ h w (undef, q.2) undef ρ' w' ∧ ModeR ρ' q.1 u'' := by
   intro e3
   obtain ⟨vs, st2, ρ2, zs, hk2, hr2, hle, hvs, hrun⟩ := resultsP_sound _ hrel e3
   cases hk2
   exact ⟨hrel.d.trans hds, u', rfl, tupled zs, run_results hrun, tupled zs, ρ2, rfl, hr2.left hE (.tuple _ _ .nil), hm'.mono hr2.e.le⟩
  cases pe with
  | normal => cases ex <;> first | exact hmm.elim | exact fin hk
  | ret => cases ex <;> first | exact hmm.elim | exact fin hk
  | exit i => cases hk
  | goto i => cases hk
  | panic v => cases hk
end
end Go.Pv
end
section
namespace Go.Pv
variable [Glob]
section
variable {P : Program} {E : Env} {ρ : Rho} {β : List (Option Nat)} {st : St} {a : Act} {w : World} {Q : Exit → Act → World → Prop} {next : Act → World → Prop} {o : Oper}
theorem slotsOf_length : ∀ {cs : List Value} {dead : List Bool}, dead.length = cs.length → (slotsOf cs dead).length = cs.length
 | [], [], _ => rfl
 | [], _ :: _, h => by simp at h
 | _ :: _, [], h => by simp at h
 | x :: cs, d :: dead, h => by simp [slotsOf, slotsOf_length (cs := cs) (dead := dead) (by simpa using h)]
theorem slotsOf_get : ∀ {cs : List Value} {dead : List Bool} {t : Nat} {s : Slot}, (slotsOf cs dead)[t]? = some s → ∃ x, cs[t]? = some x ∧ ((dead[t]? = some true ∧ s = .dead) ∨ (dead[t]? = some false ∧ s = .v x))
 | [], _, t, s, h => by simp [slotsOf] at h
 | _ :: _, [], t, s, h => by simp [slotsOf] at h
 | x :: cs, d :: dead, 0, s, h => by
  simp [slotsOf] at h
  subst h
  cases d
  ·exact ⟨x, rfl, .inr ⟨rfl, rfl⟩⟩
  ·exact ⟨x, rfl, .inl ⟨rfl, rfl⟩⟩
 | x :: cs, d :: dead, t + 1, s, h => by
  simp only [slotsOf, List.getElem?_cons_succ] at h
  obtain ⟨z, hz, hh⟩ := slotsOf_get h
  exact ⟨z, by simpa using hz, by simpa using hh⟩
theorem setParams_rel : ∀ {ps : List Nat} {xs ys : List Value} {ts : List Slot} {us : Array Value}, VRs ρ xs ys → ps.length = xs.length → (ts.length = us.size ∧ ∀ (t : Nat) s, ts[t]? = some s → (∃ y, us[t]? = some y ∧ (s = .dead ∨ ∃ x, s = .v x ∧ VR ρ x y))) →
  ((setParams ts ps xs).length = ((ps.zip ys).foldl (fun tmps (t, a) => tmps.setIfInBounds t a) us).size ∧ (setParams ts ps xs).length = ts.length ∧ ∀ (t : Nat) s, (setParams ts ps xs)[t]? = some s → (∃ y, ((ps.zip ys).foldl (fun tmps (t, a) => tmps.setIfInBounds t a) us)[t]? = some y ∧ (s = .dead ∨ ∃ x, s = .v x ∧ VR ρ x y)))
 | [], _, _, ts, us, .nil, _, h => ⟨h.1, rfl, h.2⟩
 | [], _, _, ts, us, .cons _ _ _ _ _ _, hl, h => by simp at hl
 | p :: ps, _, _, ts, us, .nil, hl, h => by simp at hl
 | p :: ps, _, _, ts, us, .cons x y xs ys hx tx, hl, h => by
  simp only [setParams, List.zip_cons_cons, List.foldl_cons]
  have := setParams_rel (ps := ps) (ts := ts.set p (.v x)) (us := us.setIfInBounds p y) tx (by simpa using hl) ⟨by simp [h.1], fun t s hs => ?_⟩
  ·refine ⟨this.1, by rw [this.2.1]; simp, this.2.2⟩
  ·rcases set_get hs with ⟨rfl, rfl, hlt⟩ | ⟨hne, hs⟩
   ·exact ⟨y, by rw [Array.getElem?_setIfInBounds_self, if_pos (by rw [← h.1]; exact hlt)], .inr ⟨x, rfl, hx⟩⟩
   ·obtain ⟨z, hz, hh⟩ := h.2 t s hs
    exact ⟨z, by rw [Array.getElem?_setIfInBounds_ne (Ne.symm hne)]; exact hz, hh⟩
theorem Rel.round {h : Heap} (hg : GOK ρ) (hr : HRel P ρ h w) (ro : Option Nat) {ts : List Slot} {us : Array Value} (ht : ts.length = us.size) (hs : ∀ (t : Nat) s, ts[t]? = some s → (∃ y, us[t]? = some y ∧ (s = .dead ∨ ∃ x, s = .v x ∧ VR ρ x y))) {n : Nat} (hn : n = ts.length) :
  Rel P ⟨w, Writable ρ h, h, ρ, ro, []⟩ ρ (List.replicate n none) ⟨ts, List.replicate n .no, h⟩ { tmps := us, defers := [] } w where
 h := hr
 b := by
  have hno : ∀ (d : Nat) cs e, (List.replicate n Box.no)[d]? ≠ some (.loc cs e) := by
   intro d cs e hd
   have := List.mem_of_getElem? hd
   simp at this
  exact ⟨by simp, fun d cs e hd => absurd hd (hno d cs e), fun d cs e _ _ _ _ hd => absurd hd (hno d cs e), fun d _ cs e _ _ _ _ _ hd => absurd hd (hno d cs e)⟩
 t := ⟨ht, fun t s h1 => by
  obtain ⟨y, hy, hh⟩ := hs t s h1
  refine ⟨y, hy, ?_⟩
  rcases hh with rfl | ⟨x, rfl, hx⟩
  ·trivial
  ·exact hx⟩
 f := ⟨rfl, rfl, rfl, Nat.le_refl _, fun _ _ _ => rfl⟩
 n := ⟨fun id bl rb h1 h2 h3 h4 => .inl ⟨id, bl, rb, h1, h2, .inl ⟨h3, h4⟩, rfl⟩, fun d cs e b hd => by
   have := List.mem_of_getElem? hd
   simp at this, fun id rb hid hh => by
   have := Rho.at_lt hh
   rw [hr.len] at this
   have : h.length ≤ id := hid
   omega, Nat.le_refl _, fun id bl _ hb hl => ⟨bl, hb, hl⟩, fun id bl rb h1 h2 h3 => .inl ⟨id, bl, rb, h1, h2, .inr h3, rfl⟩⟩
 d := rfl
 bl := by simp [hn]
 e := .refl ρ
 g := hg
theorem Rel.leftR {h : Heap} {E : Env} {ro : Option Nat} (hE : EExt ⟨w, Writable ρ h, h, ρ, ro, []⟩ E) {ρ' : Rho} {w' : World} {v y : Value} (hr : Rel P E ρ' β st a w') (hv : VR ρ' v y) : Left P ρ h w (v, st.heap) y ρ' w' := by
 obtain ⟨E1, E2, E3, E4, E5, E6⟩ := E
 obtain ⟨h1, h2, h3, h4, h5⟩ := hE
 simp only at h1 h2 h3 h4 h5
 subst h1; subst h2; subst h3; subst h4
 exact ⟨h5.trans hr.e, hr.h, hv, ⟨hr.f.os, hr.f.tape, hr.f.output, hr.f.size, hr.f.block⟩, ⟨hr.n.wh, fun d cs e b hd => by simp at hd, hr.n.wn, hr.n.len, hr.n.liv, hr.n.wo⟩⟩
theorem endRound_rel {h : Heap} {E : Env} {ro : Option Nat} {w0 : World} {ρ0 : Rho} (hE : EExt ⟨w0, Writable ρ0 h, h, ρ0, ro, []⟩ E) (hr : Rel P E ρ β st a w) {l : Nat} {rb : RB} (hat : ρ.at l rb) {jump : Option PExit} (hj : ∀ e, jump = some e → (jumpOf e).isSome = true) {r : Res × Heap} (e : endRound l jump st.heap = some r) :
  ∃ v w', (Instr.endRound rb.b (jump.bind jumpOf)).run P w = .ok v w' ∧ ∃ v' ρ', r.1 = .ret v' ∧ Left P ρ0 h w0 (v', r.2) v ρ' w' := by
 unfold endRound at e
 obtain ⟨q, hq, e1⟩ := Option.bind_eq_some_iff.1 e
 cases e1
 obtain ⟨hl, ho⟩ := loopAt_eq hq
 obtain ⟨qb, ⟨qs, qp, qd, qps, qa, qbd, qK⟩⟩ := q
 simp only at hl ho
 obtain ⟨_, x, hx, hox⟩ := hr.h.o.obj l qb rb _ hl hat ho
 obtain ⟨fn, ys, d, rfl, hp, hlen, hv⟩ := hox
 have hrun := run_endRound (P := P) (jump.bind jumpOf) hx
 have hnone : (jump.bind jumpOf).isNone = jump.isNone := by
  cases jump with
  | none => rfl
  | some e' =>
   obtain ⟨c, hc⟩ := Option.isSome_iff_exists.1 (hj e' rfl)
   simp [hc]
 have hset := hr.objSet hl ho hat (some (.loop ⟨if jump.isNone then .ready else .done, jump, qd, qps, qa, qbd, qK⟩)) (.loop { state := if (jump.bind jumpOf).isNone then .ready else .done, pending := jump.bind jumpOf, fn := fn, tmps := ⟨ys⟩, params := ⟨qps⟩, assign := qa, body := qbd, defers := d })
  (fun o'' hh => by cases hh; exact ⟨fn, ys, d, by rw [hnone], hj, hlen, hv⟩)
 rw [hnone] at hset hrun
 exact ⟨_, _, hrun, .bool jump.isNone, ρ, rfl, hset.leftR hE (.bool _)⟩
theorem evalRound_ok {X : CallX} (hX : XOK P X) {T : Tab} (hT : TabOK P T) (n : Nat) {l : Nat} {xs : List Value} {h : Heap} {r : Res × Heap} (e : evalRound P X T n l xs h = some r) {ys : List Value} {s : Sem Next} (hg : GOK ρ) (hr : HRel P ρ h w) (hv : VRs ρ xs ys) (hs : TgtR ρ ys (.yield l) s) :
  XGives P s w (fun y w' => ∃ v ρ', r.1 = .ret v ∧ Left P ρ h w (v, r.2) y ρ' w') (fun y w' => ∃ v ρ', r.1 = .pan v ∧ Left P ρ h w (v, r.2) y ρ' w') := by
 obtain ⟨rb, hat, rfl⟩ := hs
 unfold evalRound at e
 obtain ⟨q, hq, e1⟩ := Option.bind_eq_some_iff.1 e
 obtain ⟨hlen, e2⟩ := bif_some e1
 simp only [Bool.and_eq_true] at hlen
 have hl1 := Nat.eq_of_beq_eq_true hlen.1
 have hl2 := Nat.eq_of_beq_eq_true hlen.2
 obtain ⟨hl, ho⟩ := loopAt_eq hq
 obtain ⟨qb, ⟨qs, qp, qd, qps, qa, qbd, qK⟩⟩ := q
 simp only at hl ho hl1 hl2 e2
 obtain ⟨_, x, hx, hox⟩ := hr.o.obj l qb rb _ hl hat ho
 obtain ⟨fn, us, d, rfl, hp, hcl, hcv⟩ := hox
 simp only at hcv
 intro ro o a next Q hn hpn
 have hyield := run_yield (P := P) (args := ⟨ys⟩) hx (by simp [← hl1, hv.length])
 rw [hyield]
 refine ⟨(fun (hh : (none : Option Nat).isSome = true) => nomatch hh), ?_⟩
 have hzip : (Array.foldl (fun tmps (t, a) => tmps.setIfInBounds t a) (⟨us⟩ : Array Value) ((⟨qps⟩ : Array Tmp).zip ⟨ys⟩)) = (qps.zip ys).foldl (fun tmps (t, a) => tmps.setIfInBounds t a) (⟨us⟩ : Array Value) := by
  simp
 have ht0 : (slotsOf qb.cells qd).length = (⟨us⟩ : Array Value).size ∧ ∀ (t : Nat) s, (slotsOf qb.cells qd)[t]? = some s → (∃ y, (⟨us⟩ : Array Value)[t]? = some y ∧ (s = .dead ∨ ∃ x, s = .v x ∧ VR ρ x y)) := by
  refine ⟨by rw [slotsOf_length hl2]; simpa using hcl, fun t s hs => ?_⟩
  obtain ⟨z, hz, hh⟩ := slotsOf_get hs
  have hlt : t < us.length := by rw [← hcl]; exact get_lt hz
  rcases hh with ⟨_, rfl⟩ | ⟨hdf, rfl⟩
  ·exact ⟨us[t], by simp [hlt], .inl rfl⟩
  ·rcases hcv t z hz with ⟨hdt, _⟩ | ⟨y, hy, hvr⟩
   ·rw [hdf] at hdt; cases hdt
   ·exact ⟨y, by simpa using hy, .inr ⟨z, rfl, hvr⟩⟩
 have hsp := setParams_rel (ps := qps) hv (by omega) ht0
 have hrel := Rel.round (w := w) (P := P) hg hr (some rb.b) hsp.1 hsp.2.2 (n := qb.cells.length) (by rw [hsp.2.1, slotsOf_length hl2])
 rw [← hzip] at hrel
 have hk := evalK_sound hX hT qK n (some l) (E0 := ⟨w, Writable ρ h, h, ρ, some rb.b, []⟩) ⟨rb, hat, rfl⟩ qa 0 (.refl _) hrel (show DsR ρ [] [] from trivial) e2
 refine RoundIn.mono (R := fun e w' => ∃ y v' ρ', e = .returned y ∧ r.1 = .ret v' ∧ Left P ρ h w (v', r.2) y ρ' w') (roundIn_of_wpIn trivial (wpIn_mono hk ?_)) ?_
 ·rintro ex a1 w1 ⟨pe, st1, ds1, E1, ρ1, β1, hk1, hr1, hE1, hd1, hm1⟩
  cases pe with
  | normal =>
   cases ex with
   | normal =>
    cases ds1 with
    | cons _ _ => cases hk1
    | nil =>
     simp only at hk1
     obtain ⟨q', hq', e3⟩ := Option.bind_eq_some_iff.1 hk1
     obtain ⟨hrd, e4⟩ := bif_some e3
     obtain ⟨hl', ho'⟩ := loopAt_eq hq'
     obtain ⟨qb', ⟨qs', qp', qd', qps', qa', qbd', qK'⟩⟩ := q'
     simp only at hl' ho' hrd e4
     have hrd' : qs' = .ready := by
      cases qs' <;> first | rfl | (exact absurd hrd (by decide))
     subst hrd'
     have hat1 : ρ1.at l rb := (hE1.ρ0.trans hr1.e).le _ _ hat
     obtain ⟨_, x', hx', hox'⟩ := hr1.h.o.obj l qb' rb _ hl' hat1 ho'
     obtain ⟨fn', us', d', rfl, hp', hcl', hcv'⟩ := hox'
     have hbr := run_beginRound (P := P) hx' rfl
     have hset := hr1.objSet hl' ho' hat1 (some (.loop ⟨.busy, qp', qd', qps', qa', qbd', qK'⟩)) (.loop { state := .busy, pending := qp'.bind jumpOf, fn := fn', tmps := ⟨us'⟩, params := ⟨qps'⟩, assign := qa', body := qbd', defers := d' })
      (fun o'' hh => by cases hh; exact ⟨fn', us', d', rfl, hp', hcl', hcv'⟩)
     refine ⟨_, hbr, ?_⟩
     have hds1 : E1.ds = [] := by
      cases hh : E1.ds with
      | nil => rfl
      | cons d ds => rw [hh] at hd1; exact hd1.elim
     have hro1 : E1.ro = some rb.b := hE1.ro
     have hk2 := evalK_sound hX hT qK n (some l) (E0 := E1) ⟨rb, hE1.ρ0.le _ _ hat, hro1⟩ qbd 0 (.refl _) hset (show DsR E1.ρ0 [] E1.ds by rw [hds1]; trivial) e4
     rw [hro1] at hk2
     refine wpIn_mono hk2 ?_
     rintro ex2 a2 w2 ⟨pe2, st2, ds2, E2, ρ2, β2, hk3, hr2, hE2, hd2, hm2⟩
     have hat2 : ρ2.at l rb := (hE2.ρ0.trans hr2.e).le _ _ (hE1.ρ0.le _ _ hat)
     have hEE := hE1.trans hE2
     cases ds2 with
     | cons _ _ => cases pe2 <;> cases hk3
     | nil =>
      cases pe2 with
      | normal =>
       cases ex2 with
       | normal =>
        obtain ⟨v, w', h1, v', ρ', h2, h3⟩ := endRound_rel hEE hr2 hat2 (fun e hh => by cases hh) hk3
        exact ⟨v, w', h1, v, v', ρ', rfl, h2, h3⟩
       | _ => exact hm2.elim
      | ret =>
       cases ex2 with
       | ret =>
        obtain ⟨v, w', h1, v', ρ', h2, h3⟩ := endRound_rel hEE hr2 hat2 (fun e hh => by cases hh; rfl) hk3
        exact ⟨v, w', h1, v, v', ρ', rfl, h2, h3⟩
       | _ => exact hm2.elim
      | exit i =>
       cases ex2 with
       | exit j =>
        cases hm2
        obtain ⟨v, w', h1, v', ρ', h2, h3⟩ := endRound_rel hEE hr2 hat2 (fun e hh => by cases hh; rfl) hk3
        exact ⟨v, w', h1, v, v', ρ', rfl, h2, h3⟩
       | _ => exact hm2.elim
      | goto i =>
       cases ex2 with
       | goto j =>
        cases hm2
        obtain ⟨v, w', h1, v', ρ', h2, h3⟩ := endRound_rel hEE hr2 hat2 (fun e hh => by cases hh; rfl) hk3
        exact ⟨v, w', h1, v, v', ρ', rfl, h2, h3⟩
       | _ => exact hm2.elim
      | panic v => cases hk3
   | _ => exact hm1.elim
  | ret => cases hk1
  | exit i => cases hk1
  | goto i => cases hk1
  | panic v => cases hk1
 ·rintro ex w' ⟨y, v', ρ', rfl, h1, h2⟩
  exact hn y w' ⟨v', ρ', h1, h2⟩
theorem evalCall_ok {T : Tab} (hT : TabOK P T) : ∀ n, XOK P (evalCall P T n)
 | 0 => fun t xs h r e => by cases e
 | n + 1 => by
  have ih := evalCall_ok hT n
  intro t xs h r e ρ w ys s hg hr hv hs
  cases t with
  | yield l => exact evalRound_ok ih hT n e hg hr hv hs
  | fn f =>
   have hs' : s = callFunc f ⟨ys⟩ := hs
   subst hs'
   simp only [evalCall] at e
   cases hsp : T.spec f with
   | some sp =>
    rw [hsp] at e
    exact hT.spec f sp hsp (.fn f) xs h r (by simpa using e) ρ w ys _ hg hr hv rfl
   | none =>
    rw [hsp] at e
    simp only at e
    obtain ⟨fn, hfn, e1⟩ := Option.bind_eq_some_iff.1 e
    obtain ⟨hf, hname⟩ := hT.fn f fn hsp hfn
    obtain ⟨hb, hc⟩ := evalBody_sound (n := n) ih hT (evalD_ok ih hT n) (T.kill f) hf hg hr hv e1
    have hnone : fn.body ≠ none := by intro hh; rw [hh] at hb; cases hb
    have hn' : ¬ fn.name = "runtime.NumGoroutine" := by simpa using hname
    have hrun : (callFunc f ⟨ys⟩).run P w = .ok (.enter f ⟨ys⟩) w := by
     simp [callFunc, hf, hn', hnone]
    intro ro o a next Q hn hpn
    rw [hrun]
    refine ⟨(fun (hh : (none : Option Nat).isSome = true) => nomatch hh), CallsIn.mono (F := fen none) hc fun ex w' he => ?_⟩
    cases ex with
    | returned y => exact hn y w' he
    | panicked ch =>
     obtain ⟨y, rfl, hh⟩ := he
     exact hpn y w' hh
    | outgrown => exact he.elim
end
theorem sound {P : Program} {T : Tab} (hT : TabOK P T) (n : Nat) : XOK P (evalCall P T n) := evalCall_ok hT n
end Go.Pv
end

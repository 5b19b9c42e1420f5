/- The evaluator of the program's form and its soundness against the model; what trees stand for. Parts: DvSim11, DvLim, DvLim2, DvRun, DvKt, EvOpen, EvRow, DvRow, DvTr, DvRd. -/
import GoSem.ClaimChange
import Derived.Below
import Derived.Test.YtngphbjigkgeaaaDoorLbE
set_option linter.unusedVariables false
set_option linter.unusedSimpArgs false
set_option linter.unusedSectionVars false
section
namespace Go.Dv
open Go.Pv (TI tiOf idx upTo fieldTI CK kindsOf LoopRec PExit isConst room isYield Slot Box Blk Heap St set_get set_same set_ne get_snoc bif_some bif_none masksOf behind firm makes floats mayLp dsts isAl drawOK isRecover still)
variable [Pv.Glob] [DGlob]
section
variable {F : Fz} {μ : Mu} {dh : DHeap} {h : Heap}
theorem killIds_get : ∀ (l : List Nat) {dh : DHeap} {id : Nat} {db : DBlk}, (killIds l dh)[id]? = some db → ∃ db0, dh[id]? = some db0 ∧ db.cells = db0.cells ∧ db.row = db0.row ∧ (db.live = true → db0.live = true ∧ id ∉ l)
 | [], dh, id, db, e => ⟨db, e, rfl, rfl, fun h => ⟨h, by simp⟩⟩
 | x :: l, dh, id, db, e => by
  simp only [killIds] at e
  obtain ⟨db0, h1, h2, h3, h4⟩ := killIds_get l e
  cases hx : dh[x]? with
  | none =>
   rw [hx] at h1
   refine ⟨db0, h1, h2, h3, fun hl => ⟨(h4 hl).1, ?_⟩⟩
   intro hm
   rcases List.mem_cons.1 hm with rfl | hm
   ·dsimp only at h1; rw [hx] at h1; cases h1
   ·exact (h4 hl).2 hm
  | some b =>
   rw [hx] at h1
   dsimp only at h1
   rcases set_get h1 with ⟨rfl, rfl, _⟩ | ⟨hne, h1⟩
   ·exact ⟨b, hx, h2, h3, fun hl => by have := (h4 hl).1; simp at this⟩
   ·refine ⟨db0, h1, h2, h3, fun hl => ⟨(h4 hl).1, ?_⟩⟩
    intro hm
    rcases List.mem_cons.1 hm with rfl | hm
    ·exact hne rfl
    ·exact (h4 hl).2 hm
theorem rd_kill (i : DInv F μ dh h) (l : List Nat) : RdInv F μ (killIds l dh) h := fun id db j hd hj hl => by
 obtain ⟨db0, h1, h2, h3, h4⟩ := killIds_get l hd
 obtain ⟨b, h5, h6, h7, h8⟩ := i.rd id db0 j h1 hj (h4 hl).1
 exact ⟨b, h5, h6, h7.trans h3.symm, h2 ▸ h8⟩
theorem dead_kill (l : List Nat) {id : Nat} (hm : id ∈ l) : ¬ LiveIn (killIds l dh) id := fun ⟨db, hd, hl⟩ => by
 obtain ⟨db0, h1, h2, h3, h4⟩ := killIds_get l hd
 exact (h4 hl).2 hm
def mv (base : Nat) (o : Option (TypeId × Nat)) (x : DV) : DV :=
 match o, x with
 | some _, .sl id off n c sz => .sl (base + id) off n c sz
 | _, x => x
theorem moveUp_cons (base : Nat) (o : Option (TypeId × Nat)) (os : List (Option (TypeId × Nat))) (x : DV) (xs : List DV) : moveUp base (o :: os) (x :: xs) = mv base o x :: moveUp base os xs := by
 cases o <;> cases x <;> rfl
theorem noDup_cons {x : Nat} {l : List Nat} (e : noDup (x :: l) = true) : x ∉ l ∧ noDup l = true := by
 simp only [noDup, Bool.and_eq_true, Bool.not_eq_true'] at e
 refine ⟨fun hm => ?_, e.2⟩
 have := List.elem_eq_true_of_mem hm
 rw [this] at e
 cases e.1
theorem ownRes_rel {dh1 : DHeap} (i : DInv F μ dh h) (hr1 : RdInv F μ dh1 h) {own : List Nat} (hdead : ∀ id ∈ own, ¬ LiveIn dh1 id) :
  ∀ (os : List (Option (TypeId × Nat))) (xs : List DV) {ys : List Value} {i0 : Nat} {vs' : List DV} {dh3 : DHeap}, VDs F μ xs ys → (∀ id ∈ ownIds os xs, id ∈ own) → noDup (ownIds os xs) = true → ownRes dh dh1 os xs i0 = some (vs', dh3) →
   ∃ μ3 : Mu, μ3.length = dh3.length ∧ (∀ (k : Nat) db j, dh3[k]? = some db → μ3[k]? = some (some j) → (∃ id ∈ ownIds os xs, μ[id]? = some (some j)) ∧ ∃ b, h[j]? = some b ∧ BlkD (F.ext μ h (LiveIn dh1)) [] db b j) ∧
    (∀ (k : Nat) db, dh3[k]? = some db → μ3[k]? = some none → db.cells = [] ∧ db.obj = none ∧ db.row = true) ∧ (∀ (a a' j : Nat), μ3[a]? = some (some j) → μ3[a']? = some (some j) → a = a') ∧
    (∀ (μ0 : Mu) base, (∀ (k : Nat) x, μ3[k]? = some x → μ0[base + i0 + k]? = some x) → VDs (F.ext μ h (LiveIn dh1)) μ0 (moveUp base os vs') ys)
 | [], [], ys, i0, vs', dh3, hv, ho, hd, e => by
  simp only [ownRes] at e
  cases e
  cases hv
  exact ⟨[], rfl, fun k db j h1 => by simp at h1, fun k db h1 => by simp at h1, fun a a' j h1 => by simp at h1, fun μ0 base _ => .nil _⟩
 | [], x :: xs, ys, i0, vs', dh3, hv, ho, hd, e => by simp [ownRes] at e
 | none :: os, [], ys, i0, vs', dh3, hv, ho, hd, e => by simp [ownRes] at e
 | some p :: os, [], ys, i0, vs', dh3, hv, ho, hd, e => by simp [ownRes] at e
 | none :: os, x :: xs, ys, i0, vs', dh3, hv, ho, hd, e => by
  simp only [ownRes] at e
  obtain ⟨q, hq, e1⟩ := bnd e
  obtain ⟨⟨r1, r2⟩, hr, e2⟩ := bnd e1
  cases e2
  cases hv with
  | cons _ _ y _ ys hx ht =>
   have hoi : ownIds (none :: os) (x :: xs) = ownIds os xs := by cases x <;> rfl
   rw [hoi] at ho hd ⊢
   obtain ⟨μ3, g1, g2, g3, g4, g5⟩ := ownRes_rel i hr1 hdead os xs ht ho hd hr
   refine ⟨μ3, g1, g2, g3, g4, fun μ0 base hb => ?_⟩
   rw [moveUp_cons]
   exact .cons _ _ _ _ _ (VD.monoM (Mu.le.nil μ0) ((freeze_rel i.fz hr1 depth).1 hx hq ((freeze_live depth).1 hq))) (g5 μ0 base hb)
 | some (el, sz) :: os, x :: xs, ys, i0, vs', dh3, hv, ho, hd, e => by
  simp only [ownRes] at e
  cases hv with
  | cons _ _ y _ ys hx ht =>
  split at e
  ·obtain ⟨⟨r1, r2⟩, hr, e2⟩ := bnd e
   cases e2
   have hoi : ownIds (some (el, sz) :: os) (.nils :: xs) = ownIds os xs := rfl
   rw [hoi] at ho hd ⊢
   obtain ⟨μ3, g1, g2, g3, g4, g5⟩ := ownRes_rel i hr1 hdead os xs ht ho hd hr
   refine ⟨none :: μ3, by simp [g1], fun k db j h1 h2 => ?_, fun k db h1 h2 => ?_, fun a a' j h1 h2 => ?_, fun μ0 base hb => ?_⟩
   ·cases k with
    | zero => simp at h2
    | succ k => exact g2 k db j (by simpa using h1) (by simpa using h2)
   ·cases k with
    | zero => simp at h1; subst h1; exact ⟨rfl, rfl, rfl⟩
    | succ k => exact g3 k db (by simpa using h1) (by simpa using h2)
   ·cases a with
    | zero => simp at h1
    | succ a => cases a' with
     | zero => simp at h2
     | succ a' => rw [g4 a a' j (by simpa using h1) (by simpa using h2)]
   ·rw [moveUp_cons]
    cases hx
    refine .cons _ _ _ _ _ (.slNil _ _ _ ?_) (g5 μ0 base fun k x hk => ?_)
    ·have := hb 0 none rfl
     simpa using this
    ·have := hb (k + 1) x (by simpa using hk)
     rw [show base + i0 + (k + 1) = base + (i0 + 1) + k by omega] at this
     exact this
  ·rename_i id off n c sz'
   obtain ⟨db, hdb, e1⟩ := bnd e
   obtain ⟨hc, e2⟩ := bif_some e1
   obtain ⟨q, hq, e3⟩ := bnd e2
   obtain ⟨⟨r1, r2⟩, hr, e4⟩ := bnd e3
   cases e4
   clear e e1 e2 e3
   have hoi : ownIds (some (el, sz) :: os) (.sl id off n c sz' :: xs) = id :: ownIds os xs := rfl
   rw [hoi] at ho hd ⊢
   obtain ⟨hd1, hd2⟩ := noDup_cons hd
   obtain ⟨μ3, g1, g2, g3, g4, g5⟩ := ownRes_rel i hr1 hdead os xs ht (fun id hid => ho id (List.mem_cons_of_mem _ hid)) hd2 hr
   simp only [Bool.and_eq_true, Bool.not_eq_true', Option.isNone_iff_eq_none] at hc
   obtain ⟨⟨⟨⟨⟨⟨⟨hl, hro⟩, hrow⟩, hobj⟩, hel⟩, hoff⟩, hsz⟩, hlen⟩ := hc
   have hel := Nat.eq_of_beq_eq_true hel
   have hoff := Nat.eq_of_beq_eq_true hoff
   have hsz := Nat.eq_of_beq_eq_true hsz
   have hlen := Nat.eq_of_beq_eq_true hlen
   subst hoff hsz hel
   cases hx with
   | sl _ _ _ _ _ _ j hj =>
    obtain ⟨b, hb', hbr⟩ := i.blk id db j hdb hj
    obtain ⟨hbro, hFj⟩ := hbr.ro hro
    have hcs : VDs (F.ext μ h (LiveIn dh1)) [] q b.cells := by
     unfold handed at hq
     cases hp : DGlob.plainT db.elem with
     | true =>
      rw [hp, cond_true] at hq
      unfold frozL at hq
      obtain ⟨hall, hq⟩ := bif_some hq
      cases hq
      exact frozs_rel Fz.ext_le (hbr.cells (.inl hl)) hall
     | false =>
      rw [hp, cond_false] at hq
      obtain ⟨q', hq', hq⟩ := bnd hq
      cases hq
      exact (freeze_rel i.fz hr1 depth).2 (hbr.cells (.inl hl)) hq' ((freeze_live depth).2 hq')
    have hFI : F.ext μ h (LiveIn dh1) j = none := by
     cases hh : F.ext μ h (LiveIn dh1) j with
     | none => rfl
     | some x =>
      rcases Fz.ext_of hh with h1 | ⟨_, ⟨id', hs, hj'⟩, _⟩
      ·rw [hFj] at h1; cases h1
      ·have := i.inj id id' j hj hj'
       subst this
       exact (hdead id (ho id (by simp)) hs).elim
    have hbo : b.obj = none := by
     have := hbr.obj
     rw [hobj] at this
     exact this
    refine ⟨some j :: μ3, by simp [g1], fun k db' j' h1 h2 => ?_, fun k db' h1 h2 => ?_, fun a a' j' h1 h2 => ?_, fun μ0 base hb => ?_⟩
    ·cases k with
     | zero =>
      simp at h1 h2
      subst h1 h2
      exact ⟨⟨id, by simp, hj⟩, b, hb', hbr.live.trans hl, hbr.elem, hbr.row.trans hrow, fun _ => ⟨hbro, hFI⟩, fun _ => hcs, hbo⟩
     | succ k =>
      obtain ⟨⟨id', hm, hj'⟩, hh⟩ := g2 k db' j' (by simpa using h1) (by simpa using h2)
      exact ⟨⟨id', List.mem_cons_of_mem _ hm, hj'⟩, hh⟩
    ·cases k with
     | zero => simp at h2
     | succ k => exact g3 k db' (by simpa using h1) (by simpa using h2)
    ·have key : ∀ a, μ3[a]? = some (some j) → False := fun a ha => by
      have hlt := get_lt ha
      rw [g1] at hlt
      obtain ⟨⟨id', hm, hj'⟩, _⟩ := g2 a r2[a] j (List.getElem?_eq_getElem hlt) ha
      rw [i.inj id id' j hj hj'] at hd1
      exact hd1 hm
     cases a with
     | zero =>
      simp at h1
      subst h1
      cases a' with
      | zero => rfl
      | succ a' => exact (key a' (by simpa using h2)).elim
     | succ a => cases a' with
      | zero =>
       simp at h2
       subst h2
       exact (key a (by simpa using h1)).elim
      | succ a' => rw [g4 a a' j' (by simpa using h1) (by simpa using h2)]
    ·rw [moveUp_cons]
     refine .cons _ _ _ _ _ (.sl _ _ _ _ _ _ j ?_) (g5 μ0 base fun k x hk => ?_)
     ·have := hb 0 (some j) rfl
      simpa using this
     ·have := hb (k + 1) x (by simpa using hk)
      rw [show base + i0 + (k + 1) = base + (i0 + 1) + k by omega] at this
      exact this
   | slNil _ _ _ hj =>
    obtain ⟨hc0, _, _⟩ := i.nil id db hdb hj
    rw [hc0] at hq
    have hq1 : q = [] := by
     unfold handed at hq
     have h2 : freezeL depth dh1 [] = some ([], []) := rfl
     have h3 : frozL [] = some [] := rfl
     rw [h2, h3] at hq
     cases hp : DGlob.plainT db.elem <;> rw [hp] at hq <;> cases hq <;> rfl
    refine ⟨none :: μ3, by simp [g1], fun k db' j h1 h2 => ?_, fun k db' h1 h2 => ?_, fun a a' j h1 h2 => ?_, fun μ0 base hb => ?_⟩
    ·cases k with
     | zero => simp at h2
     | succ k =>
      obtain ⟨⟨id', hm, hj'⟩, hh⟩ := g2 k db' j (by simpa using h1) (by simpa using h2)
      exact ⟨⟨id', List.mem_cons_of_mem _ hm, hj'⟩, hh⟩
    ·cases k with
     | zero => simp at h1; subst h1; exact ⟨hq1, rfl, rfl⟩
     | succ k => exact g3 k db' (by simpa using h1) (by simpa using h2)
    ·cases a with
     | zero => simp at h1
     | succ a => cases a' with
      | zero => simp at h2
      | succ a' => rw [g4 a a' j (by simpa using h1) (by simpa using h2)]
    ·rw [moveUp_cons]
     refine .cons _ _ _ _ _ (.slNil _ _ _ ?_) (g5 μ0 base fun k x hk => ?_)
     ·have := hb 0 none rfl
      simpa using this
     ·have := hb (k + 1) x (by simpa using hk)
      rw [show base + i0 + (k + 1) = base + (i0 + 1) + k by omega] at this
      exact this
  ·cases e
theorem freezeW_ids {f : DV → Option (DV × List Nat)} {g : DV → List Nat} (hf : ∀ {x : DV} {q : DV × List Nat}, f x = some q → q.2 = g x) : ∀ {xs : List DV} {q : List DV × List Nat}, freezeWith f xs = some q → q.2 = idsFW g xs
 | [], q, e => by cases e; rfl
 | x :: xs, q, e => by
  simp only [freezeWith] at e
  obtain ⟨a, ha, e⟩ := bnd e
  obtain ⟨b, hb, e⟩ := bnd e
  cases e
  show a.2 ++ b.2 = g x ++ idsFW g xs
  rw [hf ha, freezeW_ids hf hb]
theorem freezeV_ids : ∀ (d : Nat) {x : DV} {q : DV × List Nat}, freezeV d dh x = some q → q.2 = idsF d dh x
 | 0, x, q, e => by simp [freezeV] at e
 | d + 1, x, q, e => by
  have ihL : ∀ {xs : List DV} {q : List DV × List Nat}, freezeWith (freezeV d dh) xs = some q → q.2 = idsFW (idsF d dh) xs := fun h => freezeW_ids (fun h => freezeV_ids d h) h
  unfold freezeV at e
  split at e
  ·cases e; rfl
  ·obtain ⟨a, ha, e⟩ := bnd e
   obtain ⟨b, hb, e⟩ := bnd e
   cases e
   show a.2 ++ b.2 = _ ++ _
   rw [ihL ha, ihL hb]
  ·obtain ⟨a, ha, e⟩ := bnd e
   cases e
   exact freezeV_ids d (q := a) ha
  ·obtain ⟨a, ha, e⟩ := bnd e
   cases e
   exact ihL ha
  ·obtain ⟨a, ha, e⟩ := bnd e
   cases e
   exact ihL ha
  ·obtain ⟨b, hb, e⟩ := bnd e
   obtain ⟨_, e⟩ := bif_some e
   obtain ⟨a, ha, e⟩ := bnd e
   cases e
   simp only [idsF, hb]
   rw [ihL ha]
  ·rename_i id off n c sz
   obtain ⟨cs, hcs, e⟩ := bnd e
   unfold dcells at hcs
   obtain ⟨b, hb, hcs⟩ := bnd hcs
   obtain ⟨_, hcs⟩ := bif_some hcs
   cases hcs
   cases hp : plainB dh id with
   | true =>
    rw [hp, cond_true] at e
    obtain ⟨a, ha, e⟩ := bnd e
    cases e
    simp only [idsF, hp, cond_true]
   | false =>
    rw [hp, cond_false] at e
    obtain ⟨a, ha, e⟩ := bnd e
    cases e
    simp only [idsF, hp, cond_false, hb]
    rw [ihL ha]
  ·cases e
  ·rename_i h1 h2 h3 h4 h5 h6 h7 h8
   cases e
   cases x <;> first | rfl | exact (h1 rfl).elim | exact (h2 _ _ _ rfl).elim | exact (h3 _ _ rfl).elim | exact (h4 _ rfl).elim | exact (h5 _ rfl).elim | exact (h6 _ _ rfl).elim | exact (h7 _ _ _ _ _ rfl).elim | exact (h8 _ rfl).elim
theorem freezeA_ids : ∀ {nl : Bool} {xs : List DV} {q : List DV × List Nat}, freezeA nl dh xs = some q → q.2 = idsA dh xs
 | false, xs, q, e => freezeW_ids (fun h => freezeV_ids depth h) e
 | true, [], q, e => by cases e; rfl
 | true, x :: xs, q, e => by
  have e : freezeN dh (x :: xs) = some q := e
  unfold freezeN at e
  split at e
  ·rename_i heq; cases heq
  ·rename_i r heq
   cases heq
   obtain ⟨q2, h2, e⟩ := bnd e
   cases e
   exact freezeA_ids (nl := true) (xs := xs) (q := q2) h2
  ·rename_i heq
   cases heq
   obtain ⟨q1, h1, e⟩ := bnd e
   obtain ⟨q2, h2, e⟩ := bnd e
   cases e
   show q1.2 ++ q2.2 = idsF depth dh x ++ idsA dh xs
   rw [freezeV_ids depth h1, freezeA_ids (nl := true) (q := q2) h2]
theorem freezeA_live : ∀ {nl : Bool} {xs : List DV} {q : List DV × List Nat}, freezeA nl dh xs = some q → ∀ id ∈ q.2, LiveIn dh id
 | false, xs, q, e => (freeze_live depth).2 e
 | true, [], q, e => by cases e; simp
 | true, x :: xs, q, e => by
  have e : freezeN dh (x :: xs) = some q := e
  unfold freezeN at e
  split at e
  ·rename_i heq; cases heq
  ·rename_i r heq
   cases heq
   obtain ⟨q2, h2, e⟩ := bnd e
   cases e
   exact freezeA_live (nl := true) (q := q2) h2
  ·rename_i heq
   cases heq
   obtain ⟨q1, h1, e⟩ := bnd e
   obtain ⟨q2, h2, e⟩ := bnd e
   cases e
   intro id hid
   rcases List.mem_append.1 hid with h | h
   ·exact (freeze_live depth).1 h1 id h
   ·exact freezeA_live (nl := true) h2 id h
theorem freezeA_rel {S : Nat → Prop} (hf : FzInv F h) (hr : RdInv F μ dh h) : ∀ {nl : Bool} {xs : List DV} {ys : List Value} {q : List DV × List Nat}, VDs F μ xs ys → freezeA nl dh xs = some q → (∀ id ∈ q.2, S id) → VDs (F.ext μ h S) [] q.1 ys
 | false, xs, ys, q, hv, e, hs => (freeze_rel hf hr depth).2 hv e hs
 | true, [], ys, q, hv, e, hs => by cases e; cases hv; exact .nil _
 | true, x :: xs, ys, q, hv, e, hs => by
  have e : freezeN dh (x :: xs) = some q := e
  unfold freezeN at e
  cases hv with
  | cons _ _ y _ ys hx ht =>
  split at e
  ·rename_i heq; cases heq
  ·rename_i r heq
   cases heq
   obtain ⟨q2, h2, e⟩ := bnd e
   cases e
   cases hx
   exact .cons _ _ _ _ _ (.nils _) (freezeA_rel hf hr (nl := true) ht h2 hs)
  ·rename_i heq
   cases heq
   obtain ⟨q1, h1, e⟩ := bnd e
   obtain ⟨q2, h2, e⟩ := bnd e
   cases e
   exact .cons _ _ _ _ _ ((freeze_rel hf hr depth).1 hx h1 fun id hid => hs id (List.mem_append_left _ hid)) (freezeA_rel hf hr (nl := true) ht h2 fun id hid => hs id (List.mem_append_right _ hid))
structure LocInv (n0 : Nat) (F3 : Fz) (μ3 : Mu) (dh3 : DHeap) (h : Heap) : Prop where
 len : μ3.length = dh3.length
 blk : ∀ (k : Nat) db j, dh3[k]? = some db → μ3[k]? = some (some j) → n0 ≤ j ∧ ∃ b, h[j]? = some b ∧ BlkD F3 [] db b j
 nil : ∀ (k : Nat) db, dh3[k]? = some db → μ3[k]? = some none → db.cells = [] ∧ db.obj = none ∧ db.row = true
 inj : ∀ (a a' j : Nat), μ3[a]? = some (some j) → μ3[a']? = some (some j) → a = a'
theorem LocInv.empty (n0 : Nat) (F3 : Fz) (h : Heap) : LocInv n0 F3 [] [] h := ⟨rfl, fun k db j h1 => by simp at h1, fun k db h1 => by simp at h1, fun a a' j h1 => by simp at h1⟩
theorem moveUp_len (base : Nat) : ∀ (os : List (Option (TypeId × Nat))) (xs : List DV), (moveUp base os xs).length = xs.length
 | [], xs => by cases xs <;> rfl
 | o :: os, [] => by cases o <;> rfl
 | o :: os, x :: xs => by rw [moveUp_cons, List.length_cons, List.length_cons, moveUp_len base os xs]
theorem moveUp_nil (base : Nat) (xs : List DV) : moveUp base [] xs = xs := by cases xs <;> rfl
theorem moveUp_append (base : Nat) : ∀ (os os' : List (Option (TypeId × Nat))) (xs xs' : List DV), os.length = xs.length → moveUp base (os ++ os') (xs ++ xs') = moveUp base os xs ++ moveUp base os' xs'
 | [], os', [], xs', _ => rfl
 | [], _, _ :: _, _, h => by simp at h
 | _ :: _, _, [], _, h => by simp at h
 | o :: os, os', x :: xs, xs', h => by
  rw [List.cons_append, List.cons_append, moveUp_cons, moveUp_cons, moveUp_append base os os' xs xs' (by simpa using h)]
  rfl
theorem moveT_len (base : Nat) : ∀ (os : List OwnT) (xs : List DV), (moveT base os xs).length = xs.length
 | [], xs => by cases xs <;> rfl
 | .one o :: os, [] => rfl
 | .agg o :: os, [] => rfl
 | .one o :: os, x :: xs => by
  show (moveUp base [o] [x] ++ moveT base os xs).length = _
  rw [List.length_append, moveUp_len, moveT_len base os xs]
  simp; omega
 | .agg ps :: os, x :: xs => by
  cases x <;> simp only [moveT, List.length_cons, moveT_len base os xs]
theorem flatR_rel : ∀ {os : List OwnT} {xs : List DV} {ys : List Value} {z : List (Option (TypeId × Nat)) × List DV}, VDs F μ xs ys → flatR os xs = some z →
  ∃ ws, VDs F μ z.2 ws ∧ ∀ {F' : Fz} {μ' : Mu} {base : Nat} {vs' : List DV}, VDs F' μ' (moveUp base z.1 vs') ws → VDs F' μ' (moveT base os (unflat os vs')) ys
 | [], [], ys, z, hv, e => by
  cases e
  cases hv
  refine ⟨[], .nil _, fun {F' μ' base vs'} h => ?_⟩
  have := h.length
  rw [moveUp_len] at this
  obtain rfl := List.eq_nil_of_length_eq_zero this
  exact .nil _
 | [], _ :: _, ys, z, hv, e => by cases e
 | .one _ :: _, [], ys, z, hv, e => by cases e
 | .agg _ :: _, [], ys, z, hv, e => by cases e
 | .one o :: os, x :: xs, ys, z, hv, e => by
  obtain ⟨r, hr, e⟩ := bnd e
  cases e
  cases hv with
  | cons _ _ y _ ys hx ht =>
   obtain ⟨ws, h1, h2⟩ := flatR_rel ht hr
   refine ⟨y :: ws, .cons _ _ _ _ _ hx h1, fun {F' μ' base vs'} h => ?_⟩
   cases vs' with
   | nil =>
    have := h.length
    rw [moveUp_len] at this
    simp at this
   | cons v vs =>
    rw [moveUp_cons] at h
    cases h with
    | cons _ _ _ _ _ ha hb =>
     show VDs F' μ' (moveUp base [o] [v] ++ moveT base os (unflat os vs)) _
     rw [moveUp_cons]
     exact .cons _ _ _ _ _ ha (h2 hb)
 | .agg ps :: os, x :: xs, ys, z, hv, e => by
  obtain ⟨cs, hc, e⟩ := bnd e
  obtain ⟨hl, e⟩ := bif_some e
  obtain ⟨r, hr, e⟩ := bnd e
  cases e
  cases hv with
  | cons _ _ y _ ys hx ht =>
   obtain ⟨rfl, cs', rfl, hcs⟩ := hx.toAgg hc
   obtain ⟨ws, h1, h2⟩ := flatR_rel ht hr
   have hl := Nat.eq_of_beq_eq_true hl
   refine ⟨cs' ++ ws, hcs.append h1, fun {F' μ' base vs'} h => ?_⟩
   have hlen := h.length
   rw [moveUp_len, List.length_append, ← hcs.length] at hlen
   have hsp : vs' = vs'.take ps.length ++ vs'.drop ps.length := (List.take_append_drop _ _).symm
   have hpl : ps.length = (vs'.take ps.length).length := by rw [List.length_take]; omega
   rw [hsp, moveUp_append _ _ _ _ _ hpl] at h
   have ht' := h.take (moveUp base ps (vs'.take ps.length)).length
   have hd' := h.drop (moveUp base ps (vs'.take ps.length)).length
   rw [List.take_left] at ht'
   rw [List.drop_left] at hd'
   rw [moveUp_len, ← hpl, ← hl, hcs.length] at ht' hd'
   rw [List.take_left] at ht'
   rw [List.drop_left] at hd'
   show VDs F' μ' (.agg (moveUp base ps (vs'.take ps.length)) :: moveT base os (unflat os (vs'.drop ps.length))) _
   rw [show ps.length = cs'.length from hl.symm.trans hcs.length]
   exact .cons _ _ _ _ _ (.agg _ _ _ ht') (h2 hd')
theorem resL_rel {os : List OwnT} {v : DV} {y : Value} {vs : List DV} (hv : VD F μ v y) (e : resL os v = some vs) :
  ∃ ys, VDs F μ vs ys ∧ ∀ {F' : Fz} {μ' : Mu} {vs' : List DV} {v' : DV}, VDs F' μ' vs' ys → resV os vs' = some v' → VD F' μ' v' y := by
 unfold resL at e
 split at e
 ·cases e
  refine ⟨[y], .cons _ _ _ _ _ hv (.nil _), fun {F' μ' vs' v'} h hr => ?_⟩
  cases h with
  | cons _ _ _ _ _ h1 h2 => cases hr; exact h1
 ·rename_i hne
  obtain ⟨rfl, ys, rfl, h1⟩ := hv.toTup e
  refine ⟨ys, h1, fun {F' μ' vs' v'} h hr => ?_⟩
  unfold resV at hr
  split at hr
  ·rename_i o
   exact (hne o rfl).elim
  ·cases hr; exact .tup _ _ _ h
theorem resV_resL {os : List OwnT} {us : List DV} {x : DV} (e : resV os us = some x) (h1 : ∀ o, os = [o] → us.length = 1) : resL os x = some us := by
 unfold resV at e
 split at e
 ·rename_i o
  have := h1 o rfl
  match us, this, e with
  | [u], _, e => cases e; rfl
 ·rename_i hne
  cases e
  unfold resL
  split
  ·rename_i o
   exact (hne o rfl).elim
  ·rfl
def FinD (F3 : Fz) (μ3 : Mu) (dh3 : DHeap) (os : List OwnT) : DRes → Pv.Res → Prop
 | .pan v, .pan y => VD F3 [] v y ∧ dh3 = []
 | .ret v, .ret y => ∀ (μ0 : Mu) base v', (∀ (k : Nat) x, μ3[k]? = some x → μ0[base + k]? = some x) → moveRes base os v = some v' → VD F3 μ0 v' y
 | _, _ => False
theorem finish_rel (i : DInv F μ dh h) {n0 : Nat} (hn : ∀ (id j : Nat), μ[id]? = some (some j) → n0 ≤ j) {os : List OwnT} {r r' : DRes} {w : Pv.Res} {dh3 : DHeap} (hv : ResD F μ r w) (e : finish os (r, dh) = some (r', dh3)) :
  ∃ F3 μ3, F.le F3 ∧ FzInv F3 h ∧ (∀ j x, F3 j = some x → F j = some x ∨ n0 ≤ j) ∧ LocInv n0 F3 μ3 dh3 h ∧ FinD F3 μ3 dh3 os r' w := by
 have hnew : ∀ (S : Nat → Prop) j x, F.ext μ h S j = some x → F j = some x ∨ n0 ≤ j := fun S j x hx => by
  rcases Fz.ext_of hx with h1 | ⟨_, ⟨id, _, hj⟩, _⟩
  ·exact .inl h1
  ·exact .inr (hn id j hj)
 have many : ∀ {os : List (Option (TypeId × Nat))} {xs : List DV} {ys : List Value} {vs' : List DV} {dh3 : DHeap}, VDs F μ xs ys → noDup (ownIds os xs) = true → ownRes dh (killIds (ownIds os xs) dh) os xs 0 = some (vs', dh3) → ∃ F3 μ3, F.le F3 ∧ FzInv F3 h ∧ (∀ j x, F3 j = some x → F j = some x ∨ n0 ≤ j) ∧ LocInv n0 F3 μ3 dh3 h ∧ ∀ (μ0 : Mu) base, (∀ (k : Nat) x, μ3[k]? = some x → μ0[base + k]? = some x) → VDs F3 μ0 (moveUp base os vs') ys := by
  intro os xs ys vs' dh3 hvs hnd ho
  have hr1 := rd_kill i (ownIds os xs)
  obtain ⟨μ3, g1, g2, g3, g4, g5⟩ := ownRes_rel i hr1 (own := ownIds os xs) (fun id hm => dead_kill _ hm) os xs hvs (fun id hm => hm) hnd ho
  refine ⟨_, μ3, Fz.ext_le, Fz.ext_fz i.fz hr1 fun id h => h, hnew _, ⟨g1, fun k db j h1 h2 => ?_, g3, g4⟩, fun μ0 base hb => g5 μ0 base fun k x hk => by rw [Nat.add_zero]; exact hb k x hk⟩
  obtain ⟨⟨id, _, hj⟩, hh⟩ := g2 k db j h1 h2
  exact ⟨hn id j hj, hh⟩
 have plain : ∀ {x : DV} {y : Value} {q : DV × List Nat}, VD F μ x y → freezeV depth dh x = some q → VD (F.ext μ h (LiveIn dh)) [] q.1 y := fun hx hq => (freeze_rel i.fz i.rd depth).1 hx hq ((freeze_live depth).1 hq)
 have hfz := Fz.ext_fz (S := LiveIn dh) i.fz i.rd fun id h => h
 unfold finish at e
 cases r with
 | pan v =>
  cases w <;> first | exact hv.elim | skip
  obtain ⟨q, hq, e1⟩ := bnd e
  cases e1
  exact ⟨_, [], Fz.ext_le, hfz, hnew _, .empty _ _ _, plain hv hq, rfl⟩
 | ret v =>
  cases w <;> first | exact hv.elim | skip
  rename_i y
  replace hv : VD F μ v y := hv
  dsimp only at e
  split at e
  ·obtain ⟨q, hq, e1⟩ := bnd e
   cases e1
   refine ⟨_, [], Fz.ext_le, hfz, hnew _, .empty _ _ _, fun μ0 base v' _ hm => ?_⟩
   cases hm
   exact VD.monoM (Mu.le.nil μ0) (plain hv hq)
  ·rename_i o os
   obtain ⟨vs, hvs, e1⟩ := bnd e
   obtain ⟨z, hz, e2⟩ := bnd e1
   obtain ⟨hnd, e3⟩ := bif_some e2
   obtain ⟨⟨vs', dh4⟩, ho, e4⟩ := bnd e3
   obtain ⟨x, hx, e5⟩ := bnd e4
   cases e5
   clear e e1 e2 e3 e4
   obtain ⟨ys, r1, r2⟩ := resL_rel hv hvs
   obtain ⟨ws, s1, s2⟩ := flatR_rel r1 hz
   obtain ⟨F3, μ3, g1, g2, g3, g4, g5⟩ := many s1 hnd ho
   refine ⟨F3, μ3, g1, g2, g3, g4, fun μ0 base v' hb hm => ?_⟩
   have h5 := s2 (g5 μ0 base hb)
   obtain ⟨us, hu, hm⟩ := bnd hm
   have hlen := h5.length
   rw [moveT_len] at hlen
   have hus := resV_resL hx fun o' ho' => by
    rw [hlen]
    have : vs.length = ys.length := r1.length
    rw [← this]
    rw [ho'] at hvs
    cases hvs
    rfl
   rw [hus] at hu
   cases hu
   exact r2 h5 hm
theorem combine (i : DInv F μ dh h) {h' : Heap} (hl : h.length ≤ h'.length) (hk : ∀ j, j < h.length → h'[j]? = h[j]?) {F3 : Fz} {μ3 : Mu} {dh3 dhm : DHeap} (L : LocInv h.length F3 μ3 dh3 h') (hF : F.le F3) (hz : FzInv F3 h') (hdm : dhm.length = dh.length)
  (hm : ∀ (id : Nat) db, dhm[id]? = some db → ∃ db0, dh[id]? = some db0 ∧ db = { db0 with ro := db.ro } ∧ (db.ro = false → db0.ro = false ∧ ∀ j, μ[id]? = some (some j) → F3 j = none))
  (hnew : ∀ j x, F3 j = some x → F j = some x ∨ h.length ≤ j ∨ ∃ a : Nat, μ[a]? = some (some j)) : DInv F3 (μ ++ μ3) (dhm ++ dh3) h' ∧ Ext F μ h F3 (μ ++ μ3) h' := by
 have hle : Mu.le μ (μ ++ μ3) := Mu.le.append μ μ3
 have hlen : μ.length = dhm.length := i.len.trans hdm.symm
 have at3 : ∀ {k : Nat} {x : Option Nat}, (μ ++ μ3)[k]? = some x → (k < μ.length ∧ μ[k]? = some x) ∨ (μ.length ≤ k ∧ μ3[k - μ.length]? = some x) := fun {k x} hh => by
  by_cases hlt : k < μ.length
  ·rw [List.getElem?_append_left hlt] at hh; exact .inl ⟨hlt, hh⟩
  ·rw [List.getElem?_append_right (by omega)] at hh; exact .inr ⟨by omega, hh⟩
 refine ⟨⟨by simp [i.len, L.len, hdm], fun id db j hd hj => ?_, fun id db hd hj => ?_, fun a a' j h1 h2 => ?_, hz⟩, hF, hle, fun a j ha hj => ?_, hnew, fun j hj _ => hk j hj, hl⟩
 ·rcases at3 hj with ⟨hlt, hj⟩ | ⟨hge, hj⟩
  ·rw [List.getElem?_append_left (by omega)] at hd
   obtain ⟨db0, h1, h2, h3⟩ := hm id db hd
   obtain ⟨b, hb, hr⟩ := i.blk id db0 j h1 hj
   refine ⟨b, (hk j (get_lt hb)).trans hb, ?_⟩
   have e1 : db.live = db0.live := by rw [h2]
   have e2 : db.elem = db0.elem := by rw [h2]
   have e3 : db.row = db0.row := by rw [h2]
   have e4 : db.cells = db0.cells := by rw [h2]
   have e5 : db.obj = db0.obj := by rw [h2]
   exact ⟨hr.live.trans e1.symm, hr.elem.trans e2.symm, hr.row.trans e3.symm, fun hh => ⟨(hr.ro (h3 hh).1).1, (h3 hh).2 j hj⟩, fun hh => by rw [e4]; exact (hr.cells (by rw [← e1, ← e5]; exact hh)).mono hF hle, by rw [e5]; exact hr.obj⟩
  ·rw [List.getElem?_append_right (by omega), ← hlen] at hd
   obtain ⟨hn, b, hb, hr⟩ := L.blk _ db j hd hj
   exact ⟨b, hb, hr.mono (.refl F3) (Mu.le.nil _) fun hh => (hr.ro hh).2⟩
 ·rcases at3 hj with ⟨hlt, hj⟩ | ⟨hge, hj⟩
  ·rw [List.getElem?_append_left (by omega)] at hd
   obtain ⟨db0, h1, h2, h3⟩ := hm id db hd
   have := i.nil id db0 h1 hj
   rw [h2]
   exact this
  ·rw [List.getElem?_append_right (by omega), ← hlen] at hd
   exact L.nil _ db hd hj
 ·rcases at3 h1 with ⟨q1, q2⟩ | ⟨q1, q2⟩ <;> rcases at3 h2 with ⟨q3, q4⟩ | ⟨q3, q4⟩
  ·exact i.inj a a' j q2 q4
  ·have hlt := i.mulen q2
   have hlt3 := get_lt q4
   rw [L.len] at hlt3
   have := (L.blk _ dh3[a' - μ.length] j (List.getElem?_eq_getElem hlt3) q4).1
   omega
  ·have hlt := i.mulen q4
   have hlt3 := get_lt q2
   rw [L.len] at hlt3
   have := (L.blk _ dh3[a - μ.length] j (List.getElem?_eq_getElem hlt3) q2).1
   omega
  ·have := L.inj _ _ j q2 q4
   omega
 ·rcases at3 hj with ⟨hlt, _⟩ | ⟨hge, hj⟩
  ·omega
  ·have hlt3 := get_lt hj
   rw [L.len] at hlt3
   exact (L.blk _ dh3[a - μ.length] j (List.getElem?_eq_getElem hlt3) hj).1
theorem flatH_get {l : DHeap} (h : flatH l = true) {k : Nat} {db : DBlk} (hk : l[k]? = some db) : flatL db.cells = true := by
 cases l with
 | nil => simp at hk
 | cons b r => cases h
theorem LocInv.flat {n0 : Nat} {F3 F' : Fz} {μ3 : Mu} {dh3 : DHeap} (L : LocInv n0 F3 μ3 dh3 h) (hf : flatH dh3 = true) (hF : ∀ j, n0 ≤ j → F' j = none) : LocInv n0 F' μ3 dh3 h :=
 ⟨L.len, fun k db j hd hj => by
  obtain ⟨h1, b, hb, hr⟩ := L.blk k db j hd hj
  exact ⟨h1, b, hb, hr.live, hr.elem, hr.row, fun hh => ⟨(hr.ro hh).1, hF j h1⟩, fun hh => flats_rel (hr.cells hh) (flatH_get hf hd), hr.obj⟩, L.nil, L.inj⟩
theorem flat_mv {base : Nat} {o : Option (TypeId × Nat)} {x : DV} (h : flatV x = true) : flatV (mv base o x) = true := by
 unfold mv
 split
 ·rfl
 ·exact h
theorem flat_moveUp {base : Nat} : ∀ {os : List (Option (TypeId × Nat))} {xs : List DV}, flatL xs = true → flatL (moveUp base os xs) = true
 | [], xs, h => by
  have : moveUp base [] xs = xs := by cases xs <;> rfl
  rw [this]; exact h
 | o :: os, [], h => by
  have : moveUp base (o :: os) [] = [] := by cases o <;> rfl
  rw [this]; exact h
 | o :: os, x :: xs, h => by
  simp only [flatL, Bool.and_eq_true] at h
  rw [moveUp_cons]
  simp only [flatL, flat_mv h.1, flat_moveUp h.2, Bool.and_self]
theorem flat_moveT {base : Nat} : ∀ {os : List OwnT} {xs : List DV}, flatL xs = true → flatL (moveT base os xs) = true
 | [], xs, h => by
  have : moveT base [] xs = xs := by cases xs <;> rfl
  rw [this]; exact h
 | .one o :: os, [], h => rfl
 | .agg o :: os, [], h => rfl
 | .one o :: os, x :: xs, h => by
  simp only [flatL, Bool.and_eq_true] at h
  show flatL (moveUp base [o] [x] ++ moveT base os xs) = true
  rw [moveUp_cons, moveUp_nil]
  simp only [List.singleton_append, flatL, flat_mv h.1, flat_moveT h.2, Bool.and_self]
 | .agg ps :: os, x :: xs, h => by
  simp only [flatL, Bool.and_eq_true] at h
  cases x <;> simp only [moveT, flatL, h.1, flat_moveT h.2, Bool.and_self]
  have h1 := h.1
  simp only [flatV] at h1 ⊢
  rw [flat_moveUp h1]
  rfl
theorem flat_moveRes {base : Nat} {os : List OwnT} {v v' : DV} (h : flatV v = true) (e : moveRes base os v = some v') : flatV v' = true := by
 cases os with
 | nil => cases e; exact h
 | cons o os =>
  obtain ⟨vs, hv, e⟩ := bnd (show (resL (o :: os) v).bind (fun vs => resV (o :: os) (moveT base (o :: os) vs)) = some v' from e)
  have h1 : flatL vs = true := by
   unfold resL at hv
   split at hv
   ·cases hv; simp only [flatL, h, Bool.and_self]
   ·cases v <;> simp only [toTup] at hv <;> cases hv
    exact h
  have h2 := flat_moveT (base := base) (os := o :: os) h1
  generalize moveT base (o :: os) vs = us at e h2
  unfold resV at e
  split at e
  ·cases us with
   | nil => cases e
   | cons u us => cases e; simp only [flatL, Bool.and_eq_true] at h2; exact h2.1
  ·cases e; exact h2
variable {P : Program} {T : DTab} {Y : CallX} {X' : Pv.CallX}
theorem XSim.direct (hY : XSim Y X') : XSimD (direct Y) X' := by
 intro t xs dh v dh' e F μ h t' ys hg i ht hv
 obtain ⟨v1, dh1, F', μ', w, h', h1, h2, h3, h4, h5⟩ := hY _ _ _ _ _ _ e F μ h t' ys hg i ht hv
 cases h1
 exact ⟨F', μ', w, h', h2, h3, h4, h5⟩
theorem local_sim (hY : XSim Y X') {f : FuncId} {xs : List DV} {ys : List Value} {q : List DV × List Nat} {r : DRes} {dh3 : DHeap} (hg : GlobD F) (i : DInv F μ dh h) (hv : VDs F μ xs ys) {nl : Bool} (hq : freezeA nl dh xs = some q) (hr : stepL T Y f q.1 = some (r, dh3)) :
  ∃ F3 μ3 w h', X' (.fn f) ys h = some (w, h') ∧ F.le F3 ∧ FzInv F3 h' ∧ LocInv h.length F3 μ3 dh3 h' ∧ FinD F3 μ3 dh3 (T.own f) r w ∧ h.length ≤ h'.length ∧ (∀ j, j < h.length → h'[j]? = h[j]?) ∧ (∀ j x, F3 j = some x → F j = some x ∨ h.length ≤ j ∨ ∃ a ∈ q.2, μ[a]? = some (some j)) := by
 have hlive : ∀ id, id ∈ q.2 → LiveIn dh id := fun id hid => freezeA_live hq id hid
 have h1 := freezeA_rel (S := fun id => id ∈ q.2) i.fz i.rd hv hq fun id hid => hid
 have hf1 := Fz.ext_fz (S := fun id => id ∈ q.2) i.fz i.rd hlive
 have i1 : DInv (F.ext μ h fun id => id ∈ q.2) [] [] h := ⟨rfl, fun id db j hd => by simp at hd, fun id db hd => by simp at hd, fun a a' j hj => by simp at hj, hf1⟩
 unfold stepL at hr
 obtain ⟨r1, dh1, F2, μ2, w, h', hr2, g1, i2, v2, x2⟩ := hY _ _ _ _ _ _ hr _ [] h (.fn f) ys (hg.mono Fz.ext_le) i1 rfl h1
 replace x2 := x2.full (fun a ha => by simp at ha) i2.inj
 obtain ⟨F3, μ3, g2, g3, g4, g5, g6⟩ := finish_rel i2 (n0 := h.length) (fun id j hj => x2.new id j (Nat.zero_le _) hj) v2 hr2
 refine ⟨F3, μ3, w, h', g1, (Fz.ext_le.trans x2.hF).trans g2, g3, g5, g6, x2.hl, fun j hj => x2.keep j hj fun a ha => by simp at ha, fun j x hx => ?_⟩
 rcases g4 j x hx with h2 | h2
 ·rcases x2.fnew j x h2 with h3 | h3 | ⟨a, h3⟩
  ·rcases Fz.ext_of h3 with h4 | ⟨_, ⟨id, hs, hj⟩, _⟩
   ·exact .inl h4
   ·exact .inr (.inr ⟨id, hs, hj⟩)
  ·exact .inr (.inl h3)
  ·simp at h3
 ·exact .inr (.inl h2)
theorem callLocal_sim {R : Type} {k : DRes × DHeap → Option R} {res : R} (hY : XSim Y X') {f : FuncId} {xs : List DV} {ys : List Value} (hg : GlobD F) (i : DInv F μ dh h) (hv : VDs F μ xs ys) (e : callLocal T (liftL (stepL T Y)) f xs dh k = some res) :
  ∃ v dh' F' μ' w h', k (v, dh') = some res ∧ X' (.fn f) ys h = some (w, h') ∧ DInv F' μ' dh' h' ∧ ResD F' μ' v w ∧ Ext F μ h F' μ' h' := by
 unfold callLocal at e
 simp only [appH_eq] at e
 obtain ⟨q, hq, e1⟩ := bnd e
 rw [← freezeA_ids hq] at e1
 obtain ⟨⟨r, dh3⟩, hr, e2⟩ := bnd e1
 clear e e1
 obtain ⟨F3, μ3, w, h', g1, g2, g3, g4, g5, g6, g7, g8⟩ := local_sim hY hg i hv hq hr
 have hpick : ∀ fl : Bool, (bif q.2.isEmpty || fl then dh else markRo q.2 dh) = bif fl then dh else markRo q.2 dh := fun fl => by
  cases hq2 : q.2 with
  | nil => cases fl <;> rfl
  | cons a l => cases fl <;> rfl
 have flatC : flatH dh3 = true → DInv F (μ ++ μ3) (dh ++ dh3) h' ∧ Ext F μ h F (μ ++ μ3) h' := fun hfl => by
  refine combine i g6 g7 (g4.flat hfl fun j hj => i.fnone hj) (.refl F) (fun j row cells hf => ?_) rfl (fun id db hd => ⟨db, hd, rfl, fun hh => ⟨hh, fun j hj => ?_⟩⟩) fun j x hx => .inl hx
  ·obtain ⟨b, hb, hh⟩ := i.fz j row cells hf
   exact ⟨b, (g7 j (get_lt hb)).trans hb, hh⟩
  ·obtain ⟨b, hb, hr⟩ := i.blk id db j hd hj
   exact (hr.ro hh).2
 have roC : DInv F3 (μ ++ μ3) (markRo q.2 dh ++ dh3) h' ∧ Ext F μ h F3 (μ ++ μ3) h' := by
  refine combine i g6 g7 g4 g2 g3 (markRo_len _ _) (fun id db hd => ?_) fun j x hx => ?_
  ·obtain ⟨db0, h1, h2, h3⟩ := markRo_get q.2 hd
   refine ⟨db0, h1, h2, fun hh => ⟨(h3 hh).1, fun j hj => ?_⟩⟩
   obtain ⟨b, hb, hr⟩ := i.blk id db0 j h1 hj
   have hFj := (hr.ro (h3 hh).1).2
   cases hh2 : F3 j with
   | none => rfl
   | some x =>
    rcases g8 j x hh2 with h4 | h4 | ⟨a, ha, h4⟩
    ·rw [hFj] at h4; cases h4
    ·have := get_lt hb; omega
    ·rw [i.inj a id j h4 hj] at ha
     exact ((h3 hh).2 ha).elim
  ·rcases g8 j x hx with h4 | h4 | ⟨a, _, h4⟩
   ·exact .inl h4
   ·exact .inr (.inl h4)
   ·exact .inr (.inr ⟨a, h4⟩)
 have hbase : ∀ (k : Nat) x, μ3[k]? = some x → (μ ++ μ3)[dh.length + k]? = some x := fun k x hk => by
  rw [← i.len, List.getElem?_append_right (by omega), Nat.add_sub_cancel_left]
  exact hk
 cases r with
 | ret rv =>
  dsimp only at e2
  obtain ⟨v', hm, e3⟩ := bnd e2
  cases w <;> first | exact g5.elim | skip
  rename_i y
  have hvd : VD F3 (μ ++ μ3) v' y := g5 _ _ _ hbase hm
  rw [hpick] at e3
  cases hfl : (flatV rv && flatH dh3) with
  | true =>
   rw [hfl] at e3
   rw [Bool.and_eq_true] at hfl
   obtain ⟨c1, c2⟩ := flatC hfl.2
   exact ⟨_, _, F, _, .ret y, h', e3, g1, c1, flat_rel' hvd (flat_moveRes hfl.1 hm), c2⟩
  | false =>
   rw [hfl] at e3
   exact ⟨_, _, F3, _, .ret y, h', e3, g1, roC.1, hvd, roC.2⟩
 | pan pv =>
  dsimp only at e2
  cases w <;> first | exact g5.elim | skip
  rename_i y
  obtain ⟨hvd, h3⟩ := g5
  subst h3
  have hμ : μ3 = [] := List.eq_nil_of_length_eq_zero g4.len
  subst hμ
  simp only [List.append_nil] at roC flatC
  rw [hpick] at e2
  cases hfl : flatV pv with
  | true =>
   rw [hfl] at e2
   obtain ⟨c1, c2⟩ := flatC rfl
   exact ⟨_, _, F, _, .pan y, h', e2, g1, c1, VD.monoM (Mu.le.nil μ) (flat_rel' hvd hfl), c2⟩
  | false =>
   rw [hfl] at e2
   exact ⟨_, _, F3, _, .pan y, h', e2, g1, roC.1, VD.monoM (Mu.le.nil μ) hvd, roC.2⟩
theorem callX_fn (hY : XSim Y X') : XFn (callX T (liftL (stepL T Y)) (direct Y)) X' := by
 intro R f xs dh k r e F μ h ys hg i hv
 simp only [callX] at e
 cases hp : T.pure f with
 | false =>
  rw [hp, cond_false] at e
  obtain ⟨hy, e⟩ := Pv.bif_some e
  obtain ⟨v, dh', F', μ', w, h', h1, h2, h3, h4, h5⟩ := hY.direct.lift _ _ _ _ _ _ e F μ h (.fn f) ys hg i rfl hv
  refine ⟨v, dh', F', μ', w, h', h1, h2, h3, h4, h5.full (fun a _ l hl => ?_) h3.inj⟩
  have hl : l ∈ yids xs := hl
  rw [List.isEmpty_iff.1 hy] at hl
  simp at hl
 | true =>
  rw [hp] at e
  exact callLocal_sim hY hg i hv e
theorem callX_sim (hY : XSim Y X') : XSim (callX T (liftL (stepL T Y)) (direct Y)) X' := by
 intro R t xs dh k r e F μ h t' ys hg i ht hv
 cases t with
 | yield l => exact hY.direct.lift _ _ _ _ _ _ e F μ h t' ys hg i ht hv
 | fn f =>
  cases t' <;> first | exact ht.elim | skip
  cases (show f = _ from ht)
  obtain ⟨v, dh', F', μ', w, h', h1, h2, h3, h4, h5⟩ := callX_fn hY _ _ _ _ _ _ e F μ h ys hg i hv
  exact ⟨v, dh', F', μ', w, h', h1, h2, h3, h4, h5.b⟩
theorem callQ_sim (hY : XSim Y X') : CSim (callQ T (liftL (stepL T Y))) (Pv.callP (Pv.retOnly X') true) := by
 intro R f xs dh k res e F μ h ys hg i hv
 simp only [callQ, appH_eq] at e
 obtain ⟨hp, e⟩ := bif_some e
 obtain ⟨q, hq, e1⟩ := bnd e
 rw [← freezeA_ids hq] at e1
 obtain ⟨⟨r, dh3⟩, hr, e2⟩ := bnd e1
 clear e e1
 have hslen : (Pv.shield h).length = h.length := by simp [Pv.shield]
 have hsget : ∀ {j : Nat} {b : Blk}, h[j]? = some b → (Pv.shield h)[j]? = some { b with ro := true, obj := none } := fun {j b} hb => by
  simp only [Pv.shield, List.getElem?_map, hb, Option.map_some]
 have hlive : ∀ id, id ∈ q.2 → LiveIn dh id := fun id hid => freezeA_live hq id hid
 have hxs := freezeA_rel (S := fun id => id ∈ q.2) i.fz i.rd hv hq fun id hid => hid
 have hfq := Fz.ext_fz (S := fun id => id ∈ q.2) i.fz i.rd hlive
 have i1 : DInv (F.ext μ h fun id => id ∈ q.2) [] [] (Pv.shield h) := ⟨rfl, fun id db j hd => by simp at hd, fun id db hd => by simp at hd, fun a a' j hj => by simp at hj, fun j row cells hf => by
  obtain ⟨b, hb, hl, hr, hc⟩ := hfq j row cells hf
  exact ⟨_, hsget hb, hl, hr, hc⟩⟩
 unfold stepL at hr
 obtain ⟨r1, dh1, F2, μ2, w, h2, hr2, g1, i2, v2, x2⟩ := hY _ _ _ _ _ _ hr _ [] (Pv.shield h) (.fn f) ys (hg.mono Fz.ext_le) i1 rfl hxs
 replace x2 := x2.full (fun a ha => by simp at ha) i2.inj
 obtain ⟨F3, μ3, g2, g3, g4, g5, g6⟩ := finish_rel i2 (n0 := h.length) (fun id j hj => by rw [← hslen]; exact x2.new id j (Nat.zero_le _) hj) v2 hr2
 have hh2 : h.length ≤ h2.length := by rw [← hslen]; exact x2.hl
 have hlt : ∀ j, j < h.length → (h ++ h2.drop h.length)[j]? = h[j]? := fun j hj => List.getElem?_append_left hj
 have hge : ∀ j, h.length ≤ j → (h ++ h2.drop h.length)[j]? = h2[j]? := fun j hj => by
  rw [List.getElem?_append_right hj, List.getElem?_drop, show h.length + (j - h.length) = j by omega]
 have hF : F.le F3 := (Fz.ext_le.trans x2.hF).trans g2
 have hold' : ∀ j x, F3 j = some x → (F.ext μ h fun id => id ∈ q.2) j = some x ∨ h.length ≤ j := fun j x hx => by
  rcases g4 j x hx with h3 | h3
  ·rcases x2.fnew j x h3 with h4 | h4 | ⟨a, h4⟩
   ·exact .inl h4
   ·rw [hslen] at h4; exact .inr h4
   ·simp at h4
  ·exact .inr h3
 have hold : ∀ j x, F3 j = some x → F j = some x ∨ h.length ≤ j ∨ ∃ a ∈ q.2, μ[a]? = some (some j) := fun j x hx => by
  rcases hold' j x hx with h3 | h3
  ·rcases Fz.ext_of h3 with h4 | ⟨_, ⟨id, hs, hj⟩, _⟩
   ·exact .inl h4
   ·exact .inr (.inr ⟨id, hs, hj⟩)
  ·exact .inr (.inl h3)
 have hz : FzInv F3 (h ++ h2.drop h.length) := fun j row cells hf => by
  rcases hold' j _ hf with h3 | h3
  ·obtain ⟨b, hb, hh⟩ := hfq j row cells h3
   exact ⟨b, (hlt j (get_lt hb)).trans hb, hh⟩
  ·obtain ⟨b, hb, hh⟩ := g3 j row cells hf
   exact ⟨b, (hge j h3).trans hb, hh⟩
 have L : LocInv h.length F3 μ3 dh3 (h ++ h2.drop h.length) := ⟨g5.len, fun k db j hd hj => by
  obtain ⟨h3, b, hb, hr⟩ := g5.blk k db j hd hj
  exact ⟨h3, b, (hge j h3).trans hb, hr⟩, g5.nil, g5.inj⟩
 obtain ⟨c1, c2⟩ := combine i (h' := h ++ h2.drop h.length) (dhm := markRo q.2 dh) (by simp) hlt L hF hz (markRo_len _ _) (fun id db hd => by
  obtain ⟨db0, h1, h2, h3⟩ := markRo_get q.2 hd
  refine ⟨db0, h1, h2, fun hh => ⟨(h3 hh).1, fun j hj => ?_⟩⟩
  obtain ⟨b, hb, hr⟩ := i.blk id db0 j h1 hj
  have hFj := (hr.ro (h3 hh).1).2
  cases hh2 : F3 j with
  | none => rfl
  | some x =>
   rcases hold j x hh2 with h4 | h4 | ⟨a, ha, h4⟩
   ·rw [hFj] at h4; cases h4
   ·have := get_lt hb; omega
   ·rw [i.inj a id j h4 hj] at ha
    exact ((h3 hh).2 ha).elim) fun j x hx => by
  rcases hold j x hx with h3 | h3 | ⟨a, _, h4⟩
  ·exact .inl h3
  ·exact .inr (.inl h3)
  ·exact .inr (.inr ⟨a, h4⟩)
 cases r with
 | pan pv => cases e2
 | ret rv =>
  dsimp only at e2
  obtain ⟨v', hm, e3⟩ := bnd e2
  cases w <;> first | exact g6.elim | skip
  rename_i y
  refine ⟨v', _, F3, _, y, h ++ h2.drop h.length, e3, ?_, c1, g6 _ _ _ (fun k x hk => ?_) hm, c2⟩
  ·simp only [Pv.callP, Pv.retOnly, g1, Option.bind_some]
  ·rw [← i.len, List.getElem?_append_right (by omega), Nat.add_sub_cancel_left]
   exact hk
theorem evalY_sim {T' : Pv.Tab} (hT : TabD T T') : ∀ n, XSim (evalY P T n) (Pv.evalCall P T' n)
 | 0 => fun R t xs dh k r e => by cases e
 | n + 1 => by
  have hY := evalY_sim hT n
  intro R t xs dh k r e F μ h t' ys hg i ht hv
  cases t with
  | yield l =>
   cases t' <;> first | exact ht.elim | skip
   obtain ⟨⟨v, dh'⟩, e1, e2⟩ := Option.bind_eq_some_iff.1 (show (evalRound P _ _ _ T _ l xs dh).bind k = some r from e)
   obtain ⟨F', μ', w, h', g1, g2, g3, g4⟩ := evalRound_sim (callX_sim hY) (callX_fn hY) hY.direct.lift (callQ_sim hY) hT ht hg i hv e1
   exact ⟨v, dh', F', μ', w, h', e2, g1, g2, g3, g4⟩
  | fn f =>
   cases t' <;> first | exact ht.elim | skip
   cases (show f = _ from ht)
   simp only [evalY, stepX] at e
   have hs := hT.spec f
   split at e
   ·rename_i s hs1
    cases dh with
    | cons a l => cases e
    | nil =>
     obtain ⟨w, hw, e1⟩ := bnd e
     have hμ : μ = [] := List.eq_nil_of_length_eq_zero i.len
     subst hμ
     cases hs2 : T'.spec f with
     | none => rw [hs1, hs2] at hs; cases hs
     | some s' =>
      obtain ⟨F', w', h', g1, g2, g3, g4⟩ := hT.sound f s s' xs w hs1 hs2 hw F [] h ys hg i hv
      exact ⟨.ret w, [], F', [], .ret w', h', e1, by simp only [Pv.evalCall, hs2, g1], g2, g3, g4.b⟩
   ·rename_i hs1
    obtain ⟨fn, hfn, e1⟩ := bnd e
    have hs2 : T'.spec f = none := by
     cases hs2 : T'.spec f with
     | none => rfl
     | some s => rw [hs1, hs2] at hs; cases hs
    obtain ⟨v, dh', F', μ', w, h', hk, g1, g2, g3, g4⟩ := evalBody_sim (callX_sim hY) (callX_fn hY) hY.direct.lift (callQ_sim hY) hT (by rw [← i.len]; exact tidy_ok _) hg i hv e1
    exact ⟨v, dh', F', μ', w, h', hk, by simp only [Pv.evalCall, hs2, ← hT.fn, hfn, Option.bind_some, ← hT.kill, g1], g2, g3, g4⟩
end
end Go.Dv
end
section
namespace Go.Dv
open Go.Pv (TI tiOf idx upTo fieldTI CK kindsOf LoopRec PExit isConst room isYield bif_some bif_none masksOf behind firm makes floats mayLp dsts isAl drawOK isRecover still)
def Lim {R : Type} (a : Option R) (f : Nat → Option R) : Prop := ∀ r, a = some r → ∃ N, ∀ n, N ≤ n → f n = some r
section
variable {R S : Type}
theorem Lim.const (a : Option R) : Lim a fun _ => a := fun r h => ⟨0, fun _ _ => h⟩
theorem Lim.none (f : Nat → Option R) : Lim none f := fun r h => by cases h
theorem Lim.bind {a : Option S} {f : Nat → Option S} {k : S → Option R} {g : Nat → S → Option R} (ha : Lim a f) (hk : ∀ x, Lim (k x) fun n => g n x) : Lim (a.bind k) fun n => (f n).bind (g n) := fun r h => by
 obtain ⟨x, h1, h2⟩ := Option.bind_eq_some_iff.1 h
 obtain ⟨N, h3⟩ := ha x h1
 obtain ⟨M, h4⟩ := hk x r h2
 exact ⟨max N M, fun n hn => by
  dsimp only
  rw [h3 n (Nat.le_trans (Nat.le_max_left N M) hn), Option.bind_some]
  exact h4 n (Nat.le_trans (Nat.le_max_right N M) hn)⟩
theorem Lim.cbind {a : Option S} {k : S → Option R} {g : Nat → S → Option R} (hk : ∀ x, Lim (k x) fun n => g n x) : Lim (a.bind k) fun n => a.bind (g n) := Lim.bind (.const a) hk
theorem Lim.cnd {c : Bool} {a b : Option R} {f g : Nat → Option R} (ha : Lim a f) (hb : Lim b g) : Lim (bif c then a else b) fun n => bif c then f n else g n := by
 cases c
 ·exact hb
 ·exact ha
theorem Lim.amb {a b : Option R} {f g : Nat → Option R} (ha : Lim a f) (hb : Lim b g) : Lim (Dv.amb a b) fun n => Dv.amb (f n) (g n) := fun r h => by
 obtain ⟨h1, h2⟩ := amb_some h
 obtain ⟨N, h3⟩ := ha r h1
 obtain ⟨M, h4⟩ := hb r h2
 exact ⟨max N M, fun n hn => by
  dsimp only
  rw [h3 n (Nat.le_trans (Nat.le_max_left N M) hn), h4 n (Nat.le_trans (Nat.le_max_right N M) hn), amb_self]⟩
end
def LimC (C : CallF) (D : Nat → CallF) : Prop := ∀ (R : Type) g xs h (k : DV × DHeap → Option R) (kn : Nat → DV × DHeap → Option R), (∀ r, Lim (k r) fun n => kn n r) → Lim (C R g xs h k) fun n => D n R g xs h (kn n)
def LimX (X : CallX) (D : Nat → CallX) : Prop := ∀ (R : Type) g xs h (k : DRes × DHeap → Option R) (kn : Nat → DRes × DHeap → Option R), (∀ r, Lim (k r) fun n => kn n r) → Lim (X R g xs h k) fun n => D n R g xs h (kn n)
def LimD (X : CallD) (D : Nat → CallD) : Prop := ∀ g xs h, Lim (X g xs h) fun n => D n g xs h
theorem LimD.lift {X : CallD} {D : Nat → CallD} (h : LimD X D) : LimX (liftX X) fun n => liftX (D n) := fun R g xs hp k kn hk => Lim.bind (h _ _ _) hk
section
variable [DGlob] {P : Program} {R : Type} {k : DSlot → DSt → Option R} {kn : Nat → DSlot → DSt → Option R}
theorem typed_lim {t : TypeId} {x : DV} {k : DV → Option R} {g : Nat → DV → Option R} (hk : ∀ x, Lim (k x) fun n => g n x) : Lim (typed P t x k) fun n => typed P t x (g n) := by
 unfold typed
 split <;> first | exact Lim.cbind fun _ => hk _ | exact Lim.cnd (hk _) (.none _) | exact hk _
theorem out_lim {st : DSt} {s : DSlot} {k : DV → DSt → Option R} {g : Nat → DV → DSt → Option R} (hk : ∀ x st, Lim (k x st) fun n => g n x st) : Lim (out st s k) fun n => out st s (g n) := by
 unfold out
 cases s with
 | v x => exact hk _ _
 | lp d off => exact Lim.cbind fun _ => hk _ _
 | dead => exact .none _
theorem outs_lim : ∀ {l : List DSlot} {st : DSt} {k : List DV → DSt → Option R} {g : Nat → List DV → DSt → Option R}, (∀ x st, Lim (k x st) fun n => g n x st) → Lim (outs st l k) fun n => outs st l (g n)
 | [], st, k, g, hk => hk _ _
 | s :: l, st, k, g, hk => by
  simp only [outs]
  exact out_lim fun x st => outs_lim fun xs st => hk _ _
theorem isNil_lim {x : DV} {k : Bool → Option R} {g : Nat → Bool → Option R} (hk : ∀ x, Lim (k x) fun n => g n x) : Lim (isNil x k) fun n => isNil x (g n) := by
 unfold isNil
 cases x with
 | nils => exact hk _
 | sl id off n c sz => cases n with
  | zero => exact .amb (hk _) (hk _)
  | succ n => exact hk _
 | fz xs => cases xs with
  | nil => exact .amb (hk _) (hk _)
  | cons x xs => exact hk _
 | _ => exact .none _
theorem eqK_lim {lit : Bool} {t : TypeId} {x y : DV} {k : Bool → Option R} {g : Nat → Bool → Option R} (hk : ∀ x, Lim (k x) fun n => g n x) : Lim (eqK P lit t x y k) fun n => eqK P lit t x y (g n) := by
 unfold eqK
 cases P.underlying t with
 | none => exact .none _
 | some d =>
  cases d with
  | bool => exact Lim.cbind fun _ => Lim.cbind fun _ => hk _
  | slice e => cases y <;> first | exact isNil_lim hk | exact .none _
  | pointer e => cases x <;> cases y <;> first | exact hk _ | exact .none _
  | func a b c => cases x <;> cases y <;> first | exact hk _ | exact .none _
  | interface m => cases x <;> cases y <;> first | exact hk _ | exact .none _ | exact Lim.cnd (hk _) (.none _)
  | struct fs => exact Lim.cbind fun _ => Lim.cbind fun _ => Lim.cbind fun _ => Lim.cnd (.none _) (Lim.cbind fun _ => hk _)
  | array n e => exact Lim.cbind fun _ => Lim.cbind fun _ => Lim.cbind fun _ => Lim.cnd (.none _) (Lim.cbind fun _ => hk _)
  | _ => exact .none _
theorem binK_lim {op : BinOp} {lit : Bool} {t : TypeId} {x y : DV} {k : DV → Option R} {g : Nat → DV → Option R} (hk : ∀ x, Lim (k x) fun n => g n x) : Lim (binK P op t lit x y k) fun n => binK P op t lit x y (g n) := by
 have sh : ∀ op, Lim (match (generalizing := false) x, y with | .int kd a, .int _ b => shiftK op kd a b k | _, _ => none) fun n => (match (generalizing := false) x, y with | .int kd a, .int _ b => shiftK op kd a b (g n) | _, _ => none) := fun op => by
  cases x <;> cases y <;> first | exact .none _ | (simp only [shiftK_eq]; exact Lim.cbind fun _ => hk _)
 have pl : ∀ op, Lim (match (generalizing := false) x, y with
  | .int kd a, .int kd' b => bif decide (kd = kd') then intBinK op kd a b k else none
  | .str a, .str b => strBinK op a b k
  | x, y =>
   match op with
   | .eql => eqK P lit t x y fun b => k (.bool b)
   | .neq => eqK P lit t x y fun b => k (.bool (!b))
   | _ => none) fun n => (match (generalizing := false) x, y with
  | .int kd a, .int kd' b => bif decide (kd = kd') then intBinK op kd a b (g n) else none
  | .str a, .str b => strBinK op a b (g n)
  | x, y =>
   match op with
   | .eql => eqK P lit t x y fun b => g n (.bool b)
   | .neq => eqK P lit t x y fun b => g n (.bool (!b))
   | _ => none) := fun op => by
  have other : Lim (match op with
   | .eql => eqK P lit t x y fun b => k (.bool b)
   | .neq => eqK P lit t x y fun b => k (.bool (!b))
   | _ => none) fun n => (match op with
   | .eql => eqK P lit t x y fun b => g n (.bool b)
   | .neq => eqK P lit t x y fun b => g n (.bool (!b))
   | _ => none) := by cases op <;> first | exact .none _ | exact eqK_lim fun _ => hk _
  cases x <;> cases y <;> first | exact other | (simp only [intBinK_eq]; exact Lim.cnd (Lim.cbind fun _ => hk _) (.none _)) | (simp only [strBinK_eq]; exact Lim.cbind fun _ => hk _)
 unfold binK
 cases op <;> first | exact sh _ | exact pl _
theorem dstoreK_lim {h : DHeap} {id off : Nat} {vs : List DV} {k : DHeap → Option R} {g : Nat → DHeap → Option R} (hk : ∀ h, Lim (k h) fun n => g n h) : Lim (dstoreK h id off vs k) fun n => dstoreK h id off vs (g n) := by
 unfold dstoreK
 exact Lim.cbind fun _ => Lim.cnd (hk _) (.none _)
theorem sealK_lim {e : TypeId} {x : DV} {h : DHeap} {cs : List DV} {k : List DV → DHeap → Option R} {g : Nat → List DV → DHeap → Option R} (hk : ∀ cs h, Lim (k cs h) fun n => g n cs h) : Lim (sealK e x h cs k) fun n => sealK e x h cs (g n) := by
 unfold sealK
 exact Lim.cnd (Lim.cbind fun _ => hk _ _) (hk _ _)
theorem appendP_lim {h : DHeap} {e : TypeId} {ti : TI} {s : DV} {m : Nat} {cs : List DV} {k : DV → DHeap → Option R} {g : Nat → DV → DHeap → Option R} (hk : ∀ x h, Lim (k x h) fun n => g n x h) : Lim (appendP h e ti s m cs k) fun n => appendP h e ti s m cs (g n) := by
 unfold appendP
 cases s with
 | nils => exact Lim.cnd (hk _ _) (.none _)
 | sl id off n c sz => exact Lim.cnd (Lim.cbind fun _ => Lim.cnd (Lim.cnd (dstoreK_lim fun _ => hk _ _) (Lim.cnd (hk _ _) (.none _))) (.none _)) (.none _)
 | _ => exact .none _
theorem builtinP_lim {b : Builtin} {ts : List TypeId} {xs : List DV} {st : DSt} (hk : ∀ y st, Lim (k y st) fun n => kn n y st) : Lim (builtinP P b ts xs st k) fun n => builtinP P b ts xs st (kn n) := by
 unfold builtinP
 split
 ·refine Lim.cbind fun d => ?_
  cases d <;> first | exact .none _ | exact hk _ _ | exact Lim.cbind fun _ => hk _ _
 ·rename_i t x
  refine Lim.cbind fun d => ?_
  cases d <;> first | exact .none _ | (cases x <;> first | exact .none _ | exact hk _ _)
 ·rename_i t tx s x
  refine Lim.cbind fun d => ?_
  cases d <;> first | exact .none _ | skip
  refine Lim.cbind fun ti => Lim.cbind fun z => Lim.cbind fun d => ?_
  cases d <;> first | exact .none _ | skip
  ·refine Lim.cbind fun m => Lim.cbind fun m => ?_
   cases s <;> first | exact .none _ | exact Lim.cnd (appendP_lim fun _ _ => hk _ _) (.none _)
  ·exact Lim.cbind fun _ => Lim.cnd (Lim.cbind fun _ => appendP_lim fun _ _ => hk _ _) (.none _)
  ·exact Lim.cnd (Lim.cbind fun _ => sealK_lim fun _ _ => appendP_lim fun _ _ => hk _ _) (.none _)
 ·rename_i t tx s x
  refine Lim.cbind fun d => ?_
  cases d <;> first | exact .none _ | skip
  refine Lim.cbind fun ti => Lim.cnd (Lim.cbind fun q => ?_) (.none _)
  cases s <;> first | exact .none _ | exact hk _ _ | exact dstoreK_lim fun _ => hk _ _
 ·exact Lim.cnd (hk _ _) (.none _)
 ·exact Lim.cnd (hk _ _) (.none _)
 ·exact .none _
theorem shapeK_lim : ∀ (ks : List SK) {x : List DV} {k : List DV → Option R} {g : Nat → List DV → Option R}, (∀ x, Lim (k x) fun n => g n x) → Lim (shapeK ks x k) fun n => shapeK ks x (g n)
 | [], x, k, g, hk => by simp only [shapeK]; exact Lim.cnd (hk _) (.none _)
 | .int kd :: ks, x, k, g, hk => by simp only [shapeK]; exact Lim.cbind fun _ => Lim.cbind fun _ => shapeK_lim ks fun _ => hk _
 | .bool :: ks, x, k, g, hk => by simp only [shapeK]; exact Lim.cbind fun _ => Lim.cbind fun _ => shapeK_lim ks fun _ => hk _
 | .str :: ks, x, k, g, hk => by simp only [shapeK]; exact Lim.cbind fun _ => Lim.cbind fun _ => shapeK_lim ks fun _ => hk _
 | .sl :: ks, x, k, g, hk => by simp only [shapeK]; exact Lim.cbind fun _ => Lim.cbind fun _ => shapeK_lim ks fun _ => hk _
 | .any :: ks, x, k, g, hk => by simp only [shapeK]; exact Lim.cbind fun _ => shapeK_lim ks fun _ => hk _
theorem evalOp_lim {C : CallF} {D : Nat → CallF} (hC : LimC C D) {o : Oper} {st : DSt} (hk : ∀ y st, Lim (k y st) fun n => kn n y st) : Lim (evalOp P C o st k) fun n => evalOp P (D n) o st (kn n) := by
 cases ho : o.op with
 | move x => simp only [evalOp, ho]; exact Lim.cbind fun _ => hk _ _
 | assign x => simp only [evalOp, ho]; exact Lim.cbind fun _ => hk _ _
 | pick c a b => simp only [evalOp, ho]; exact Lim.cbind fun _ => Lim.cbind fun _ => Lim.cbind fun _ => Lim.cnd (Lim.cbind fun _ => hk _ _) (Lim.cbind fun _ => hk _ _)
 | alloc t => simp only [evalOp, ho]; exact Lim.cbind fun _ => Lim.cbind fun _ => Lim.cbind fun _ => Lim.cnd (hk _ _) (.none _)
 | box t x => simp only [evalOp, ho]; exact Lim.cbind fun _ => Lim.cbind fun _ => Lim.cbind fun _ => out_lim fun _ _ => Lim.cbind fun _ => Lim.cnd (hk _ _) (.none _)
 | build t ps =>
  simp only [evalOp, ho]
  refine Lim.cbind fun ti => Lim.cbind fun _ => Lim.cbind fun _ => ?_
  cases ti.desc <;> first | exact .none _ | exact Lim.cnd (Lim.cbind fun _ => hk _ _) (.none _) | exact Lim.cbind fun _ => Lim.cbind fun _ => hk _ _
 | buildSlice t n ps =>
  simp only [evalOp, ho]
  refine Lim.cbind fun ti => Lim.cbind fun _ => ?_
  cases ti.desc <;> first | exact .none _ | exact Lim.cbind fun _ => Lim.cbind fun _ => Lim.cnd (Lim.cbind fun _ => hk _ _) (.none _)
 | load t a =>
  simp only [evalOp, ho, cellsK_eq]
  refine Lim.cbind fun ti => Lim.cbind fun _ => ?_
  cases ti.agg <;> first | exact Lim.cbind fun _ => typed_lim fun _ => hk _ _ | exact Lim.cbind fun _ => hk _ _
 | store t a x => simp only [evalOp, ho, cellsOfVK_eq, storeK_eq]; exact Lim.cbind fun _ => Lim.cbind fun _ => Lim.cbind fun _ => out_lim fun _ _ => Lim.cbind fun _ => Lim.cbind fun _ => hk _ _
 | nilCheck x =>
  simp only [evalOp, ho]
  refine Lim.cbind fun s => ?_
  cases s with
  | lp d off => exact Lim.cbind fun _ => hk _ _
  | v x => cases x <;> first | exact .none _ | exact hk _ _
  | dead => exact .none _
 | binOp op t x y w => simp only [evalOp, ho]; exact Lim.cbind fun _ => Lim.cbind fun _ => Lim.cbind fun _ => Lim.cbind fun _ => binK_lim fun _ => hk _ _
 | unOp op t x => simp only [evalOp, ho]; exact Lim.cbind fun _ => Lim.cbind fun _ => Lim.cbind fun _ => hk _ _
 | convert a b x =>
  simp only [evalOp, ho]
  refine Lim.cbind fun ds => Lim.cbind fun dd => Lim.cbind fun _ => Lim.cbind fun _ => ?_
  cases dd <;> first | exact .none _ | exact Lim.cbind fun _ => hk _ _ | skip
  ·cases ds <;> first | exact .none _ | exact Lim.cbind fun _ => hk _ _ | exact Lim.cnd (Lim.cbind fun _ => Lim.cbind fun _ => hk _ _) (.none _)
  ·cases ds <;> first | exact .none _ | exact Lim.cbind fun _ => Lim.cnd (hk _ _) (.none _)
 | sliceToArrayPointer a x =>
  simp only [evalOp, ho]
  refine Lim.cbind fun d => Lim.cbind fun _ => Lim.cbind fun x => ?_
  cases d <;> first | exact .none _ | (cases x <;> first | exact .none _ | exact Lim.cnd (hk _ _) (.none _))
 | makeInterface t x =>
  simp only [evalOp, ho]
  refine Lim.cbind fun d => Lim.cbind fun _ => out_lim fun _ _ => ?_
  cases d <;> first | exact .none _ | exact hk _ _
 | makeFunc f a b =>
  cases f <;> simp only [evalOp, ho] <;> first | exact .none _ | exact Lim.cbind fun _ => Lim.cbind fun _ => outs_lim fun _ _ => outs_lim fun _ _ => hk _ _
 | makeSlice t l c =>
  simp only [evalOp, ho]
  refine Lim.cbind fun ti => Lim.cbind fun _ => Lim.cbind fun _ => Lim.cbind fun _ => Lim.cbind fun _ => Lim.cbind fun _ => Lim.cbind fun _ => ?_
  cases ti.desc <;> first | exact .none _ | exact Lim.cbind fun _ => Lim.cbind fun _ => Lim.cbind fun _ => Lim.cbind fun _ => Lim.cnd (hk _ _) (.none _)
 | slice t x l h m =>
  simp only [evalOp, ho]
  refine Lim.cnd (Lim.cbind fun d => Lim.cbind fun s => Lim.cbind fun _ => Lim.cbind fun _ => Lim.cbind fun smx => ?_) (.none _)
  cases d <;> first | exact .none _ | skip
  ·refine Lim.cbind fun _ => Lim.cbind fun _ => ?_
   cases smx <;> first | exact .none _ | exact Lim.cbind fun _ => Lim.cbind fun _ => hk _ _
  ·refine Lim.cbind fun _ => Lim.cnd (Lim.cbind fun x => ?_) (.none _)
   cases x <;> first | exact .none _ | exact Lim.cbind fun _ => Lim.cbind fun _ => Lim.cbind fun _ => hk _ _ | exact Lim.cbind fun _ => Lim.cbind fun _ => Lim.cbind fun _ => Lim.cnd (hk _ _) (.none _)
  ·refine Lim.cnd (Lim.cbind fun _ => Lim.cbind fun _ => Lim.cbind fun _ => Lim.cbind fun _ => ?_) (.none _)
   cases s with
   | lp d off => exact Lim.cbind fun _ => hk _ _
   | v x => cases x <;> first | exact .none _ | exact Lim.cbind fun _ => Lim.cnd (.none _) (hk _ _) | exact Lim.cnd (.none _) (hk _ _)
   | dead => exact .none _
 | fieldAddr t x f =>
  simp only [evalOp, ho]
  refine Lim.cbind fun d => Lim.cbind fun _ => ?_
  cases d <;> first | exact .none _ | exact Lim.cbind fun _ => Lim.cnd (.none _) (Lim.cbind fun _ => hk _ _)
 | field t x f =>
  simp only [evalOp, ho]
  refine Lim.cbind fun d => Lim.cbind fun _ => Lim.cbind fun _ => Lim.cbind fun _ => ?_
  cases d <;> first | exact .none _ | skip
  refine Lim.cbind fun q => ?_
  cases q.2.agg <;> first | exact Lim.cbind fun _ => typed_lim fun _ => hk _ _ | exact Lim.cnd (hk _ _) (.none _)
 | indexAddr t x i =>
  simp only [evalOp, ho]
  refine Lim.cbind fun d => Lim.cbind fun _ => Lim.cbind fun _ => Lim.cbind fun _ => Lim.cbind fun _ => ?_
  cases d <;> first | exact .none _ | exact Lim.cbind fun _ => Lim.cbind fun _ => Lim.cbind fun _ => hk _ _ | skip
  refine Lim.cbind fun _ => Lim.cbind fun x => ?_
  cases x <;> first | exact .none _ | exact Lim.cbind fun _ => hk _ _ | exact Lim.cbind fun _ => Lim.cbind fun _ => Lim.cbind fun _ => Lim.cnd (shapeK_lim _ fun _ => hk _ _) (.none _)
 | index t x i =>
  simp only [evalOp, ho]
  refine Lim.cbind fun d => Lim.cbind fun _ => Lim.cbind fun _ => Lim.cbind fun _ => Lim.cbind fun _ => Lim.cbind fun _ => ?_
  cases d <;> first | exact .none _ | exact Lim.cbind fun _ => Lim.cbind fun _ => hk _ _ | skip
  refine Lim.cbind fun te => Lim.cbind fun _ => Lim.cbind fun _ => ?_
  cases te.agg <;> first | exact Lim.cbind fun _ => typed_lim fun _ => hk _ _ | exact Lim.cnd (hk _ _) (.none _)
 | extract t i => simp only [evalOp, ho]; exact Lim.cbind fun _ => Lim.cbind fun _ => Lim.cbind fun _ => Lim.cbind fun _ => typed_lim fun _ => hk _ _
 | call c =>
  obtain ⟨callee, args, ts⟩ := c
  cases callee with
  | value f =>
   simp only [evalOp, ho]
   refine Lim.cbind fun _ => Lim.cbind fun fv => Lim.cbind fun _ => outs_lim fun _ _ => ?_
   cases fv <;> first | exact .none _ | exact hC _ _ _ _ _ _ fun _ => typed_lim fun _ => hk _ _
  | builtin b => simp only [evalOp, ho]; exact Lim.cbind fun _ => outs_lim fun _ _ => builtinP_lim hk
  | invoke _ _ => simp only [evalOp, ho]; exact .none _
 | _ => simp only [evalOp, ho]; exact .none _
theorem appQ_lim {ts : List TypeId} {xs : List DV} {st : DSt} (hk : ∀ y st, Lim (k y st) fun n => kn n y st) : Lim (appQ P ts xs st k) fun n => appQ P ts xs st (kn n) := by
 unfold appQ
 split
 ·rename_i t tx s x
  refine Lim.cbind fun d => ?_
  cases d <;> first | exact .none _ | skip
  refine Lim.cbind fun ti => Lim.cbind fun z => Lim.cbind fun d => ?_
  cases d <;> first | exact .none _ | skip
  refine Lim.cnd (Lim.cbind fun q => ?_) (.none _)
  unfold appendQ
  cases s <;> first | exact .none _ | exact Lim.cnd (Lim.cbind fun _ => Lim.cnd (Lim.cnd (hk _ _) (hk _ _)) (.none _)) (.none _)
 ·exact .none _
theorem evalOpF_lim {C : CallF} {D : Nat → CallF} (hC : LimC C D) {o : Oper} {st : DSt} (hk : ∀ y st, Lim (k y st) fun n => kn n y st) : Lim (evalOpF P C o st k) fun n => evalOpF P (D n) o st (kn n) := by
 unfold evalOpF
 split
 ·exact Lim.cbind fun _ => outs_lim fun _ _ => appQ_lim hk
 ·exact evalOp_lim hC hk
theorem guardK_lim {ops : Array Oper} {o : Oper} {st : DSt} {run skip : DSt → Option R} {rn sn : Nat → DSt → Option R} (h1 : ∀ st, Lim (run st) fun n => rn n st) (h2 : ∀ st, Lim (skip st) fun n => sn n st) : Lim (guardK ops o st run skip) fun n => guardK ops o st (rn n) (sn n) := by
 unfold guardK
 cases o.guard with
 | none => exact h1 _
 | some p =>
  refine Lim.cbind fun _ => Lim.cbind fun _ => Lim.cbind fun x => ?_
  cases x <;> first | exact .none _ | exact h2 _ | skip
  rename_i b
  refine Lim.cnd ?_ ?_
  ·cases p.2 <;> first | exact h1 _ | exact h2 _
  ·cases p.2 <;> first | exact h1 _ | exact h2 _
end
end Go.Dv
end
section
namespace Go.Dv
open Go.Pv (TI tiOf idx upTo fieldTI CK kindsOf LoopRec PExit isConst room isYield bif_some bif_none masksOf behind firm makes floats mayLp dsts isAl drawOK isRecover still)
section
variable [DGlob] {P : Program} {R : Type}
theorem evalDraw_lim {C Cp : CallF} {D Dp : Nat → CallF} (hC : LimC C D) (hCp : LimC Cp Dp) {ops : Array Oper} {ms : List Nat} {k : DSt → Option R} {kn : Nat → DSt → Option R} (hk : ∀ st, Lim (k st) fun n => kn n st) : ∀ (l : List Oper) (i : Nat) (st : DSt), Lim (evalDraw P C Cp ops ms i l st k) fun n => evalDraw P (D n) (Dp n) ops ms i l st (kn n)
 | [], i, st => hk st
 | o :: l, i, st => by
  simp only [evalDraw]
  refine Lim.cnd (guardK_lim (fun st => evalOp_lim hC fun y st => Lim.cnd (evalDraw_lim hC hCp hk l _ _) (.none _)) fun st => Lim.cnd (evalDraw_lim hC hCp hk l _ _) (.none _)) (guardK_lim (fun st => Lim.cnd (evalOpF_lim hCp fun y st => Lim.cnd (evalDraw_lim hC hCp hk l _ _) (.none _)) (.none _)) fun st => evalDraw_lim hC hCp hk l _ _)
theorem pre_lim {k : DSt → Option R} {kn : Nat → DSt → Option R} (hk : ∀ st, Lim (k st) fun n => kn n st) : ∀ (l : List Nat) (st : DSt), Lim (pre st l k) fun n => pre st l (kn n)
 | [], st => hk st
 | t :: l, st => by
  unfold pre
  split
  ·exact Lim.cnd (out_lim fun _ _ => pre_lim hk l _) (pre_lim hk l _)
  ·exact pre_lim hk l _
theorem evalDrawn_lim {C Cp : CallF} {D Dp : Nat → CallF} (hC : LimC C D) (hCp : LimC Cp Dp) {ops : Array Oper} {st : DSt} {k : DSt → Option R} {kn : Nat → DSt → Option R} (hk : ∀ st, Lim (k st) fun n => kn n st) : Lim (evalDrawn P C Cp ops st k) fun n => evalDrawn P (D n) (Dp n) ops st (kn n) :=
 pre_lim (fun st => Lim.cnd (evalDraw_lim hC hCp hk _ _ _) (.none _)) _ _
theorem retOnly_lim {X : CallX} {Xn : Nat → CallX} (hX : LimX X Xn) : LimC (retOnly X) fun n => retOnly (Xn n) := fun R g xs h k kn hk => by
 unfold retOnly
 refine hX _ _ _ _ _ _ fun r => ?_
 cases r.1 <;> first | exact .none _ | exact hk _
abbrev KX (R : Type) := DExit → DSt → List DItem → Option R
theorem afterCall_lim {o : Oper} {st : DSt} {ds : List DItem} {k : DSlot → DSt → List DItem → Option R} {kp : DV → DSt → List DItem → Option R} {kn : Nat → DSlot → DSt → List DItem → Option R} {kpn : Nat → DV → DSt → List DItem → Option R} (hk : ∀ y st ds, Lim (k y st ds) fun n => kn n y st ds) (hp : ∀ y st ds, Lim (kp y st ds) fun n => kpn n y st ds) (r : DRes × DHeap) :
  Lim (afterCall P o st ds k kp r) fun n => afterCall P o st ds (kn n) (kpn n) r := by
 unfold afterCall
 cases r.1 with
 | ret v => exact typed_lim fun _ => hk _ _ _
 | pan v => exact hp _ _ _
theorem evalOpX_lim {X : CallX} {Xn : Nat → CallX} (hX : LimX X Xn) {ya : List Nat} {rnd : Option Nat} {o : Oper} {st : DSt} {ds : List DItem} {k : DSlot → DSt → List DItem → Option R} {kp : DV → DSt → List DItem → Option R} {kn : Nat → DSlot → DSt → List DItem → Option R} {kpn : Nat → DV → DSt → List DItem → Option R} (hk : ∀ y st ds, Lim (k y st ds) fun n => kn n y st ds) (hp : ∀ y st ds, Lim (kp y st ds) fun n => kpn n y st ds) :
  Lim (evalOpX P X ya rnd o st ds k kp) fun n => evalOpX P (Xn n) ya rnd o st ds (kn n) (kpn n) := by
 unfold evalOpX
 split
 ·refine Lim.cbind fun _ => Lim.cbind fun fv => Lim.cbind fun _ => outs_lim fun _ _ => ?_
  split <;> first | exact hX _ _ _ _ _ _ fun r => afterCall_lim hk hp r | exact Lim.cnd (hX _ _ _ _ _ _ fun r => afterCall_lim hk hp r) (.none _) | exact .none _
 ·refine Lim.cbind fun _ => Lim.cbind fun v => ?_
  cases v <;> first | exact .none _ | exact hp _ _ _
 ·cases rnd with
  | some l => exact .none _
  | none =>
   refine Lim.cbind fun _ => Lim.cbind fun fv => Lim.cbind fun _ => outs_lim fun _ _ => ?_
   cases fv <;> first | exact .none _ | exact hk _ _ _
 ·exact evalOp_lim (retOnly_lim hX) fun _ _ => hk _ _ _
theorem evalOpsX_lim {X : CallX} {Xn : Nat → CallX} (hX : LimX X Xn) {ya : List Nat} {rnd : Option Nat} {ops : Array Oper} {k : KX R} {kn : Nat → KX R} (hk : ∀ e st ds, Lim (k e st ds) fun n => kn n e st ds) : ∀ (l : List Oper) (st : DSt) (ds : List DItem), Lim (evalOpsX P X ya rnd ops l st ds k) fun n => evalOpsX P (Xn n) ya rnd ops l st ds (kn n)
 | [], st, ds => hk _ _ _
 | o :: l, st, ds => by
  simp only [evalOpsX]
  exact guardK_lim (fun st => evalOpX_lim hX (fun _ _ _ => evalOpsX_lim hX hk l _ _) fun _ _ _ => hk _ _ _) fun st => evalOpsX_lim hX hk l _ _
theorem settle_lim : ∀ {l : List DSlot} {st : DSt} {k : List DV → List Bool → DSt → Option R} {kn : Nat → List DV → List Bool → DSt → Option R}, (∀ a b st, Lim (k a b st) fun n => kn n a b st) → Lim (settle st l k) fun n => settle st l (kn n)
 | [], st, k, kn, hk => hk _ _ _
 | .dead :: l, st, k, kn, hk => by simp only [settle]; exact settle_lim fun _ _ _ => hk _ _ _
 | .v x :: l, st, k, kn, hk => by simp only [settle]; exact settle_lim fun _ _ _ => hk _ _ _
 | .lp d off :: l, st, k, kn, hk => by
  simp only [settle]
  split
  ·exact settle_lim fun _ _ _ => hk _ _ _
  ·exact out_lim fun _ _ => settle_lim fun _ _ _ => hk _ _ _
theorem endLoop_lim {l : Nat} {st : DSt} {ds : List DItem} {k : KX R} {kn : Nat → KX R} (hk : ∀ e st ds, Lim (k e st ds) fun n => kn n e st ds) : Lim (endLoop l st ds k) fun n => endLoop l st ds (kn n) := by
 unfold endLoop
 refine Lim.cbind fun q => Lim.cnd (.none _) ?_
 split
 ·exact hk _ _ _
 ·exact Lim.cbind fun _ => hk _ _ _
theorem evalRange_lim {X : CallX} {Xn : Nat → CallX} (hX : LimX X Xn) {T : DTab} {K : Nat → List Nat} {rnd : Option Nat} {g : Operand} {ps : Array Tmp} {a b : Code} {st : DSt} {ds : List DItem} {k : KX R} {kn : Nat → KX R} (hk : ∀ e st ds, Lim (k e st ds) fun n => kn n e st ds) :
  Lim (evalRange P X T K rnd g ps a b st ds k) fun n => evalRange P (Xn n) T K rnd g ps a b st ds (kn n) := by
 unfold evalRange
 refine Lim.cbind fun _ => Lim.cbind fun gv => settle_lim fun _ _ _ => ?_
 split
 ·refine Lim.cbind fun _ => Lim.cnd ?_ (.none _)
  cases rnd with
  | none =>
   refine hX _ _ _ _ _ _ fun r => ?_
   cases r.1 <;> first | exact endLoop_lim hk | exact hk _ _ _
  | some l =>
   refine Lim.cbind fun _ => hX _ _ _ _ _ _ fun r => ?_
   cases r.1 <;> first | exact endLoop_lim hk | exact hk _ _ _
 ·exact .none _
abbrev FX (R : Type) := DSt → List DItem → KX R → Option R
def LimF (f : FX R) (fn : Nat → FX R) : Prop := ∀ st ds (k : KX R) (kn : Nat → KX R), (∀ e st ds, Lim (k e st ds) fun n => kn n e st ds) → Lim (f st ds k) fun n => fn n st ds (kn n)
def LimL (Lp : LoopC R) (Ln : Nat → LoopC R) : Prop := ∀ td (f : FX R) (fn : Nat → FX R) (k : KX R) (kn : Nat → KX R) st ds, LimF f fn → (∀ e st ds, Lim (k e st ds) fun n => kn n e st ds) → Lim (Lp td f k st ds) fun n => Ln n td (fn n) (kn n) st ds
noncomputable def LoopLim {R : Type} : LoopC R := fun td f k st ds => open Classical in if h : ∃ r m, loopK td f k m st ds = some r then some (Classical.choose h) else none
theorem loopK_lim {td : DSt → List DItem → DSt} {f : FX R} {fn : Nat → FX R} (hf : LimF f fn) {k : KX R} {kn : Nat → KX R} (hk : ∀ e st ds, Lim (k e st ds) fun n => kn n e st ds) : ∀ (m : Nat) (q : Nat → Nat), (∀ n, m ≤ q n) → ∀ st ds, Lim (loopK td f k m st ds) fun n => loopK td (fn n) (kn n) (q n) st ds
 | 0, q, hq, st, ds => .none _
 | m + 1, q, hq, st, ds => by
  have hq' : ∀ n, q n = (q n - 1) + 1 := fun n => by have := hq n; omega
  have h : Lim (loopK td f k (m + 1) st ds) fun n => loopK td (fn n) (kn n) ((q n - 1) + 1) st ds := by
   simp only [loopK]
   refine hf _ _ _ _ fun e st ds => ?_
   cases e <;> first | exact hk _ _ _ | exact loopK_lim hf hk m _ (fun n => by have := hq n; omega) _ _
  intro r hr
  obtain ⟨N, hN⟩ := h r hr
  exact ⟨N, fun n hn => by dsimp only; rw [hq' n]; exact hN n hn⟩
theorem loopLim_lim : LimL (LoopLim (R := R)) fun n td f k st ds => loopK td f k n st ds := by
 intro kill f fn k kn st ds hf hk r hr
 unfold LoopLim at hr
 split at hr
 ·rename_i h
  cases hr
  obtain ⟨m, hm⟩ := Classical.choose_spec h
  obtain ⟨N, hN⟩ := loopK_lim hf hk m (fun n => max n m) (fun n => Nat.le_max_right n m) st ds _ hm
  refine ⟨max N m, fun n hn => ?_⟩
  have := hN n (Nat.le_trans (Nat.le_max_left N m) hn)
  dsimp only at this
  rw [Nat.max_eq_left (Nat.le_trans (Nat.le_max_right N m) hn)] at this
  exact this
 ·cases hr
theorem LoopLim_of {td : DSt → List DItem → DSt} {f : FX R} (hf : LimF f fun _ => f) {k : KX R} {st : DSt} {ds : List DItem} {m : Nat} {r : R} (h : loopK td f k m st ds = some r) : LoopLim td f k st ds = some r := by
 have hex : ∃ r m, loopK td f k m st ds = some r := ⟨r, m, h⟩
 unfold LoopLim
 rw [dif_pos hex]
 obtain ⟨m', hm'⟩ := Classical.choose_spec hex
 have hk : ∀ e st ds, Lim (k e st ds) fun _ => k e st ds := fun e st ds => .const _
 obtain ⟨N, hN⟩ := loopK_lim hf hk m (fun n => max n m) (fun n => Nat.le_max_right n m) st ds _ h
 obtain ⟨N', hN'⟩ := loopK_lim hf hk m' (fun n => max n m') (fun n => Nat.le_max_right n m') st ds _ hm'
 have h1 := hN (max (max N N') (max m m')) (by omega)
 have h2 := hN' (max (max N N') (max m m')) (by omega)
 dsimp only at h1 h2
 rw [Nat.max_eq_left (by omega)] at h1 h2
 rw [h1] at h2
 exact h2.symm
theorem LoopLim_step {td : DSt → List DItem → DSt} {f : FX R} (hf : LimF f fun _ => f) {k : KX R} {st : DSt} {ds : List DItem} {r : R} (h : (f st ds fun e st' ds' => match e with
  | .normal => LoopLim td f k (td st' ds') ds'
  | e => k e st' ds') = some r) : LoopLim td f k st ds = some r := by
 have hk : ∀ e st ds, Lim (k e st ds) fun _ => k e st ds := fun e st ds => .const _
 have h1 := hf st ds (fun e st' ds' => match e with
  | .normal => LoopLim td f k (td st' ds') ds'
  | e => k e st' ds') (fun n e st' ds' => match e with
  | .normal => loopK td f k n (td st' ds') ds'
  | e => k e st' ds') (fun e st' ds' => by
   cases e <;> first | exact .const _ | exact loopLim_lim td f (fun _ => f) k (fun _ => k) _ _ hf hk) r h
 obtain ⟨N, hN⟩ := h1
 exact LoopLim_of hf (m := N + 1) (hN N (Nat.le_refl N))
theorem evalK_lim' {X Y : CallX} {Xn Yn : Nat → CallX} {Cp : CallF} {Cn : Nat → CallF} (hX : LimX X Xn) (hY : LimX Y Yn) (hC : LimC Cp Cn) {T : DTab} {K : Nat → List Nat} {W : TidyF} {ya : List Nat} {Lp : LoopC R} {Ln : Nat → LoopC R} {rnd : Option Nat}
  (hL : ∀ td (b : Code) (k : KX R) (kn : Nat → KX R) st ds, LimF (fun st ds k => evalK P X Y Cp T K W ya Lp rnd 0 b st ds k) (fun n st ds k => evalK P (Xn n) (Yn n) (Cn n) T K W ya (Ln n) rnd 0 b st ds k) → (∀ e st ds, Lim (k e st ds) fun n => kn n e st ds) →
   Lim (Lp td (fun st ds k => evalK P X Y Cp T K W ya Lp rnd 0 b st ds k) k st ds) fun n => Ln n td (fun st ds k => evalK P (Xn n) (Yn n) (Cn n) T K W ya (Ln n) rnd 0 b st ds k) (kn n) st ds) :
  ∀ (c : Code) (id : Nat) (st : DSt) (ds : List DItem) {k : KX R} {kn : Nat → KX R}, (∀ e st ds, Lim (k e st ds) fun n => kn n e st ds) → Lim (evalK P X Y Cp T K W ya Lp rnd id c st ds k) fun n => evalK P (Xn n) (Yn n) (Cn n) T K W ya (Ln n) rnd id c st ds (kn n) := by
 intro c
 induction c with
 | skip => intro id st ds k kn hk; exact hk _ _ _
 | region i ops draw =>
  intro id st ds k kn hk
  cases draw with
  | false => exact evalOpsX_lim hX hk _ _ _
  | true => exact evalDrawn_lim (retOnly_lim hX) hC fun st => hk _ _ _
 | seq a b iha ihb =>
  intro id st ds k kn hk
  simp only [evalK]
  refine iha _ _ _ fun e st ds => ?_
  cases e <;> first | exact hk _ _ _ | exact ihb _ _ _ hk
 | cond c a b iha ihb =>
  intro id st ds k kn hk
  simp only [evalK]
  exact Lim.cbind fun _ => Lim.cbind fun _ => Lim.cbind fun _ => Lim.cnd (iha _ _ _ hk) (ihb _ _ _ hk)
 | block i b ih =>
  intro id st ds k kn hk
  simp only [evalK]
  refine ih _ _ _ fun e st ds => ?_
  cases e <;> first | exact hk _ _ _ | exact Lim.cnd (hk _ _ _) (hk _ _ _)
 | scope b ih =>
  intro id st ds k kn hk
  simp only [evalK]
  refine ih _ _ _ fun e st ds => ?_
  cases e <;> first | exact hk _ _ _ | exact .none _
 | loop b ih =>
  intro id st ds k kn hk
  simp only [evalK]
  exact hL _ _ _ _ _ _ (fun st ds k kn hk => ih _ _ _ hk) hk
 | rangeFunc g ps a b iha ihb =>
  intro id st ds k kn hk
  simp only [evalK]
  exact evalRange_lim hY hk
 | exit i => intro id st ds k kn hk; exact hk _ _ _
 | label i => intro id st ds k kn hk; exact hk _ _ _
 | ret => intro id st ds k kn hk; exact hk _ _ _
 | _ => intro id st ds k kn hk; simp only [evalK]; exact .none _
theorem evalK_lim {X Y : CallX} {Xn Yn : Nat → CallX} {Cp : CallF} {Cn : Nat → CallF} (hX : LimX X Xn) (hY : LimX Y Yn) (hC : LimC Cp Cn) {T : DTab} {K : Nat → List Nat} {W : TidyF} {ya : List Nat} {Lp : LoopC R} {Ln : Nat → LoopC R} (hL : LimL Lp Ln) {rnd : Option Nat} (c : Code) (id : Nat) (st : DSt) (ds : List DItem) {k : KX R} {kn : Nat → KX R} (hk : ∀ e st ds, Lim (k e st ds) fun n => kn n e st ds) :
  Lim (evalK P X Y Cp T K W ya Lp rnd id c st ds k) fun n => evalK P (Xn n) (Yn n) (Cn n) T K W ya (Ln n) rnd id c st ds (kn n) :=
 evalK_lim' hX hY hC (fun kill b k kn st ds hf hk => hL _ _ _ _ _ _ _ hf hk) c id st ds hk
theorem evalK_cont {X Y : CallX} {Cp : CallF} (hX : LimX X fun _ => X) (hY : LimX Y fun _ => Y) (hC : LimC Cp fun _ => Cp) {T : DTab} {K : Nat → List Nat} {W : TidyF} {ya : List Nat} {rnd : Option Nat} (c : Code) (id : Nat) : LimF (fun st ds k => evalK P X Y Cp T K W ya (LoopLim (R := R)) rnd id c st ds k) fun _ st ds k => evalK P X Y Cp T K W ya (LoopLim (R := R)) rnd id c st ds k := fun st ds k kn hk =>
 evalK_lim' hX hY hC (fun kill b k kn st ds hf hk r hr => by
  unfold LoopLim at hr
  split at hr
  ·rename_i h
   cases hr
   obtain ⟨m, hm⟩ := Classical.choose_spec h
   obtain ⟨M, hM⟩ := loopK_lim hf hk m (fun _ => m) (fun n => Nat.le_refl m) st ds _ hm
   exact ⟨M, fun n hn => LoopLim_of hf (hM n hn)⟩
  ·cases hr) c id st ds hk
theorem resultsP_lim : ∀ (l : List ResultVar) (st : DSt) {k : List DV → DSt → Option R} {kn : Nat → List DV → DSt → Option R}, (∀ a st, Lim (k a st) fun n => kn n a st) → Lim (resultsP P st l k) fun n => resultsP P st l (kn n)
 | [], st, k, kn, hk => hk _ _
 | .tmp t :: l, st, k, kn, hk => by simp only [resultsP]; exact Lim.cbind fun _ => out_lim fun _ _ => resultsP_lim l _ fun _ _ => hk _ _
 | .cell a t :: l, st, k, kn, hk => by
  simp only [resultsP, cellsK_eq]
  refine Lim.cbind fun ti => Lim.cbind fun _ => ?_
  cases ti.agg <;> exact Lim.cbind fun _ => resultsP_lim l _ fun _ _ => hk _ _
theorem evalOpsS_lim {X : CallX} {Xn : Nat → CallX} (hX : LimX X Xn) {ops : Array Oper} {k : DMode → DSt → Option R} {kn : Nat → DMode → DSt → Option R} (hk : ∀ e st, Lim (k e st) fun n => kn n e st) : ∀ (l : List Oper) (m : DMode) (st : DSt), Lim (evalOpsS P X ops l m st k) fun n => evalOpsS P (Xn n) ops l m st (kn n)
 | [], m, st => hk _ _
 | o :: l, m, st => by
  simp only [evalOpsS]
  refine guardK_lim (fun st => ?_) fun st => evalOpsS_lim hX hk l _ _
  cases isRecover o with
  | true =>
   dsimp only
   cases m with
   | ret => exact evalOpsS_lim hX hk l _ _
   | pan v b => cases b <;> exact evalOpsS_lim hX hk l _ _
  | false => exact Lim.cnd (evalOp_lim (retOnly_lim hX) fun _ _ => evalOpsS_lim hX hk l _ _) (.none _)
theorem evalS_lim {X Y : CallX} {Xn Yn : Nat → CallX} {Cp : CallF} {Cn : Nat → CallF} (hX : LimX X Xn) (hY : LimX Y Yn) (hC : LimC Cp Cn) {T : DTab} {K : Nat → List Nat} {Lp : LoopC R} {Ln : Nat → LoopC R} (hL : LimL Lp Ln) :
  ∀ (c : Code) (m : DMode) (st : DSt) {k : DExit → DMode → DSt → Option R} {kn : Nat → DExit → DMode → DSt → Option R}, (∀ e m st, Lim (k e m st) fun n => kn n e m st) → Lim (evalS P X Y Cp T K Lp c m st k) fun n => evalS P (Xn n) (Yn n) (Cn n) T K (Ln n) c m st (kn n) := by
 intro c
 have plain : ∀ (c : Code) (m : DMode) (st : DSt) {k : DExit → DMode → DSt → Option R} {kn : Nat → DExit → DMode → DSt → Option R}, (∀ e m st, Lim (k e m st) fun n => kn n e m st) → Lim (evalK P X Y Cp T K noTidy [] Lp none 0 c st [] fun e st ds => match ds with
   | [] => k e m st
   | _ => none) fun n => evalK P (Xn n) (Yn n) (Cn n) T K noTidy [] (Ln n) none 0 c st [] fun e st ds => match ds with
   | [] => kn n e m st
   | _ => none := fun c m st k kn hk => evalK_lim hX hY hC hL c 0 st [] fun e st ds => by
  cases ds <;> first | exact .none _ | exact hk _ _ _
 induction c with
 | seq a b iha ihb =>
  intro m st k kn hk
  simp only [evalS]
  refine iha _ _ fun e m st => ?_
  cases e <;> first | exact hk _ _ _ | exact ihb _ _ hk
 | cond c a b iha ihb =>
  intro m st k kn hk
  simp only [evalS]
  exact Lim.cbind fun _ => Lim.cbind fun _ => Lim.cbind fun _ => Lim.cnd (iha _ _ hk) (ihb _ _ hk)
 | region i ops draw =>
  intro m st k kn hk
  simp only [evalS]
  exact Lim.cnd (evalOpsS_lim hX (fun _ _ => hk _ _ _) _ _ _) (plain _ _ _ hk)
 | _ => intro m st k kn hk; simp only [evalS]; exact plain _ _ _ hk
theorem evalD_lim {X Y : CallX} {Xn Yn : Nat → CallX} {Cp : CallF} {Cn : Nat → CallF} (hX : LimX X Xn) (hY : LimX Y Yn) (hC : LimC Cp Cn) {T : DTab} {Lp : LoopC (DMode × DHeap)} {Ln : Nat → LoopC (DMode × DHeap)} (hL : LimL Lp Ln) (g : FuncId) (xs : List DV) (m : DMode) (h : DHeap) :
  Lim (evalD P X Y Cp T Lp g xs m h) fun n => evalD P (Xn n) (Yn n) (Cn n) T (Ln n) g xs m h := by
 unfold evalD
 refine Lim.cnd (.none _) (Lim.cbind fun fn => Lim.cbind fun c => evalS_lim hX hY hC hL _ _ _ fun e m st => ?_)
 cases e <;> first | exact .none _ | exact resultsP_lim _ _ fun _ _ => .const _
theorem leaveX_lim {D : FuncId → List DV → DMode → DHeap → Option (DMode × DHeap)} {Dn : Nat → FuncId → List DV → DMode → DHeap → Option (DMode × DHeap)} (hD : ∀ g xs m h, Lim (D g xs m h) fun n => Dn n g xs m h) {fn : Func} {k : DRes × DHeap → Option R} {kn : Nat → DRes × DHeap → Option R} (hk : ∀ r, Lim (k r) fun n => kn n r) : ∀ (ds : List DItem) (m : DMode) (st : DSt), Lim (leaveX P D fn ds m st k) fun n => leaveX P (Dn n) fn ds m st (kn n)
 | [], m, st => by
  simp only [leaveX]
  cases m with
  | ret => exact resultsP_lim _ _ fun _ _ => hk _
  | pan v b => cases b <;> first | exact hk _ | exact .none _
 | .mark id :: r, m, st => by
  simp only [leaveX]
  refine Lim.cbind fun b => ?_
  split
  ·exact leaveX_lim hD hk r _ _
  ·exact .none _
 | .call g xs :: r, m, st => by
  simp only [leaveX]
  exact Lim.bind (hD _ _ _ _) fun q => leaveX_lim hD hk r _ _
theorem evalBody_lim {X Y : CallX} {Xn Yn : Nat → CallX} {Cp : CallF} {Cn : Nat → CallF} (hX : LimX X Xn) (hY : LimX Y Yn) (hC : LimC Cp Cn) {T : DTab} {K : Nat → List Nat} {W : TidyF} {Lp : (R : Type) → LoopC R} {Ln : Nat → (R : Type) → LoopC R} (hL : ∀ R, LimL (Lp R) fun n => Ln n R) {fn : Func} {xs : List DV} {h : DHeap} {k : DRes × DHeap → Option R} {kn : Nat → DRes × DHeap → Option R} (hk : ∀ r, Lim (k r) fun n => kn n r) :
  Lim (evalBody P X Y Cp T K W Lp fn xs h k) fun n => evalBody P (Xn n) (Yn n) (Cn n) T K W (Ln n) fn xs h (kn n) := by
 unfold evalBody
 refine Lim.cbind fun c => evalK_lim hX hY hC (hL _) _ _ _ _ fun e st ds => ?_
 cases e <;> first | exact .none _ | exact leaveX_lim (fun g xs m h => evalD_lim hX hY hC (hL _) g xs m h) hk _ _ _
theorem evalRound_lim {X Y : CallX} {Xn Yn : Nat → CallX} {Cp : CallF} {Cn : Nat → CallF} (hX : LimX X Xn) (hY : LimX Y Yn) (hC : LimC Cp Cn) {T : DTab} {Lp : (R : Type) → LoopC R} {Ln : Nat → (R : Type) → LoopC R} (hL : ∀ R, LimL (Lp R) fun n => Ln n R) {l : Nat} {xs : List DV} {h : DHeap} :
  Lim (evalRound P X Y Cp T Lp l xs h) fun n => evalRound P (Xn n) (Yn n) (Cn n) T (Ln n) l xs h := by
 unfold evalRound
 refine Lim.cbind fun q => Lim.cnd (evalK_lim hX hY hC (hL _) _ _ _ _ fun e st ds => ?_) (.none _)
 split
 ·refine Lim.cbind fun q' => Lim.cnd (evalK_lim hX hY hC (hL _) _ _ _ _ fun e st ds => ?_) (.none _)
  split <;> exact .const _
 ·exact .none _
def LimLo (L : Local) (Ln : Nat → Local) : Prop := ∀ (R : Type) f xs (k : DRes × DHeap → Option R) (kn : Nat → DRes × DHeap → Option R), (∀ r, Lim (k r) fun n => kn n r) → Lim (L R f xs k) fun n => Ln n R f xs (kn n)
theorem callLocal_lim {R : Type} {T : DTab} {L : Local} {Ln : Nat → Local} (hL : LimLo L Ln) (f : FuncId) (xs : List DV) (h : DHeap) {k : DRes × DHeap → Option R} {kn : Nat → DRes × DHeap → Option R} (hk : ∀ r, Lim (k r) fun n => kn n r) : Lim (callLocal T L f xs h k) fun n => callLocal T (Ln n) f xs h (kn n) := by
 unfold callLocal
 refine Lim.cbind fun q => hL _ _ _ _ _ fun r => ?_
 cases r.1 <;> first | exact hk _ | exact Lim.cbind fun _ => hk _
theorem callX_lim {T : DTab} {L : Local} {Ln : Nat → Local} (hL : LimLo L Ln) {X : CallD} {Xn : Nat → CallD} (hX : LimD X Xn) : LimX (callX T L X) fun n => callX T (Ln n) (Xn n) := fun R t xs h k kn hk => by
 cases t with
 | fn f => exact Lim.cnd (callLocal_lim hL _ _ _ hk) (Lim.cnd (Lim.bind (hX _ _ _) hk) (.none _))
 | yield l => exact Lim.bind (hX _ _ _) hk
theorem callQ_lim {T : DTab} {L : Local} {Ln : Nat → Local} (hL : LimLo L Ln) : LimC (callQ T L) fun n => callQ T (Ln n) := fun R f xs h k kn hk => by
 unfold callQ
 refine Lim.cnd (Lim.cbind fun q => hL _ _ _ _ _ fun r => ?_) (.none _)
 cases r.1 <;> first | exact .none _ | exact Lim.cbind fun _ => hk _
theorem stepX_lim {T : DTab} {Lp : (R : Type) → LoopC R} {Ln : Nat → (R : Type) → LoopC R} (hP : ∀ R, LimL (Lp R) fun n => Ln n R) {L : Local} {Lon : Nat → Local} (hL : LimLo L Lon) {Y : CallD} {Yn : Nat → CallD} (hY : LimD Y Yn) : LimX (stepX P T Lp L Y) fun n => stepX P T (Ln n) (Lon n) (Yn n) := fun R t xs h k kn hk => by
 cases t with
 | yield l => exact Lim.bind (evalRound_lim (callX_lim hL hY) hY.lift (callQ_lim hL) hP) hk
 | fn f =>
  simp only [stepX]
  cases T.spec f with
  | some s =>
   cases h with
   | nil => exact Lim.cbind fun _ => hk _
   | cons a l => exact .none _
  | none => exact Lim.cbind fun fn => evalBody_lim (callX_lim hL hY) hY.lift (callQ_lim hL) hP hk
theorem LimX.direct {X : CallX} {Xn : Nat → CallX} (h : LimX X Xn) : LimD (direct X) fun n => direct (Xn n) := fun t xs hp => h _ _ _ _ _ _ fun _ => .const _
def Lx (P : Program) (T : DTab) (f : FuncId) (xs : List DV) (r : DRes × DHeap) : Prop := ∃ N, ∀ n, N ≤ n → stepL T (evalY P T n) f xs = some r
def LOK (P : Program) (T : DTab) (L : Local) : Prop := ∀ (R : Type) f xs (k : DRes × DHeap → Option R) r, L R f xs k = some r → ∃ v, Lx P T f xs v ∧ k v = some r
theorem LOK.lim {T : DTab} {L : Local} (hL : LOK P T L) : LimLo L fun n => liftL (stepL T (evalY P T n)) := fun R f xs k kn hk r hr => by
 obtain ⟨v, ⟨N, hN⟩, h2⟩ := hL R f xs k r hr
 obtain ⟨M, hM⟩ := hk v r h2
 refine ⟨max N M, fun n hn => ?_⟩
 simp only [liftL]
 rw [hN n (by omega), Option.bind_some]
 exact hM n (by omega)
end
end Go.Dv
end
section
namespace Go.Dv
open Go.Pv (LoopRec PExit)
abbrev LpT := (R : Type) → LoopC R
section
variable [DGlob] (P : Program) (T : DTab) (Lp : LpT) (L : Local)
noncomputable def run (Y : CallD) (f : FuncId) (xs : List DV) : Option (DRes × DHeap) := stepX P T Lp L Y _ (.fn f) xs [] (finish (T.own f))
noncomputable def runR (Y : CallD) (t : Tgt) (xs : List DV) (h : DHeap) : Option (DRes × DHeap) := stepX P T Lp L Y _ t xs h some
def nY : CallD := fun _ _ _ => none
def wOf (f : FuncId) (rnd : Option Nat) : TidyF := match rnd with
 | none => tidy (T.vec f) 0
 | some l => tidy (fun _ => some []) (l + 1)
def tdF (f : FuncId) (rnd : Option Nat) (id : Nat) : DSt → List DItem → DSt := fun st ds => wOf T f rnd id (killTmps (T.kill f id) st) ds
noncomputable def ev {R : Type} (Y : CallD) (ya : List Nat) (f : FuncId) (rnd : Option Nat) (id : Nat) (c : Code) (st : DSt) (ds : List DItem) (k : KX R) : Option R :=
 evalK P (callX T L Y) (liftX Y) (callQ T L) T (T.kill f) (wOf T f rnd) ya (Lp R) rnd id c st ds k
def bodyOf (f : FuncId) : Code := ((T.fn f).bind fun fn => fn.body).getD .skip
def loopIn (t : Nat) : Nat → Code → Option Code
 | _, .seq a b => match loopIn t 0 a with
  | some c => some c
  | none => loopIn t 0 b
 | _, .cond _ a b => match loopIn t 0 a with
  | some c => some c
  | none => loopIn t 0 b
 | _, .block i b => loopIn t i b
 | _, .scope b => loopIn t 0 b
 | id, .loop b => bif Nat.beq id t then some b else loopIn t 0 b
 | _, .rangeFunc _ _ _ b => loopIn t 0 b
 | _, _ => none
def loopOf (f : FuncId) (t : Nat) : Code := (loopIn t 0 (bodyOf T f)).getD .skip
noncomputable def bodyF {R : Type} (Y : CallD) (ya : List Nat) (f : FuncId) (rnd : Option Nat) (t : Nat) : FX R := fun st ds k => ev P T Lp L Y ya f rnd 0 (loopOf T f t) st ds k
noncomputable def kontIn {R : Type} (Y : CallD) (ya : List Nat) (f : FuncId) (rnd : Option Nat) (t : Nat) : Nat → Code → KX R → Option (KX R)
 | _, .seq a b, k => match kontIn Y ya f rnd t 0 a (fun e st ds => match e with
   | .normal => ev P T Lp L Y ya f rnd 0 b st ds k
   | e => k e st ds) with
  | some c => some c
  | none => kontIn Y ya f rnd t 0 b k
 | _, .cond _ a b, k => match kontIn Y ya f rnd t 0 a k with
  | some c => some c
  | none => kontIn Y ya f rnd t 0 b k
 | _, .block i b, k => kontIn Y ya f rnd t i b (fun e st ds => match e with
   | .exit j => bif Nat.beq j i then k .normal st ds else k (.exit j) st ds
   | e => k e st ds)
 | _, .scope b, k => kontIn Y ya f rnd t 0 b (fun e st ds => match e with
   | .goto _ => none
   | e => k e st ds)
 | id, .loop b, k => bif Nat.beq id t then some k else kontIn Y ya f rnd t 0 b (fun e st' ds' => match e with
   | .normal => Lp R (tdF T f rnd id) (fun st ds k => ev P T Lp L Y ya f rnd 0 b st ds k) k (tdF T f rnd id st' ds') ds'
   | e => k e st' ds')
 | _, _, _ => none
def noK {R : Type} : KX R := fun _ _ _ => none
noncomputable def kont {R : Type} (Y : CallD) (ya : List Nat) (f : FuncId) (rnd : Option Nat) (t : Nat) (c : Code) (k : KX R) : KX R := (kontIn P T Lp L Y ya f rnd t 0 c k).getD noK
noncomputable def endK (Y : CallD) (f : FuncId) : KX (DRes × DHeap) := fun e st ds =>
 match T.fn f with
 | none => none
 | some fn => match e with
  | .normal | .ret => leaveX P (evalD P (callX T L Y) (liftX Y) (callQ T L) T (Lp _)) fn ds .ret st (finish (T.own f))
  | .panic v => leaveX P (evalD P (callX T L Y) (liftX Y) (callQ T L) T (Lp _)) fn ds (.pan v false) st (finish (T.own f))
  | _ => none
noncomputable def kontF (Y : CallD) (ya : List Nat) (f : FuncId) (t : Nat) : KX (DRes × DHeap) := kont P T Lp L Y ya f none t (bodyOf T f) (endK P T Lp L Y f)
end
section
variable [DGlob] {P : Program} {T : DTab} {L : Local}
def ContL (L : Local) : Prop := LimLo L fun _ => L
theorem bodyF_cont (hL : ContL L) {R : Type} (Y : CallD) (ya : List Nat) (f : FuncId) (rnd : Option Nat) (t : Nat) : LimF (bodyF (R := R) P T (fun _ => LoopLim) L Y ya f rnd t) fun _ => bodyF P T (fun _ => LoopLim) L Y ya f rnd t :=
 evalK_cont (callX_lim hL fun _ _ _ => .const _) (LimD.lift fun _ _ _ => .const _) (callQ_lim hL) _ _
theorem loop_step (hL : ContL L) {R : Type} {Y : CallD} {ya : List Nat} {f : FuncId} {rnd : Option Nat} {t : Nat} {td : DSt → List DItem → DSt} {k : KX R} {st : DSt} {ds : List DItem} {r : R} (h : bodyF P T (fun _ => LoopLim) L Y ya f rnd t st ds (fun e st' ds' => match e with
  | .normal => LoopLim td (bodyF P T (fun _ => LoopLim) L Y ya f rnd t) k (td st' ds') ds'
  | e => k e st' ds') = some r) : LoopLim td (bodyF P T (fun _ => LoopLim) L Y ya f rnd t) k st ds = some r :=
 LoopLim_step (bodyF_cont hL Y ya f rnd t) h
def LxR (P : Program) (T : DTab) (t : Tgt) (xs : List DV) (h : DHeap) (r : DRes × DHeap) : Prop := ∃ N, ∀ n, N ≤ n → direct (evalY P T n) t xs h = some r
def YOK (P : Program) (T : DTab) (Y : CallD) : Prop := ∀ t xs h r, Y t xs h = some r → LxR P T t xs h r
theorem nY_ok : YOK P T nY := fun _ _ _ _ h => by cases h
noncomputable def yinf (P : Program) (T : DTab) : CallD := fun t xs h => open Classical in if hh : ∃ r, LxR P T t xs h r then some hh.choose else none
theorem yinf_ok : YOK P T (yinf P T) := fun t xs h r e => by
 unfold yinf at e
 split at e
 ·rename_i hh
  cases e
  exact hh.choose_spec
 ·cases e
theorem LxR.det {t : Tgt} {xs : List DV} {h : DHeap} {r r' : DRes × DHeap} (a : LxR P T t xs h r) (b : LxR P T t xs h r') : r = r' := by
 obtain ⟨N, hN⟩ := a
 obtain ⟨M, hM⟩ := b
 have h1 := hN (max N M) (Nat.le_max_left N M)
 rw [hM (max N M) (Nat.le_max_right N M)] at h1
 cases h1
 rfl
theorem yinf_eq {t : Tgt} {xs : List DV} {h : DHeap} {r : DRes × DHeap} (a : LxR P T t xs h r) : yinf P T t xs h = some r := by
 have hh : ∃ r, LxR P T t xs h r := ⟨r, a⟩
 unfold yinf
 rw [dif_pos hh]
 exact congrArg some (hh.choose_spec.det a)
theorem step_lim (hL : LOK P T L) {Y : CallD} (hY : YOK P T Y) : LimX (stepX P T (fun _ => LoopLim) L Y) fun n => evalY P T n := fun R t xs h k kn hk r hr => by
 have h1 : LimX (stepX P T (fun _ => LoopLim) L Y) fun n => stepX P T (fun _ td f k st ds => loopK td f k n st ds) (liftL (stepL T (evalY P T n))) (direct (evalY P T n)) :=
  stepX_lim (fun R => loopLim_lim) hL.lim fun t xs h r e => hY t xs h r e
 obtain ⟨N, hN⟩ := h1 R t xs h k (fun n => kn (n + 1)) (fun r r' hr' => by
  obtain ⟨M, hM⟩ := hk r r' hr'
  exact ⟨M, fun n hn => hM (n + 1) (by omega)⟩) r hr
 refine ⟨N + 1, fun n hn => ?_⟩
 obtain ⟨m, rfl⟩ : ∃ m, n = m + 1 := ⟨n - 1, by omega⟩
 exact hN m (by omega)
theorem Lx.of_run (hL : LOK P T L) {Y : CallD} (hY : YOK P T Y) {f : FuncId} {xs : List DV} {r : DRes × DHeap} (h : run P T (fun _ => LoopLim) L Y f xs = some r) : Lx P T f xs r :=
 step_lim hL hY _ _ _ _ _ (fun _ => finish (T.own f)) (fun _ => .const _) r h
theorem LxR.of_run (hL : LOK P T L) {Y : CallD} (hY : YOK P T Y) {t : Tgt} {xs : List DV} {h : DHeap} {r : DRes × DHeap} (e : runR P T (fun _ => LoopLim) L Y t xs h = some r) : LxR P T t xs h r :=
 step_lim hL hY _ _ _ _ _ (fun _ => some) (fun _ => .const _) r e
theorem Lx.det {f : FuncId} {xs : List DV} {r r' : DRes × DHeap} (h : Lx P T f xs r) (h' : Lx P T f xs r') : r = r' := by
 obtain ⟨N, hN⟩ := h
 obtain ⟨M, hM⟩ := h'
 have h1 := hN (max N M) (Nat.le_max_left N M)
 rw [hM (max N M) (Nat.le_max_right N M)] at h1
 cases h1
 rfl
abbrev Spec := (R : Type) → List DV → (DRes × DHeap → Option R) → Option R
def lookS (f : FuncId) : List (FuncId × Spec) → Spec
 | [] => fun _ _ _ => none
 | p :: r => bif Nat.beq p.1 f then p.2 else lookS f r
def Lt (tab : List (FuncId × Spec)) : Local := fun R f xs k => lookS f tab R xs k
structure Con (P : Program) (T : DTab) (f : FuncId) (S : Spec) : Prop where
 nat : ∀ (R : Type) xs (k : DRes × DHeap → Option R), S R xs k = (S (DRes × DHeap) xs some).bind k
 ok : ∀ xs r, S (DRes × DHeap) xs some = some r → Lx P T f xs r
def Cons (P : Program) (T : DTab) : List (FuncId × Spec) → Prop
 | [] => True
 | p :: r => Con P T p.1 p.2 ∧ Cons P T r
theorem Cons.nat : ∀ {tab : List (FuncId × Spec)}, Cons P T tab → ∀ (R : Type) f xs (k : DRes × DHeap → Option R), lookS f tab R xs k = (lookS f tab (DRes × DHeap) xs some).bind k
 | [], _, R, f, xs, k => rfl
 | p :: t, ⟨h1, h2⟩, R, f, xs, k => by
  simp only [lookS]
  cases hb : Nat.beq p.1 f with
  | true => exact h1.nat R xs k
  | false => exact Cons.nat h2 R f xs k
theorem Cons.ok : ∀ {tab : List (FuncId × Spec)}, Cons P T tab → ∀ f xs r, lookS f tab (DRes × DHeap) xs some = some r → Lx P T f xs r
 | [], _, f, xs, r, h => by cases h
 | p :: t, ⟨h1, h2⟩, f, xs, r, h => by
  simp only [lookS] at h
  cases hb : Nat.beq p.1 f with
  | true =>
   rw [hb] at h
   rw [← Nat.eq_of_beq_eq_true hb]
   exact h1.ok xs r h
  | false =>
   rw [hb] at h
   exact Cons.ok h2 f xs r h
theorem Cons.lok {tab : List (FuncId × Spec)} (h : Cons P T tab) : LOK P T (Lt tab) := fun R f xs k r e => by
 simp only [Lt] at e
 rw [h.nat] at e
 obtain ⟨v, h1, h2⟩ := Option.bind_eq_some_iff.1 e
 exact ⟨v, h.ok f xs v h1, h2⟩
theorem Cons.cont {tab : List (FuncId × Spec)} (h : Cons P T tab) : ContL (Lt tab) := fun R f xs k kn hk => by
 have h1 : ∀ k : DRes × DHeap → Option R, Lt tab R f xs k = (lookS f tab (DRes × DHeap) xs some).bind k := fun k => h.nat R f xs k
 simp only [h1]
 exact Lim.cbind hk
theorem Lx.of_in {tab : List (FuncId × Spec)} (ht : Cons P T tab) {f : FuncId} {xs : List DV} {r : DRes × DHeap} (h : run P T (fun _ => LoopLim) (Lt tab) nY f xs = some r) : Lx P T f xs r :=
 Lx.of_run ht.lok nY_ok h
theorem LxR.of_in {tab : List (FuncId × Spec)} (ht : Cons P T tab) {t : Tgt} {xs : List DV} {h : DHeap} {r : DRes × DHeap} (e : runR P T (fun _ => LoopLim) (Lt tab) (yinf P T) t xs h = some r) : yinf P T t xs h = some r :=
 yinf_eq (LxR.of_run ht.lok yinf_ok e)
end
end Go.Dv
end
section
namespace Go.Dv
open Go.Pv (LoopRec PExit idx)
namespace S
def byt (s : List UInt8) : List (List DV) := s.map fun b => [.int .u8 b.toNat]
def lim : Nat := 1099511627776
def unB' : List (List DV) → Option (List UInt8)
 | [] => some []
 | [.int .u8 n] :: r => bif decide (0 ≤ n) && decide (n < 256) then (unB' r).map (UInt8.ofNat n.toNat :: ·) else none
 | _ => none
def unB (xs : List (List DV)) : Option (List UInt8) := bif Nat.ble xs.length lim then unB' xs else none
abbrev ret (v : DV) : DRes × DHeap := (.ret v, [])
def lookD (i : Nat) : List (Nat × DSlot) → DSlot
 | [] => .dead
 | p :: r => bif Nat.beq p.1 i then p.2 else lookD i r
def slotsD (l : List (Nat × DSlot)) : Nat → Nat → List DSlot
 | 0, _ => []
 | n + 1, i => lookD i l :: slotsD l n (i + 1)
def lookB (i : Nat) : List (Nat × DBox) → DBox
 | [] => .no
 | p :: r => bif Nat.beq p.1 i then p.2 else lookB i r
def boxesD (l : List (Nat × DBox)) : Nat → Nat → List DBox
 | 0, _ => []
 | n + 1, i => lookB i l :: boxesD l n (i + 1)
def stD (n : Nat) (l : List (Nat × DSlot)) (b : List (Nat × DBox)) : DSt := ⟨slotsD l n 0, boxesD b n 0, []⟩
def stH (n : Nat) (l : List (Nat × DSlot)) (b : List (Nat × DBox)) (h : DHeap) : DSt := ⟨slotsD l n 0, boxesD b n 0, h⟩
def lookU (i : Nat) : List (Nat × DSlot) → DSlot
 | [] => .v undef
 | p :: r => bif Nat.beq p.1 i then p.2 else lookU i r
def slotsU (l : List (Nat × DSlot)) : Nat → Nat → List DSlot
 | 0, _ => []
 | n + 1, i => lookU i l :: slotsU l n (i + 1)
def stU (n : Nat) (l : List (Nat × DSlot)) (b : List (Nat × DBox)) (h : DHeap) : DSt := ⟨slotsU l n 0, boxesD b n 0, h⟩
end S
open Go.Dv.S
theorem bif1 {α : Type} {c : Bool} {a : Option α} {r : α} (h : (bif c then a else none) = some r) : c = true ∧ a = some r := by
 cases c
 ·cases h
 ·exact ⟨rfl, h⟩
theorem bnd' {α β : Type} {o : Option α} {f : α → Option β} {r : β} (e : o.bind f = some r) : ∃ x, o = some x ∧ f x = some r := Option.bind_eq_some_iff.1 e
section
variable [DGlob] {P : Program} {T : DTab} {L : Local}
def compactU (base : Nat) (keep : List Nat) (st : DSt) : DSt :=
 bif okFrom base 0 keep && noDup keep then
  match renS (fun id => posAt id 0 keep) st.tmps, renB (fun id => posAt id 0 keep) st.boxes, renH (fun id => posAt id 0 keep) st.heap keep with
  | some ts, some bs, some h => ⟨ts, bs, h⟩
  | _, _, _ => st
 else st
def tidyU (V : Nat → Option (List Vec)) (base : Nat) (id : Nat) (st : DSt) : DSt :=
 match V id with
 | some vs => compactU base (keepOf base (setVecs vs st)) (setVecs vs st)
 | none => st
def tdU (T : DTab) (f : FuncId) (rnd : Option Nat) (id : Nat) (st : DSt) : DSt :=
 match rnd with
 | none => tidyU (T.vec f) 0 id (killTmps (T.kill f id) st)
 | some l => tidyU (fun _ => some []) (l + 1) id (killTmps (T.kill f id) st)
theorem compactU_eq {base : Nat} {keep : List Nat} {st : DSt} (h : opaqOK st.heap = true) : compactBy base keep st = compactU base keep st := by
 unfold compactBy compactU
 rw [opaqK_of h 0, Bool.and_true]
 rfl
theorem killTmps_dheap : ∀ (l : List Nat) (st : DSt), (killTmps l st).heap = st.heap
 | [], st => rfl
 | d :: r, st => killTmps_dheap r _
theorem opaqOK_nil : ∀ {h : DHeap} {e : TypeId}, opaqOK h = true → opaqOK (h ++ [newBlk [] e]) = true
 | [], e, _ => by
  simp only [opaqOK, List.nil_append, newBlk, List.all_nil, Bool.and_true]
  cases (lives ⟨[], e, true, false, true, none⟩ && DGlob.opaqT e) <;> rfl
 | b :: h, e, hh => by
  simp only [opaqOK, Bool.and_eq_true, List.cons_append] at hh ⊢
  exact ⟨hh.1, opaqOK_nil hh.2⟩
theorem opaqOK_vec {v : Vec} {st : DSt} (h : opaqOK st.heap = true) : opaqOK (setVec v st).heap = true := by
 unfold setVec
 split
 ·split
  ·exact opaqOK_nil h
  ·exact h
 ·split
  ·exact opaqOK_nil h
  ·exact h
theorem opaqOK_vecs : ∀ {l : List Vec} {st : DSt}, opaqOK st.heap = true → opaqOK (setVecs l st).heap = true
 | [], st, h => h
 | v :: l, st, h => opaqOK_vecs (l := l) (st := setVec v st) (opaqOK_vec h)
theorem tdU_eq {T : DTab} {f : FuncId} {rnd : Option Nat} {id : Nat} {st : DSt} (h : opaqOK st.heap = true) : tdF T f rnd id st [] = tdU T f rnd id st := by
 unfold tdF wOf tdU
 cases rnd with
 | none =>
  simp only [tidy, tidyU]
  cases T.vec f id with
  | none => rfl
  | some vs => simp only; rw [compactU_eq (opaqOK_vecs (by rw [killTmps_dheap]; exact h))]
 | some l =>
  simp only [tidy, tidyU]
  rw [compactU_eq (opaqOK_vecs (by rw [killTmps_dheap]; exact h))]
theorem leafT {T : DTab} {f : FuncId} {rnd : Option Nat} {t : Nat} {R : Type} {B : FX R} {k : KX R} {st' st : DSt} {X : Bool} {r r' : R} (h : LoopLim (tdF T f rnd t) B k st [] = some r') (e1 : opaqOK st'.heap = X) (hX : X = true) (e2 : tdU T f rnd t st' = st) (hr : r' = r) : LoopLim (tdF T f rnd t) B k (tdF T f rnd t st' []) [] = some r := by
 rw [tdU_eq (e1.trans hX), e2, h, hr]
theorem headT {T : DTab} {f : FuncId} {rnd : Option Nat} {t : Nat} {R : Type} {B : FX R} {k : KX R} {st0 st : DSt} {r : R} (h : LoopLim (tdF T f rnd t) B k st [] = some r) (e : st0 = st) : LoopLim (tdF T f rnd t) B k st0 [] = some r := by
 rw [e, h]
def sp1 {α : Type} (d : DV → Option α) (g : α → DV) : Spec := fun R xs k => match xs with
 | [x] => (d x).bind fun a => k (ret (g a))
 | _ => none
def sp2 {α β : Type} (d : DV → Option α) (e : DV → Option β) (g : α → β → DV) : Spec := fun R xs k => match xs with
 | [x, y] => (d x).bind fun a => (e y).bind fun b => k (ret (g a b))
 | _ => none
theorem con1 {α : Type} {f : FuncId} {d : DV → Option α} {g : α → DV} (h : ∀ x a, d x = some a → Lx P T f [x] (ret (g a))) : Con P T f (sp1 d g) where
 nat R xs k := by
  unfold sp1
  split
  ·simp only [Option.bind_assoc, Option.bind_some]
  ·rfl
 ok xs r e := by
  unfold sp1 at e
  split at e
  ·obtain ⟨a, ha, e⟩ := bnd' e
   cases e
   exact h _ _ ha
  ·cases e
theorem con2 {α β : Type} {f : FuncId} {d : DV → Option α} {e : DV → Option β} {g : α → β → DV} (h : ∀ x a y b, d x = some a → e y = some b → Lx P T f [x, y] (ret (g a b))) : Con P T f (sp2 d e g) where
 nat R xs k := by
  unfold sp2
  split
  ·simp only [Option.bind_assoc, Option.bind_some]
  ·rfl
 ok xs r e := by
  unfold sp2 at e
  split at e
  ·obtain ⟨a, ha, e⟩ := bnd' e
   obtain ⟨b, hb, e⟩ := bnd' e
   cases e
   exact h _ _ _ _ ha hb
  ·cases e
end
theorem ofBytes_froz (s : List UInt8) : (ofBytes s).all froz = true := by
 rw [List.all_eq_true]
 intro x hx
 obtain ⟨b, _, rfl⟩ := List.mem_map.1 hx
 rfl
theorem ofBytes_len (s : List UInt8) : (ofBytes s).length = s.length := by simp [ofBytes]
theorem byt_flatten (s : List UInt8) : (byt s).flatten = ofBytes s := by
 induction s with
 | nil => rfl
 | cons b s ih =>
  show DV.int IntKind.u8 b.toNat :: (byt s).flatten = _
  rw [ih]; rfl
theorem toBytes_of (s : List UInt8) : toBytes (ofBytes s) = some s := by
 induction s with
 | nil => rfl
 | cons b s ih =>
  show (toBytes (ofBytes s)).bind _ = _
  rw [ih]
  simp
theorem chunks_of : ∀ (s : List UInt8), chunks 1 s.length (ofBytes s) = byt s
 | [] => rfl
 | b :: s => by
  show [DV.int IntKind.u8 b.toNat] :: chunks 1 s.length (ofBytes s) = _
  rw [chunks_of s]; rfl
theorem toBytes_ofBytes : ∀ (s : List UInt8), toBytes (byt s).flatten = some s
 | [] => rfl
 | b :: s => by
  show (toBytes (byt s).flatten).bind _ = _
  rw [toBytes_ofBytes s]
  simp
theorem byt_all (s : List UInt8) : ((byt s).all fun x => Nat.beq x.length 1) = true := by
 simp only [byt, List.all_map]
 exact List.all_eq_true.2 fun x _ => rfl
theorem byt_len (s : List UInt8) : (byt s).length = s.length := by simp [byt]
theorem unB'_inv : ∀ {l : List (List DV)} {s : List UInt8}, unB' l = some s → l = byt s
 | [], s, h => by cases h; rfl
 | x :: l, s, h => by
  unfold unB' at h
  split at h
  ·rename_i heq; cases heq
  ·rename_i heq
   cases heq
   obtain ⟨hc, h⟩ := bif1 h
   obtain ⟨m, hm, rfl⟩ := Option.map_eq_some_iff.1 h
   simp only [Bool.and_eq_true, decide_eq_true_eq] at hc
   rw [unB'_inv hm]
   show _ = [DV.int IntKind.u8 _] :: byt m
   congr 3
   rw [UInt8.toNat_ofNat']
   omega
  ·cases h
theorem unB_inv {l : List (List DV)} {s : List UInt8} (h : unB l = some s) : l = byt s ∧ s.length ≤ lim := by
 unfold unB at h
 obtain ⟨h1, h2⟩ := bif1 h
 have := unB'_inv h2
 subst this
 exact ⟨rfl, by simpa [byt] using Nat.le_of_ble_eq_true h1⟩
theorem idx_nat {i n : Nat} (h : i < n) : idx (i : Int) n = some i := by
 show (bif Nat.blt i n then some i else none) = some i
 have : Nat.blt i n = true := by simpa using h
 rw [this, cond_true]
theorem lt_dec (i n : Nat) : decide ((i : Int) < (n : Int)) = decide (i < n) := by simp
theorem wrap_succ {i n : Nat} (h : i < n) (hn : n ≤ lim) : IntKind.i64.wrap ((i : Int) + Int.ofNat 1) = ((i + 1 : Nat) : Int) := by
 unfold lim at hn
 simp only [IntKind.wrap, IntKind.bits, IntKind.signed]
 simp
 omega
theorem byt_flat_len (s : List UInt8) : (byt s).flatten.length = s.length := by
 induction s with
 | nil => rfl
 | cons b s ih => show ((byt s).flatten.length + 1) = _; rw [ih]; rfl
theorem unB_ok {s : List UInt8} (h : s.length ≤ lim) : unB (byt s) = some s := by
 have key : ∀ s : List UInt8, unB' (byt s) = some s := by
  intro s
  induction s with
  | nil => rfl
  | cons b s ih =>
   show (bif decide (0 ≤ (b.toNat : Int)) && decide ((b.toNat : Int) < 256) then (unB' (byt s)).map (UInt8.ofNat (b.toNat : Int).toNat :: ·) else none) = _
   have h1 : decide (0 ≤ (b.toNat : Int)) = true := by simp
   have h2 : decide ((b.toNat : Int) < 256) = true := by
    have := b.toNat_lt
    simp; omega
   rw [h1, h2, ih]
   simp
 unfold unB
 rw [byt_len, Nat.ble_eq_true_of_le h, cond_true, key]
theorem toFz_some {x : DV} {l : List (List DV)} (h : toFz x = some l) : x = .fz l := by
 cases x <;> simp only [toFz] at h <;> cases h
 rfl
inductive Br : Type 1 where
 | leaf (v : DV)
 | opt {γ : Type} (o : Option γ) (n : Br) (f : γ → Br)
 | cnd (b : Bool) (t e : Br)
def Br.run {R : Type} (k : DRes × DHeap → Option R) : Br → Option R
 | .leaf v => k (ret v)
 | .opt o n f => match o with
  | none => n.run k
  | some c => (f c).run k
 | .cnd b t e => bif b then t.run k else e.run k
def Br.val : Br → DV
 | .leaf v => v
 | .opt o n f => match o with
  | none => n.val
  | some c => (f c).val
 | .cnd b t e => bif b then t.val else e.val
theorem Br.run_eq {R : Type} (k : DRes × DHeap → Option R) (b : Br) : b.run k = k (ret b.val) := by
 induction b with
 | leaf v => rfl
 | opt o n f ih ihf => cases o with
  | none => exact ih
  | some c => exact ihf c
 | cnd b t e iht ihe => cases b with
  | true => exact iht
  | false => exact ihe
section
variable [DGlob] {P : Program} {T : DTab}
end
def TyC : SK → DV → Prop
 | .int k, x => ∃ n, x = .int k n
 | .bool, x => ∃ b, x = .bool b
 | .str, x => ∃ t, x = .str t
 | .sl, x => ∃ zs, x = .fz zs
 | .any, _ => True
def TyCs : List SK → List DV → Prop
 | [], [] => True
 | s :: ss, x :: xs => TyC s x ∧ TyCs ss xs
 | _, _ => False
theorem toInt_some {k : IntKind} {x : DV} {n : Int} (h : toInt k x = some n) : x = .int k n := by
 cases x <;> simp only [toInt] at h <;> try (cases h; done)
 rename_i k' m
 obtain ⟨h1, h2⟩ := bif1 h
 cases h2
 rw [of_decide_eq_true h1]
theorem toBool_some {x : DV} {b : Bool} (h : toBool x = some b) : x = .bool b := by
 cases x <;> simp only [toBool] at h <;> cases h
 rfl
theorem toStr_some {x : DV} {b : List UInt8} (h : toStr x = some b) : x = .str b := by
 cases x <;> simp only [toStr] at h <;> cases h
 rfl
theorem unc_cons {xs : List DV} {p : DV × List DV} (h : unc xs = some p) : xs = p.1 :: p.2 := by
 cases xs <;> simp only [unc] at h <;> cases h
 rfl
theorem shapeK_inv {R : Type} {r : R} : ∀ {ks : List SK} {xs : List DV} {k : List DV → Option R}, shapeK ks xs k = some r → TyCs ks xs ∧ k xs = some r
 | [], xs, k, h => by
  obtain ⟨h1, h2⟩ := bif1 h
  rw [List.isEmpty_iff.1 h1]
  exact ⟨trivial, h2⟩
 | .int kd :: ks, xs, k, h => by
  obtain ⟨p, hp, h⟩ := bnd' h
  obtain ⟨n, hn, h⟩ := bnd' h
  obtain ⟨h1, h2⟩ := shapeK_inv h
  rw [unc_cons hp]
  exact ⟨⟨⟨n, toInt_some hn⟩, h1⟩, by rw [toInt_some hn]; exact h2⟩
 | .bool :: ks, xs, k, h => by
  obtain ⟨p, hp, h⟩ := bnd' h
  obtain ⟨n, hn, h⟩ := bnd' h
  obtain ⟨h1, h2⟩ := shapeK_inv h
  rw [unc_cons hp]
  exact ⟨⟨⟨n, toBool_some hn⟩, h1⟩, by rw [toBool_some hn]; exact h2⟩
 | .str :: ks, xs, k, h => by
  obtain ⟨p, hp, h⟩ := bnd' h
  obtain ⟨n, hn, h⟩ := bnd' h
  obtain ⟨h1, h2⟩ := shapeK_inv h
  rw [unc_cons hp]
  exact ⟨⟨⟨n, toStr_some hn⟩, h1⟩, by rw [toStr_some hn]; exact h2⟩
 | .sl :: ks, xs, k, h => by
  obtain ⟨p, hp, h⟩ := bnd' h
  obtain ⟨n, hn, h⟩ := bnd' h
  obtain ⟨h1, h2⟩ := shapeK_inv h
  rw [unc_cons hp]
  exact ⟨⟨⟨n, toFz_some hn⟩, h1⟩, by rw [toFz_some hn]; exact h2⟩
 | .any :: ks, xs, k, h => by
  obtain ⟨p, hp, h⟩ := bnd' h
  obtain ⟨h1, h2⟩ := shapeK_inv h
  rw [unc_cons hp]
  exact ⟨⟨trivial, h1⟩, h2⟩
theorem TyCs.ints {k : IntKind} {ks : List SK} : ∀ {n : Nat} {xs : List DV}, TyCs (List.replicate n (.int k) ++ ks) xs → ∃ (u : Nat → Int) (ys : List DV), xs = (List.range n).map (fun i => .int k (u i)) ++ ys ∧ TyCs ks ys
 | 0, xs, h => ⟨fun _ => 0, xs, rfl, h⟩
 | n + 1, [], h => h.elim
 | n + 1, x :: xs, h => by
  obtain ⟨⟨m, rfl⟩, h2⟩ := (show TyC (.int k) x ∧ TyCs (List.replicate n (.int k) ++ ks) xs from h)
  obtain ⟨u, ys, h3, h4⟩ := TyCs.ints h2
  refine ⟨fun i => if i = 0 then m else u (i - 1), ys, ?_, h4⟩
  rw [h3, List.range_succ_eq_map, List.map_cons, List.map_map]
  rfl
end Go.Dv
end
section
namespace Go.Pv
variable [Glob]
def inRow (P : Program) : List Field → Nat → Nat → Bool
 | [], off, top => Nat.beq off top
 | f :: r, off, top => Nat.beq f.offset off && inRow P r (off + P.cellsOf f.type) top
def fot (P : Program) : Nat → TypeId → Bool
 | 0, _ => false
 | n + 1, t =>
  match P.underlying t with
  | some .bool | some (.int _) | some .string => true
  | some (.slice e) => Nat.ble 1 (P.cellsOf e) && fot P n e
  | some (.struct fs) => inRow P fs.toList 0 (P.cellsOf t) && fs.toList.all fun f => fot P n f.type
  | some (.array k e) => Nat.beq (k * P.cellsOf e) (P.cellsOf t) && fot P n e
  | _ => false
inductive Rep (P : Program) {H : Type} (h : Heap) : TypeId → List Value → DataW H → Prop where
 | bool (t : TypeId) (b : Bool) (ht : P.underlying t = some .bool) : Rep P h t [.bool b] (.lit (.bool b))
 | int (t : TypeId) (k : IntKind) (n : Int) (ht : P.underlying t = some (.int k)) (hn : (Lit.int k n).wf = true) : Rep P h t [.int k n] (.lit (.int k n))
 | str (t : TypeId) (s : ByteArray) (ht : P.underlying t = some .string) (hs : s.size ≤ maxLen) : Rep P h t [.string s] (.lit (.string s.data.toList))
 | nil (t e : TypeId) (ht : P.underlying t = some (.slice e)) : Rep P h t [.slice none 0 0] .nil
 | slice (t e : TypeId) (id : Nat) (b : Blk) (elems rest : List (DataW H)) (ht : P.underlying t = some (.slice e)) (hb : h[id]? = some b) (hl : b.live = true) (hn : b.cells.length = elems.length * P.cellsOf e) (hm : elems.length ≤ maxLen)
   (he : ∀ (i : Nat) x, elems[i]? = some x → Rep P h e ((b.cells.drop (i * P.cellsOf e)).take (P.cellsOf e)) x) : Rep P h t [.slice (some ⟨id, 0, none⟩) elems.length elems.length] (.slice elems rest)
 | struct (t : TypeId) (fs : Array Field) (cs : List Value) (parts : List (DataW H)) (ht : P.underlying t = some (.struct fs)) (hc : cs.length = P.cellsOf t) (hrow : inRow P fs.toList 0 (P.cellsOf t) = true) (hn : parts.length = fs.size)
   (he : ∀ (i : Nat) (f : Field) x, fs[i]? = some f → parts[i]? = some x → Rep P h f.type ((cs.drop f.offset).take (P.cellsOf f.type)) x) : Rep P h t cs (.agg parts)
 | array (t e : TypeId) (n : Nat) (cs : List Value) (parts : List (DataW H)) (ht : P.underlying t = some (.array n e)) (hc : cs.length = P.cellsOf t) (hk : n * P.cellsOf e = P.cellsOf t) (hn : parts.length = n)
   (he : ∀ (i : Nat) x, parts[i]? = some x → Rep P h e ((cs.drop (i * P.cellsOf e)).take (P.cellsOf e)) x) : Rep P h t cs (.agg parts)
theorem Rep.mono {P : Program} {H : Type} {h : Heap} (l : Heap) {t : TypeId} {cs : List Value} {d : DataW H} (r : Rep P h t cs d) : Rep P (h ++ l) t cs d := by
 induction r with
 | bool t b ht => exact .bool t b ht
 | int t k n ht hn => exact .int t k n ht hn
 | str t s ht hs => exact .str t s ht hs
 | nil t e ht => exact .nil t e ht
 | slice t e id b elems rest ht hb hl hn hm _ ih => exact .slice t e id b elems rest ht (by rw [List.getElem?_append_left (get_lt hb)]; exact hb) hl hn hm ih
 | struct t fs cs parts ht hc hrow hn _ ih => exact .struct t fs cs parts ht hc hrow hn ih
 | array t e n cs parts ht hc hk hn _ ih => exact .array t e n cs parts ht hc hk hn ih
theorem HRel.view {P : Program} {ρ : Rho} {h : Heap} {w : World} (hr : HRel P ρ h w) (hro : ∀ b ∈ h, b.ro = true ∧ b.obj = none) {g base : Nat} {cs : Array Value} {e : TypeId} {fr : Nat × Nat} (hg : w.heap[g]? = some (.cells cs e fr)) {c : List Value} (hk : CellOK ρ cs base c) (el : TypeId) :
  HRel P (ρ ++ [some ⟨g, base, cs.size, none⟩]) (h ++ [⟨c, el, false, true, true, none⟩]) w := by
 have hle : ρ.le (ρ ++ [some ⟨g, base, cs.size, none⟩]) := Rho.le.snoc ρ _
 have hold : ∀ id b rb, (h ++ [(⟨c, el, false, true, true, none⟩ : Blk)])[id]? = some b → (ρ ++ [some ⟨g, base, cs.size, none⟩] : Rho).at id rb → (h[id]? = some b ∧ ρ.at id rb) ∨ (id = h.length ∧ b = ⟨c, el, false, true, true, none⟩ ∧ rb = ⟨g, base, cs.size, none⟩) := by
  intro id b rb hb hat
  rcases get_snoc hb with ⟨hlt, hb⟩ | ⟨rfl, rfl⟩
  ·exact .inl ⟨hb, Rho.at_snoc hat (by rw [hr.len]; omega)⟩
  ·rw [← hr.len] at hat
   exact .inr ⟨rfl, rfl, Rho.at_new hat⟩
 refine ⟨by simp [hr.len], ?_, ?_, hr.o.push hr.len rfl _ rfl⟩
 ·intro id b rb hb hat hl
  rcases hold id b rb hb hat with ⟨hb, hat⟩ | ⟨rfl, rfl, rfl⟩
  ·exact (hr.blk id b rb hb hat hl).same hle rfl
  ·exact ⟨cs, e, fr, hg, rfl, hk.mono hle, fun hh => (by cases hh), fun _ => rfl⟩
 ·intro i j bi bj ri rj hij hi hj hri hrj hli hlj hf
  have : bi.ro = true := by
   rcases List.mem_append.1 (List.mem_of_getElem? hi) with hm | hm
   ·exact (hro bi hm).1
   ·simp at hm; rw [hm]
  rw [this] at hf
  cases hf
theorem mapM_some {α β : Type} {f : α → Option β} : ∀ {l : List α} {ys : List β}, l.mapM f = some ys → ys.length = l.length ∧ ∀ (i : Nat) x y, l[i]? = some x → ys[i]? = some y → f x = some y
 | [], ys, h => by
  simp at h
  subst h
  exact ⟨rfl, fun i x y h => by simp at h⟩
 | a :: l, ys, h => by
  rw [List.mapM_cons] at h
  cases hf : f a with
  | none => rw [hf] at h; cases h
  | some b =>
   rw [hf] at h
   cases hm : l.mapM f with
   | none => rw [hm] at h; cases h
   | some zs =>
    rw [hm] at h
    cases h
    obtain ⟨h1, h2⟩ := mapM_some hm
    refine ⟨by simp [h1], fun i x y hx hy => ?_⟩
    cases i with
    | zero =>
     simp at hx hy
     rw [← hx, ← hy]; exact hf
    | succ i => exact h2 i x y (by simpa using hx) (by simpa using hy)
structure Opened (P : Program) {H : Type} (w : World) (ρ : Rho) (h : Heap) (t : TypeId) (cs : List Value) (d : DataW H) (ρ' : Rho) (h' : Heap) (xs : List Value) : Prop where
 ext : ρ.ext ρ'
 hext : ∃ l, h' = h ++ l
 ro : ∀ b ∈ h', b.ro = true ∧ b.obj = none
 hr : HRel P ρ' h' w
 vs : VRs ρ' xs cs
 one : ∀ x ∈ xs, x.oneCell' = true
 rep : Rep P h' t xs d
theorem open_list {P : Program} {H : Type} {w : World} : ∀ (l : List (TypeId × List Value × DataW H)), (∀ x ∈ l, ∀ ρ h, HRel P ρ h w → (∀ b ∈ h, b.ro = true ∧ b.obj = none) → ∃ ρ' h' xs, Opened P w ρ h x.1 x.2.1 x.2.2 ρ' h' xs) →
  ∀ ρ h, HRel P ρ h w → (∀ b ∈ h, b.ro = true ∧ b.obj = none) → ∃ (ρ' : Rho) (h' : Heap) (xss : List (List Value)), ρ.ext ρ' ∧ (∃ l, h' = h ++ l) ∧ (∀ b ∈ h', b.ro = true ∧ b.obj = none) ∧ HRel P ρ' h' w ∧ xss.length = l.length ∧
   ∀ (i : Nat) x, l[i]? = some x → ∃ xs, xss[i]? = some xs ∧ VRs ρ' xs x.2.1 ∧ (∀ y ∈ xs, y.oneCell' = true) ∧ Rep P h' x.1 xs x.2.2
 | [], _, ρ, h, hr, hro => ⟨ρ, h, [], .refl ρ, ⟨[], by simp⟩, hro, hr, rfl, fun i x hx => by simp at hx⟩
 | a :: l, hall, ρ, h, hr, hro => by
  obtain ⟨ρ1, h1, xs1, o1⟩ := hall a (.head _) ρ h hr hro
  obtain ⟨ρ2, h2, xss, he, ⟨l2, hl2⟩, hro2, hr2, hlen, hi⟩ := open_list l (fun x hx => hall x (.tail _ hx)) ρ1 h1 o1.hr o1.ro
  obtain ⟨l1, hl1⟩ := o1.hext
  refine ⟨ρ2, h2, xs1 :: xss, o1.ext.trans he, ⟨l1 ++ l2, by rw [hl2, hl1, List.append_assoc]⟩, hro2, hr2, by simp [hlen], fun i x hx => ?_⟩
  cases i with
  | zero =>
   simp at hx
   subst hx
   exact ⟨xs1, rfl, o1.vs.mono he.le, o1.one, hl2 ▸ o1.rep.mono l2⟩
  | succ i =>
   obtain ⟨xs, h3, h4⟩ := hi i x (by simpa using hx)
   exact ⟨xs, by simpa using h3, h4⟩
theorem parts_vrs {ρ : Rho} : ∀ (xss : List (List Value)) (szs : List Nat) (cs : List Value), xss.length = szs.length → (∀ (i : Nat) xs sz, xss[i]? = some xs → szs[i]? = some sz → VRs ρ xs ((cs.drop (szs.take i).sum).take sz)) → szs.sum = cs.length → VRs ρ xss.flatten cs
 | [], szs, cs, hl, _, hs => by
  have : szs = [] := List.eq_nil_of_length_eq_zero hl.symm
  subst this
  have : cs = [] := List.eq_nil_of_length_eq_zero hs.symm
  subst this
  exact .nil
 | xs :: xss, [], cs, hl, _, _ => by simp at hl
 | xs :: xss, sz :: szs, cs, hl, h, hs => by
  have h0 := h 0 xs sz rfl rfl
  simp at h0
  have hrest := parts_vrs xss szs (cs.drop sz) (by simpa using hl) (fun i ys z h1 h2 => by
   have := h (i + 1) ys z (by simpa using h1) (by simpa using h2)
   simp only [List.take_succ_cons, List.sum_cons] at this
   rwa [List.drop_drop]) (by simp at hs ⊢; omega)
  have : cs = cs.take sz ++ cs.drop sz := (List.take_append_drop sz cs).symm
  rw [this, List.flatten_cons]
  exact h0.append hrest
theorem parts_get : ∀ (xss : List (List Value)) (szs : List Nat), xss.length = szs.length → (∀ (i : Nat) xs sz, xss[i]? = some xs → szs[i]? = some sz → xs.length = sz) → ∀ (i : Nat) xs sz, xss[i]? = some xs → szs[i]? = some sz → (xss.flatten.drop (szs.take i).sum).take sz = xs
 | [], szs, hl, _, i, xs, sz, h, _ => by simp at h
 | ys :: xss, [], hl, _, i, xs, sz, _, _ => by simp at hl
 | ys :: xss, z :: szs, hl, hlen, 0, xs, sz, h, h' => by
  simp at h h'
  subst h; subst h'
  have := hlen 0 ys z rfl rfl
  simp [← this]
 | ys :: xss, z :: szs, hl, hlen, i + 1, xs, sz, h, h' => by
  have h0 := hlen 0 ys z rfl rfl
  have := parts_get xss szs (by simpa using hl) (fun j a b h1 h2 => hlen (j + 1) a b (by simpa using h1) (by simpa using h2)) i xs sz (by simpa using h) (by simpa using h')
  simp only [List.take_succ_cons, List.sum_cons, List.flatten_cons]
  rw [List.drop_append, h0]
  have e : z + (szs.take i).sum - z = (szs.take i).sum := by omega
  rw [e, List.drop_of_length_le (by rw [h0]; omega), List.nil_append]
  exact this
theorem inRow_off {P : Program} : ∀ (fs : List Field) (off top : Nat), inRow P fs off top = true → (∀ (i : Nat) f, fs[i]? = some f → f.offset = off + ((fs.map fun f => P.cellsOf f.type).take i).sum) ∧ off + (fs.map fun f => P.cellsOf f.type).sum = top
 | [], off, top, h => ⟨fun i f hf => by simp at hf, by simpa using Nat.eq_of_beq_eq_true h⟩
 | f :: r, off, top, h => by
  simp only [inRow, Bool.and_eq_true] at h
  have h1 := Nat.eq_of_beq_eq_true h.1
  obtain ⟨h2, h3⟩ := inRow_off r _ _ h.2
  refine ⟨fun i g hg => ?_, by simp; omega⟩
  cases i with
  | zero => simp at hg; subst hg; simpa using h1
  | succ i =>
   have := h2 i g (by simpa using hg)
   simp only [List.map_cons, List.take_succ_cons, List.sum_cons]
   omega
theorem take_sum_le : ∀ (szs : List Nat) (i sz : Nat), szs[i]? = some sz → (szs.take i).sum + sz ≤ szs.sum
 | [], i, sz, h => by simp at h
 | z :: szs, 0, sz, h => by simp at h; subst h; simp
 | z :: szs, i + 1, sz, h => by
  have := take_sum_le szs i sz (by simpa using h)
  simp only [List.take_succ_cons, List.sum_cons]
  omega
theorem take_rep_sum (n sz i : Nat) (hi : i ≤ n) : ((List.replicate n sz).take i).sum = i * sz := by
 rw [List.take_replicate, Nat.min_eq_left hi, List.sum_replicate_nat]
theorem flat_get {Pr : Nat → Value → Prop} {sz : Nat} : ∀ (css : List (List Value)) (k : Nat), (∀ (i : Nat) c, css[i]? = some c → c.length = sz ∧ ∀ (r : Nat) v, c[r]? = some v → Pr ((k + i) * sz + r) v) → ∀ (j : Nat) v, css.flatten[j]? = some v → Pr (k * sz + j) v
 | [], k, _, j, v, h => by simp at h
 | c :: css, k, hall, j, v, h => by
  obtain ⟨hl, h0⟩ := hall 0 c rfl
  rw [List.flatten_cons] at h
  by_cases hj : j < sz
  ·rw [List.getElem?_append_left (by omega)] at h
   simpa using h0 j v h
  ·rw [List.getElem?_append_right (by omega), hl] at h
   have := flat_get css (k + 1) (fun i c' hc' => by
    obtain ⟨h1, h2⟩ := hall (i + 1) c' (by simpa using hc')
    exact ⟨h1, fun r u hu => by rw [show k + 1 + i = k + (i + 1) by omega]; exact h2 r u hu⟩) (j - sz) v h
   rw [show (k + 1) * sz + (j - sz) = k * sz + j by rw [Nat.add_mul]; omega] at this
   exact this
theorem cells_some {w : World} {a : Addr} {n : Nat} {cs : List Value} (h : w.cells? 0 a n = some cs) : cs.length = n ∧ ∀ (r : Nat) v, cs[r]? = some v → w.cell? (a.add r) = some v := by
 unfold World.cells? at h
 rw [if_pos (Nat.zero_le _)] at h
 obtain ⟨h1, h2⟩ := mapM_some h
 refine ⟨by simpa using h1, fun r v hv => h2 r r v ?_ hv⟩
 have := get_lt hv
 rw [h1, List.length_range] at this
 rw [List.getElem?_range this]
theorem cell_some {w : World} {a : Addr} {v : Value} (h : w.cell? a = some v) : a.spot = none ∧ ∃ cur e fr, w.heap[a.block]? = some (.cells cur e fr) ∧ cur[a.off]? = some v := by
 unfold World.cell? at h
 split at h
 ·rename_i c e fr hc
  cases hs : a.spot with
  | none => rw [hs] at h; exact ⟨rfl, c, e, fr, hc, by simpa using h⟩
  | some _ => rw [hs] at h; simp at h
 ·cases h
theorem open_fam {P : Program} {H : Type} {w : World} (n : Nat) (T : Nat → TypeId) (Cs : Nat → List Value) (Ds : Nat → DataW H) (hall : ∀ i, i < n → ∀ ρ h, HRel P ρ h w → (∀ b ∈ h, b.ro = true ∧ b.obj = none) → ∃ ρ' h' xs, Opened P w ρ h (T i) (Cs i) (Ds i) ρ' h' xs) (ρ : Rho) (h : Heap) (hr : HRel P ρ h w) (hro : ∀ b ∈ h, b.ro = true ∧ b.obj = none) :
  ∃ (ρ' : Rho) (h' : Heap) (xss : List (List Value)), ρ.ext ρ' ∧ (∃ l, h' = h ++ l) ∧ (∀ b ∈ h', b.ro = true ∧ b.obj = none) ∧ HRel P ρ' h' w ∧ xss.length = n ∧
   ∀ (i : Nat) xs, xss[i]? = some xs → VRs ρ' xs (Cs i) ∧ (∀ y ∈ xs, y.oneCell' = true) ∧ Rep P h' (T i) xs (Ds i) := by
 obtain ⟨ρ', h', xss, h1, h2, h3, h4, h5, h6⟩ := open_list ((List.range n).map fun i => (T i, Cs i, Ds i)) (fun x hx => by
  obtain ⟨i, hi, rfl⟩ := List.mem_map.1 hx
  exact hall i (List.mem_range.1 hi)) ρ h hr hro
 refine ⟨ρ', h', xss, h1, h2, h3, h4, by simpa using h5, fun i xs hxs => ?_⟩
 have hi : i < n := by
  have := get_lt hxs
  rw [h5] at this
  simpa using this
 obtain ⟨xs', h7, h8⟩ := h6 i (T i, Cs i, Ds i) (by rw [List.getElem?_map, List.getElem?_range hi]; rfl)
 rw [hxs] at h7
 cases h7
 exact h8
theorem open_row {P : Program} {H : Type} {w : World} (szs : List Nat) (T : Nat → TypeId) (cs : List Value) (Ds : Nat → DataW H) (hc : szs.sum = cs.length)
  (hall : ∀ i sz, szs[i]? = some sz → ∀ ρ h, HRel P ρ h w → (∀ b ∈ h, b.ro = true ∧ b.obj = none) → ∃ ρ' h' xs, Opened P w ρ h (T i) ((cs.drop (szs.take i).sum).take sz) (Ds i) ρ' h' xs) (ρ : Rho) (h : Heap) (hr : HRel P ρ h w) (hro : ∀ b ∈ h, b.ro = true ∧ b.obj = none) :
  ∃ (ρ' : Rho) (h' : Heap) (xs : List Value), ρ.ext ρ' ∧ (∃ l, h' = h ++ l) ∧ (∀ b ∈ h', b.ro = true ∧ b.obj = none) ∧ HRel P ρ' h' w ∧ VRs ρ' xs cs ∧ (∀ x ∈ xs, x.oneCell' = true) ∧
   ∀ i sz, szs[i]? = some sz → Rep P h' (T i) ((xs.drop (szs.take i).sum).take sz) (Ds i) := by
 have hget : ∀ i, i < szs.length → szs[i]? = some (szs.getD i 0) := fun i hi => by
  rw [List.getD_eq_getElem?_getD, List.getElem?_eq_getElem hi]; rfl
 obtain ⟨ρ', h', xss, h1, h2, h3, h4, h5, h6⟩ := open_fam szs.length T (fun i => (cs.drop (szs.take i).sum).take (szs.getD i 0)) Ds (fun i hi => hall i _ (hget i hi)) ρ h hr hro
 have hlen : ∀ (i : Nat) xs sz, xss[i]? = some xs → szs[i]? = some sz → xs.length = sz := by
  intro i xs sz hx hs
  have hl := (h6 i xs hx).1.length
  rw [List.getD_eq_getElem?_getD, hs] at hl
  rw [hl]
  have := take_sum_le szs i sz hs
  simp
  omega
 refine ⟨ρ', h', xss.flatten, h1, h2, h3, h4, parts_vrs xss szs cs h5 (fun i xs sz hx hs => ?_) hc, fun x hx => ?_, fun i sz hs => ?_⟩
 ·have := (h6 i xs hx).1
  rw [List.getD_eq_getElem?_getD, hs] at this
  exact this
 ·obtain ⟨xs, hm, hx⟩ := List.mem_flatten.1 hx
  obtain ⟨i, hi⟩ := List.getElem?_of_mem hm
  exact (h6 i xs hi).2.1 x hx
 ·have hi := get_lt hs
  have hx : xss[i]? = some (xss[i]'(by omega)) := List.getElem?_eq_getElem (by omega)
  rw [parts_get xss szs h5 hlen i _ sz hx hs]
  exact (h6 i _ hx).2.2
theorem open_trod {P : Program} {H : Type} {enc : TypeId × Value → H} {w : World} {held : Bool} (hg : ∃ (g : Nat) (cs : Array Value) (e : TypeId) (fr : Nat × Nat), w.heap[g]? = some (.cells cs e fr)) : ∀ (fuel m : Nat) (t : TypeId) (cs : List Value) (d : DataW H) (ps : List MemPlace), fot P m t = true →
  DataW.trod enc P w 0 (fun _ => true) held fuel t cs = some (d, ps) → ∀ ρ h, HRel P ρ h w → (∀ b ∈ h, b.ro = true ∧ b.obj = none) → ∃ ρ' h' xs, Opened P w ρ h t cs d ρ' h' xs := by
 intro fuel
 induction fuel with
 | zero => intro m t cs d ps _ e; cases e
 | succ fuel ih =>
  intro m t cs d ps hm e ρ h hr hro
  cases m with
  | zero => cases hm
  | succ m =>
  have same : ∀ (x : Value), VR ρ x x → x.oneCell' = true → cs = [x] → Rep P h t [x] d → ∃ ρ' h' xs, Opened P w ρ h t cs d ρ' h' xs := fun x hv h1 hc hrep =>
   ⟨ρ, h, [x], .refl ρ, ⟨[], by simp⟩, hro, hr, by rw [hc]; exact .cons _ _ _ _ hv .nil, by simpa using h1, hrep⟩
  simp only [fot] at hm
  split at hm
  ·rename_i hu
   rcases cs with _ | ⟨v, _ | ⟨v2, vs⟩⟩
   ·simp [DataW.trod, hu] at e
   ·cases v <;> simp [DataW.trod, hu] at e
    rename_i b
    obtain ⟨rfl, rfl⟩ := e
    exact same _ (.bool b) rfl rfl (.bool t b hu)
   ·simp [DataW.trod, hu] at e
  ·rename_i k hu
   rcases cs with _ | ⟨v, _ | ⟨v2, vs⟩⟩
   ·simp [DataW.trod, hu] at e
   ·cases v <;> simp [DataW.trod, hu] at e
    rename_i k' n
    obtain ⟨⟨rfl, hwf⟩, rfl, rfl⟩ := e
    exact same _ (.int k' n) rfl rfl (.int t k' n hu hwf)
   ·simp [DataW.trod, hu] at e
  ·rename_i hu
   rcases cs with _ | ⟨v, _ | ⟨v2, vs⟩⟩
   ·simp [DataW.trod, hu] at e
   ·cases v <;> simp [DataW.trod, hu] at e
    rename_i b
    obtain ⟨hs, rfl, rfl⟩ := e
    exact same _ (.string b) rfl rfl (.str t b hu hs)
   ·simp [DataW.trod, hu] at e
  ·rename_i e' hu
   obtain ⟨hsz, hfe⟩ := Bool.and_eq_true_iff.1 hm
   have hsz := Nat.le_of_ble_eq_true hsz
   rcases cs with _ | ⟨v, _ | ⟨v2, vs⟩⟩
   ·simp [DataW.trod, hu] at e
   ·cases v with
    | slice a len cap =>
     cases a with
     | none =>
      cases len with
      | succ _ => simp [DataW.trod, hu] at e
      | zero =>
       cases cap with
       | succ _ => simp [DataW.trod, hu] at e
       | zero =>
        simp [DataW.trod, hu] at e
        obtain ⟨rfl, rfl⟩ := e
        exact same _ .nilSlice rfl rfl (.nil t e' hu)
     | some a =>
      simp only [DataW.trod, hu] at e
      split at e
      ·rename_i hcond
       obtain ⟨_, hlc, hcm⟩ := hcond
       have hcm : cap ≤ 9223372036854775807 := hcm
       obtain ⟨els, hels, e1⟩ := Option.bind_eq_some_iff.1 e
       obtain ⟨rest, hrest, e2⟩ := Option.map_eq_some_iff.1 e1
       obtain ⟨rfl, _⟩ := Prod.mk.inj e2
       obtain ⟨hel, hea⟩ := mapM_some hels
       simp only [List.length_range] at hel
       have part : ∀ i, i < len → ∃ ci y, w.cells? 0 (a.add (i * P.cellsOf e')) (P.cellsOf e') = some ci ∧ els[i]? = some y ∧ DataW.trod enc P w 0 (fun _ => true) held fuel e' ci = some y := by
        intro i hi
        have hy : els[i]? = some (els[i]'(by omega)) := List.getElem?_eq_getElem (by omega)
        have := hea i i _ (List.getElem?_range hi) hy
        obtain ⟨ci, h1, h2⟩ := Option.bind_eq_some_iff.1 this
        exact ⟨ci, _, h1, hy, h2⟩
       cases len with
       | zero =>
        have hnil : els = [] := List.eq_nil_of_length_eq_zero hel
        subst hnil
        -- a block of the machine's to look at
        obtain ⟨g, base, cur, el, fr, hg, hva⟩ : ∃ (g base : Nat) (cur : Array Value) (el : TypeId) (fr : Nat × Nat), w.heap[g]? = some (.cells cur el fr) ∧ VR (ρ ++ [some ⟨g, base, cur.size, none⟩]) (.slice (some ⟨h.length, 0, none⟩) 0 0) (.slice (some a) 0 cap) := by
         cases cap with
         | zero =>
          obtain ⟨g, cur, el, fr, hg⟩ := hg
          have hat := Rho.at_new' ρ ⟨g, 0, cur.size, none⟩
          rw [hr.len] at hat
          exact ⟨g, 0, cur, el, fr, hg, .empty _ _ a _ hat⟩
         | succ k =>
          simp only [if_true] at hrest
          obtain ⟨hrl, hra⟩ := mapM_some hrest
          simp only [List.length_range] at hrl
          have hy : rest[0]? = some (rest[0]'(by omega)) := List.getElem?_eq_getElem (by omega)
          have := hra 0 0 _ (List.getElem?_range (by omega)) hy
          obtain ⟨c0, hc0, _⟩ := Option.bind_eq_some_iff.1 this
          obtain ⟨hl0, hcell0⟩ := cells_some hc0
          obtain ⟨hsp, cur, el, fr, hcur, _⟩ := cell_some (hcell0 0 (c0[0]'(by omega)) (List.getElem?_eq_getElem _))
          have hsp' : a.spot = none := by simpa [Addr.add] using hsp
          have hblk : w.heap[a.block]? = some (.cells cur el fr) := by simpa [Addr.add] using hcur
          obtain ⟨ab, ao, as⟩ := a
          simp only at hsp' hblk
          subst hsp'
          have hat := Rho.at_new' ρ ⟨ab, ao, cur.size, none⟩
          rw [hr.len] at hat
          have := VR.slice (ρ := ρ ++ [some ⟨ab, ao, cur.size, none⟩]) h.length 0 0 0 (k + 1) _ hat (Nat.le_refl _) hlc hcm (fun _ u hu => by cases hu)
          exact ⟨ab, ao, cur, el, fr, hblk, by simpa using this⟩
        have hv := hr.view hro hg (base := base) (c := []) (fun i x hx => by simp at hx) e'
        refine ⟨_, _, [.slice (some ⟨h.length, 0, none⟩) 0 0], ⟨_, rfl⟩, ⟨_, rfl⟩, fun b hb => ?_, hv, .cons _ _ _ _ hva .nil, by simp [Value.oneCell'], ?_⟩
        ·rcases List.mem_append.1 hb with hb | hb
         ·exact hro b hb
         ·simp at hb; subst hb; exact ⟨rfl, rfl⟩
        ·exact .slice t e' h.length ⟨[], e', false, true, true, none⟩ [] _ hu (by simp) rfl (by simp) (by simp) (fun i x hx => by simp at hx)
       | succ n =>
        obtain ⟨ρ1, h1, xss, hx1, ⟨l1, hl1⟩, hro1, hr1, hlen, hall⟩ := open_fam (n + 1) (fun _ => e') (fun i => (w.cells? 0 (a.add (i * P.cellsOf e')) (P.cellsOf e')).getD []) (fun i => ((els[i]?).map (·.1)).getD .nil) (fun i hi => by
         obtain ⟨ci, y, h1, h2, h3⟩ := part i hi
         obtain ⟨y1, y2⟩ := y
         simp only [h1, h2, Option.getD_some, Option.map_some]
         exact ih m e' ci y1 y2 hfe h3) ρ h hr hro
        obtain ⟨c0, y0, hc0, _, _⟩ := part 0 (by omega)
        obtain ⟨hl0, hcell0⟩ := cells_some hc0
        obtain ⟨hsp, cur, el, fr, hcur, _⟩ := cell_some (hcell0 0 (c0[0]'(by omega)) (List.getElem?_eq_getElem _))
        have hsp' : a.spot = none := by simpa [Addr.add] using hsp
        have hblk : w.heap[a.block]? = some (.cells cur el fr) := by simpa [Addr.add] using hcur
        obtain ⟨ab, ao, as⟩ := a
        simp only at hsp' hblk
        subst hsp'
        have hsize : ∀ (i : Nat) xs, xss[i]? = some xs → xs.length = P.cellsOf e' := by
         intro i xs hxs
         have hi := get_lt hxs
         obtain ⟨ci, y, h2, _, _⟩ := part i (by omega)
         have := (hall i xs hxs).1.length
         simp only [h2, Option.getD_some] at this
         rw [this, (cells_some h2).1]
        have hck : CellOK ρ1 cur ao xss.flatten := by
         intro j x hx
         have := flat_get (Pr := fun j x => x.oneCell' = true ∧ ∃ y, cur[ao + j]? = some y ∧ VR ρ1 x y) (sz := P.cellsOf e') xss 0 (fun i xs hxs => ⟨hsize i xs hxs, fun r v hv => by
          have hi := get_lt hxs
          obtain ⟨ci, y, h2, _, _⟩ := part i (by omega)
          obtain ⟨hvs, h1c, _⟩ := hall i xs hxs
          simp only [h2, Option.getD_some] at hvs
          obtain ⟨u, hu', hvr⟩ := hvs.get hv
          refine ⟨h1c v (List.mem_of_getElem? hv), u, ?_, hvr⟩
          obtain ⟨_, cur2, _, _, hcur2, hat⟩ := cell_some ((cells_some h2).2 r u hu')
          rw [add_mk, add_mk] at hcur2 hat
          rw [hblk] at hcur2
          cases hcur2
          rw [Nat.zero_add, ← Nat.add_assoc]
          exact hat⟩) j x hx
         simpa using this
        have hfl : xss.flatten.length = (n + 1) * P.cellsOf e' := by
         rw [← hlen]
         have key : ∀ (l : List (List Value)), (∀ xs ∈ l, xs.length = P.cellsOf e') → l.flatten.length = l.length * P.cellsOf e' := by
          intro l
          induction l with
          | nil => intro _; simp
          | cons x l ihl =>
           intro hall'
           rw [List.flatten_cons, List.length_append, hall' x (.head _), ihl fun y hy => hall' y (.tail _ hy), List.length_cons, Nat.add_mul]
           omega
         exact key xss fun xs hxs => by
          obtain ⟨i, hi⟩ := List.getElem?_of_mem hxs
          exact hsize i xs hi
        have hv := hr1.view hro1 hblk hck e'
        refine ⟨_, _, [.slice (some ⟨h1.length, 0, none⟩) (n + 1) (n + 1)], hx1.trans ⟨_, rfl⟩, ⟨l1 ++ [_], by rw [hl1, List.append_assoc]⟩, fun b hb => ?_, hv, .cons _ _ _ _ ?_ .nil, by simp [Value.oneCell'], ?_⟩
        ·rcases List.mem_append.1 hb with hb | hb
         ·exact hro1 b hb
         ·simp at hb; subst hb; exact ⟨rfl, rfl⟩
        ·have hat := Rho.at_new' ρ1 ⟨ab, ao, cur.size, none⟩
         rw [hr1.len] at hat
         have := VR.slice (ρ := ρ1 ++ [some ⟨ab, ao, cur.size, none⟩]) h1.length 0 (n + 1) (n + 1) cap _ hat (Nat.le_refl _) hlc hcm (fun _ u hu => by cases hu)
         simpa using this
        ·have := Rep.slice (P := P) (h := h1 ++ [(⟨xss.flatten, e', false, true, true, none⟩ : Blk)]) t e' h1.length ⟨xss.flatten, e', false, true, true, none⟩ (els.map (·.1)) (rest.map (·.1)) hu (by simp) rfl (by simp [hel, hfl]) (by simp [hel]; exact Nat.le_trans hlc hcm) (fun i x hx => ?_)
         ·simpa [hel] using this
         ·rw [List.getElem?_map] at hx
          have hi : i < n + 1 := by
           cases hy : els[i]? with
           | none => rw [hy] at hx; cases hx
           | some y => have := get_lt hy; omega
          have hxi : xss[i]? = some (xss[i]'(by omega)) := List.getElem?_eq_getElem (by omega)
          have h3 := (hall i _ hxi).2.2
          simp only [hx, Option.getD_some] at h3
          have h4 := parts_get xss (List.replicate (n + 1) (P.cellsOf e')) (by simp [hlen]) (fun j ys z h5 h6 => by
           rw [(List.mem_replicate.1 (List.mem_of_getElem? h6)).2]
           exact hsize j ys h5) i _ (P.cellsOf e') hxi (by simp [hi])
          rw [take_rep_sum (n + 1) _ i (by omega)] at h4
          simp only
          rw [h4]
          exact h3.mono _
      ·cases e
    | _ => simp [DataW.trod, hu] at e
   ·simp [DataW.trod, hu] at e
  ·rename_i fs hu
   obtain ⟨hrow, hall⟩ := Bool.and_eq_true_iff.1 hm
   simp only [DataW.trod, hu] at e
   split at e
   ·rename_i hcl
    obtain ⟨ys, hys, e1⟩ := Option.map_eq_some_iff.1 e
    obtain ⟨rfl, _⟩ := Prod.mk.inj e1
    obtain ⟨hyl, hya⟩ := mapM_some hys
    obtain ⟨hoff, htot⟩ := inRow_off fs.toList 0 _ hrow
    have hfi : ∀ (i sz : Nat), (fs.toList.map fun f => P.cellsOf f.type)[i]? = some sz → ∃ f : Field, fs.toList[i]? = some f ∧ sz = P.cellsOf f.type := by
     intro i sz h
     rw [List.getElem?_map] at h
     cases hf : fs.toList[i]? with
     | none => rw [hf] at h; cases h
     | some f => rw [hf] at h; cases h; exact ⟨f, rfl, rfl⟩
    obtain ⟨ρ', h', xs, h1, h2, h3, h4, h5, h6, h7⟩ := open_row (fs.toList.map fun f => P.cellsOf f.type) (fun i => ((fs.toList[i]?).map (·.type)).getD 0) cs (fun i => ((ys[i]?).map (·.1)).getD .nil) (by rw [hcl]; omega) (fun i sz hs ρ h hr hro => by
     obtain ⟨f, hf, rfl⟩ := hfi i sz hs
     have hy : ys[i]? = some (ys[i]'(by rw [hyl]; exact get_lt hf)) := List.getElem?_eq_getElem _
     have := hya i f _ hf hy
     simp only [hf, hy, Option.map_some, Option.getD_some]
     have ho := hoff i f hf
     rw [Nat.zero_add] at ho
     rw [← ho]
     exact ih m f.type _ _ _ (List.all_eq_true.1 hall f (List.mem_of_getElem? hf)) this ρ h hr hro) ρ h hr hro
    refine ⟨ρ', h', xs, h1, h2, h3, h4, h5, h6, .struct t fs xs _ hu (by rw [h5.length, hcl]) hrow (by simp [hyl]) fun i f x hf hx => ?_⟩
    have hf' : fs.toList[i]? = some f := by simpa using hf
    have := h7 i (P.cellsOf f.type) (by rw [List.getElem?_map, hf']; rfl)
    have ho := hoff i f hf'
    rw [Nat.zero_add] at ho
    rw [← ho] at this
    rw [List.getElem?_map] at hx
    simp only [hf', Option.map_some, Option.getD_some, hx] at this
    exact this
   ·cases e
  ·rename_i n e' hu
   obtain ⟨hrow, hall⟩ := Bool.and_eq_true_iff.1 hm
   have hrow := Nat.eq_of_beq_eq_true hrow
   simp only [DataW.trod, hu] at e
   split at e
   ·rename_i hcl
    obtain ⟨ys, hys, e1⟩ := Option.map_eq_some_iff.1 e
    obtain ⟨rfl, _⟩ := Prod.mk.inj e1
    obtain ⟨hyl, hya⟩ := mapM_some hys
    simp only [List.length_range] at hyl
    have hrep : ∀ (i sz : Nat), (List.replicate n (P.cellsOf e'))[i]? = some sz → i < n ∧ sz = P.cellsOf e' := by
     intro i sz h
     have h1 := get_lt h
     have h2 := (List.mem_replicate.1 (List.mem_of_getElem? h)).2
     exact ⟨by simpa using h1, h2⟩
    obtain ⟨ρ', h', xs, h1, h2, h3, h4, h5, h6, h7⟩ := open_row (List.replicate n (P.cellsOf e')) (fun _ => e') cs (fun i => ((ys[i]?).map (·.1)).getD .nil) (by rw [hcl, List.sum_replicate_nat, hrow]) (fun i sz hs ρ h hr hro => by
     obtain ⟨hi, rfl⟩ := hrep i sz hs
     have hy : ys[i]? = some (ys[i]'(by omega)) := List.getElem?_eq_getElem _
     have := hya i i _ (List.getElem?_range hi) hy
     simp only [hy, Option.map_some, Option.getD_some]
     rw [take_rep_sum n _ i (by omega)]
     exact ih m e' _ _ _ hall this ρ h hr hro) ρ h hr hro
    refine ⟨ρ', h', xs, h1, h2, h3, h4, h5, h6, .array t e' n xs _ hu (by rw [h5.length, hcl]) hrow (by simp [hyl]) fun i x hx => ?_⟩
    have hi : i < n := by have := get_lt hx; simp [hyl] at this; exact this
    have := h7 i (P.cellsOf e') (by simp [hi])
    rw [take_rep_sum n _ i (by omega)] at this
    rw [List.getElem?_map] at hx
    simp only [hx, Option.getD_some] at this
    exact this
   ·cases e
  ·cases hm
end Go.Pv
end
section
namespace Go.Pv
variable [Glob]
section
variable {P : Program} {H : Type} {enc : TypeId × Value → H} {w : World}
theorem fot_form {m : Nat} {t : TypeId} {v : Value} {r : Reach} {base : Nat} (hm : fot P m t = true) (hok : Value.okWide P w r base t v) : (∃ cs, v = .agg cs) ∨ (v.oneCell' = true ∧ v.cells = #[v]) := by
 cases m with
 | zero => cases hm
 | succ m =>
  simp only [fot] at hm
  unfold Value.okWide at hok
  split at hm
  ·rename_i hu
   rw [hu] at hok
   simp only [Cell.okWide, hu, Cell.ok] at hok
   cases v <;> simp at hok
   exact .inr ⟨rfl, rfl⟩
  ·rename_i k hu
   rw [hu] at hok
   simp only [Cell.okWide, hu, Cell.ok] at hok
   cases v <;> simp at hok
   exact .inr ⟨rfl, rfl⟩
  ·rename_i hu
   rw [hu] at hok
   simp only [Cell.okWide, hu, Cell.ok] at hok
   cases v <;> simp at hok
   exact .inr ⟨rfl, rfl⟩
  ·rename_i e' hu
   rw [hu] at hok
   simp only [Cell.okWide, hu, Cell.ok] at hok
   cases v <;> first | (simp at hok; done) | exact .inr ⟨rfl, rfl⟩
  ·rename_i fs hu
   rw [hu] at hok
   obtain ⟨cs, rfl, _⟩ := hok
   exact .inl ⟨cs, rfl⟩
  ·rename_i n e' hu
   rw [hu] at hok
   obtain ⟨cs, rfl, _⟩ := hok
   exact .inl ⟨cs, rfl⟩
  ·cases hm
theorem open_val {held : Bool} (hg : ∃ (g : Nat) (cs : Array Value) (e : TypeId) (fr : Nat × Nat), w.heap[g]? = some (.cells cs e fr)) {m : Nat} {t : TypeId} {v : Value} {d : DataW H} {ps : List MemPlace} {r : Reach} {base : Nat} (hm : fot P m t = true) (hok : Value.okWide P w r base t v)
  (ht : DataW.Trod enc P w 0 (fun _ => true) held t v d ps) (ρ : Rho) (h : Heap) (hr : HRel P ρ h w) (hro : ∀ b ∈ h, b.ro = true ∧ b.obj = none) :
  ∃ ρ' h' x, ρ.ext ρ' ∧ (∃ l, h' = h ++ l) ∧ (∀ b ∈ h', b.ro = true ∧ b.obj = none) ∧ HRel P ρ' h' w ∧ VR ρ' x v ∧ Rep P h' t x.cells.toList d := by
 obtain ⟨fuel, ht⟩ := ht
 obtain ⟨ρ', h', xs, o⟩ := open_trod hg fuel m t _ d ps hm ht ρ h hr hro
 rcases fot_form hm hok with ⟨⟨cs⟩, rfl⟩ | ⟨h1, h2⟩
 ·exact ⟨ρ', h', .agg ⟨xs⟩, o.ext, o.hext, o.ro, o.hr, .agg _ _ o.vs o.one, o.rep⟩
 ·have hvs := o.vs
  rw [h2] at hvs
  have hrep := o.rep
  have hone := o.one
  generalize xs = ys at hvs hrep hone
  cases hvs with
  | cons x _ _ _ hv ht' =>
   cases ht'
   have hx1 : x.oneCell' = true := hone x (.head _)
   have : x.cells = #[x] := by cases x <;> first | rfl | simp [Value.oneCell'] at hx1
   exact ⟨ρ', h', x, o.ext, o.hext, o.ro, o.hr, hv, by rw [this]; exact hrep⟩
theorem open_args {held : Bool} (hg : ∃ (g : Nat) (cs : Array Value) (e : TypeId) (fr : Nat × Nat), w.heap[g]? = some (.cells cs e fr)) {m : Nat} {r : Reach} {base : Nat} : ∀ (ts : List TypeId) (vs : List Value) (ds : List (DataW H)) (ps : List MemPlace), (∀ t ∈ ts, fot P m t = true) → (∀ (j : Nat) t v, ts[j]? = some t → vs[j]? = some v → Value.okWide P w r base t v) →
  DataW.TrodAll enc P w 0 (fun _ => true) held ts vs ds ps → ∀ ρ h, HRel P ρ h w → (∀ b ∈ h, b.ro = true ∧ b.obj = none) →
  ∃ ρ' h' xs, ρ.ext ρ' ∧ (∃ l, h' = h ++ l) ∧ (∀ b ∈ h', b.ro = true ∧ b.obj = none) ∧ HRel P ρ' h' w ∧ VRs ρ' xs vs ∧ ∀ (j : Nat) t d, ts[j]? = some t → ds[j]? = some d → ∃ x, xs[j]? = some x ∧ Rep P h' t x.cells.toList d
 | [], [], [], ps, _, _, _, ρ, h, hr, hro => ⟨ρ, h, [], .refl ρ, ⟨[], by simp⟩, hro, hr, .nil, fun j t d h => by simp at h⟩
 | t :: ts, v :: vs, d :: ds, ps, hf, hok, ht, ρ, h, hr, hro => by
  obtain ⟨p, q, h1, h2, _⟩ := ht
  obtain ⟨ρ1, h1', x, he1, ⟨l1, hl1⟩, hro1, hr1, hv, hrep⟩ := open_val hg (hf t (.head _)) (hok 0 t v rfl rfl) h1 ρ h hr hro
  obtain ⟨ρ2, h2', xs, he2, ⟨l2, hl2⟩, hro2, hr2, hvs, hreps⟩ := open_args hg ts vs ds q (fun t' ht' => hf t' (.tail _ ht')) (fun j t' v' hj hv' => hok (j + 1) t' v' (by simpa using hj) (by simpa using hv')) h2 ρ1 h1' hr1 hro1
  refine ⟨ρ2, h2', x :: xs, he1.trans he2, ⟨l1 ++ l2, by rw [hl2, hl1, List.append_assoc]⟩, hro2, hr2, .cons _ _ _ _ (hv.mono he2.le) hvs, fun j t' d' hj hd => ?_⟩
  cases j with
  | zero =>
   simp at hj hd
   subst hj; subst hd
   exact ⟨x, rfl, by rw [hl2]; exact hrep.mono l2⟩
  | succ j =>
   obtain ⟨x', h3, h4⟩ := hreps j t' d' (by simpa using hj) (by simpa using hd)
   exact ⟨x', by simpa using h3, h4⟩
 | [], _ :: _, _, _, _, _, ht, _, _, _, _ => by cases ht
 | [], [], _ :: _, _, _, _, ht, _, _, _, _ => by cases ht
 | _ :: _, [], _, _, _, _, ht, _, _, _, _ => by cases ht
 | _ :: _, _ :: _, [], _, _, _, ht, _, _, _, _ => by cases ht
theorem HRel.empty : HRel P [] [] w := ⟨rfl, fun id b rb h => by simp at h, fun i j bi bj ri rj _ h => by simp at h, ⟨fun id b rb o h => by simp at h, fun i j bi bj ri rj oi oj _ h => by simp at h⟩⟩
theorem calls_true {T : Tab} (hT : TabOK P T) {n : Nat} {f : FuncId} {fn : Func} (hs : T.spec f = none) (hfn : T.fn f = some fn) {ρ : Rho} {h h' : Heap} {xs ys : List Value} (hg : GOK ρ) (hr : HRel P ρ h w) (hro : ∀ b ∈ h, b.ro = true ∧ b.obj = none) (hv : VRs ρ xs ys) (e : evalCall P T (n + 1) (.fn f) xs h = some (.ret (.bool true), h')) :
  CallsIn (fen none) 0 P f ⟨ys⟩ w fun ex w' => ex = .returned (.bool true) ∧ RowKit.Below w.heap.size w w' := by
 simp only [evalCall, hs, hfn, Option.bind_some] at e
 obtain ⟨_, hc⟩ := evalBody_sound (sound hT n) hT (evalD_ok (sound hT n) hT n) (T.kill f) (hT.fn f fn hs hfn).1 hg hr hv e
 refine hc.mono fun ex w' he => ?_
 cases ex with
 | panicked ch =>
  obtain ⟨y, _, v, ρ', h1, _⟩ := he
  cases h1
 | outgrown => exact he.elim
 | returned y =>
  obtain ⟨v, ρ', h1, l⟩ := he
  cases h1
  have hy := l.v
  simp only at hy
  cases hy
  refine ⟨rfl, ⟨l.f.os, l.f.tape, l.f.output, l.f.size, fun k hk => l.f.block k hk ?_⟩⟩
  rintro ⟨id, bl, rb, h1, _, h4, _⟩
  obtain ⟨h5, h6⟩ := hro bl (List.mem_of_getElem? h1)
  rcases h4 with ⟨_, h4⟩ | h4
  ·rw [h5] at h4; cases h4
  ·rw [h6] at h4; cases h4
end
end Go.Pv
end
section
namespace Go.Dv
open Go.Pv (Blk Heap Rep inRow inRow_off)
section
variable {P : Program} {H : Type}
inductive Tr (P : Program) {H : Type} : TypeId → List DV → DataW H → Prop where
 | bool (t : TypeId) (b : Bool) (ht : P.underlying t = some .bool) : Tr P t [.bool b] (.lit (.bool b))
 | int (t : TypeId) (k : IntKind) (n : Int) (ht : P.underlying t = some (.int k)) (hn : (Lit.int k n).wf = true) : Tr P t [.int k n] (.lit (.int k n))
 | str (t : TypeId) (s : List UInt8) (ht : P.underlying t = some .string) (hs : s.length ≤ maxLen) : Tr P t [.str s] (.lit (.string s))
 | nil (t e : TypeId) (ht : P.underlying t = some (.slice e)) : Tr P t [.fz []] .nil
 | slice (t e : TypeId) (xss : List (List DV)) (elems rest : List (DataW H)) (ht : P.underlying t = some (.slice e)) (hn : xss.length = elems.length) (hm : elems.length ≤ maxLen)
   (hl : ∀ (i : Nat) x, xss[i]? = some x → x.length = P.cellsOf e) (he : ∀ (i : Nat) x d, xss[i]? = some x → elems[i]? = some d → Tr P e x d) : Tr P t [.fz xss] (.slice elems rest)
 | struct (t : TypeId) (fs : Array Field) (xs : List DV) (parts : List (DataW H)) (ht : P.underlying t = some (.struct fs)) (hc : xs.length = P.cellsOf t) (hrow : inRow P fs.toList 0 (P.cellsOf t) = true) (hn : parts.length = fs.size)
   (he : ∀ (i : Nat) (f : Field) d, fs[i]? = some f → parts[i]? = some d → Tr P f.type ((xs.drop f.offset).take (P.cellsOf f.type)) d) : Tr P t xs (.agg parts)
 | array (t e : TypeId) (n : Nat) (xs : List DV) (parts : List (DataW H)) (ht : P.underlying t = some (.array n e)) (hc : xs.length = P.cellsOf t) (hk : n * P.cellsOf e = P.cellsOf t) (hn : parts.length = n)
   (he : ∀ (i : Nat) d, parts[i]? = some d → Tr P e ((xs.drop (i * P.cellsOf e)).take (P.cellsOf e)) d) : Tr P t xs (.agg parts)
theorem pick_list {α : Type} {Q : Nat → α → Prop} : ∀ n, (∀ i, i < n → ∃ x, Q i x) → ∃ l : List α, l.length = n ∧ ∀ (i : Nat) x, l[i]? = some x → Q i x
 | 0, _ => ⟨[], rfl, fun i x h => by simp at h⟩
 | n + 1, h => by
  obtain ⟨l, hl, hq⟩ := pick_list n fun i hi => h i (by omega)
  obtain ⟨x, hx⟩ := h n (by omega)
  refine ⟨l ++ [x], by simp [hl], fun i y hy => ?_⟩
  by_cases hi : i < n
  ·rw [List.getElem?_append_left (by omega)] at hy
   exact hq i y hy
  ·rw [List.getElem?_append_right (by omega), hl] at hy
   have : i - n = 0 := by
    cases hh : i - n with
    | zero => rfl
    | succ m => rw [hh] at hy; simp at hy
   rw [this] at hy
   simp at hy
   subst hy
   rw [show i = n by omega]
   exact hx
end
section
variable [Pv.Glob] {P : Program} {H : Type} {F : Fz}
theorem parts_vds : ∀ (xss : List (List DV)) (szs : List Nat) (cs : List Value), xss.length = szs.length → (∀ (i : Nat) xs sz, xss[i]? = some xs → szs[i]? = some sz → VDs F [] xs ((cs.drop (szs.take i).sum).take sz)) → szs.sum = cs.length → VDs F [] xss.flatten cs
 | [], szs, cs, hl, _, hs => by
  have : szs = [] := List.eq_nil_of_length_eq_zero hl.symm
  subst this
  have : cs = [] := List.eq_nil_of_length_eq_zero hs.symm
  subst this
  exact .nil _
 | xs :: xss, [], cs, hl, _, _ => by simp at hl
 | xs :: xss, sz :: szs, cs, hl, h, hs => by
  have h0 := h 0 xs sz rfl rfl
  simp at h0
  have hrest := parts_vds xss szs (cs.drop sz) (by simpa using hl) (fun i ys z h1 h2 => by
   have := h (i + 1) ys z (by simpa using h1) (by simpa using h2)
   simp only [List.take_succ_cons, List.sum_cons] at this
   rwa [List.drop_drop]) (by simp at hs ⊢; omega)
  have : cs = cs.take sz ++ cs.drop sz := (List.take_append_drop sz cs).symm
  rw [this, List.flatten_cons]
  exact h0.append hrest
theorem parts_getD (xss : List (List DV)) (szs : List Nat) (hl : xss.length = szs.length) (h : ∀ (i : Nat) xs sz, xss[i]? = some xs → szs[i]? = some sz → xs.length = sz) : ∀ (i : Nat) xs sz, xss[i]? = some xs → szs[i]? = some sz → (xss.flatten.drop (szs.take i).sum).take sz = xs := by
 induction xss generalizing szs with
 | nil => intro i xs sz hx; simp at hx
 | cons ys xss ih =>
  intro i xs sz hx hs
  cases szs with
  | nil => simp at hl
  | cons z szs =>
   have h0 := h 0 ys z rfl rfl
   cases i with
   | zero =>
    simp at hx hs
    subst hx; subst hs
    simp [← h0]
   | succ i =>
    have := ih szs (by simpa using hl) (fun j a b h1 h2 => h (j + 1) a b (by simpa using h1) (by simpa using h2)) i xs sz (by simpa using hx) (by simpa using hs)
    simp only [List.take_succ_cons, List.sum_cons, List.flatten_cons]
    rw [List.drop_append, h0]
    have e : z + (szs.take i).sum - z = (szs.take i).sum := by omega
    rw [e, List.drop_of_length_le (by rw [h0]; omega), List.nil_append]
    exact this
theorem Rep.tree {h : Heap} (hF : ∀ (j : Nat) (b : Blk), h[j]? = some b → b.live = true → F j = some (b.row, b.cells)) {t : TypeId} {cs : List Value} {d : DataW H} (r : Rep P h t cs d) : ∃ xs, VDs F [] xs cs ∧ Tr P t xs d := by
 induction r with
 | bool t b ht => exact ⟨[.bool b], .cons _ _ _ _ _ (.bool _ _) (.nil _), .bool t b ht⟩
 | int t k n ht hn => exact ⟨[.int k n], .cons _ _ _ _ _ (.int _ _ _) (.nil _), .int t k n ht hn⟩
 | str t s ht hs => exact ⟨[.str s.data.toList], .cons _ _ _ _ _ (.str _ _) (.nil _), .str t _ ht (by simpa using hs)⟩
 | nil t e ht => exact ⟨[.fz []], .cons _ _ _ _ _ (.fzNil _) (.nil _), .nil t e ht⟩
 | slice t e id b elems rest ht hb hl hn hm _ ih =>
  obtain ⟨xss, hx, hq⟩ := pick_list (Q := fun i xs => VDs F [] xs ((b.cells.drop (i * P.cellsOf e)).take (P.cellsOf e)) ∧ ∀ d, elems[i]? = some d → Tr P e xs d) elems.length (fun i hi => by
   obtain ⟨xs, h1, h2⟩ := ih i elems[i] (List.getElem?_eq_getElem hi)
   exact ⟨xs, h1, fun d hd => by rw [List.getElem?_eq_getElem hi] at hd; cases hd; exact h2⟩)
  have hlen : ∀ (i : Nat) x, xss[i]? = some x → x.length = P.cellsOf e := fun i x hxi => by
   have h1 := (hq i x hxi).1.length
   have hi := get_lt hxi
   have hm : (i + 1) * P.cellsOf e ≤ elems.length * P.cellsOf e := Nat.mul_le_mul_right _ (by omega)
   rw [Nat.add_mul] at hm
   rw [h1, List.length_take, List.length_drop, hn]
   omega
  refine ⟨[.fz xss], .cons _ _ _ _ _ ?_ (.nil _), .slice t e xss elems rest ht hx hm hlen fun i x d hxi hd => (hq i x hxi).2 d hd⟩
  have := VD.fz (F := F) [] xss id 0 elems.length (P.cellsOf e) b.row b.cells (hF id b hb hl) hlen (fun i x hxi => by rw [Nat.zero_add]; exact (hq i x hxi).1) (by omega) (by rw [hx]; omega)
  rw [hx] at this
  exact this
 | struct t fs cs parts ht hc hrow hn _ ih =>
  obtain ⟨hoff, htot⟩ := inRow_off fs.toList 0 _ hrow
  obtain ⟨xss, hx, hq⟩ := pick_list (Q := fun i xs => ∀ f : Field, fs[i]? = some f → VDs F [] xs ((cs.drop f.offset).take (P.cellsOf f.type)) ∧ ∀ d, parts[i]? = some d → Tr P f.type xs d) fs.size (fun i hi => by
   have hf : fs[i]? = some fs[i] := by simp [hi]
   have hp : parts[i]? = some (parts[i]'(by omega)) := List.getElem?_eq_getElem (by omega)
   obtain ⟨xs, h1, h2⟩ := ih i fs[i] _ hf hp
   refine ⟨xs, fun f hf' => ?_⟩
   rw [hf] at hf'; cases hf'
   exact ⟨h1, fun d hd => by rw [hp] at hd; cases hd; exact h2⟩)
  have hsz : ∀ (i sz : Nat), (fs.toList.map fun f => P.cellsOf f.type)[i]? = some sz → ∃ f : Field, fs[i]? = some f ∧ sz = P.cellsOf f.type := fun i sz h => by
   rw [List.getElem?_map] at h
   cases hf : fs.toList[i]? with
   | none => rw [hf] at h; cases h
   | some f => rw [hf] at h; cases h; exact ⟨f, by simpa using hf, rfl⟩
  have hv : VDs F [] xss.flatten cs := parts_vds xss (fs.toList.map fun f => P.cellsOf f.type) cs (by simp [hx]) (fun i xs sz hxi hs => by
   obtain ⟨f, hf, rfl⟩ := hsz i sz hs
   have := (hq i xs hxi f hf).1
   rw [hoff i f (by simpa using hf), Nat.zero_add] at this
   exact this) (by omega)
  refine ⟨xss.flatten, hv, .struct t fs _ parts ht (by rw [hv.length, hc]) hrow hn fun i f d hf hd => ?_⟩
  have hi : i < fs.size := by
   rcases Nat.lt_or_ge i fs.size with h | h
   ·exact h
   ·rw [Array.getElem?_eq_none h] at hf; cases hf
  have hxi : xss[i]? = some (xss[i]'(by omega)) := List.getElem?_eq_getElem (by omega)
  have h3 := parts_getD xss (fs.toList.map fun f => P.cellsOf f.type) (by simp [hx]) (fun j ys sz h1 h2 => by
   obtain ⟨g, hg, rfl⟩ := hsz j sz h2
   have h4 := (hq j ys h1 g hg).1.length
   have h5 := hoff j g (by simpa using hg)
   have h6 := Pv.take_sum_le (fs.toList.map fun f => P.cellsOf f.type) j _ h2
   rw [h4, List.length_take, List.length_drop, h5]
   omega) i _ (P.cellsOf f.type) hxi (by rw [List.getElem?_map, show fs.toList[i]? = some f by simpa using hf]; rfl)
  rw [hoff i f (by simpa using hf), Nat.zero_add, h3]
  exact (hq i _ hxi f hf).2 d hd
 | array t e n cs parts ht hc hk hn _ ih =>
  obtain ⟨xss, hx, hq⟩ := pick_list (Q := fun i xs => VDs F [] xs ((cs.drop (i * P.cellsOf e)).take (P.cellsOf e)) ∧ ∀ d, parts[i]? = some d → Tr P e xs d) n (fun i hi => by
   have hp : parts[i]? = some (parts[i]'(by omega)) := List.getElem?_eq_getElem (by omega)
   obtain ⟨xs, h1, h2⟩ := ih i _ hp
   exact ⟨xs, h1, fun d hd => by rw [hp] at hd; cases hd; exact h2⟩)
  have hrep : ∀ (i sz : Nat), (List.replicate n (P.cellsOf e))[i]? = some sz → i < n ∧ sz = P.cellsOf e := fun i sz h => by
   have h1 := get_lt h
   exact ⟨by simpa using h1, (List.mem_replicate.1 (List.mem_of_getElem? h)).2⟩
  have hv : VDs F [] xss.flatten cs := parts_vds xss (List.replicate n (P.cellsOf e)) cs (by simp [hx]) (fun i xs sz hxi hs => by
   obtain ⟨hi, rfl⟩ := hrep i sz hs
   rw [Pv.take_rep_sum n _ i (by omega)]
   exact (hq i xs hxi).1) (by rw [List.sum_replicate_nat]; omega)
  refine ⟨xss.flatten, hv, .array t e n _ parts ht (by rw [hv.length, hc]) hk hn fun i d hd => ?_⟩
  have hi : i < n := by have := get_lt hd; omega
  have hxi : xss[i]? = some (xss[i]'(by omega)) := List.getElem?_eq_getElem (by omega)
  have h3 := parts_getD xss (List.replicate n (P.cellsOf e)) (by simp [hx]) (fun j ys sz h1 h2 => by
   obtain ⟨hj, rfl⟩ := hrep j sz h2
   have h4 := (hq j ys h1).1.length
   have hm : (j + 1) * P.cellsOf e ≤ n * P.cellsOf e := Nat.mul_le_mul_right _ (by omega)
   rw [Nat.add_mul] at hm
   rw [h4, List.length_take, List.length_drop, hc]
   omega) i _ (P.cellsOf e) hxi (by simp [hi])
  rw [Pv.take_rep_sum n _ i (by omega)] at h3
  rw [h3]
  exact (hq i _ hxi).2 d hd
end
section
variable [Pv.Glob] [DGlob] {P : Program}
def allF (h : Heap) : Fz := fun j => h[j]?.bind fun b => bif b.live then some (b.row, b.cells) else none
theorem allF_mem {h : Heap} {j : Nat} {b : Blk} (hb : h[j]? = some b) (hl : b.live = true) : allF h j = some (b.row, b.cells) := by
 simp only [allF, hb, Option.bind_some, hl, cond_true]
theorem allF_fz (h : Heap) : FzInv (allF h) h := fun j row cells e => by
 unfold allF at e
 obtain ⟨b, hb, e1⟩ := Option.bind_eq_some_iff.1 e
 obtain ⟨hl, e2⟩ := Pv.bif_some e1
 cases e2
 exact ⟨b, hb, hl, rfl, rfl⟩
theorem DInv.all (h : Heap) : DInv (allF h) [] [] h := ⟨rfl, fun id db j hd => by simp at hd, fun id db hd => by simp at hd, fun a a' j hj => by simp at hj, allF_fz h⟩
theorem freezeV_bool {d : Nat} {h : DHeap} {x : DV} {b : Bool} {l : List Nat} (e : freezeV d h x = some (.bool b, l)) : x = .bool b := by
 cases d with
 | zero => cases e
 | succ d =>
  unfold freezeV at e
  split at e
  ·cases e
  ·obtain ⟨_, _, e⟩ := Option.bind_eq_some_iff.1 e
   obtain ⟨_, _, e⟩ := Option.bind_eq_some_iff.1 e
   cases e
  ·obtain ⟨_, _, e⟩ := Option.bind_eq_some_iff.1 e
   cases e
  ·obtain ⟨_, _, e⟩ := Option.bind_eq_some_iff.1 e
   cases e
  ·obtain ⟨_, _, e⟩ := Option.bind_eq_some_iff.1 e
   cases e
  ·obtain ⟨_, _, e⟩ := Option.bind_eq_some_iff.1 e
   obtain ⟨_, e⟩ := Pv.bif_some e
   obtain ⟨_, _, e⟩ := Option.bind_eq_some_iff.1 e
   cases e
  ·obtain ⟨_, _, e⟩ := Option.bind_eq_some_iff.1 e
   generalize plainB h _ = c at e
   cases c with
   | true =>
    obtain ⟨_, _, e⟩ := Option.bind_eq_some_iff.1 (show (frozL _).bind _ = _ from e)
    cases e
   | false =>
    obtain ⟨_, _, e⟩ := Option.bind_eq_some_iff.1 (show (freezeWith _ _).bind _ = _ from e)
    cases e
  ·cases e
  ·cases e; rfl
theorem law_calls {w : World} {T : DTab} {T' : Pv.Tab} (hT : Pv.TabOK P T') (hD : TabD T T') {f : FuncId} {fn : Func} (hs : T'.spec f = none) (hfn : T'.fn f = some fn) (hown : T.own f = []) {ρ : Pv.Rho} {h : Heap} {xs ys : List Value} (hg : Pv.GOK ρ) (hgd : GlobD (allF h)) (hr : Pv.HRel P ρ h w) (hro : ∀ b ∈ h, b.ro = true ∧ b.obj = none)
  (hv : Pv.VRs ρ xs ys) {trees : List DV} (ht : VDs (allF h) [] trees xs) {hp : DHeap} (hl : Lx P T f trees (.ret (.bool true), hp)) :
  CallsIn (Pv.fen none) 0 P f ⟨ys⟩ w fun ex w' => ex = .returned (.bool true) ∧ RowKit.Below w.heap.size w w' := by
 obtain ⟨N, hN⟩ := hl
 have h1 := hN (N + 1) (by omega)
 unfold stepL at h1
 obtain ⟨v, dh', F', μ', w', h', h2, h3, _, h5, _⟩ := evalY_sim hD (N + 1) _ _ _ _ _ _ h1 (allF h) [] h (.fn f) xs hgd (DInv.all h) rfl ht
 rw [hown] at h2
 cases v with
 | pan v =>
  obtain ⟨q, _, h6⟩ := Option.bind_eq_some_iff.1 (show (freezeV depth dh' v).bind _ = _ from h2)
  cases h6
 | ret v =>
  obtain ⟨q, h7, h6⟩ := Option.bind_eq_some_iff.1 (show (freezeV depth dh' v).bind _ = _ from h2)
  obtain ⟨q1, q2⟩ := q
  cases h6
  have hvb := freezeV_bool h7
  subst hvb
  cases w' <;> first | exact h5.elim | skip
  rename_i y
  replace h5 : VD F' μ' (.bool true) y := h5
  cases h5
  exact Pv.calls_true hT hs hfn hg hr hro hv h3
end
end Go.Dv
end
section
namespace Go.Dv
open Go.Pv (inRow)
theorem TyCs.append : ∀ {ka kb : List SK} {a b : List DV}, TyCs ka a → TyCs kb b → TyCs (ka ++ kb) (a ++ b)
 | [], _, [], _, _, h => h
 | [], _, _ :: _, _, h, _ => h.elim
 | _ :: _, _, [], _, h, _ => h.elim
 | k :: ka, kb, x :: a, b, h, h' => ⟨h.1, TyCs.append h.2 h'⟩
section
variable {P : Program} {H : Type}
theorem row_kinds {f : TypeId → Option (List SK)} {xs : List DV} {top : Nat} (hx : xs.length = top) : ∀ (fs : List Field) (off : Nat) (ks : List SK), inRow P fs off top = true → skRow f fs = some ks →
  (∀ (i : Nat) (g : Field), fs[i]? = some g → ∀ ks, f g.type = some ks → TyCs ks ((xs.drop g.offset).take (P.cellsOf g.type))) → off ≤ top → TyCs ks (xs.drop off)
 | [], off, ks, hr, hk, _, _ => by
  cases hk
  have : off = top := Nat.eq_of_beq_eq_true hr
  rw [List.drop_eq_nil_of_le (by omega)]
  exact trivial
 | g :: fs, off, ks, hr, hk, hc, ho => by
  simp only [inRow, Bool.and_eq_true] at hr
  have hoff : g.offset = off := Nat.eq_of_beq_eq_true hr.1
  obtain ⟨a, ha, hk⟩ := bnd' hk
  obtain ⟨b, hb, hk⟩ := bnd' hk
  cases hk
  have htop : off + P.cellsOf g.type ≤ top := by
   have key : ∀ (fs : List Field) (o : Nat), inRow P fs o top = true → o ≤ top := by
    intro fs
    induction fs with
    | nil => intro o h; exact Nat.le_of_eq (Nat.eq_of_beq_eq_true h)
    | cons g fs ih =>
     intro o h
     simp only [inRow, Bool.and_eq_true] at h
     have := ih _ h.2
     omega
   exact key fs _ hr.2
  have h1 := hc 0 g rfl a ha
  rw [hoff] at h1
  have h2 := row_kinds hx fs (off + P.cellsOf g.type) b hr.2 hb (fun i g' h => hc (i + 1) g' (by simpa using h)) htop
  rw [← List.drop_drop] at h2
  have := h1.append h2
  rwa [List.take_append_drop] at this
theorem rep_kinds {ks : List SK} {sz : Nat} : ∀ (n : Nat) (xs : List DV), xs.length = n * sz → (∀ i, i < n → TyCs ks ((xs.drop (i * sz)).take sz)) → TyCs (skRep n ks) xs
 | 0, xs, hl, _ => by
  have : xs = [] := List.eq_nil_of_length_eq_zero (by simpa using hl)
  subst this
  exact trivial
 | n + 1, xs, hl, h => by
  have h1 := h 0 (by omega)
  simp only [Nat.zero_mul, List.drop_zero] at h1
  have h2 := rep_kinds (ks := ks) (sz := sz) n (xs.drop sz) (by simp only [List.length_drop, hl, Nat.add_mul]; omega) fun i hi => by
   have := h (i + 1) (by omega)
   rw [List.drop_drop]
   rwa [show sz + i * sz = (i + 1) * sz by rw [Nat.add_mul]; omega]
  have := h1.append h2
  rwa [List.take_append_drop] at this
theorem Tr.kinds : ∀ (n : Nat) {t : TypeId} {xs : List DV} {d : DataW H} {ks : List SK}, Tr P t xs d → skOf P n t = some ks → TyCs ks xs
 | 0, _, _, _, _, _, h => by cases h
 | n + 1, t, xs, d, ks, r, h => by
  cases r with
  | bool t b ht =>
   simp only [skOf, ht] at h
   cases h
   exact ⟨⟨b, rfl⟩, trivial⟩
  | int t k m ht hn =>
   simp only [skOf, ht] at h
   cases h
   exact ⟨⟨m, rfl⟩, trivial⟩
  | str t s ht hs =>
   simp only [skOf, ht] at h
   cases h
   exact ⟨⟨s, rfl⟩, trivial⟩
  | nil t e ht =>
   simp only [skOf, ht] at h
   cases h
   exact ⟨⟨[], rfl⟩, trivial⟩
  | slice t e xss elems rest ht hn hm hl he =>
   simp only [skOf, ht] at h
   cases h
   exact ⟨⟨xss, rfl⟩, trivial⟩
  | struct t fs xs parts ht hc hrow hn he =>
   simp only [skOf, ht] at h
   have := row_kinds hc fs.toList 0 ks hrow h (fun i g hg ks' hk => by
    have hg' : fs[i]? = some g := by simpa using hg
    have hi : i < parts.length := by rw [hn]; exact (Array.getElem?_eq_some_iff.1 hg').1
    exact Tr.kinds n (he i g parts[i] hg' (List.getElem?_eq_getElem hi)) hk) (Nat.zero_le _)
   rwa [List.drop_zero] at this
  | array t e m xs parts ht hc hk hn he =>
   simp only [skOf, ht] at h
   obtain ⟨ks', h1, rfl⟩ := Option.map_eq_some_iff.1 h
   refine rep_kinds (sz := P.cellsOf e) m xs (by rw [hc, hk]) fun i hi => ?_
   exact Tr.kinds n (he i parts[i] (List.getElem?_eq_getElem (by omega))) h1
theorem Tr.field {t : TypeId} {xs : List DV} {d : DataW H} (r : Tr P t xs d) {fs : Array Field} (ht : P.underlying t = some (.struct fs)) {i : Nat} {f : Field} (hf : fs[i]? = some f) : ∃ parts x, d = .agg parts ∧ x ∈ parts ∧ Tr P f.type ((xs.drop f.offset).take (P.cellsOf f.type)) x := by
 cases r with
 | struct t fs' xs parts ht' hc hrow hn he =>
  rw [ht] at ht'
  cases ht'
  have hi : i < parts.length := by rw [hn]; exact (Array.getElem?_eq_some_iff.1 hf).1
  exact ⟨parts, parts[i], rfl, List.getElem_mem hi, he i f _ hf (List.getElem?_eq_getElem hi)⟩
 | bool t b h => rw [ht] at h; cases h
 | int t k n h => rw [ht] at h; cases h
 | str t s h => rw [ht] at h; cases h
 | nil t e h => rw [ht] at h; cases h
 | slice t e xss elems rest h => rw [ht] at h; cases h
 | array t e n xs parts h => rw [ht] at h; cases h
theorem Tr.elems {t e : TypeId} {x : DV} {d : DataW H} (r : Tr P t [x] d) (ht : P.underlying t = some (.slice e)) : (d = .nil ∧ x = .fz []) ∨ ∃ xss elems rest, d = .slice elems rest ∧ x = .fz xss ∧ xss.length = elems.length ∧ ∀ (i : Nat) x d, xss[i]? = some x → elems[i]? = some d → Tr P e x d := by
 generalize hxs : [x] = xs at r
 cases r with
 | struct t fs' xs parts h => rw [ht] at h; cases h
 | bool t b h => rw [ht] at h; cases h
 | int t k n h => rw [ht] at h; cases h
 | str t s h => rw [ht] at h; cases h
 | nil t e h => cases hxs; exact .inl ⟨rfl, rfl⟩
 | slice t e' xss elems rest h hn hm hl he =>
  rw [ht] at h
  cases h
  cases hxs
  exact .inr ⟨xss, elems, rest, rfl, rfl, hn, he⟩
 | array t e n xs parts h => rw [ht] at h; cases h
theorem Tr.toInt {t : TypeId} {k : IntKind} {x : DV} {d : DataW H} (r : Tr P t [x] d) (ht : P.underlying t = some (.int k)) : ∃ n, x = .int k n ∧ (Lit.int k n).wf = true := by
 generalize hxs : [x] = xs at r
 cases r with
 | struct t fs' xs parts h => rw [ht] at h; cases h
 | bool t b h => rw [ht] at h; cases h
 | int t k n h hn => rw [ht] at h; cases h; cases hxs; exact ⟨n, rfl, hn⟩
 | str t s h => rw [ht] at h; cases h
 | nil t e h => rw [ht] at h; cases h
 | slice t e' xss elems rest h => rw [ht] at h; cases h
 | array t e n xs parts h => rw [ht] at h; cases h
theorem Tr.toStr {t : TypeId} {x : DV} {d : DataW H} (r : Tr P t [x] d) (ht : P.underlying t = some .string) : ∃ s, x = .str s ∧ d = .lit (.string s) := by
 generalize hxs : [x] = xs at r
 cases r with
 | struct t fs' xs parts h => rw [ht] at h; cases h
 | bool t b h => rw [ht] at h; cases h
 | int t k n h => rw [ht] at h; cases h
 | str t s h => cases hxs; exact ⟨s, rfl, rfl⟩
 | nil t e h => rw [ht] at h; cases h
 | slice t e' xss elems rest h => rw [ht] at h; cases h
 | array t e n xs parts h => rw [ht] at h; cases h
end
end Go.Dv
end
section
namespace Go.Dv
open Go.Dv.S
structure Bulk (H : Type) where
 B : DataW H → Nat
 len : ∀ es rest, es.length ≤ B (.slice es rest)
 elem : ∀ es rest x, x ∈ es → B x ≤ B (.slice es rest)
 part : ∀ ps x, x ∈ ps → B x ≤ B (.agg ps)
 str : ∀ s, s.length ≤ B (.lit (.string s))
section
variable {P : Program} {H : Type} {K : Bulk H}
theorem Tr.int' {t : TypeId} {k : IntKind} {xs : List DV} {d : DataW H} (r : Tr P t xs d) (ht : P.underlying t = some (.int k)) : ∃ n, xs = [.int k n] ∧ (Lit.int k n).wf = true := by
 cases r with
 | struct t fs' xs parts h => rw [ht] at h; cases h
 | bool t b h => rw [ht] at h; cases h
 | int t k n h hn => rw [ht] at h; cases h; exact ⟨n, rfl, hn⟩
 | str t s h => rw [ht] at h; cases h
 | nil t e h => rw [ht] at h; cases h
 | slice t e' xss elems rest h => rw [ht] at h; cases h
 | array t e n xs parts h => rw [ht] at h; cases h
theorem Tr.str' {t : TypeId} {xs : List DV} {d : DataW H} (r : Tr P t xs d) (ht : P.underlying t = some .string) : ∃ s, xs = [.str s] ∧ s.length ≤ K.B d := by
 cases r with
 | struct t fs' xs parts h => rw [ht] at h; cases h
 | bool t b h => rw [ht] at h; cases h
 | int t k n h => rw [ht] at h; cases h
 | str t s h => exact ⟨s, rfl, K.str s⟩
 | nil t e h => rw [ht] at h; cases h
 | slice t e' xss elems rest h => rw [ht] at h; cases h
 | array t e n xs parts h => rw [ht] at h; cases h
theorem Tr.elems' {t e : TypeId} {xs : List DV} {d : DataW H} (r : Tr P t xs d) (ht : P.underlying t = some (.slice e)) : ∃ xss, xs = [.fz xss] ∧ xss.length ≤ K.B d ∧ ∀ x ∈ xss, ∃ d', Tr P e x d' ∧ K.B d' ≤ K.B d := by
 cases r with
 | struct t fs' xs parts h => rw [ht] at h; cases h
 | bool t b h => rw [ht] at h; cases h
 | int t k n h => rw [ht] at h; cases h
 | str t s h => rw [ht] at h; cases h
 | nil t e h => exact ⟨[], rfl, Nat.zero_le _, fun x hx => by simp at hx⟩
 | slice t e' xss elems rest h hn hm hl he =>
  rw [ht] at h
  cases h
  refine ⟨xss, rfl, by rw [hn]; exact K.len _ _, fun x hx => ?_⟩
  obtain ⟨i, hi, rfl⟩ := List.mem_iff_getElem.1 hx
  exact ⟨elems[i], he i _ _ (List.getElem?_eq_getElem hi) (List.getElem?_eq_getElem (by omega)), K.elem _ _ _ (List.getElem_mem _)⟩
 | array t e n xs parts h => rw [ht] at h; cases h
theorem Tr.field' {t : TypeId} {xs : List DV} {d : DataW H} (r : Tr P t xs d) {fs : Array Field} (ht : P.underlying t = some (.struct fs)) {i : Nat} {f : Field} (hf : fs[i]? = some f) : ∃ d', Tr P f.type ((xs.drop f.offset).take (P.cellsOf f.type)) d' ∧ K.B d' ≤ K.B d := by
 obtain ⟨ps, x, rfl, hx, h⟩ := r.field ht hf
 exact ⟨x, h, K.part _ _ hx⟩
def fieldAt (P : Program) (t : TypeId) (i : Nat) : Option (Nat × TypeId × Nat) := match P.underlying t with
 | some (.struct fs) => fs[i]?.map fun f => (f.offset, f.type, P.cellsOf f.type)
 | _ => none
theorem Tr.at {t : TypeId} {xs : List DV} {d : DataW H} (r : Tr P t xs d) (i off : Nat) (ty : TypeId) (n : Nat) (h : fieldAt P t i = some (off, ty, n)) : ∃ d', Tr P ty ((xs.drop off).take n) d' ∧ K.B d' ≤ K.B d := by
 unfold fieldAt at h
 split at h
 ·rename_i fs ht
  obtain ⟨f, hf, h⟩ := Option.map_eq_some_iff.1 h
  cases h
  exact r.field' ht hf
 ·cases h
theorem byt_of {xss : List (List DV)} (h : ∀ x ∈ xss, ∃ n, x = [.int .u8 n] ∧ (Lit.int .u8 n).wf = true) : ∃ s, xss = byt s ∧ s.length = xss.length := by
 induction xss with
 | nil => exact ⟨[], rfl, rfl⟩
 | cons x l ih =>
  obtain ⟨s, rfl, hs⟩ := ih fun y hy => h y (List.mem_cons_of_mem _ hy)
  obtain ⟨n, rfl, hn⟩ := h x (List.mem_cons_self ..)
  have hx : 0 ≤ n ∧ n ≤ 255 := by simpa [Lit.wf, IntKind.min, IntKind.max, IntKind.signed, IntKind.bits] using hn
  refine ⟨UInt8.ofNat n.toNat :: s, ?_, by simp [hs]⟩
  show _ = [DV.int .u8 (UInt8.ofNat n.toNat).toNat] :: byt s
  rw [UInt8.toNat_ofNat']
  congr 3
  omega
theorem Tr.bytes {t e : TypeId} {xs : List DV} {d : DataW H} (r : Tr P t xs d) (ht : P.underlying t = some (.slice e)) (he : P.underlying e = some (.int .u8)) : ∃ s, xs = [.fz (byt s)] ∧ s.length ≤ K.B d := by
 obtain ⟨xss, rfl, hl, hx⟩ := r.elems' (K := K) ht
 obtain ⟨s, rfl, hs⟩ := byt_of fun x h => let ⟨d', h1, _⟩ := hx x h; h1.int' he
 exact ⟨s, rfl, by omega⟩
theorem Tr.list {α : Type} (g : α → List DV) (ok : α → Prop) {t e : TypeId} {xs : List DV} {d : DataW H} (r : Tr P t xs d) (ht : P.underlying t = some (.slice e)) (he : ∀ x d', Tr P e x d' → K.B d' ≤ K.B d → ∃ a, x = g a ∧ ok a) :
  ∃ l : List α, xs = [.fz (l.map g)] ∧ l.length ≤ K.B d ∧ ∀ a ∈ l, ok a := by
 obtain ⟨xss, rfl, hl, hx⟩ := r.elems' (K := K) ht
 have key : ∀ xss : List (List DV), (∀ x ∈ xss, ∃ a, x = g a ∧ ok a) → ∃ l : List α, xss = l.map g ∧ l.length = xss.length ∧ ∀ a ∈ l, ok a := by
  intro xss
  induction xss with
  | nil => intro _; exact ⟨[], rfl, rfl, fun a h => by simp at h⟩
  | cons x xss ih =>
   intro h
   obtain ⟨l, rfl, h2, h3⟩ := ih fun y hy => h y (List.mem_cons_of_mem _ hy)
   obtain ⟨a, rfl, h4⟩ := h x (List.mem_cons_self ..)
   refine ⟨a :: l, rfl, by simp, fun b hb => ?_⟩
   rcases List.mem_cons.1 hb with rfl | hb
   ·exact h4
   ·exact h3 b hb
 obtain ⟨l, rfl, h2, h3⟩ := key xss fun x h => let ⟨d', h1, h2⟩ := hx x h; he x d' h1 h2
 exact ⟨l, rfl, by omega, h3⟩
end
end Go.Dv
end

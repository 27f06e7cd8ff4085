/- Schemas, plain laws: what a change that can be applied says; a changed table is right again. Conditions: none. | Schemas, plain laws: a changed table is right again, a changed schema valid. Conditions: none. | Schemas, plain laws: renaming and dropping keep a table right; a change keeps a schema valid. Conditions: none. | Schemas, plain laws: names find the same attributes behind a change; a changed table differs. Conditions: none. | Schemas, plain laws: what a change makes of a row. Conditions: none. | Schemas, plain laws: the error of a change, case by case; rows stay; a change back; two changes. Conditions: none. -/
import Derived.Test.YtfifnemnihcijaaGreatDoorKWd
import Derived.Test.YtfifnemnihcijaaGreatDoorKVg
set_option linter.unusedSimpArgs false
set_option linter.unusedVariables false
namespace Go.Proofs.YtfifnemnihcijaaGreatDoor
open Go.RowKit

theorem errOf_zero {s : List Tb} {c : Cg} (h : errOf s c = 0) : formedB c = true ∧ validB s = true ∧ ∃ (i : Nat) (hi : i < s.length), findT s c.table = i ∧ s[i].name = c.table ∧ (c.kind ≠ 1 → 0 ≤ colA s[i].attrs c.attr) ∧ checkE s[i] c (colA s[i].attrs c.attr).toNat = 0 := by
  unfold errOf at h
  cases hf : formedB c with
  | false => rw [hf] at h; simp at h
  | true =>
    cases hv : validB s with
    | false => rw [hf, hv] at h; simp at h
    | true =>
      rw [hf, hv] at h
      simp only [Bool.and_self, if_true] at h
      refine ⟨rfl, rfl, ?_⟩
      rcases idxB_cases (fun t : Tb => decide (t.name = c.table)) s with ⟨e, _⟩ | ⟨i, hi, e, hp, _⟩
      · have e' : findT s c.table = -1 := e
        rw [e', if_pos (by omega)] at h
        cases h
      · have e' : findT s c.table = i := e
        rw [e', if_neg (by omega)] at h
        simp only [Int.toNat_natCast, List.getElem?_eq_getElem hi] at h
        have hp' : s[i].name = c.table := by simpa using hp
        by_cases hc : (decide (c.kind ≠ 1) && decide (colA s[i].attrs c.attr < 0)) = true
        · rw [if_pos hc] at h; cases h
        · rw [if_neg hc] at h
          refine ⟨i, hi, e', hp', fun hk => ?_, h⟩
          simp at hc
          exact hc hk

/-- A table of a valid schema. -/
structure Right (t : Tb) : Prop where
  nm : nameB t.name = true
  l1 : 1 ≤ t.attrs.length
  l12 : t.attrs.length ≤ 12
  k1 : 1 ≤ t.key.length
  at_ : ∀ a ∈ t.attrs, attrB a = true
  names : ∀ x ∈ namesA t.attrs, nameB x = true
  nodup : (namesA t.attrs).Nodup
  key : ∀ j, j < t.key.length → keyAt t.attrs.length t.key j = true
theorem right_iff {t : Tb} : rightB t = true ↔ Right t := by
  unfold rightB
  have e : namesOf t = namesA t.attrs := rfl
  rw [e]
  simp only [Bool.and_eq_true, decide_eq_true_eq, Bool.not_eq_true', List.all_eq_true, keyB, List.mem_range, dupB_iff]
  constructor
  · rintro ⟨⟨⟨⟨⟨h1, ⟨h2, h3⟩, h4⟩, h5⟩, h6⟩, h7⟩, h8⟩
    exact ⟨h1, h2, h3, h4, h5, h6, h7, h8⟩
  · rintro ⟨h1, h2, h3, h4, h5, h6, h7, h8⟩
    exact ⟨⟨⟨⟨⟨h1, ⟨h2, h3⟩, h4⟩, h5⟩, h6⟩, h7⟩, h8⟩
theorem keyAt_iff {n : Nat} {l : List Int} {i : Nat} : keyAt n l i = true ↔ (0 ≤ l.getD i 0 ∧ l.getD i 0 < n) ∧ (i = 0 ∨ l.getD (i - 1) 0 < l.getD i 0) := by
  simp [keyAt]
theorem valid_iff {s : List Tb} : validB s = true ↔ s.length ≤ 20 ∧ ∀ i (hi : i < s.length), Right s[i] ∧ findT s s[i].name = i := by
  unfold validB
  simp only [Bool.and_eq_true, decide_eq_true_eq, List.all_eq_true, List.mem_range]
  constructor
  · rintro ⟨h1, h2⟩
    refine ⟨h1, fun i hi => ?_⟩
    have := h2 i hi
    rw [List.getElem?_eq_getElem hi] at this
    simp only [Bool.and_eq_true, decide_eq_true_eq, right_iff] at this
    exact this
  · rintro ⟨h1, h2⟩
    refine ⟨h1, fun i hi => ?_⟩
    rw [List.getElem?_eq_getElem hi]
    simp only [Bool.and_eq_true, decide_eq_true_eq, right_iff]
    exact h2 i hi
end Go.Proofs.YtfifnemnihcijaaGreatDoor
namespace Go.Proofs.YtfifnemnihcijaaGreatDoor
open Go.RowKit

theorem split_at {α : Type} (l : List α) (a : Nat) (h : a < l.length) : ∃ A B, l = A ++ l[a] :: B ∧ A.length = a := by
  refine ⟨l.take a, l.drop (a + 1), ?_, by simp; omega⟩
  rw [List.getElem_cons_drop, List.take_append_drop]
theorem modify_mid {α : Type} (f : α → α) (x : α) (B : List α) : ∀ A : List α, (A ++ x :: B).modify A.length f = A ++ f x :: B
  | [] => by simp
  | y :: A => by simp [modify_mid f x B A]
theorem erase_mid {α : Type} (x : α) (B : List α) : ∀ A : List α, (A ++ x :: B).eraseIdx A.length = A ++ B
  | [] => by simp
  | y :: A => by simp [erase_mid x B A]
theorem namesA_append (A B : List At) : namesA (A ++ B) = namesA A ++ namesA B := by simp [namesA]
theorem namesA_cons (a : At) (B : List At) : namesA (a :: B) = a.name :: a.was ++ namesA B := by simp [namesA]
theorem colA_new {l : List At} {x : ByteArray} (h : colA l x < 0) : x ∉ namesA l := by
  intro hx
  obtain ⟨a, ha, hh⟩ := mem_namesA.1 hx
  rcases colA_cases l x with ⟨_, hn⟩ | ⟨i, hi, e, _⟩
  · exact hn a ha hh
  · omega
theorem fresh_zero {t : Tb} {c : Cg} (h : freshE t c = 0) : nameB c.name = true ∧ colA t.attrs c.name < 0 := by
  unfold freshE at h
  cases hn : nameB c.name with
  | false => rw [hn] at h; simp at h
  | true =>
    rw [hn] at h
    simp only [if_true] at h
    by_cases hc : 0 ≤ colA t.attrs c.name
    · rw [if_pos hc] at h; cases h
    · exact ⟨rfl, by omega⟩
theorem typed_attr {c : Cg} (h : typedB c = true) (n : ByteArray) (w : List ByteArray) : attrB ⟨n, c.to_, w, c.dflt⟩ = true := h

theorem right_add {t : Tb} {c : Cg} (r : Right t) (hk : c.kind = 1) (h : checkE t c (colA t.attrs c.attr).toNat = 0) : Right (newT t c) := by
  unfold checkE at h
  rw [if_pos hk] at h
  cases ht : typedB c with
  | false => rw [ht] at h; simp at h
  | true =>
    rw [ht] at h
    simp only [if_true] at h
    by_cases hf : freshE t c = 0
    · rw [if_neg (by simpa using hf)] at h
      by_cases h12 : t.attrs.length = 12
      · rw [if_pos h12] at h; cases h
      · obtain ⟨hn, hc⟩ := fresh_zero hf
        have ha : (newT t c).attrs = t.attrs ++ [⟨c.name, c.to_, [], c.dflt⟩] := by simp [newT, newA, hk]
        have hkk : (newT t c).key = t.key := by simp [newT, newK, hk]
        have hnm : namesA (newT t c).attrs = namesA t.attrs ++ [c.name] := by rw [ha, namesA_append]; simp [namesA]
        have hl : (newT t c).attrs.length = t.attrs.length + 1 := by rw [ha]; simp
        have := r.l12
        refine ⟨r.nm, by omega, by omega, by rw [hkk]; exact r.k1, ?_, ?_, ?_, ?_⟩
        · intro a haa
          rw [ha] at haa
          rcases List.mem_append.1 haa with h1 | h1
          · exact r.at_ a h1
          · rw [List.mem_singleton] at h1; subst h1; exact typed_attr ht _ _
        · intro x hx
          rw [hnm] at hx
          rcases List.mem_append.1 hx with h1 | h1
          · exact r.names x h1
          · rw [List.mem_singleton] at h1; subst h1; exact hn
        · rw [hnm, List.nodup_append]
          refine ⟨r.nodup, by simp, ?_⟩
          intro x hx y hy e
          rw [List.mem_singleton] at hy
          subst hy e
          exact colA_new hc hx
        · intro j hj
          rw [hkk] at hj ⊢
          have := keyAt_iff.1 (r.key j hj)
          rw [keyAt_iff, hl]
          exact ⟨⟨this.1.1, by omega⟩, this.2⟩
    · rw [if_pos hf] at h; exact absurd h hf

theorem right_cast {t : Tb} {c : Cg} (r : Right t) (hk : c.kind = 4) (hc : 0 ≤ colA t.attrs c.attr) (h : checkE t c (colA t.attrs c.attr).toNat = 0) : Right (newT t c) := by
  obtain ⟨a, ha⟩ : ∃ a : Nat, colA t.attrs c.attr = a := ⟨_, (Int.toNat_of_nonneg hc).symm⟩
  have hal : a < t.attrs.length := by have := (colA_lt t.attrs c.attr).2; omega
  rw [ha] at h
  simp only [Int.toNat_natCast] at h
  unfold checkE at h
  rw [if_neg (by omega), if_neg (by omega), if_neg (by omega)] at h
  cases ht : typedB c with
  | false => rw [ht] at h; simp at h
  | true =>
    obtain ⟨A, B, hl, hA⟩ := split_at t.attrs a hal
    obtain ⟨x, hx⟩ : ∃ x, x = t.attrs[a] := ⟨_, rfl⟩
    rw [← hx] at hl
    have hat : (newT t c).attrs = A ++ ⟨x.name, c.to_, x.was, c.dflt⟩ :: B := by
      have : (newT t c).attrs = t.attrs.modify a (fun x => ⟨x.name, c.to_, x.was, c.dflt⟩) := by simp [newT, newA, hk, ha]
      rw [this, hl, ← hA, modify_mid]
    have hkk : (newT t c).key = t.key := by simp [newT, newK, hk]
    have hnm : namesA (newT t c).attrs = namesA t.attrs := by rw [hat, hl, namesA_append, namesA_append, namesA_cons, namesA_cons]
    have hlen : (newT t c).attrs.length = t.attrs.length := by rw [hat, hl]; simp
    refine ⟨r.nm, by rw [hlen]; exact r.l1, by rw [hlen]; exact r.l12, by rw [hkk]; exact r.k1, ?_, by rw [hnm]; exact r.names, by rw [hnm]; exact r.nodup, by rw [hkk, hlen]; exact r.key⟩
    intro y hy
    rw [hat] at hy
    rcases List.mem_append.1 hy with h1 | h1
    · exact r.at_ y (by rw [hl]; exact List.mem_append.2 (.inl h1))
    · rcases List.mem_cons.1 h1 with h1 | h1
      · subst h1; exact typed_attr ht _ _
      · exact r.at_ y (by rw [hl]; exact List.mem_append.2 (.inr (List.mem_cons_of_mem _ h1)))
end Go.Proofs.YtfifnemnihcijaaGreatDoor
namespace Go.Proofs.YtfifnemnihcijaaGreatDoor
open Go.RowKit

theorem right_ren {t : Tb} {c : Cg} (r : Right t) (hk : c.kind = 3) (hc : 0 ≤ colA t.attrs c.attr) (h : checkE t c (colA t.attrs c.attr).toNat = 0) : Right (newT t c) := by
  obtain ⟨a, ha⟩ : ∃ a : Nat, colA t.attrs c.attr = a := ⟨_, (Int.toNat_of_nonneg hc).symm⟩
  have hal : a < t.attrs.length := by have := (colA_lt t.attrs c.attr).2; omega
  unfold checkE at h
  rw [if_neg (by omega), if_neg (by omega), if_pos hk] at h
  obtain ⟨hn, hcn⟩ := fresh_zero h
  obtain ⟨A, B, hl, hA⟩ := split_at t.attrs a hal
  obtain ⟨x, hx⟩ : ∃ x, x = t.attrs[a] := ⟨_, rfl⟩
  rw [← hx] at hl
  have hat : (newT t c).attrs = A ++ ⟨c.name, x.kind, x.was ++ [x.name], x.dflt⟩ :: B := by
    have : (newT t c).attrs = t.attrs.modify a (fun x => ⟨c.name, x.kind, x.was ++ [x.name], x.dflt⟩) := by simp [newT, newA, hk, ha]
    rw [this, hl, ← hA, modify_mid]
  have hkk : (newT t c).key = t.key := by simp [newT, newK, hk]
  have hp : (namesA (newT t c).attrs).Perm (c.name :: namesA t.attrs) := by
    rw [hat, hl, namesA_append, namesA_append, namesA_cons, namesA_cons]
    simp only
    have h1 : (c.name :: (x.was ++ [x.name]) ++ namesA B).Perm (c.name :: (x.name :: x.was ++ namesA B)) := by
      rw [List.cons_append]
      refine List.Perm.cons _ ?_
      exact List.Perm.append_right _ (List.perm_append_singleton _ _)
    refine (List.Perm.append_left _ h1).trans ?_
    exact List.perm_middle
  have hlen : (newT t c).attrs.length = t.attrs.length := by rw [hat, hl]; simp
  refine ⟨r.nm, by rw [hlen]; exact r.l1, by rw [hlen]; exact r.l12, by rw [hkk]; exact r.k1, ?_, ?_, ?_, by rw [hkk, hlen]; exact r.key⟩
  · intro y hy
    rw [hat] at hy
    rcases List.mem_append.1 hy with h1 | h1
    · exact r.at_ y (by rw [hl]; exact List.mem_append.2 (.inl h1))
    · rcases List.mem_cons.1 h1 with h1 | h1
      · subst h1
        have hxa := r.at_ x (by rw [hl]; exact List.mem_append.2 (.inr List.mem_cons_self))
        exact hxa
      · exact r.at_ y (by rw [hl]; exact List.mem_append.2 (.inr (List.mem_cons_of_mem _ h1)))
  · intro y hy
    rcases List.mem_cons.1 (hp.mem_iff.1 hy) with h1 | h1
    · subst h1; exact hn
    · exact r.names y h1
  · rw [hp.nodup_iff, List.nodup_cons]
    exact ⟨colA_new hcn, r.nodup⟩

theorem getD_map (l : List Int) (f : Int → Int) (j : Nat) (hj : j < l.length) : (l.map f).getD j 0 = f (l.getD j 0) := by
  simp [List.getD_eq_getElem?_getD, hj]
theorem mem_getD (l : List Int) (j : Nat) (hj : j < l.length) : l.getD j 0 ∈ l := by
  simp [List.getD_eq_getElem?_getD, hj]
theorem right_drop {t : Tb} {c : Cg} (r : Right t) (hk : c.kind = 2) (hc : 0 ≤ colA t.attrs c.attr) (h : checkE t c (colA t.attrs c.attr).toNat = 0) : Right (newT t c) := by
  obtain ⟨a, ha⟩ : ∃ a : Nat, colA t.attrs c.attr = a := ⟨_, (Int.toNat_of_nonneg hc).symm⟩
  have hal : a < t.attrs.length := by have := (colA_lt t.attrs c.attr).2; omega
  rw [ha] at h
  simp only [Int.toNat_natCast] at h
  unfold checkE at h
  rw [if_neg (by omega), if_pos hk] at h
  have hnk : ∀ k ∈ t.key, k ≠ (a : Int) := by
    intro k hk2 e
    have : t.key.any (fun k => decide (k = (a : Int))) = true := List.any_eq_true.2 ⟨k, hk2, by simp [e]⟩
    rw [this] at h
    simp at h
  obtain ⟨A, B, hl, hA⟩ := split_at t.attrs a hal
  obtain ⟨x, hx⟩ : ∃ x, x = t.attrs[a] := ⟨_, rfl⟩
  rw [← hx] at hl
  have hat : (newT t c).attrs = A ++ B := by
    have : (newT t c).attrs = t.attrs.eraseIdx a := by simp [newT, newA, hk, ha]
    rw [this, hl, ← hA, erase_mid]
  have hkk : (newT t c).key = t.key.map (fun k => if (a : Int) < k then k - 1 else k) := by simp [newT, newK, hk, ha]
  have hlen : (newT t c).attrs.length + 1 = t.attrs.length := by rw [hat, hl]; simp; omega
  have hkl : (newT t c).key.length = t.key.length := by rw [hkk, List.length_map]
  have h0 := keyAt_iff.1 (r.key 0 r.k1)
  have hne0 := hnk _ (mem_getD t.key 0 r.k1)
  have hsub : (namesA (newT t c).attrs).Sublist (namesA t.attrs) := by
    rw [hat, hl, namesA_append, namesA_append, namesA_cons]
    exact List.Sublist.append_left (List.sublist_append_right _ _) _
  have := r.l12
  refine ⟨r.nm, by omega, by omega, by rw [hkl]; exact r.k1, ?_, fun y hy => r.names y (hsub.subset hy), r.nodup.sublist hsub, ?_⟩
  · intro y hy
    rw [hat] at hy
    refine r.at_ y ?_
    rw [hl]
    rcases List.mem_append.1 hy with h1 | h1
    · exact List.mem_append.2 (.inl h1)
    · exact List.mem_append.2 (.inr (List.mem_cons_of_mem _ h1))
  · intro j hj
    rw [hkl] at hj
    have hj' := keyAt_iff.1 (r.key j hj)
    have hnj := hnk _ (mem_getD t.key j hj)
    rw [keyAt_iff, hkk, getD_map _ _ _ hj]
    refine ⟨by split <;> omega, ?_⟩
    rcases hj'.2 with h1 | h1
    · exact .inl h1
    · by_cases hj0 : j = 0
      · exact .inl hj0
      · right
        rw [getD_map _ _ _ (by omega)]
        have hnj1 := hnk _ (mem_getD t.key (j - 1) (by omega))
        split <;> split <;> omega

theorem formed_kind {c : Cg} (h : formedB c = true) : c.kind = 1 ∨ c.kind = 2 ∨ c.kind = 3 ∨ c.kind = 4 := by
  unfold formedB at h
  by_cases h1 : c.kind = 1
  · exact .inl h1
  by_cases h2 : c.kind = 2
  · exact .inr (.inl h2)
  by_cases h3 : c.kind = 3
  · exact .inr (.inr (.inl h3))
  by_cases h4 : c.kind = 4
  · exact .inr (.inr (.inr h4))
  rw [if_neg h1, if_neg h2, if_neg h3, if_neg h4] at h
  cases h

theorem right_new {t : Tb} {c : Cg} (r : Right t) (hf : formedB c = true) (hc : c.kind ≠ 1 → 0 ≤ colA t.attrs c.attr) (h : checkE t c (colA t.attrs c.attr).toNat = 0) : Right (newT t c) := by
  rcases formed_kind hf with hk | hk | hk | hk
  · exact right_add r hk h
  · exact right_drop r hk (hc (by omega)) h
  · exact right_ren r hk (hc (by omega)) h
  · exact right_cast r hk (hc (by omega)) h

theorem findT_names {s s' : List Tb} (hl : s'.length = s.length) (hn : ∀ i (h : i < s.length), (s'[i]'(by omega)).name = s[i].name) (nm : ByteArray) : findT s' nm = findT s nm := by
  have : s'.map Tb.name = s.map Tb.name := by
    apply List.ext_getElem
    · simp [hl]
    · intro i h1 h2
      simp at h1 h2
      simpa using hn i h2
  have e : ∀ l : List Tb, findT l nm = idxB (fun x => decide (x = nm)) (l.map Tb.name) := by
    intro l
    unfold findT idxB
    rw [List.findIdx?_map]
    rfl
  rw [e, e, this]
theorem applyS_len (s : List Tb) (c : Cg) : (applyS s c).length = s.length := by simp [applyS]
theorem applyS_get {s : List Tb} {c : Cg} {i : Nat} (_hi : i < s.length) (hf : findT s c.table = i) (j : Nat) (hj : j < s.length) : (applyS s c)[j]'(by rw [applyS_len]; exact hj) = if i = j then newT s[j] c else s[j] := by
  simp only [applyS, hf, Int.toNat_natCast, List.getElem_modify]
theorem applyS_name (s : List Tb) (c : Cg) (j : Nat) (hj : j < s.length) : ((applyS s c)[j]'(by rw [applyS_len]; exact hj)).name = s[j].name := by
  simp only [applyS, List.getElem_modify]
  split <;> rfl
theorem valid_apply {s : List Tb} {c : Cg} (h : errOf s c = 0) : validB (applyS s c) = true := by
  obtain ⟨hf, hv, i, hi, hfi, hnm, hcol, hck⟩ := errOf_zero h
  obtain ⟨hl, hall⟩ := valid_iff.1 hv
  rw [valid_iff]
  refine ⟨by rw [applyS_len]; exact hl, fun j hj' => ?_⟩
  have hj : j < s.length := by rw [applyS_len] at hj'; exact hj'
  rw [applyS_name s c j hj, findT_names (applyS_len s c) (fun k hk => applyS_name s c k hk)]
  refine ⟨?_, (hall j hj).2⟩
  rw [applyS_get hi hfi j hj]
  split
  · rename_i e
    subst e
    exact right_new (hall i hi).1 hf hcol hck
  · exact (hall j hj).1
end Go.Proofs.YtfifnemnihcijaaGreatDoor
namespace Go.Proofs.YtfifnemnihcijaaGreatDoor
open Go.RowKit

/-- The index that an attribute has behind a change; -1 where it was dropped. -/
def movedI (t : Tb) (c : Cg) (i : Int) : Int :=
  if c.kind ≠ 2 then i else if i = colA t.attrs c.attr then -1 else if colA t.attrs c.attr < i then i - 1 else i

theorem new_attrs {t : Tb} {c : Cg} (hf : formedB c = true) (hc : c.kind ≠ 1 → 0 ≤ colA t.attrs c.attr) :
    (c.kind = 1 ∧ (newT t c).attrs = t.attrs ++ [⟨c.name, c.to_, [], c.dflt⟩]) ∨
    ∃ A x B, t.attrs = A ++ x :: B ∧ colA t.attrs c.attr = A.length ∧ ((c.kind = 2 ∧ (newT t c).attrs = A ++ B) ∨ (c.kind = 3 ∧ (newT t c).attrs = A ++ ⟨c.name, x.kind, x.was ++ [x.name], x.dflt⟩ :: B) ∨ (c.kind = 4 ∧ (newT t c).attrs = A ++ ⟨x.name, c.to_, x.was, c.dflt⟩ :: B)) := by
  rcases formed_kind hf with hk | hk | hk | hk
  · left; exact ⟨hk, by simp [newT, newA, hk]⟩
  all_goals
    right
    have hc' := hc (by omega)
    obtain ⟨a, ha⟩ : ∃ a : Nat, colA t.attrs c.attr = a := ⟨_, (Int.toNat_of_nonneg hc').symm⟩
    have hal : a < t.attrs.length := by have := (colA_lt t.attrs c.attr).2; omega
    obtain ⟨A, B, hl, hA⟩ := split_at t.attrs a hal
    obtain ⟨x, hx⟩ : ∃ x, x = t.attrs[a] := ⟨_, rfl⟩
    rw [← hx] at hl
    refine ⟨A, x, B, hl, by omega, ?_⟩
  · left
    have : (newT t c).attrs = t.attrs.eraseIdx a := by simp [newT, newA, hk, ha]
    exact ⟨hk, by rw [this, hl, ← hA, erase_mid]⟩
  · right; left
    have : (newT t c).attrs = t.attrs.modify a (fun x => ⟨c.name, x.kind, x.was ++ [x.name], x.dflt⟩) := by simp [newT, newA, hk, ha]
    exact ⟨hk, by rw [this, hl, ← hA, modify_mid]⟩
  · right; right
    have : (newT t c).attrs = t.attrs.modify a (fun x => ⟨x.name, c.to_, x.was, c.dflt⟩) := by simp [newT, newA, hk, ha]
    exact ⟨hk, by rw [this, hl, ← hA, modify_mid]⟩

theorem get_mid_lt {α : Type} {A B : List α} {i : Nat} (h : i < A.length) : (A ++ B)[i]? = A[i]? := List.getElem?_append_left h
theorem names_stay {t : Tb} {c : Cg} (r : Right t) (hf : formedB c = true) (hc : c.kind ≠ 1 → 0 ≤ colA t.attrs c.attr) (h : checkE t c (colA t.attrs c.attr).toNat = 0)
    (i : Nat) (hi : i < t.attrs.length) (hm : 0 ≤ movedI t c i) (x : ByteArray) (hx : t.attrs[i].has x) : colA (newT t c).attrs x = movedI t c i := by
  have ap := apart_of_nodup (right_new r hf hc h).nodup
  suffices hs : ∃ (j : Nat) (hj : j < (newT t c).attrs.length), movedI t c i = j ∧ (newT t c).attrs[j].has x by
    obtain ⟨j, hj, e, hh⟩ := hs
    rw [e]; exact colA_own ap j hj x hh
  have hsome : t.attrs[i]? = some t.attrs[i] := List.getElem?_eq_getElem hi
  generalize t.attrs[i] = y at hx hsome
  have key : ∀ (j : Nat) (q : At), (newT t c).attrs[j]? = some q → q.has x → movedI t c i = j → ∃ (j : Nat) (hj : j < (newT t c).attrs.length), movedI t c i = j ∧ (newT t c).attrs[j].has x := by
    intro j q hy hh e
    obtain ⟨hj, e2⟩ := List.getElem?_eq_some_iff.1 hy
    exact ⟨j, hj, e, by rw [e2]; exact hh⟩
  rcases new_attrs hf hc with ⟨hk, ha⟩ | ⟨A, z, B, hl, hcA, hcase⟩
  · refine key i y ?_ hx (by simp [movedI, hk])
    rw [ha, List.getElem?_append_left hi, hsome]
  · rw [hl] at hsome
    rcases hcase with ⟨hk, ha⟩ | ⟨hk, ha⟩ | ⟨hk, ha⟩
    · have hne : ¬ (i : Int) = colA t.attrs c.attr := by
        intro e
        unfold movedI at hm
        rw [if_neg (by omega), if_pos e] at hm
        omega
      by_cases hlt : (i : Nat) < A.length
      · refine key i y ?_ hx ?_
        · rw [ha, List.getElem?_append_left hlt, ← hsome, List.getElem?_append_left hlt]
        · unfold movedI; rw [if_neg (by omega), if_neg hne, if_neg (by omega)]
      · refine key (i - 1) y ?_ hx ?_
        · rw [ha, List.getElem?_append_right (by omega), ← hsome, List.getElem?_append_right (by omega)]
          have : i - A.length = (i - 1 - A.length) + 1 := by omega
          rw [this, List.getElem?_cons_succ]
        · unfold movedI; rw [if_neg (by omega), if_neg hne, if_pos (by omega)]; omega
    · by_cases hia : i = A.length
      · subst hia
        refine key A.length ⟨c.name, z.kind, z.was ++ [z.name], z.dflt⟩ ?_ ?_ (by simp [movedI, hk])
        · rw [ha]; simp
        · have : y = z := by
            have h2 := hsome
            simp at h2
            exact h2.symm
          rw [this] at hx
          rcases hx with h1 | h1
          · right; simp [h1]
          · right; simp [h1]
      · refine key i y ?_ hx (by simp [movedI, hk])
        rw [ha, ← hsome]
        by_cases hlt : i < A.length
        · rw [List.getElem?_append_left hlt, List.getElem?_append_left hlt]
        · rw [List.getElem?_append_right (by omega), List.getElem?_append_right (by omega)]
          have : i - A.length = (i - A.length - 1) + 1 := by omega
          rw [this, List.getElem?_cons_succ, List.getElem?_cons_succ]
    · by_cases hia : i = A.length
      · subst hia
        refine key A.length ⟨z.name, c.to_, z.was, c.dflt⟩ ?_ ?_ (by simp [movedI, hk])
        · rw [ha]; simp
        · have : y = z := by
            have h2 := hsome
            simp at h2
            exact h2.symm
          rw [this] at hx
          exact hx
      · refine key i y ?_ hx (by simp [movedI, hk])
        rw [ha, ← hsome]
        by_cases hlt : i < A.length
        · rw [List.getElem?_append_left hlt, List.getElem?_append_left hlt]
        · rw [List.getElem?_append_right (by omega), List.getElem?_append_right (by omega)]
          have : i - A.length = (i - A.length - 1) + 1 := by omega
          rw [this, List.getElem?_cons_succ, List.getElem?_cons_succ]

theorem name_added {t : Tb} {c : Cg} (r : Right t) (hf : formedB c = true) (hc : c.kind ≠ 1 → 0 ≤ colA t.attrs c.attr) (h : checkE t c (colA t.attrs c.attr).toNat = 0) (hk : c.kind = 1) : colA (newT t c).attrs c.name = t.attrs.length := by
  have ap := apart_of_nodup (right_new r hf hc h).nodup
  have ha : (newT t c).attrs = t.attrs ++ [⟨c.name, c.to_, [], c.dflt⟩] := by simp [newT, newA, hk]
  have hl : t.attrs.length < (newT t c).attrs.length := by rw [ha]; simp
  refine colA_own ap t.attrs.length hl c.name (.inl ?_)
  simp [ha]
theorem name_renamed {t : Tb} {c : Cg} (r : Right t) (hf : formedB c = true) (hc : c.kind ≠ 1 → 0 ≤ colA t.attrs c.attr) (h : checkE t c (colA t.attrs c.attr).toNat = 0) (hk : c.kind = 3) : colA (newT t c).attrs c.name = colA t.attrs c.attr := by
  have ap := apart_of_nodup (right_new r hf hc h).nodup
  rcases new_attrs hf hc with ⟨hk1, _⟩ | ⟨A, z, B, hl, hcA, hcase⟩
  · omega
  · rcases hcase with ⟨hk', _⟩ | ⟨_, ha⟩ | ⟨hk', _⟩
    · omega
    · rw [hcA]
      refine colA_own ap A.length (by rw [ha]; simp) c.name (.inl ?_)
      simp [ha]
    · omega
theorem key_moved {t : Tb} {c : Cg} (hc : c.kind ≠ 1 → 0 ≤ colA t.attrs c.attr) (h : checkE t c (colA t.attrs c.attr).toNat = 0) : (newT t c).key = t.key.map (movedI t c) := by
  by_cases hk : c.kind = 2
  · have hc' := hc (by omega)
    obtain ⟨a, ha⟩ : ∃ a : Nat, colA t.attrs c.attr = a := ⟨_, (Int.toNat_of_nonneg hc').symm⟩
    rw [ha] at h
    simp only [Int.toNat_natCast] at h
    unfold checkE at h
    rw [if_neg (by omega), if_pos hk] at h
    have hnk : ∀ k ∈ t.key, k ≠ (a : Int) := by
      intro k hk2 e
      have : t.key.any (fun k => decide (k = (a : Int))) = true := List.any_eq_true.2 ⟨k, hk2, by simp [e]⟩
      rw [this] at h
      simp at h
    have : (newT t c).key = t.key.map (fun k => if (a : Int) < k then k - 1 else k) := by simp [newT, newK, hk, ha]
    rw [this]
    apply List.map_congr_left
    intro k hk2
    have hne := hnk k hk2
    have e : movedI t c k = if (a : Int) < k then k - 1 else k := by
      unfold movedI
      rw [if_neg (show ¬ c.kind ≠ 2 by omega), ha, if_neg hne]
    rw [e]
  · have : (newT t c).key = t.key := by simp [newT, newK, hk]
    rw [this]
    have e : ∀ k, movedI t c k = k := fun k => by simp [movedI, hk]
    rw [show movedI t c = id from funext e, List.map_id]
theorem new_ne {t : Tb} {c : Cg} (hf : formedB c = true) (hc : c.kind ≠ 1 → 0 ≤ colA t.attrs c.attr) (h : checkE t c (colA t.attrs c.attr).toNat = 0) : newT t c ≠ t := by
  intro e
  have e2 : (newT t c).attrs = t.attrs := by rw [e]
  rcases new_attrs hf hc with ⟨hk, ha⟩ | ⟨A, z, B, hl, hcA, hcase⟩
  · rw [ha] at e2
    have := congrArg List.length e2
    simp at this
  · rcases hcase with ⟨hk, ha⟩ | ⟨hk, ha⟩ | ⟨hk, ha⟩
    · rw [ha, hl] at e2
      have := congrArg List.length e2
      simp at this
    · rw [ha, hl] at e2
      have h2 := List.append_cancel_left e2
      injection h2 with h2 _
      have hn : c.name = z.name := by rw [← h2]
      have hfr : freshE t c = 0 := by
        unfold checkE at h
        rw [if_neg (by omega), if_neg (by omega), if_pos hk] at h
        exact h
      have := colA_new (fresh_zero hfr).2
      apply this
      rw [mem_namesA]
      exact ⟨z, by rw [hl]; simp, .inl hn⟩
    · rw [ha, hl] at e2
      have h2 := List.append_cancel_left e2
      injection h2 with h2 _
      have hn : c.to_ = z.kind := by rw [← h2]
      unfold checkE at h
      rw [if_neg (by omega), if_neg (by omega), if_neg (by omega)] at h
      have : (t.attrs.map At.kind)[(colA t.attrs c.attr).toNat]? = some c.to_ := by
        rw [hcA, hl]
        simp [hn]
      rw [this] at h
      simp at h
end Go.Proofs.YtfifnemnihcijaaGreatDoor
namespace Go.Proofs.YtfifnemnihcijaaGreatDoor
open Go.RowKit

theorem key_ge {n : Nat} {l : List Int} (h : ∀ j, j < l.length → keyAt n l j = true) : ∀ j, j < l.length → (j : Int) ≤ l.getD j 0
  | 0, hj => by have := (keyAt_iff.1 (h 0 hj)).1.1; simpa using this
  | j + 1, hj => by
    have ih := key_ge h j (by omega)
    have h2 := (keyAt_iff.1 (h (j + 1) hj)).2
    rcases h2 with h2 | h2
    · omega
    · rw [Nat.add_sub_cancel] at h2
      omega
theorem key_len {n : Nat} {l : List Int} (h : ∀ j, j < l.length → keyAt n l j = true) : l.length ≤ n := by
  rcases Nat.eq_zero_or_pos l.length with h0 | h0
  · omega
  · have h1 := key_ge h (l.length - 1) (by omega)
    have h2 := (keyAt_iff.1 (h (l.length - 1) (by omega))).1.2
    omega
theorem Right.klen {t : Tb} (r : Right t) : t.key.length ≤ 12 := Nat.le_trans (key_len r.key) r.l12

/-- What a change makes of a row of its own table. -/
def rowP (c : Cg) (a : Nat) (row : List V) : List V × Int :=
  if c.kind = 1 then (row ++ [c.dflt], 0)
  else if c.kind = 2 then (row.eraseIdx a, 0)
  else if c.kind = 3 then (row, 0)
  else if (castP (row.getD a V.zero) c.to_).2 = 0 then (row.set a (castP (row.getD a V.zero) c.to_).1, 0) else ([], 15)
/-- What a change makes of a row of a table. -/
def convS (s : List Tb) (c : Cg) (table : Int) (row : List V) : List V × Int :=
  if errOf s c ≠ 0 then ([], errOf s c)
  else match s[table.toNat]? with
    | none => ([], 1)
    | some t =>
      if table < 0 ∨ fitsB t row = false then ([], 1)
      else if table ≠ findT s c.table then (row, 0)
      else rowP c (colA t.attrs c.attr).toNat row

theorem fits_iff {t : Tb} {row : List V} : fitsB t row = true ↔ row.length = t.attrs.length ∧ ∀ i (h1 : i < row.length) (h2 : i < t.attrs.length), fitB t.attrs[i].kind row[i] = true := by
  unfold fitsB
  simp only [Bool.and_eq_true, decide_eq_true_eq, List.all_eq_true, List.mem_range]
  constructor
  · rintro ⟨h1, h2⟩
    refine ⟨h1, fun i ha hb => ?_⟩
    have := h2 i ha
    rw [List.getElem?_eq_getElem ha, List.getElem?_eq_getElem hb] at this
    exact this
  · rintro ⟨h1, h2⟩
    refine ⟨h1, fun i hi => ?_⟩
    have hb : i < t.attrs.length := by omega
    rw [List.getElem?_eq_getElem hi, List.getElem?_eq_getElem hb]
    exact h2 i hi hb

/-- A change that can be applied: where. -/
theorem conv_at {s : List Tb} {c : Cg} (h : errOf s c = 0) (n : Nat) (hn : n < s.length) (row : List V) (hf : fitsB s[n] row = true) :
    convS s c n row = if s[n].name = c.table then rowP c (colA s[n].attrs c.attr).toNat row else (row, 0) := by
  obtain ⟨_, hv, i, hi, hfi, hnm, _⟩ := errOf_zero h
  have hv' := (valid_iff.1 hv).2
  unfold convS
  rw [if_neg (by rw [h]; simp)]
  simp only [Int.toNat_natCast, List.getElem?_eq_getElem hn]
  rw [if_neg (by rw [hf]; simp), hfi]
  by_cases e : n = i
  · subst e
    simp [hnm]
  · have : s[n].name ≠ c.table := by
      intro e2
      have h1 := (hv' n hn).2
      rw [e2, hfi] at h1
      omega
    rw [if_pos (by omega), if_neg this]
theorem applyS_at {s : List Tb} {c : Cg} (h : errOf s c = 0) (n : Nat) (hn : n < s.length) : (applyS s c)[n]'(by rw [applyS_len]; exact hn) = if s[n].name = c.table then newT s[n] c else s[n] := by
  obtain ⟨_, hv, i, hi, hfi, hnm, _⟩ := errOf_zero h
  have hv' := (valid_iff.1 hv).2
  rw [applyS_get hi hfi n hn]
  by_cases e : i = n
  · subst e; simp [hnm]
  · have : s[n].name ≠ c.table := by
      intro e2
      have h1 := (hv' n hn).2
      rw [e2, hfi] at h1
      omega
    rw [if_neg e, if_neg this]
theorem typed_fit {c : Cg} (h : typedB c = true) : fitB c.to_ c.dflt = true := by
  unfold typedB at h
  simp at h
  exact h.2

/-- A row that fits is converted to one that fits, or a cast of its value is not possible. -/
theorem row_fits {t : Tb} {c : Cg} (hf : formedB c = true) (hc : c.kind ≠ 1 → 0 ≤ colA t.attrs c.attr) (h : checkE t c (colA t.attrs c.attr).toNat = 0) (row : List V) (hr : fitsB t row = true) :
    ((rowP c (colA t.attrs c.attr).toNat row).2 = 0 ∧ fitsB (newT t c) (rowP c (colA t.attrs c.attr).toNat row).1 = true) ∨
    (c.kind = 4 ∧ rowP c (colA t.attrs c.attr).toNat row = ([], 15) ∧ (castP (row.getD (colA t.attrs c.attr).toNat V.zero) c.to_).2 ≠ 0) := by
  obtain ⟨hl, hfit⟩ := fits_iff.1 hr
  rcases new_attrs hf hc with ⟨hk, ha⟩ | ⟨A, x, B, hA, hcol, hh⟩
  · left
    have e : rowP c (colA t.attrs c.attr).toNat row = (row ++ [c.dflt], 0) := by simp [rowP, hk]
    rw [e]
    refine ⟨rfl, fits_iff.2 ?_⟩
    rw [ha]
    refine ⟨by simp [hl], fun i h1 h2 => ?_⟩
    have hty : fitB c.to_ c.dflt = true := by
      unfold checkE at h
      rw [if_pos hk] at h
      cases ht : typedB c with
      | false => rw [ht] at h; simp at h
      | true => exact typed_fit ht
    by_cases hi : i < row.length
    · rw [List.getElem_append_left hi, List.getElem_append_left (by omega)]
      exact hfit i hi (by omega)
    · have hi2 : i = row.length := by simp at h1; omega
      subst hi2
      rw [List.getElem_append_right (by omega), List.getElem_append_right (by omega)]
      simpa using hty
  · have hlen : t.attrs.length = A.length + (B.length + 1) := by rw [hA]; simp
    rw [hcol, Int.toNat_natCast]
    have hal : A.length < row.length := by omega
    rcases hh with ⟨hk, ha⟩ | ⟨hk, ha⟩ | ⟨hk, ha⟩
    · left
      have e : rowP c A.length row = (row.eraseIdx A.length, 0) := by simp [rowP, hk]
      rw [e]
      refine ⟨rfl, fits_iff.2 ?_⟩
      rw [ha]
      have hel : (row.eraseIdx A.length).length = row.length - 1 := by rw [List.length_eraseIdx, if_pos hal]
      refine ⟨by rw [hel, List.length_append]; omega, fun i h1 h2 => ?_⟩
      rw [hel] at h1
      by_cases hi : i < A.length
      · have := hfit i (by omega) (by omega)
        rw [List.getElem_append_left hi, show (row.eraseIdx A.length)[i]'(by rw [hel]; omega) = row[i]'(by omega) from by rw [List.getElem_eraseIdx, dif_pos hi]]
        have e2 : t.attrs[i]'(by omega) = A[i] := by simp only [hA]; rw [List.getElem_append_left hi]
        rw [e2] at this
        exact this
      · have := hfit (i + 1) (by omega) (by omega)
        rw [List.getElem_append_right (by omega), show (row.eraseIdx A.length)[i]'(by rw [hel]; omega) = row[i + 1]'(by omega) from by rw [List.getElem_eraseIdx, dif_neg hi]]
        have e2 : t.attrs[i + 1]'(by omega) = B[i - A.length]'(by omega) := by
          simp only [hA]
          rw [List.getElem_append_right (by omega)]
          simp only [show i + 1 - A.length = (i - A.length) + 1 by omega, List.getElem_cons_succ]
        rw [e2] at this
        exact this
    · left
      have e : rowP c A.length row = (row, 0) := by simp [rowP, hk]
      rw [e]
      refine ⟨rfl, fits_iff.2 ?_⟩
      rw [ha]
      refine ⟨by simp; omega, fun i (h1 : i < row.length) h2 => ?_⟩
      have := hfit i h1 (by omega)
      have e2 : (A ++ (⟨c.name, x.kind, x.was ++ [x.name], x.dflt⟩ : At) :: B)[i].kind = (t.attrs[i]'(by omega)).kind := by
        simp only [hA]
        rcases Nat.lt_trichotomy i A.length with hi | hi | hi
        · rw [List.getElem_append_left hi, List.getElem_append_left hi]
        · subst hi; simp
        · rw [List.getElem_append_right (by omega), List.getElem_append_right (by omega)]
          obtain ⟨k, hk'⟩ : ∃ k, i - A.length = k + 1 := ⟨i - A.length - 1, by omega⟩
          simp only [hk', List.getElem_cons_succ]
      rw [e2]
      exact this
    · by_cases hcast : (castP (row.getD A.length V.zero) c.to_).2 = 0
      · left
        have e : rowP c A.length row = (row.set A.length (castP (row.getD A.length V.zero) c.to_).1, 0) := by unfold rowP; rw [if_neg (by omega), if_neg (by omega), if_neg (by omega), if_pos hcast]
        rw [e]
        refine ⟨rfl, fits_iff.2 ?_⟩
        rw [ha]
        refine ⟨by simp; omega, fun i h1 h2 => ?_⟩
        simp only [List.length_set] at h1
        rcases Nat.lt_trichotomy i A.length with hi | hi | hi
        · have := hfit i h1 (by omega)
          simp only [hA] at this
          rw [List.getElem_append_left hi] at this
          rw [List.getElem_append_left hi, List.getElem_set_ne (by omega)]
          exact this
        · subst hi
          simp
          exact cast_fit hcast
        · have := hfit i h1 (by omega)
          simp only [hA] at this
          rw [List.getElem_append_right (by omega)] at this
          rw [List.getElem_append_right (by omega), List.getElem_set_ne (by omega)]
          obtain ⟨k, hk'⟩ : ∃ k, i - A.length = k + 1 := ⟨i - A.length - 1, by omega⟩
          simp only [hk', List.getElem_cons_succ] at this ⊢
          exact this
      · right
        refine ⟨hk, ?_, hcast⟩
        unfold rowP; rw [if_neg (by omega), if_neg (by omega), if_neg (by omega), if_neg hcast]
end Go.Proofs.YtfifnemnihcijaaGreatDoor
namespace Go.Proofs.YtfifnemnihcijaaGreatDoor
open Go.RowKit

section
variable {S : List Tb} {c : Cg}
theorem err_E0 (h : formedB c = false) : errOf S c = 1 := by simp [errOf, h]
theorem err_E1 (h : validB S = false) : errOf S c = 1 := by simp [errOf, h]
theorem err_E2 (hf : formedB c = true) (hv : validB S = true) (h : findT S c.table < 0) : errOf S c = 11 := by simp [errOf, hf, hv, h]
theorem err_E3 (hf : formedB c = true) (hv : validB S = true) (k : Nat) (hk : k < S.length) (h : findT S c.table = k) (h1 : c.kind ≠ 1) (hc : colA S[k].attrs c.attr < 0) : errOf S c = 11 := by
  have : ¬ ((k : Int) < 0) := by omega
  simp [errOf, hf, hv, h, this, hk, h1, hc]
theorem err_E4 (hf : formedB c = true) (hv : validB S = true) (k : Nat) (hk : k < S.length) (h : findT S c.table = k) (hc : c.kind ≠ 1 → ¬ colA S[k].attrs c.attr < 0) : errOf S c = checkE S[k] c (colA S[k].attrs c.attr).toNat := by
  have h0 : ¬ ((k : Int) < 0) := by omega
  by_cases h1 : c.kind = 1
  · simp [errOf, hf, hv, h, h0, hk, h1]
  · have hx : 0 ≤ colA S[k].attrs c.attr := by have := hc h1; omega
    have hx' : ¬ colA S[k].attrs c.attr < 0 := by omega
    simp [errOf, hf, hv, h, h0, hk, h1, hx']
end

/-- The values that a change does not touch. -/
theorem row_stay {t : Tb} {c : Cg} (hf : formedB c = true) (hc : c.kind ≠ 1 → 0 ≤ colA t.attrs c.attr) (row : List V) (h0 : (rowP c (colA t.attrs c.attr).toNat row).2 = 0)
    (i : Nat) (hi : i < row.length) (hm : 0 ≤ movedI t c i) (hx : c.kind ≠ 4 ∨ (i : Int) ≠ colA t.attrs c.attr) : (rowP c (colA t.attrs c.attr).toNat row).1[(movedI t c i).toNat]? = some row[i] := by
  rcases formed_kind hf with hk | hk | hk | hk
  · have e : rowP c (colA t.attrs c.attr).toNat row = (row ++ [c.dflt], 0) := by simp [rowP, hk]
    rw [e]
    unfold movedI
    rw [if_pos (by omega), Int.toNat_natCast, List.getElem?_append_left hi, List.getElem?_eq_getElem hi]
  · have e : rowP c (colA t.attrs c.attr).toNat row = (row.eraseIdx (colA t.attrs c.attr).toNat, 0) := by simp [rowP, hk]
    have hc' := hc (by omega)
    have hcl := (colA_lt t.attrs c.attr).2
    obtain ⟨a, ha⟩ : ∃ a : Nat, colA t.attrs c.attr = a := ⟨_, (Int.toNat_of_nonneg hc').symm⟩
    rw [e]
    unfold movedI at hm ⊢
    rw [if_neg (by omega)] at hm ⊢
    rw [ha] at hm hcl ⊢
    rw [Int.toNat_natCast]
    by_cases h1 : (i : Int) = a
    · rw [if_pos h1] at hm; omega
    · rw [if_neg h1] at hm ⊢
      by_cases h2 : (a : Int) < i
      · rw [if_pos h2] at hm ⊢
        have : ((i : Int) - 1).toNat = i - 1 := by omega
        rw [this, List.getElem?_eraseIdx, if_neg (by omega), show i - 1 + 1 = i by omega, List.getElem?_eq_getElem hi]
      · rw [if_neg h2]
        rw [Int.toNat_natCast, List.getElem?_eraseIdx, if_pos (by omega), List.getElem?_eq_getElem hi]
  · have e : rowP c (colA t.attrs c.attr).toNat row = (row, 0) := by simp [rowP, hk]
    rw [e]
    unfold movedI
    rw [if_pos (by omega), Int.toNat_natCast, List.getElem?_eq_getElem hi]
  · have hne : (i : Int) ≠ colA t.attrs c.attr := hx.resolve_left (by omega)
    unfold movedI
    rw [if_pos (by omega), Int.toNat_natCast]
    unfold rowP at h0 ⊢
    rw [if_neg (by omega), if_neg (by omega), if_neg (by omega)] at h0 ⊢
    by_cases hcast : (castP (row.getD (colA t.attrs c.attr).toNat V.zero) c.to_).2 = 0
    · rw [if_pos hcast]
      have hc' := hc (by omega)
      rw [List.getElem?_set_ne (by omega), List.getElem?_eq_getElem hi]
    · rw [if_neg hcast] at h0; cases h0

/-- The change that takes an added attribute back. -/
def backC (c : Cg) : Cg := ⟨2, c.table, c.name, ByteArray.empty, 0, V.zero⟩
theorem newT_back {t : Tb} {c : Cg} (r : Right t) (hk : c.kind = 1) (ha : colA (newT t c).attrs c.name = t.attrs.length) : newT (newT t c) (backC c) = t := by
  have e1 : (newT t c).attrs = t.attrs ++ [⟨c.name, c.to_, [], c.dflt⟩] := by simp [newT, newA, hk]
  have e2 : (newT t c).key = t.key := by simp [newT, newK, hk]
  have e3 : (newT t c).name = t.name := rfl
  show (⟨(newT t c).name, newA (newT t c).attrs (backC c) (colA (newT t c).attrs (backC c).attr).toNat, newK (newT t c).key (backC c) (colA (newT t c).attrs (backC c).attr).toNat⟩ : Tb) = t
  have hb : (backC c).kind = 2 := rfl
  have hb2 : (backC c).attr = c.name := rfl
  rw [hb2, ha, e1, e2, e3]
  obtain ⟨nm, attrs, key⟩ := t
  simp only [Int.toNat_natCast]
  congr 1
  · unfold newA
    rw [hb, if_neg (by omega), if_pos rfl, List.eraseIdx_append_of_length_le (by simp), Nat.sub_self]
    simp
  · unfold newK
    rw [hb, if_pos rfl]
    rw [List.map_congr_left (g := id)]
    · simp
    · intro k hk'
      obtain ⟨j, hj, rfl⟩ := List.mem_iff_getElem.1 hk'
      have := (keyAt_iff.1 (r.key j hj)).1.2
      simp only [List.getD_eq_getElem?_getD, List.getElem?_eq_getElem hj, Option.getD_some] at this
      rw [if_neg (by omega)]
      rfl
theorem findT_apply (s : List Tb) (c : Cg) (nm : ByteArray) : findT (applyS s c) nm = findT s nm :=
  findT_names (applyS_len s c) (fun i h => applyS_name s c i h) nm
theorem ext_at {s s' : List Tb} (hl : s'.length = s.length) (h : ∀ n (hn : n < s.length), s'[n]'(by omega) = s[n]) : s' = s :=
  List.ext_getElem hl (fun n _ h2 => h n h2)
theorem back_ok {s : List Tb} {c : Cg} (h : errOf s c = 0) (hk : c.kind = 1) : errOf (applyS s c) (backC c) = 0 ∧ applyS (applyS s c) (backC c) = s := by
  obtain ⟨hf, hv, i, hi, hfi, hnm, hc, hch⟩ := errOf_zero h
  have r := ((valid_iff.1 hv).2 i hi).1
  have hadd := name_added r hf hc hch hk
  have hil : i < (applyS s c).length := by rw [applyS_len]; exact hi
  have hat : (applyS s c)[i] = newT s[i] c := by rw [applyS_at h i hi, if_pos hnm]
  have hft : findT (applyS s c) (backC c).table = i := by rw [findT_apply]; exact hfi
  have hco : colA (applyS s c)[i].attrs (backC c).attr = s[i].attrs.length := by rw [hat]; exact hadd
  have e0 : errOf (applyS s c) (backC c) = 0 := by
    have hfb : formedB (backC c) = true := by simp [formedB, backC, V.same]
    rw [err_E4 hfb (valid_apply h) i hil hft (fun _ => by rw [hco]; omega), hco]
    unfold checkE
    rw [if_neg (show ¬ (backC c).kind = 1 from fun e => by cases e), if_pos (show (backC c).kind = 2 from rfl), if_neg]
    rw [hat, show (newT s[i] c).key = s[i].key by simp [newT, newK, hk]]
    simp only [List.any_eq_true, decide_eq_true_eq, not_exists, not_and]
    intro k hk' e
    obtain ⟨j, hj, rfl⟩ := List.mem_iff_getElem.1 hk'
    have := (keyAt_iff.1 (r.key j hj)).1.2
    simp only [List.getD_eq_getElem?_getD, List.getElem?_eq_getElem hj, Option.getD_some] at this
    rw [Int.toNat_natCast] at e
    omega
  refine ⟨e0, ext_at (by rw [applyS_len, applyS_len]) fun n hn => ?_⟩
  have hnl : n < (applyS s c).length := by rw [applyS_len]; exact hn
  rw [applyS_at e0 n hnl, applyS_at h n hn]
  by_cases e : s[n].name = c.table
  · have hni : n = i := by
      have h1 := ((valid_iff.1 hv).2 n hn).2
      rw [e, hfi] at h1; omega
    subst hni
    simp only [e, if_pos]
    rw [if_pos (show (newT s[n] c).name = (backC c).table from hnm), newT_back r hk hadd]
  · simp only [e, if_false]
    rw [if_neg (show ¬ s[n].name = (backC c).table from e)]
/-- A row that is converted: it fits, and its image fits. -/
theorem conv_ok {s : List Tb} {c : Cg} (h : errOf s c = 0) (n : Nat) (hn : n < s.length) (row : List V) (hz : (convS s c n row).2 = 0) : fitsB s[n] row = true ∧ fitsB ((applyS s c)[n]'(by rw [applyS_len]; exact hn)) (convS s c n row).1 = true := by
  have hfit : fitsB s[n] row = true := by
    cases hf : fitsB s[n] row with
    | true => rfl
    | false =>
      unfold convS at hz
      rw [if_neg (by rw [h]; simp)] at hz
      simp only [Int.toNat_natCast, List.getElem?_eq_getElem hn, hf, or_true, if_true] at hz
      cases hz
  refine ⟨hfit, ?_⟩
  rw [conv_at h n hn row hfit] at hz ⊢
  rw [applyS_at h n hn]
  by_cases e : s[n].name = c.table
  · rw [if_pos e] at hz ⊢
    rw [if_pos e]
    obtain ⟨hf, hv, i, hi, hfi, hnm, hc, hch⟩ := errOf_zero h
    have hni : n = i := by
      have h1 := ((valid_iff.1 hv).2 n hn).2
      rw [e, hfi] at h1; omega
    subst hni
    rcases row_fits hf hc hch row hfit with ⟨_, h2⟩ | ⟨_, h2, _⟩
    · exact h2
    · rw [h2] at hz; cases hz
  · rw [if_neg e, if_neg e]
    exact hfit
theorem back_row {s : List Tb} {c : Cg} (h : errOf s c = 0) (hk : c.kind = 1) (n : Nat) (hn : n < s.length) (row : List V) (hz : (convS s c n row).2 = 0) : convS (applyS s c) (backC c) n (convS s c n row).1 = (row, 0) := by
  obtain ⟨f1, f2⟩ := conv_ok h n hn row hz
  have hb := (back_ok h hk).1
  have hnl : n < (applyS s c).length := by rw [applyS_len]; exact hn
  rw [conv_at hb n hnl _ f2, conv_at h n hn row f1, applyS_at h n hn]
  by_cases e : s[n].name = c.table
  · simp only [e, if_pos]
    rw [if_pos (show (newT s[n] c).name = (backC c).table from e)]
    obtain ⟨hf, hv, i, hi, hfi, hnm, hc, hch⟩ := errOf_zero h
    have hni : n = i := by
      have h1 := ((valid_iff.1 hv).2 n hn).2
      rw [e, hfi] at h1; omega
    subst hni
    have r := ((valid_iff.1 hv).2 n hn).1
    have hadd := name_added r hf hc hch hk
    have e1 : rowP c (colA s[n].attrs c.attr).toNat row = (row ++ [c.dflt], 0) := by simp [rowP, hk]
    rw [e1]
    show rowP (backC c) (colA (newT s[n] c).attrs c.name).toNat (row ++ [c.dflt]) = (row, 0)
    rw [hadd, Int.toNat_natCast]
    have hl := (fits_iff.1 f1).1
    unfold rowP
    rw [if_neg (show ¬ (backC c).kind = 1 from fun e => by cases e), if_pos (show (backC c).kind = 2 from rfl), ← hl, List.eraseIdx_append_of_length_le (by simp), Nat.sub_self]
    simp
  · simp only [e, if_false]
    rw [if_neg (show ¬ s[n].name = (backC c).table from e)]
/-- Two changes of different tables. -/
theorem two_err {s : List Tb} {c d : Cg} (h : errOf s c = 0) (k : errOf s d = 0) (hne : c.table ≠ d.table) : errOf (applyS s c) d = 0 := by
  obtain ⟨hf, hv, j, hj, hfj, hnm, hc, hch⟩ := errOf_zero k
  have hjl : j < (applyS s c).length := by rw [applyS_len]; exact hj
  have hat : (applyS s c)[j] = s[j] := by rw [applyS_at h j hj, if_neg (by rw [hnm]; exact fun e => hne e.symm)]
  have hc' : d.kind ≠ 1 → ¬ colA (applyS s c)[j].attrs d.attr < 0 := fun hh => by rw [hat]; have := hc hh; omega
  rw [err_E4 hf (valid_apply h) j hjl (by rw [findT_apply]; exact hfj) hc', hat]
  exact hch
theorem two_apply {s : List Tb} {c d : Cg} (h : errOf s c = 0) (k : errOf s d = 0) (hne : c.table ≠ d.table) : applyS (applyS s c) d = applyS (applyS s d) c := by
  refine ext_at (by simp [applyS_len]) fun n hn => ?_
  have hn' : n < s.length := by simpa [applyS_len] using hn
  have h1 := two_err h k hne
  have h2 := two_err k h (fun e => hne e.symm)
  rw [applyS_at h1 n (by simpa [applyS_len] using hn'), applyS_at h2 n (by simpa [applyS_len] using hn'), applyS_at h n hn', applyS_at k n hn']
  by_cases e1 : s[n].name = c.table
  · have e2 : ¬ s[n].name = d.table := fun e2 => hne (e1.symm.trans e2)
    simp only [e2, if_false]
    rw [if_neg, if_pos e1]
    · rw [if_pos e1]; exact e2
  · simp only [e1, if_false]
    by_cases e2 : s[n].name = d.table
    · simp only [e2, if_pos]
      rw [if_neg]
      exact e1
    · simp only [e2, if_false]
      rw [if_neg e1]
theorem two_rows {s : List Tb} {c d : Cg} (h : errOf s c = 0) (k : errOf s d = 0) (hne : c.table ≠ d.table) (n : Nat) (hn : n < s.length) (row : List V) (hz : (convS s c n row).2 = 0) (kz : (convS s d n row).2 = 0) :
    (convS (applyS s c) d n (convS s c n row).1).2 = 0 ∧ convS (applyS s c) d n (convS s c n row).1 = convS (applyS s d) c n (convS s d n row).1 := by
  obtain ⟨f1, f2⟩ := conv_ok h n hn row hz
  obtain ⟨g1, g2⟩ := conv_ok k n hn row kz
  have h1 := two_err h k hne
  have h2 := two_err k h (fun e => hne e.symm)
  rw [conv_at h1 n (by rw [applyS_len]; exact hn) _ f2, conv_at h2 n (by rw [applyS_len]; exact hn) _ g2]
  rw [conv_at h n hn row f1] at hz ⊢
  rw [conv_at k n hn row g1] at kz ⊢
  rw [applyS_at h n hn, applyS_at k n hn]
  by_cases e1 : s[n].name = c.table
  · have e2 : ¬ s[n].name = d.table := fun e2 => hne (e1.symm.trans e2)
    rw [if_pos e1] at hz
    have e3 : ¬ (newT s[n] c).name = d.table := e2
    simp only [if_pos e1, if_neg e2, if_neg e3]
    refine ⟨trivial, ?_⟩
    exact Prod.ext rfl hz.symm
  · by_cases e2 : s[n].name = d.table
    · rw [if_pos e2] at kz
      have e3 : ¬ (newT s[n] d).name = c.table := e1
      simp only [if_neg e1, if_pos e2, if_neg e3]
      exact ⟨kz, Prod.ext rfl kz⟩
    · simp only [if_neg e1, if_neg e2]
      exact ⟨trivial, trivial⟩
end Go.Proofs.YtfifnemnihcijaaGreatDoor

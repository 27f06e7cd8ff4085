/- What SchemaRows asks of the plain schemas. Conditions: none. -/
import Derived.Test.YtalpbodjplnjcaaGreatDoorKLm
set_option linter.unusedSimpArgs false
set_option linter.unusedVariables false
namespace Go.Proofs.YtalpbodjplnjcaaGreatDoor
open Go.RowKit

section
variable {s : List Tb} {c : Cg} {row : List V}
theorem rows_bad (h : errOf s c ≠ 0) (n : Int) : convS s c n row = ([], errOf s c) := by
  unfold convS; rw [if_pos h]
theorem rows_unfit (h : errOf s c = 0) (n : Nat) (hn : n < s.length) (hf : fitsB s[n] row = false) : convS s c n row = ([], 1) := by
  unfold convS
  rw [if_neg (by rw [h]; simp)]
  simp only [Int.toNat_natCast, List.getElem?_eq_getElem hn, hf, or_true, if_true]
theorem rows_cast (h : errOf s c = 0) (n : Nat) (hn : n < s.length) (hf : fitsB s[n] row = true) (hz : (convS s c n row).2 ≠ 0) :
    convS s c n row = ([], 15) ∧ c.kind = 4 ∧ s[n].name = c.table ∧ ∃ (i : Nat) (hi : i < row.length), colA s[n].attrs c.attr = i ∧ (castP row[i] c.to_).2 ≠ 0 := by
  rw [conv_at h n hn row hf] at hz ⊢
  obtain ⟨hfo, hv, j, hj, hfj, hnm, hc, hch⟩ := errOf_zero h
  by_cases e : s[n].name = c.table
  · rw [if_pos e] at hz ⊢
    have hni : n = j := by
      have h1 := ((valid_iff.1 hv).2 n hn).2
      rw [e, hfj] at h1; omega
    subst hni
    rcases row_fits hfo hc hch row hf with ⟨hz2, _⟩ | ⟨hk, he, hcast⟩
    · exact absurd hz2 hz
    · refine ⟨he, hk, e, (colA s[n].attrs c.attr).toNat, ?_, ?_, ?_⟩
      · have h1 := (fits_iff.1 hf).1
        have h2 := (colA_lt s[n].attrs c.attr).2
        have := hc (by omega)
        omega
      · have := hc (by omega)
        omega
      · rw [List.getD_eq_getElem?_getD, List.getElem?_eq_getElem] at hcast
        exact hcast
  · rw [if_neg e] at hz
    exact absurd rfl hz
/-- Where a value of a row goes. -/
def toI (s : List Tb) (c : Cg) (n : Nat) (i : Int) : Int := match s[n]? with
  | some t => if t.name = c.table then movedI t c i else i
  | none => i
theorem rows_good (h : errOf s c = 0) (n : Nat) (hn : n < s.length) (hz : (convS s c n row).2 = 0) (i : Nat) (hi : i < row.length) (h0 : 0 ≤ toI s c n i) :
    toI s c n i < (convS s c n row).1.length ∧ ((c.kind ≠ 4 ∨ (i : Int) ≠ colA s[n].attrs c.attr) → (convS s c n row).1[(toI s c n i).toNat]? = some row[i]) := by
  obtain ⟨hf, _⟩ := conv_ok h n hn row hz
  obtain ⟨hfo, hv, j, hj, hfj, hnm, hc, hch⟩ := errOf_zero h
  rw [conv_at h n hn row hf] at hz ⊢
  unfold toI at h0 ⊢
  rw [List.getElem?_eq_getElem hn] at h0 ⊢
  simp only at h0 ⊢
  by_cases e : s[n].name = c.table
  · simp only [if_pos e] at hz h0 ⊢
    have hni : n = j := by
      have h1 := ((valid_iff.1 hv).2 n hn).2
      rw [e, hfj] at h1; omega
    subst hni
    have hst := row_stay hfo hc row hz i hi h0
    refine ⟨?_, hst⟩
    by_cases hx : c.kind ≠ 4 ∨ (i : Int) ≠ colA s[n].attrs c.attr
    · have := hst hx
      obtain ⟨hl, _⟩ := List.getElem?_eq_some_iff.1 this
      omega
    · have hk : c.kind = 4 := by omega
      have e1 : movedI s[n] c i = i := by unfold movedI; rw [if_pos (by omega)]
      rw [e1]
      unfold rowP at hz ⊢
      rw [if_neg (by omega), if_neg (by omega), if_neg (by omega)] at hz ⊢
      by_cases hcast : (castP (row.getD (colA s[n].attrs c.attr).toNat V.zero) c.to_).2 = 0
      · rw [if_pos hcast]
        simp only [List.length_set]
        omega
      · rw [if_neg hcast] at hz; cases hz
  · simp only [if_neg e]
    exact ⟨by omega, fun _ => by rw [Int.toNat_natCast, List.getElem?_eq_getElem hi]⟩
theorem rows_good2 (h : errOf s c = 0) (n : Nat) (hn : n < s.length) (hz : (convS s c n row).2 = 0) (i : Nat) (hi : i < row.length) (h0 : 0 ≤ toI s c n i) :
    toI s c n i < (convS s c n row).1.length ∧ ((convS s c n row).1[(toI s c n i).toNat]? = some row[i] ∨ (c.kind = 4 ∧ (i : Int) = colA s[n].attrs c.attr ∧ s[n].name = c.table)) := by
  obtain ⟨h1, h2⟩ := rows_good h n hn hz i hi h0
  refine ⟨h1, ?_⟩
  by_cases hx : c.kind ≠ 4 ∨ (i : Int) ≠ colA s[n].attrs c.attr
  · exact .inl (h2 hx)
  · by_cases e : s[n].name = c.table
    · exact .inr ⟨by omega, by omega, e⟩
    · left
      obtain ⟨hf, _⟩ := conv_ok h n hn row hz
      rw [conv_at h n hn row hf]
      unfold toI
      rw [List.getElem?_eq_getElem hn]
      simp only [if_neg e]
      rw [Int.toNat_natCast, List.getElem?_eq_getElem hi]
theorem rows_fitn (h : errOf s c = 0) (n : Nat) (hn : n < s.length) (hz : (convS s c n row).2 = 0) (hn' : n < (applyS s c).length) : fitsB (applyS s c)[n] (convS s c n row).1 = true := (conv_ok h n hn row hz).2
end
end Go.Proofs.YtalpbodjplnjcaaGreatDoor

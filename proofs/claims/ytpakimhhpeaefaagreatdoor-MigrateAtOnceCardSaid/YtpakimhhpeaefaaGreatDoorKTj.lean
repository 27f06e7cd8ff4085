/- schema.Apply at every change: contract. Conditions: none. -/
import Derived.Test.YtpakimhhpeaefaaGreatDoorKTi
set_option linter.unusedSimpArgs false
set_option linter.unusedVariables false
namespace Go.Proofs.YtpakimhhpeaefaaGreatDoor
open Go.RowKit

theorem ready_of {w : World} {t : RT} (a : TbAt w t) (few : ∀ r ∈ t.ra, r.at_.was.length ≤ 1000000) (r : Right t.tb) : Ready w t := by
  have hl : t.tb.attrs.length = t.ra.length := by simp [RT.tb]
  refine ⟨a.1.2, a.2.2, ?_, r.klen, ?_, few⟩
  · have := r.l12; omega
  · intro q hq
    obtain ⟨j, hj, rfl⟩ := List.mem_iff_getElem.1 hq
    have := (keyAt_iff.1 (r.key j hj)).1
    have h12 := r.l12
    have e : t.tb.key.getD j 0 = t.key[j] := by show t.key.getD j 0 = _; rw [List.getD_eq_getElem?_getD, List.getElem?_eq_getElem hj]; rfl
    rw [e] at this
    omega
theorem Ready.congr {w : World} {t t' : RT} (R : Ready w t) (h1 : t'.name = t.name) (h2 : t'.ra = t.ra) (h3 : t'.key = t.key) : Ready w t' :=
  ⟨by rw [h2]; exact R.ras, by rw [h1]; exact R.nm, by rw [h2]; exact R.al, by rw [h3]; exact R.kl, by rw [h3]; exact R.kb, by rw [h2]; exact R.few⟩
theorem tb_congr {t t' : RT} (h1 : t'.name = t.name) (h2 : t'.ra = t.ra) (h3 : t'.key = t.key) : t'.tb = t.tb := by
  unfold RT.tb; rw [h1, h2, h3]

theorem apply_ok (h : Hd) (ts : List RT) (c : Cg) (w : World) (a : TabsAt w h ts) (few : Few ts) (hn : okS c.name) (hd : okS c.dflt.s) :
    Calls Tryz.prog 27 #[.agg #[h.val], c.val] w fun e w' => ApplyOut (applyS (ts.map RT.tb) c) (errOf (ts.map RT.tb) c) w' e ∧ Same w w' := by
  by_cases hE : errOf (ts.map RT.tb) c = 0
  · obtain ⟨hf, hv, q, hq', hfi, hnm, hc, hch⟩ := errOf_zero hE
    have hq : q < ts.length := by simpa using hq'
    have e3 : (ts.map RT.tb)[q] = ts[q].tb := by simp
    rw [e3] at hc hch hnm
    obtain ⟨hl20, hright⟩ := valid_iff.1 hv
    have hl : ts.length ≤ 20 := by simpa using hl20
    have r := (hright q hq').1
    rw [e3] at r
    have hti := a.2 _ (List.getElem_mem hq)
    have R := ready_of hti (few _ (List.getElem_mem hq)) r
    have al : ts[q].tb.attrs.length = ts[q].ra.length := by simp [RT.tb]
    have hcl := (colA_lt ts[q].tb.attrs c.attr).2
    have fin : ∀ e w', (∃ (h' : Hd) (ts' : List RT), e = .returned (.tuple #[.agg #[h'.val], .int .i64 0]) ∧ TabsAt w' h' ts' ∧ ts'.map RT.tb = (ts.map RT.tb).set q (newT ts[q].tb c) ∧ Same w w') → ApplyOut (applyS (ts.map RT.tb) c) (errOf (ts.map RT.tb) c) w' e ∧ Same w w' := by
      rintro e w' ⟨h', ts', he, hT, hm, s⟩
      refine ⟨.inr ⟨hE, h', ts', he, hT, ?_⟩, s⟩
      rw [hm]
      unfold applyS
      rw [hfi, Int.toNat_natCast, ← set_modify _ q hq', e3]
    have FO : ∀ W, Same w W → Calls Tryz.prog 56 #[.agg #[h.val], c.val] W fun e w' => e = .returned (.tuple #[effV c.kind, .int .i64 q, .int .i64 (colA ts[q].tb.attrs c.attr), .int .i64 0]) ∧ Same W w' := by
      intro W s
      refine (find_all h ts c W (a.same s) few hn).mono ?_
      rintro e w' ⟨⟨x, y, he, hxy⟩, s'⟩
      obtain ⟨e1, e2⟩ := hxy hE
      rw [hfi] at e1 e2
      rw [Int.toNat_natCast, List.getElem?_eq_getElem hq] at e2
      rw [he, e1, e2, hE]
      exact ⟨rfl, s'⟩
    have nat : c.kind ≠ 1 → ∃ k : Nat, colA ts[q].tb.attrs c.attr = k ∧ k < ts[q].ra.length := fun h => ⟨(colA ts[q].tb.attrs c.attr).toNat, (Int.toNat_of_nonneg (hc h)).symm, by have := hc h; omega⟩
    rcases formed_kind hf with hk | hk | hk | hk
    · have hv : effV c.kind = .agg #[.bool false, fnV 106, fnV 109, fnV 110] := by simp [effV, hk, effAdd]
      rw [hv] at FO
      refine (apply_gen _ _ _ rfl rfl rfl 109 (enters_of Tryz.func109 (by kernel_rfl) rfl) h ts c w a hl q hq _ R (newT ts[q].tb c) FO ?_).mono fin
      intro W g cc ts' t h1 h2 h3 S
      have := table_add c (colA ts[q].tb.attrs c.attr) S (R.congr h1 h2 h3) hk hn hd
      rw [tb_congr h1 h2 h3] at this
      exact this
    · obtain ⟨k, hk1, hk2⟩ := nat (by omega)
      have hv : effV c.kind = .agg #[.bool true, fnV 111, fnV 113, fnV 115] := by simp [effV, hk, effDrop]
      rw [hv] at FO
      refine (apply_gen _ _ _ rfl rfl rfl 113 (enters_of Tryz.func113 (by kernel_rfl) rfl) h ts c w a hl q hq _ R (newT ts[q].tb c) FO ?_).mono fin
      intro W g cc ts' t h1 h2 h3 S
      rw [hk1]
      have := table_drop c k S (R.congr h1 h2 h3) hk (by rw [h2]; exact hk2) (by rw [tb_congr h1 h2 h3]; exact hk1)
      rw [tb_congr h1 h2 h3] at this
      exact this
    · obtain ⟨k, hk1, hk2⟩ := nat (by omega)
      have hv : effV c.kind = .agg #[.bool true, fnV 117, fnV 118, fnV 120] := by simp [effV, hk, effRen]
      rw [hv] at FO
      refine (apply_gen _ _ _ rfl rfl rfl 118 (enters_of Tryz.func118 (by kernel_rfl) rfl) h ts c w a hl q hq _ R (newT ts[q].tb c) FO ?_).mono fin
      intro W g cc ts' t h1 h2 h3 S
      rw [hk1]
      have := table_ren c k S (R.congr h1 h2 h3) hk (by rw [h2]; exact hk2) (by rw [tb_congr h1 h2 h3]; exact hk1) hn
      rw [tb_congr h1 h2 h3] at this
      exact this
    · obtain ⟨k, hk1, hk2⟩ := nat (by omega)
      have hv : effV c.kind = .agg #[.bool true, fnV 121, fnV 122, fnV 123] := by simp [effV, hk, effCast]
      rw [hv] at FO
      refine (apply_gen _ _ _ rfl rfl rfl 122 (enters_of Tryz.func122 (by kernel_rfl) rfl) h ts c w a hl q hq _ R (newT ts[q].tb c) FO ?_).mono fin
      intro W g cc ts' t h1 h2 h3 S
      rw [hk1]
      have := table_cast c k S (R.congr h1 h2 h3) hk (by rw [h2]; exact hk2) (by rw [tb_congr h1 h2 h3]; exact hk1) hd
      rw [tb_congr h1 h2 h3] at this
      exact this
  · refine (apply_bad h ts c w a few hn hE).mono ?_
    rintro e w' ⟨he, s⟩
    exact ⟨.inl ⟨hE, he⟩, s⟩
end Go.Proofs.YtpakimhhpeaefaaGreatDoor

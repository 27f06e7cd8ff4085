/- MigrateValid: the walk. Conditions: Laid. -/
import Derived.Test.YtpakimhhpeaefaaGreatDoorKHp
import Derived.Test.YtpakimhhpeaefaaGreatDoorKHu
set_option linter.unusedSimpArgs false
set_option linter.unusedVariables false
namespace Go.Proofs.YtpakimhhpeaefaaGreatDoor
open Go.RowKit
/-- What Finish gives fits the schema after the change. -/
theorem out_fits {m : Mg} (h : m.Fine) (hl : m.left = 0) : fitsT (applyS m.s m.c) m.out = true := by
  obtain ⟨hd, hz⟩ := h.whole hl
  obtain ⟨hf, hv, i, hi, hfi, hnm, hcol, hck⟩ := errOf_zero h.err
  have hti : i = m.ti := by have := h.at_; rw [hfi] at this; omega
  subst hti
  have hv' := (valid_iff.1 hv).2
  have htl : m.ti < m.tabs.length := by rw [h.len]; exact h.til
  have hrows : m.rows = m.tabs[m.ti] := by unfold Mg.rows; rw [List.getD_eq_getElem?_getD, List.getElem?_eq_getElem htl]; rfl
  rw [fitsT_iff]
  refine ⟨by simp [Mg.out, applyS_len, h.len], fun j h1 h2 row hr => ?_⟩
  have hj : j < m.s.length := by rw [applyS_len] at h2; exact h2
  have hjt : j < m.tabs.length := by rw [h.len]; exact hj
  rw [applyS_at h.err j hj]
  by_cases e : j = m.ti
  · subst e
    rw [if_pos hnm]
    have hr' : row ∈ m.done := by simpa [Mg.out] using hr
    rw [hd] at hr'
    obtain ⟨r0, hr0, rfl⟩ := List.mem_map.1 hr'
    have hf0 : fitsB m.s[m.ti] r0 = true := h.fit m.ti htl hj r0 (by rw [← hrows]; exact hr0)
    have hc := conv_at h.err m.ti hj r0 hf0
    rw [if_pos hnm] at hc
    have hz0 := hz r0 hr0
    rw [hc] at hz0 ⊢
    rcases row_fits hf hcol hck r0 hf0 with ⟨_, h3⟩ | ⟨_, h3, _⟩
    · exact h3
    · rw [h3] at hz0; cases hz0
  · have hname : m.s[j].name ≠ m.c.table := by
      intro e2
      have h3 := (hv' j hj).2
      rw [e2, hfi] at h3
      exact e (by omega)
    rw [if_neg hname]
    have hr' : row ∈ m.tabs[j] := by
      have e3 : m.out[j] = m.tabs[j] := by simp only [Mg.out]; rw [List.getElem_set_ne (Ne.symm e)]
      rw [← e3]; exact hr
    exact h.fit j hjt hj row hr'
theorem fin_left {m : Mg} (h : m.finE = 0) : m.left = 0 := by
  unfold Mg.finE at h
  split at h
  · cases h
  · split at h
    · cases h
    · split at h
      · cases h
      · omega
theorem out_few {m : Mg} (h : m.Fine) (hf : FewR m.tabs) (hl : m.left = 0) : FewR m.out := by
  refine ⟨by simp [Mg.out]; exact hf.1, fun rows hr => ?_⟩
  rcases List.mem_or_eq_of_mem_set (show rows ∈ m.tabs.set m.ti m.done from hr) with h1 | h1
  · exact hf.2 rows h1
  · rw [h1]
    have h2 := h.dl
    have htl : m.ti < m.tabs.length := by rw [h.len]; exact h.til
    have h3 : m.rows ∈ m.tabs := by unfold Mg.rows; rw [List.getD_eq_getElem?_getD, List.getElem?_eq_getElem htl]; exact List.getElem_mem htl
    have := hf.2 _ h3
    omega
set_option maxHeartbeats 8000000 in
set_option maxRecDepth 100000 in
theorem valid_walk (h : Hd) (ts : List RT) (c : Cg) (d : Cg) (ht : Hd) (tbs : List Tbl) (ho : Hd) (ops : List Opn) (w : World) (l : Laid w) (a : TabsAt w h ts) (hn : okS c.name) (hd : okS c.dflt.s) (hn2 : okS d.name) (hd2 : okS d.dflt.s) (tt : TablesAt w (fun k => k < w.heap.size) ht tbs) (oo : OpsAt w (fun k => k < w.heap.size) ho ops) :
    Calls Tryz.prog 7 #[.agg #[h.val], c.val, d.val, ht.val, ho.val] w fun e w' => e = .returned (.bool true) ∧ Same w w' := by
  have HL := Lib.hid l
  have HTA := Lib.hid a
  have HH := Lib.hid (fun W (s : Same w W) => head43_ok W (l.same s))
  have HS := Lib.hid (fun W (s : Same w W) => smallM_ok h ht ho ts tbs ops W (a.same s) (tt.same s) (oo.same s))
  have HER := Lib.hid (fun (few : Few ts) (hE : startE (ts.map RT.tb) c (rowsOf tbs) ≠ 0) W (s : Same w W) => start_err h ts c ht tbs W (a.same s) few hn hd (tt.same s) hE)
  have HOK := Lib.hid (fun (hw : WasL (ts.map RT.tb) 10) (tsl : ts.length ≤ 1000000) (fr : FewR (rowsOf tbs)) (hE : startE (ts.map RT.tb) c (rowsOf tbs) = 0) W (s : Same w W) => start_liveX h ts c ht tbs W (l.same s) (a.same s) hw (by decide) tsl hn hd (tt.same s) fr hE)
  have HPL := Lib.hid (fun (hf : fewB (rowsOf tbs) = true) (h20 : ops.length ≤ 20) (w2 w3 : World) (g : Nat) (s : Same w w2) (L : LiveX w2 w3 g (start (ts.map RT.tb) c (rowsOf tbs)) w2.heap.size w3.heap.size (fun _ => False)) => play_live (K := fun _ => True) ht tbs ho ops w s tt oo hf h20 L)
  have HON := Lib.hid hn
  have HOD := Lib.hid hd
  have HN2 := Lib.hid hn2
  have HD2 := Lib.hid hd2
  obtain ⟨k2, t2, aa2, n2, to2, ⟨dk2, dn2, ds2⟩⟩ := d
  clear hn2 hd2
  have htl : tbs.length = ht.n := tt.1.1
  have htb : ht.n ≤ 9223372036854775807 := tt.1.2.1
  have hol : ops.length = ho.n := oo.1.1
  have hob : ho.n ≤ 9223372036854775807 := oo.1.2.1
  obtain ⟨A, m, cc⟩ := h
  obtain ⟨At_, tm, tc⟩ := ht
  obtain ⟨Ao, om, oc⟩ := ho
  obtain ⟨k, t, aa, n, to_, ⟨dk, dn, ds⟩⟩ := c
  have htl' : tbs.length = tm := htl
  have htb' : tm ≤ 9223372036854775807 := htb
  have hol' : ops.length = om := hol
  have hob' : om ≤ 9223372036854775807 := hob
  subst htl' hol'
  clear htl htb hol hob a l hn hd tt oo
  show Calls Tryz.prog 7 #[.agg #[.slice A m cc], .agg #[.int .i64 k, .string t, .string aa, .string n, .int .i64 to_, .int .i64 dk, .int .i64 dn, .string ds], .agg #[.int .i64 k2, .string t2, .string aa2, .string n2, .int .i64 to2, .int .i64 dk2, .int .i64 dn2, .string ds2], .slice At_ tbs.length tc, .slice Ao ops.length oc] w _
  obtain ⟨q, hq⟩ : ∃ q, q = smallM (ts.map RT.tb) (rowsOf tbs) ops := ⟨_, rfl⟩
  have HS' : Hid (∀ W, Same w W → Calls Tryz.prog 11 #[.agg #[.slice A m cc], .slice At_ tbs.length tc, .slice Ao ops.length oc] W fun e w' => e = .returned (.bool q) ∧ Same W w') := by rw [hq]; exact HS
  have HQ := Lib.hid hq
  clear HS hq
  go_enter Tryz.func7, Tryz.ntmps7
  go_wp2_with (fail)
  obtain ⟨W0, hW0⟩ : ∃ W0, W0 = ((w.alloc (.cells #[.slice A m cc] 24)).alloc (.cells #[.int .i64 k, .string t, .string aa, .string n, .int .i64 to_, .int .i64 dk, .int .i64 dn, .string ds] 28)).alloc (.cells #[.int .i64 k2, .string t2, .string aa2, .string n2, .int .i64 to2, .int .i64 dk2, .int .i64 dn2, .string ds2] 28) := ⟨_, rfl⟩
  have S_w_W0 : Hid (Same w W0) := by rw [hW0]; exact (((Same.refl w).alloc _).alloc _).alloc _
  have Bbs : Blk W0 (w.heap.size) 24 #[.slice A m cc] := by rw [hW0]; exact (((Blk.new w _ _).alloc _).alloc _)
  have Bbc : Blk W0 (w.heap.size + 1) 28 #[.int .i64 k, .string t, .string aa, .string n, .int .i64 to_, .int .i64 dk, .int .i64 dn, .string ds] := by
    have e : w.heap.size + 1 = (w.alloc (.cells #[.slice A m cc] 24)).heap.size := by simp
    rw [hW0, e]; exact ((Blk.new _ _ _).alloc _)
  have Bbd : Blk W0 (w.heap.size + 1 + 1) 28 #[.int .i64 k2, .string t2, .string aa2, .string n2, .int .i64 to2, .int .i64 dk2, .int .i64 dn2, .string ds2] := by
    have e : w.heap.size + 1 + 1 = ((w.alloc (.cells #[.slice A m cc] 24)).alloc (.cells #[.int .i64 k, .string t, .string aa, .string n, .int .i64 to_, .int .i64 dk, .int .i64 dn, .string ds] 28)).heap.size := by simp
    rw [hW0, e]; exact (Blk.new _ _ _)
  rw [← hW0]
  clear hW0
  have lbsW0 := Bbs.lt
  have bsW00 : W0.cell? ⟨w.heap.size, 0, none⟩ = some (.slice A m cc) := Bbs.cell 0
  clear Bbs
  have lbcW0 := Bbc.lt
  have bcW00 : W0.cell? ⟨w.heap.size + 1, 0, none⟩ = some (.int .i64 k) := Bbc.cell 0
  have bcW01 : W0.cell? ⟨w.heap.size + 1, 1, none⟩ = some (.string t) := Bbc.cell 1
  have bcW02 : W0.cell? ⟨w.heap.size + 1, 2, none⟩ = some (.string aa) := Bbc.cell 2
  have bcW03 : W0.cell? ⟨w.heap.size + 1, 3, none⟩ = some (.string n) := Bbc.cell 3
  have bcW04 : W0.cell? ⟨w.heap.size + 1, 4, none⟩ = some (.int .i64 to_) := Bbc.cell 4
  have bcW05 : W0.cell? ⟨w.heap.size + 1, 5, none⟩ = some (.int .i64 dk) := Bbc.cell 5
  have bcW06 : W0.cell? ⟨w.heap.size + 1, 6, none⟩ = some (.int .i64 dn) := Bbc.cell 6
  have bcW07 : W0.cell? ⟨w.heap.size + 1, 7, none⟩ = some (.string ds) := Bbc.cell 7
  clear Bbc
  have lbdW0 := Bbd.lt
  have bdW00 : W0.cell? ⟨w.heap.size + 1 + 1, 0, none⟩ = some (.int .i64 k2) := Bbd.cell 0
  have bdW01 : W0.cell? ⟨w.heap.size + 1 + 1, 1, none⟩ = some (.string t2) := Bbd.cell 1
  have bdW02 : W0.cell? ⟨w.heap.size + 1 + 1, 2, none⟩ = some (.string aa2) := Bbd.cell 2
  have bdW03 : W0.cell? ⟨w.heap.size + 1 + 1, 3, none⟩ = some (.string n2) := Bbd.cell 3
  have bdW04 : W0.cell? ⟨w.heap.size + 1 + 1, 4, none⟩ = some (.int .i64 to2) := Bbd.cell 4
  have bdW05 : W0.cell? ⟨w.heap.size + 1 + 1, 5, none⟩ = some (.int .i64 dk2) := Bbd.cell 5
  have bdW06 : W0.cell? ⟨w.heap.size + 1 + 1, 6, none⟩ = some (.int .i64 dn2) := Bbd.cell 6
  have bdW07 : W0.cell? ⟨w.heap.size + 1 + 1, 7, none⟩ = some (.string ds2) := Bbd.cell 7
  clear Bbd
  refine (HH.out _ S_w_W0.out).mono ?_
  rintro e w1 ⟨rfl, s1⟩
  have S_w_w1 : Hid (Same w w1) := S_w_W0.out.trans s1
  have lbsw1 : w.heap.size < w1.heap.size := Nat.lt_of_lt_of_le lbsW0 (Same.size s1)
  have bsw10 : w1.cell? ⟨w.heap.size, 0, none⟩ = some (.slice A m cc) := (Same.cells s1 _ _ lbsW0).trans bsW00
  have lbcw1 : w.heap.size + 1 < w1.heap.size := Nat.lt_of_lt_of_le lbcW0 (Same.size s1)
  have bcw10 : w1.cell? ⟨w.heap.size + 1, 0, none⟩ = some (.int .i64 k) := (Same.cells s1 _ _ lbcW0).trans bcW00
  have bcw11 : w1.cell? ⟨w.heap.size + 1, 1, none⟩ = some (.string t) := (Same.cells s1 _ _ lbcW0).trans bcW01
  have bcw12 : w1.cell? ⟨w.heap.size + 1, 2, none⟩ = some (.string aa) := (Same.cells s1 _ _ lbcW0).trans bcW02
  have bcw13 : w1.cell? ⟨w.heap.size + 1, 3, none⟩ = some (.string n) := (Same.cells s1 _ _ lbcW0).trans bcW03
  have bcw14 : w1.cell? ⟨w.heap.size + 1, 4, none⟩ = some (.int .i64 to_) := (Same.cells s1 _ _ lbcW0).trans bcW04
  have bcw15 : w1.cell? ⟨w.heap.size + 1, 5, none⟩ = some (.int .i64 dk) := (Same.cells s1 _ _ lbcW0).trans bcW05
  have bcw16 : w1.cell? ⟨w.heap.size + 1, 6, none⟩ = some (.int .i64 dn) := (Same.cells s1 _ _ lbcW0).trans bcW06
  have bcw17 : w1.cell? ⟨w.heap.size + 1, 7, none⟩ = some (.string ds) := (Same.cells s1 _ _ lbcW0).trans bcW07
  have lbdw1 : w.heap.size + 1 + 1 < w1.heap.size := Nat.lt_of_lt_of_le lbdW0 (Same.size s1)
  have bdw10 : w1.cell? ⟨w.heap.size + 1 + 1, 0, none⟩ = some (.int .i64 k2) := (Same.cells s1 _ _ lbdW0).trans bdW00
  have bdw11 : w1.cell? ⟨w.heap.size + 1 + 1, 1, none⟩ = some (.string t2) := (Same.cells s1 _ _ lbdW0).trans bdW01
  have bdw12 : w1.cell? ⟨w.heap.size + 1 + 1, 2, none⟩ = some (.string aa2) := (Same.cells s1 _ _ lbdW0).trans bdW02
  have bdw13 : w1.cell? ⟨w.heap.size + 1 + 1, 3, none⟩ = some (.string n2) := (Same.cells s1 _ _ lbdW0).trans bdW03
  have bdw14 : w1.cell? ⟨w.heap.size + 1 + 1, 4, none⟩ = some (.int .i64 to2) := (Same.cells s1 _ _ lbdW0).trans bdW04
  have bdw15 : w1.cell? ⟨w.heap.size + 1 + 1, 5, none⟩ = some (.int .i64 dk2) := (Same.cells s1 _ _ lbdW0).trans bdW05
  have bdw16 : w1.cell? ⟨w.heap.size + 1 + 1, 6, none⟩ = some (.int .i64 dn2) := (Same.cells s1 _ _ lbdW0).trans bdW06
  have bdw17 : w1.cell? ⟨w.heap.size + 1 + 1, 7, none⟩ = some (.string ds2) := (Same.cells s1 _ _ lbdW0).trans bdW07
  clear S_w_W0 lbsW0 bsW00 lbcW0 bcW00 bcW01 bcW02 bcW03 bcW04 bcW05 bcW06 bcW07 lbdW0 bdW00 bdW01 bdW02 bdW03 bdW04 bdW05 bdW06 bdW07
  clear s1
  clear HH
  go_wp2_with (fail)
  refine (HS'.out _ S_w_w1.out).mono ?_
  rintro e w2 ⟨rfl, s2⟩
  have S_w_w2 : Hid (Same w w2) := S_w_w1.out.trans s2
  have lbsw2 : w.heap.size < w2.heap.size := Nat.lt_of_lt_of_le lbsw1 (Same.size s2)
  have bsw20 : w2.cell? ⟨w.heap.size, 0, none⟩ = some (.slice A m cc) := (Same.cells s2 _ _ lbsw1).trans bsw10
  have lbcw2 : w.heap.size + 1 < w2.heap.size := Nat.lt_of_lt_of_le lbcw1 (Same.size s2)
  have bcw20 : w2.cell? ⟨w.heap.size + 1, 0, none⟩ = some (.int .i64 k) := (Same.cells s2 _ _ lbcw1).trans bcw10
  have bcw21 : w2.cell? ⟨w.heap.size + 1, 1, none⟩ = some (.string t) := (Same.cells s2 _ _ lbcw1).trans bcw11
  have bcw22 : w2.cell? ⟨w.heap.size + 1, 2, none⟩ = some (.string aa) := (Same.cells s2 _ _ lbcw1).trans bcw12
  have bcw23 : w2.cell? ⟨w.heap.size + 1, 3, none⟩ = some (.string n) := (Same.cells s2 _ _ lbcw1).trans bcw13
  have bcw24 : w2.cell? ⟨w.heap.size + 1, 4, none⟩ = some (.int .i64 to_) := (Same.cells s2 _ _ lbcw1).trans bcw14
  have bcw25 : w2.cell? ⟨w.heap.size + 1, 5, none⟩ = some (.int .i64 dk) := (Same.cells s2 _ _ lbcw1).trans bcw15
  have bcw26 : w2.cell? ⟨w.heap.size + 1, 6, none⟩ = some (.int .i64 dn) := (Same.cells s2 _ _ lbcw1).trans bcw16
  have bcw27 : w2.cell? ⟨w.heap.size + 1, 7, none⟩ = some (.string ds) := (Same.cells s2 _ _ lbcw1).trans bcw17
  have lbdw2 : w.heap.size + 1 + 1 < w2.heap.size := Nat.lt_of_lt_of_le lbdw1 (Same.size s2)
  have bdw20 : w2.cell? ⟨w.heap.size + 1 + 1, 0, none⟩ = some (.int .i64 k2) := (Same.cells s2 _ _ lbdw1).trans bdw10
  have bdw21 : w2.cell? ⟨w.heap.size + 1 + 1, 1, none⟩ = some (.string t2) := (Same.cells s2 _ _ lbdw1).trans bdw11
  have bdw22 : w2.cell? ⟨w.heap.size + 1 + 1, 2, none⟩ = some (.string aa2) := (Same.cells s2 _ _ lbdw1).trans bdw12
  have bdw23 : w2.cell? ⟨w.heap.size + 1 + 1, 3, none⟩ = some (.string n2) := (Same.cells s2 _ _ lbdw1).trans bdw13
  have bdw24 : w2.cell? ⟨w.heap.size + 1 + 1, 4, none⟩ = some (.int .i64 to2) := (Same.cells s2 _ _ lbdw1).trans bdw14
  have bdw25 : w2.cell? ⟨w.heap.size + 1 + 1, 5, none⟩ = some (.int .i64 dk2) := (Same.cells s2 _ _ lbdw1).trans bdw15
  have bdw26 : w2.cell? ⟨w.heap.size + 1 + 1, 6, none⟩ = some (.int .i64 dn2) := (Same.cells s2 _ _ lbdw1).trans bdw16
  have bdw27 : w2.cell? ⟨w.heap.size + 1 + 1, 7, none⟩ = some (.string ds2) := (Same.cells s2 _ _ lbdw1).trans bdw17
  clear S_w_w1 lbsw1 bsw10 lbcw1 bcw10 bcw11 bcw12 bcw13 bcw14 bcw15 bcw16 bcw17 lbdw1 bdw10 bdw11 bdw12 bdw13 bdw14 bdw15 bdw16 bdw17
  clear s2
  have SW2 : Hid (Same w w2) := S_w_w2
  clear HS'
  cases q with
  | false =>
    go_wp2_with (fail)
    go_ret
    first | exact ⟨rfl, S_w_w2.out⟩ | exact ⟨rfl, S_w_w2.out.alloc _⟩ | exact ⟨rfl, (S_w_w2.out.alloc _).alloc _⟩
  | true =>
    have HP := Lib.hid (smallM_parts HQ.out.symm)
    have HW : Hid (WasL (ts.map RT.tb) 10) := wasL_small HP.out.1
    have HTL : Hid (ts.length ≤ 1000000) := by have := len_small HP.out.1; rw [List.length_map] at this; exact this
    have HFR := Lib.hid (fewR_of HP.out.2.1)
    have HT6 : Hid (tbs.length ≤ 6) := tabs_le6 HP.out.2.1
    by_cases hE : startE (ts.map RT.tb) ⟨k, t, aa, n, to_, ⟨dk, dn, ds⟩⟩ (rowsOf tbs) = 0
    case neg =>
      obtain ⟨E1, hE1⟩ : ∃ E1, E1 = startE (ts.map RT.tb) ⟨k, t, aa, n, to_, ⟨dk, dn, ds⟩⟩ (rowsOf tbs) := ⟨_, rfl⟩
      have HX : Hid (∀ W, Same w W → Calls Tryz.prog 12 #[.agg #[.slice A m cc], .agg #[.int .i64 k, .string t, .string aa, .string n, .int .i64 to_, .int .i64 dk, .int .i64 dn, .string ds], .slice At_ tbs.length tc] W fun e w' => e = .returned (.tuple #[.pointer none, .int .i64 E1]) ∧ Same W w') := by rw [hE1]; exact HER.out (few_was rfl HW.out (by decide)) hE
      rw [← hE1] at hE
      have e1 : (E1 != 0) = true := by simp [hE]
      clear hE1 hE HPL HOK
      go_wp2_with (fail)
      refine (HX.out _ S_w_w2.out).mono ?_
      rintro e w4 ⟨rfl, s4⟩
      have S_w_w4 : Hid (Same w w4) := S_w_w2.out.trans s4
      have lbsw4 : w.heap.size < w4.heap.size := Nat.lt_of_lt_of_le lbsw2 (Same.size s4)
      have bsw40 : w4.cell? ⟨w.heap.size, 0, none⟩ = some (.slice A m cc) := (Same.cells s4 _ _ lbsw2).trans bsw20
      have lbcw4 : w.heap.size + 1 < w4.heap.size := Nat.lt_of_lt_of_le lbcw2 (Same.size s4)
      have bcw40 : w4.cell? ⟨w.heap.size + 1, 0, none⟩ = some (.int .i64 k) := (Same.cells s4 _ _ lbcw2).trans bcw20
      have bcw41 : w4.cell? ⟨w.heap.size + 1, 1, none⟩ = some (.string t) := (Same.cells s4 _ _ lbcw2).trans bcw21
      have bcw42 : w4.cell? ⟨w.heap.size + 1, 2, none⟩ = some (.string aa) := (Same.cells s4 _ _ lbcw2).trans bcw22
      have bcw43 : w4.cell? ⟨w.heap.size + 1, 3, none⟩ = some (.string n) := (Same.cells s4 _ _ lbcw2).trans bcw23
      have bcw44 : w4.cell? ⟨w.heap.size + 1, 4, none⟩ = some (.int .i64 to_) := (Same.cells s4 _ _ lbcw2).trans bcw24
      have bcw45 : w4.cell? ⟨w.heap.size + 1, 5, none⟩ = some (.int .i64 dk) := (Same.cells s4 _ _ lbcw2).trans bcw25
      have bcw46 : w4.cell? ⟨w.heap.size + 1, 6, none⟩ = some (.int .i64 dn) := (Same.cells s4 _ _ lbcw2).trans bcw26
      have bcw47 : w4.cell? ⟨w.heap.size + 1, 7, none⟩ = some (.string ds) := (Same.cells s4 _ _ lbcw2).trans bcw27
      have lbdw4 : w.heap.size + 1 + 1 < w4.heap.size := Nat.lt_of_lt_of_le lbdw2 (Same.size s4)
      have bdw40 : w4.cell? ⟨w.heap.size + 1 + 1, 0, none⟩ = some (.int .i64 k2) := (Same.cells s4 _ _ lbdw2).trans bdw20
      have bdw41 : w4.cell? ⟨w.heap.size + 1 + 1, 1, none⟩ = some (.string t2) := (Same.cells s4 _ _ lbdw2).trans bdw21
      have bdw42 : w4.cell? ⟨w.heap.size + 1 + 1, 2, none⟩ = some (.string aa2) := (Same.cells s4 _ _ lbdw2).trans bdw22
      have bdw43 : w4.cell? ⟨w.heap.size + 1 + 1, 3, none⟩ = some (.string n2) := (Same.cells s4 _ _ lbdw2).trans bdw23
      have bdw44 : w4.cell? ⟨w.heap.size + 1 + 1, 4, none⟩ = some (.int .i64 to2) := (Same.cells s4 _ _ lbdw2).trans bdw24
      have bdw45 : w4.cell? ⟨w.heap.size + 1 + 1, 5, none⟩ = some (.int .i64 dk2) := (Same.cells s4 _ _ lbdw2).trans bdw25
      have bdw46 : w4.cell? ⟨w.heap.size + 1 + 1, 6, none⟩ = some (.int .i64 dn2) := (Same.cells s4 _ _ lbdw2).trans bdw26
      have bdw47 : w4.cell? ⟨w.heap.size + 1 + 1, 7, none⟩ = some (.string ds2) := (Same.cells s4 _ _ lbdw2).trans bdw27
      clear S_w_w2 lbsw2 bsw20 lbcw2 bcw20 bcw21 bcw22 bcw23 bcw24 bcw25 bcw26 bcw27 lbdw2 bdw20 bdw21 bdw22 bdw23 bdw24 bdw25 bdw26 bdw27
      clear s4
      go_wp2_with (fail)
      go_ret
      exact ⟨rfl, S_w_w4.out⟩
    case pos =>
      have HX := Lib.hid (HOK.out HW.out HTL.out HFR.out.1 hE)
      have HY := Lib.hid (HPL.out HP.out.2.1 HP.out.2.2.1)
      have HM1 : Hid ((start (ts.map RT.tb) ⟨k, t, aa, n, to_, ⟨dk, dn, ds⟩⟩ (rowsOf tbs)).Fine ∧ errOf (ts.map RT.tb) ⟨k, t, aa, n, to_, ⟨dk, dn, ds⟩⟩ = 0) := ⟨start_fine hE, (start_fine hE).err⟩
      obtain ⟨M0, hM0⟩ : ∃ M0, M0 = start (ts.map RT.tb) ⟨k, t, aa, n, to_, ⟨dk, dn, ds⟩⟩ (rowsOf tbs) := ⟨_, rfl⟩
      have HM0 : Hid (M0.Fine ∧ M0.s = (ts.map RT.tb) ∧ M0.c = ⟨k, t, aa, n, to_, ⟨dk, dn, ds⟩⟩ ∧ M0.tabs = rowsOf tbs) := by rw [hM0]; exact Lib.hid ⟨start_fine hE, rfl, rfl, rfl⟩
      rw [← hM0] at HX HY
      clear hM0 hE HER HOK HPL
      go_wp2_with (fail)
      refine (HX.out _ SW2.out).mono ?_
      rintro e w3 ⟨g, rfl, lv⟩
      have LV := Lib.hid lv
      clear lv HX
      go_wp2_with (fail)
      refine (HY.out _ _ _ SW2.out LV.out).mono ?_
      rintro e w4 ⟨Ap, cp, M, hi, tb, rfl, D⟩
      have DD := Lib.hid D
      have HFEW : Hid (FewR M.tabs) := D.fewR (show tbs.length ≤ 1000000 by have := HT6.out; omega) (by decide)
      have HRW : Hid (M.rows.length ≤ 40) := rows_le D.few
      clear D HY LV
      go_wp2_with (fail)
      refine (DD.out.live.step 1000 (by have := HRW.out; omega) (by decide) (by decide)).mono ?_
      rintro e w5 ⟨rfl, lv5, cc5⟩
      have HST := Lib.hid (step_still DD.out.closed 1000)
      obtain ⟨M1, hM1⟩ : ∃ M1, M1 = M.step 1000 := ⟨_, rfl⟩
      rw [← hM1] at lv5 HST
      have LV5 := Lib.hid lv5
      have HF1 : Hid (FewR M1.tabs) := by rw [HST.out.1]; exact HFEW
      have HD1 : Hid (M1.done.length ≤ 1000000) := by
        have h1 := lv5.fine.dl
        rw [HST.out.2.2.1] at h1
        have h2 := HRW.out
        exact Lib.hid (by omega)
      have HMS : Hid (M1.s = (ts.map RT.tb) ∧ M1.c = ⟨k, t, aa, n, to_, ⟨dk, dn, ds⟩⟩) := Lib.hid ⟨HST.out.2.2.2.1.trans (DD.out.s.trans HM0.out.2.1), HST.out.2.2.2.2.1.trans (DD.out.c.trans HM0.out.2.2.1)⟩
      clear lv5 cc5 hM1
      go_wp2_with (fail)
      by_cases hfe : M1.finE = 0
      case neg =>
        obtain ⟨E6, hE6⟩ : ∃ E6, E6 = M1.finE := ⟨_, rfl⟩
        have HFE := LV5.out.finishE hfe
        rw [← hE6] at HFE hfe
        have t6 : (E6 != 0) = true := by simp; exact hfe
        clear hE6 hfe
        refine HFE.mono ?_
        rintro e w6 ⟨rfl, lv6, s6⟩
        have S6 : Hid (Same w w6) := SW2.out.trans lv6.same
        clear lv6 s6 HFE LV5 HD1
        have hz6 := S6.out.size
        go_wp2_with (fail)
        go_ret
        refine ⟨rfl, ?_⟩
        (repeat (first | (with_reducible refine Same.setCell ?_ (by dsimp only; omega) _) | (with_reducible refine Same.drew ?_) | (with_reducible refine Same.alloc ?_ _)))
        exact S6.out
      case pos =>
        refine (LV5.out.finish HF1.out HD1.out hfe).mono ?_
        rintro e w6 ⟨A1, m1, c1, go, n6, c6, rfl, ⟨tn, ts6, lo6, hi6, tabs6, e6, o6⟩, lv6, cc6⟩
        have hl1 := fin_left hfe
        have hfine := LV5.out.fine
        have S26 : Hid (Same w2 w6) := lv6.same
        have S6 : Hid (Same w w6) := SW2.out.trans lv6.same
        rw [HMS.out.1, HMS.out.2] at e6
        have herr : errOf (ts.map RT.tb) ⟨k, t, aa, n, to_, ⟨dk, dn, ds⟩⟩ = 0 := by have := hfine.err; rw [HMS.out.1, HMS.out.2] at this; exact this
        have hof : fitsT (applyS (ts.map RT.tb) ⟨k, t, aa, n, to_, ⟨dk, dn, ds⟩⟩) M1.out = true := by have := out_fits hfine hl1; rw [HMS.out.1, HMS.out.2] at this; exact this
        have hva := valid_apply herr
        have hwn : WasL (applyS (ts.map RT.tb) ⟨k, t, aa, n, to_, ⟨dk, dn, ds⟩⟩) 11 := HW.out.apply herr
        have hofew := out_few hfine HF1.out hl1
        obtain ⟨SN, hSN⟩ : ∃ SN, SN = applyS (ts.map RT.tb) ⟨k, t, aa, n, to_, ⟨dk, dn, ds⟩⟩ := ⟨_, rfl⟩
        rw [← hSN] at e6 hof hva hwn
        have hSNl : SN.length = ts.length := by rw [hSN, applyS_len, List.length_map]
        have few6 : Few tn := few_was e6 hwn (by decide)
        have htl6 : tn.length ≤ 1000000 := by
          have h1 := congrArg List.length e6
          rw [List.length_map, hSNl] at h1
          have := HTL.out
          omega
        obtain ⟨E2, hE2⟩ : ∃ E2, E2 = errOf SN ⟨k2, t2, aa2, n2, to2, ⟨dk2, dn2, ds2⟩⟩ := ⟨_, rfl⟩
        have HAP : Hid (∀ W, Same w6 W → Calls Tryz.prog 27 #[.agg #[.slice A1 m1 c1], .agg #[.int .i64 k2, .string t2, .string aa2, .string n2, .int .i64 to2, .int .i64 dk2, .int .i64 dn2, .string ds2]] W fun e w' => ∃ (A7 : Option Addr) (n7 c7 : Nat), e = .returned (.tuple #[.agg #[.slice A7 n7 c7], .int .i64 E2]) ∧ Same W w') := Lib.hid fun W s => by
          have h := apply_ok ⟨A1, m1, c1⟩ tn ⟨k2, t2, aa2, n2, to2, ⟨dk2, dn2, ds2⟩⟩ W (tabs6.same s) few6 HN2.out HD2.out
          rw [e6, ← hE2] at h
          refine h.mono ?_
          rintro e w' ⟨ho, s'⟩
          rcases ho with ⟨_, he⟩ | ⟨hz, ⟨A7, n7, c7⟩, _, he, _⟩
          · exact ⟨none, 0, 0, he, s'⟩
          · exact ⟨A7, n7, c7, by rw [hz]; exact he, s'⟩
        have hSE : startE SN ⟨k2, t2, aa2, n2, to2, ⟨dk2, dn2, ds2⟩⟩ M1.out = E2 := by unfold startE; rw [hva, hof, hE2]; rfl
        have HSA : Hid (∀ W, Same w6 W → Calls Tryz.prog 12 #[.agg #[.slice A1 m1 c1], .agg #[.int .i64 k2, .string t2, .string aa2, .string n2, .int .i64 to2, .int .i64 dk2, .int .i64 dn2, .string ds2], .slice (some ⟨go, 0, none⟩) n6 c6] W fun e w' => ∃ pv, e = .returned (.tuple #[pv, .int .i64 E2]) ∧ Same W w') := Lib.hid fun W s => by
          have hro : rowsOf ts6 = M1.out := o6.2.1
          have hX : startE (tn.map RT.tb) ⟨k2, t2, aa2, n2, to2, ⟨dk2, dn2, ds2⟩⟩ (rowsOf ts6) = E2 := by rw [e6, hro]; exact hSE
          by_cases hz : E2 = 0
          · refine (start_ok ⟨A1, m1, c1⟩ tn ⟨k2, t2, aa2, n2, to2, ⟨dk2, dn2, ds2⟩⟩ ⟨some ⟨go, 0, none⟩, n6, c6⟩ ts6 W (HL.out.same (S6.out.trans s)) (tabs6.same s) (nw := 11) (by rw [e6]; exact hwn) (by decide) htl6 HN2.out HD2.out (o6.tables.same s) (by rw [hro]; exact hofew) (by rw [hX]; exact hz)).mono ?_
            rintro e w' ⟨p, he, _, s', _⟩
            exact ⟨_, by rw [hz]; exact he, s'⟩
          · have h := start_err ⟨A1, m1, c1⟩ tn ⟨k2, t2, aa2, n2, to2, ⟨dk2, dn2, ds2⟩⟩ ⟨some ⟨go, 0, none⟩, n6, c6⟩ ts6 W (tabs6.same s) few6 HN2.out HD2.out (o6.tables.same s) (by rw [hX]; exact hz)
            rw [hX] at h
            exact h.mono fun e w' ⟨he, s'⟩ => ⟨_, he, s'⟩
        have HVA : Hid (∀ W, Same w6 W → Calls Tryz.prog 28 #[.agg #[.slice A1 m1 c1]] W fun e w' => e = .returned (.bool true) ∧ Same W w') := Lib.hid fun W s => by
          have h := valid_s_ok ⟨A1, m1, c1⟩ tn W (tabs6.same s) few6
          rw [e6, hva] at h
          exact h
        have lbdw6 : w.heap.size + 1 + 1 < w6.heap.size := Nat.lt_of_lt_of_le lbdw2 S26.out.size
        have bdw60 := (S26.out.cells _ 0 lbdw2).trans bdw20
        have bdw61 := (S26.out.cells _ 1 lbdw2).trans bdw21
        have bdw62 := (S26.out.cells _ 2 lbdw2).trans bdw22
        have bdw63 := (S26.out.cells _ 3 lbdw2).trans bdw23
        have bdw64 := (S26.out.cells _ 4 lbdw2).trans bdw24
        have bdw65 := (S26.out.cells _ 5 lbdw2).trans bdw25
        have bdw66 := (S26.out.cells _ 6 lbdw2).trans bdw26
        have bdw67 := (S26.out.cells _ 7 lbdw2).trans bdw27
        clear tabs6 o6 lv6 cc6 hl1 hfine e6 herr hof hva hwn hofew hSN hSNl few6 htl6 hE2 hSE hfe
        have hz6 := S6.out.size
        go_wp2_with (fail)
        refine (HAP.out _ ?_).mono ?_
        · (repeat (first | (with_reducible refine Same.setCell ?_ (by dsimp only; omega) _) | (with_reducible refine Same.drew ?_) | (with_reducible refine Same.alloc ?_ _)))
          exact Same.refl _
        rintro e w7 ⟨A7, n7, c7, rfl, s7⟩
        have S7 : Hid (Same w6 w7) := by
          refine Same.trans ?_ s7
          (repeat (first | (with_reducible refine Same.setCell ?_ (by dsimp only; omega) _) | (with_reducible refine Same.drew ?_) | (with_reducible refine Same.alloc ?_ _)))
          exact Same.refl _
        have k7 : w7.cell? ⟨w6.heap.size, 0, none⟩ = some (.slice A1 m1 c1) := (s7.cells _ _ (by simp [World.setCell] <;> omega)).trans (by simp)
        have l7 : w6.heap.size < w7.heap.size := Nat.lt_of_lt_of_le (by simp [World.setCell] <;> omega) s7.size
        have lbdw7 : w.heap.size + 1 + 1 < w7.heap.size := by omega
        have bdw70 := (S7.out.cells _ 0 lbdw6).trans bdw60
        have bdw71 := (S7.out.cells _ 1 lbdw6).trans bdw61
        have bdw72 := (S7.out.cells _ 2 lbdw6).trans bdw62
        have bdw73 := (S7.out.cells _ 3 lbdw6).trans bdw63
        have bdw74 := (S7.out.cells _ 4 lbdw6).trans bdw64
        have bdw75 := (S7.out.cells _ 5 lbdw6).trans bdw65
        have bdw76 := (S7.out.cells _ 6 lbdw6).trans bdw66
        have bdw77 := (S7.out.cells _ 7 lbdw6).trans bdw67
        clear s7 lbdw6 bdw60 bdw61 bdw62 bdw63 bdw64 bdw65 bdw66 bdw67
        go_wp2_with (fail)
        refine (HSA.out _ ?_).mono ?_
        · (repeat (first | (with_reducible refine Same.setCell ?_ (by dsimp only; omega) _) | (with_reducible refine Same.drew ?_) | (with_reducible refine Same.alloc ?_ _)))
          exact S7.out
        rintro e w8 ⟨pv, rfl, s8⟩
        have S8 : Hid (Same w6 w8) := by
          refine Same.trans ?_ s8
          (repeat (first | (with_reducible refine Same.setCell ?_ (by dsimp only; omega) _) | (with_reducible refine Same.drew ?_) | (with_reducible refine Same.alloc ?_ _)))
          exact S7.out
        have k8 : w8.cell? ⟨w6.heap.size, 0, none⟩ = some (.slice A1 m1 c1) := by
          refine (s8.cells _ _ (by simp [World.setCell] <;> omega)).trans ?_
          simp [World.cell?_alloc_lt, l7, k7, World.cell?_setCell_other]
        have l8 : w6.heap.size < w8.heap.size := Nat.lt_of_lt_of_le l7 (Nat.le_trans (by simp [World.setCell] <;> omega) s8.size)
        clear s8 k7 bdw70 bdw71 bdw72 bdw73 bdw74 bdw75 bdw76 bdw77 lbdw7
        go_wp2_with (fail)
        refine (HVA.out _ ?_).mono ?_
        · (repeat (first | (with_reducible refine Same.setCell ?_ (by dsimp only; omega) _) | (with_reducible refine Same.drew ?_) | (with_reducible refine Same.alloc ?_ _)))
          exact S8.out
        rintro e w9 ⟨rfl, s9⟩
        have S9 : Hid (Same w w9) := by
          refine S6.out.trans (Same.trans ?_ s9)
          (repeat (first | (with_reducible refine Same.setCell ?_ (by dsimp only; omega) _) | (with_reducible refine Same.drew ?_) | (with_reducible refine Same.alloc ?_ _)))
          exact S8.out
        clear s9
        go_wp2_with (fail)
        go_ret
        refine ⟨?_, S9.out⟩
        first | rfl | (simp)
end Go.Proofs.YtpakimhhpeaefaaGreatDoor

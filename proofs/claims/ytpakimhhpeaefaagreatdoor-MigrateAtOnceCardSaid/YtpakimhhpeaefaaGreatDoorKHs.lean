/- MigrateSteps: the walk. Conditions: Laid. -/
import Derived.Test.YtpakimhhpeaefaaGreatDoorKHj
import Derived.Test.YtpakimhhpeaefaaGreatDoorKHo
set_option linter.unusedSimpArgs false
set_option linter.unusedVariables false
namespace Go.Proofs.YtpakimhhpeaefaaGreatDoor
open Go.RowKit

theorem wasL_small {S : List Tb} (h : smallS S = true) : WasL S 10 := by
  simp only [smallS, Bool.and_eq_true, List.all_eq_true] at h
  intro t ht a ha
  have h2 := h.2 _ ht
  simp only [smallT, Bool.and_eq_true, List.all_eq_true] at h2
  have h3 := h2.2 _ ha
  simp only [smallA, Bool.and_eq_true, decide_eq_true_eq] at h3
  exact h3.1
theorem len_small {S : List Tb} (h : smallS S = true) : S.length ≤ 1000000 := by
  simp only [smallS, Bool.and_eq_true, decide_eq_true_eq] at h
  omega
theorem fewR_of {tabs : List (List Row)} (h : fewB tabs = true) : FewR tabs ∧ ∀ rows ∈ tabs, rows.length ≤ 20 := by
  simp only [fewB, Bool.and_eq_true, decide_eq_true_eq, List.all_eq_true] at h
  have h20 : ∀ rows ∈ tabs, rows.length ≤ 20 := fun rows hr => by
    have := h.2 _ hr
    simp only [fewRows, Bool.and_eq_true, decide_eq_true_eq] at this
    exact this.1
  exact ⟨⟨by omega, fun rows hr => by have := h20 rows hr; omega⟩, h20⟩
theorem smallM_parts {S : List Tb} {tabs : List (List Row)} {ops : List Opn} (h : smallM S tabs ops = true) : smallS S = true ∧ fewB tabs = true ∧ ops.length ≤ 20 ∧ ops.all shortO = true := by
  simp only [smallM, Bool.and_eq_true, decide_eq_true_eq] at h
  exact ⟨h.1, h.2.1, h.2.2.1, h.2.2.2⟩
/-- What a step does to the rows that are left. -/
theorem step_facts {m : Mg} (h : m.Fine) (hc : m.closed = false) (n : Int) (hl : m.left ≤ 1000000) :
    m.stepN n = (m.step n).left ∧ (m.step n).left ≤ m.left ∧ (m.left : Int) - max 0 (min n m.left) ≤ (m.step n).left ∧ ((m.step n).failed = false → m.failed = false ∧ ((m.step n).left : Int) = m.left - max 0 (min n m.left)) ∧ m.stepE n = (if (m.step n).failed then 15 else 0) ∧ (m.step n).closed = false ∧ (m.step n).rows = m.rows := by
  have e : m.step n = m.steps (m.count n) := by unfold Mg.step; rw [hc]; rfl
  have hcnt : ((m.count n : Nat) : Int) = max 0 (min n m.left) := by unfold Mg.count; omega
  obtain ⟨a, b, c⟩ := Mg.steps_left (m.count n) m h (m.count_le n)
  have t := Mg.steps_tabs (m.count n) m
  rw [← e] at a b c t
  refine ⟨by unfold Mg.stepN; rw [hc]; rfl, a, by omega, fun hf => ⟨?_, by have := c hf; omega⟩, by unfold Mg.stepE; rw [hc]; rfl, by rw [t.2.2.2.2, hc], by rw [e]; exact Mg.steps_rows _ m⟩
  cases hm : m.failed with
  | false => rfl
  | true =>
    rw [e, Mg.steps_failed _ m hm, hm] at hf
    cases hf

set_option maxHeartbeats 8000000 in
set_option maxRecDepth 100000 in
theorem steps_walk {K K' : Nat → Prop} (h : Hd) (ts : List RT) (c : Cg) (ht : Hd) (tbs : List Tbl) (ho : Hd) (ops : List Opn) (w : World) (l : Laid w) (a : TabsAt w h ts) (hn : okS c.name) (hd : okS c.dflt.s) (tt : TablesAt w K ht tbs) (oo : OpsAt w K' ho ops) :
    Calls Tryz.prog 6 #[.agg #[h.val], c.val, ht.val, ho.val] w fun e w' => e = .returned (.bool true) ∧ Same w w' := by
  have HH := Lib.hid (fun W (s : Same w W) => head43_ok W (l.same s))
  have HS := Lib.hid (fun W (s : Same w W) => smallM_ok h ht ho ts tbs ops W (a.same s) (tt.same s) (oo.same s))
  have HFI := Lib.hid (fun W (s : Same w W) => find_ok h ts c.table W (a.same s))
  have HER := Lib.hid (fun (few : Few ts) (hE : startE (ts.map RT.tb) c (rowsOf tbs) ≠ 0) W (s : Same w W) => start_err h ts c ht tbs W (a.same s) few hn hd (tt.same s) hE)
  have HOK := Lib.hid (fun (hw : WasL (ts.map RT.tb) 10) (tsl : ts.length ≤ 1000000) (fr : FewR (rowsOf tbs)) (hE : startE (ts.map RT.tb) c (rowsOf tbs) = 0) W (s : Same w W) => start_live h ts c ht tbs W (l.same s) (a.same s) hw (by decide) tsl hn hd (tt.same s) fr hE)
  have HT := Lib.hid tt
  have HO := Lib.hid oo
  have htl : tbs.length = ht.n := tt.1.1
  have htb : ht.n ≤ 9223372036854775807 := tt.1.2.1
  have hol : ops.length = ho.n := oo.1.1
  have hob : ho.n ≤ 9223372036854775807 := oo.1.2.1
  obtain ⟨A, m, cc⟩ := h
  obtain ⟨At_, tm, tc⟩ := ht
  obtain ⟨Ao, om, oc⟩ := ho
  obtain ⟨k, t, aa, n, to_, ⟨dk, dn, ds⟩⟩ := c
  have htl' : tbs.length = tm := htl
  have htb' : tm ≤ 9223372036854775807 := htb
  have hol' : ops.length = om := hol
  have hob' : om ≤ 9223372036854775807 := hob
  subst htl' hol'
  clear htl htb hol hob a l hn hd tt oo
  show Calls Tryz.prog 6 #[.agg #[.slice A m cc], .agg #[.int .i64 k, .string t, .string aa, .string n, .int .i64 to_, .int .i64 dk, .int .i64 dn, .string ds], .slice At_ tbs.length tc, .slice Ao ops.length oc] w _
  obtain ⟨q, hq⟩ : ∃ q, q = smallM (ts.map RT.tb) (rowsOf tbs) ops := ⟨_, rfl⟩
  have HS' : Hid (∀ W, Same w W → Calls Tryz.prog 11 #[.agg #[.slice A m cc], .slice At_ tbs.length tc, .slice Ao ops.length oc] W fun e w' => e = .returned (.bool q) ∧ Same W w') := by rw [hq]; exact HS
  have HQ := Lib.hid hq
  clear HS hq
  go_enter Tryz.func6, Tryz.ntmps6
  go_wp2_with (fail)
  obtain ⟨W0, hW0⟩ : ∃ W0, W0 = (w.alloc (.cells #[.slice A m cc] 24)).alloc (.cells #[.int .i64 k, .string t, .string aa, .string n, .int .i64 to_, .int .i64 dk, .int .i64 dn, .string ds] 28) := ⟨_, rfl⟩
  have S_w_W0 : Hid (Same w W0) := by rw [hW0]; exact ((Same.refl w).alloc _).alloc _
  have Bbs : Blk W0 (w.heap.size) 24 #[.slice A m cc] := by rw [hW0]; exact ((Blk.new w _ _).alloc _)
  have Bbc : Blk W0 (w.heap.size + 1) 28 #[.int .i64 k, .string t, .string aa, .string n, .int .i64 to_, .int .i64 dk, .int .i64 dn, .string ds] := by
    have e : w.heap.size + 1 = (w.alloc (.cells #[.slice A m cc] 24)).heap.size := by simp
    rw [hW0, e]; exact (Blk.new _ _ _)
  rw [← hW0]
  clear hW0
  have lbsW0 := Bbs.lt
  have bsW00 : W0.cell? ⟨w.heap.size, 0, none⟩ = some (.slice A m cc) := Bbs.cell 0
  clear Bbs
  have lbcW0 := Bbc.lt
  have bcW00 : W0.cell? ⟨w.heap.size + 1, 0, none⟩ = some (.int .i64 k) := Bbc.cell 0
  have bcW01 : W0.cell? ⟨w.heap.size + 1, 1, none⟩ = some (.string t) := Bbc.cell 1
  have bcW02 : W0.cell? ⟨w.heap.size + 1, 2, none⟩ = some (.string aa) := Bbc.cell 2
  have bcW03 : W0.cell? ⟨w.heap.size + 1, 3, none⟩ = some (.string n) := Bbc.cell 3
  have bcW04 : W0.cell? ⟨w.heap.size + 1, 4, none⟩ = some (.int .i64 to_) := Bbc.cell 4
  have bcW05 : W0.cell? ⟨w.heap.size + 1, 5, none⟩ = some (.int .i64 dk) := Bbc.cell 5
  have bcW06 : W0.cell? ⟨w.heap.size + 1, 6, none⟩ = some (.int .i64 dn) := Bbc.cell 6
  have bcW07 : W0.cell? ⟨w.heap.size + 1, 7, none⟩ = some (.string ds) := Bbc.cell 7
  clear Bbc
  refine (HH.out _ S_w_W0.out).mono ?_
  rintro e w1 ⟨rfl, s1⟩
  have S_w_w1 : Hid (Same w w1) := S_w_W0.out.trans s1
  have lbsw1 : w.heap.size < w1.heap.size := Nat.lt_of_lt_of_le lbsW0 (Same.size s1)
  have bsw10 : w1.cell? ⟨w.heap.size, 0, none⟩ = some (.slice A m cc) := (Same.cells s1 _ _ lbsW0).trans bsW00
  have lbcw1 : w.heap.size + 1 < w1.heap.size := Nat.lt_of_lt_of_le lbcW0 (Same.size s1)
  have bcw10 : w1.cell? ⟨w.heap.size + 1, 0, none⟩ = some (.int .i64 k) := (Same.cells s1 _ _ lbcW0).trans bcW00
  have bcw11 : w1.cell? ⟨w.heap.size + 1, 1, none⟩ = some (.string t) := (Same.cells s1 _ _ lbcW0).trans bcW01
  have bcw12 : w1.cell? ⟨w.heap.size + 1, 2, none⟩ = some (.string aa) := (Same.cells s1 _ _ lbcW0).trans bcW02
  have bcw13 : w1.cell? ⟨w.heap.size + 1, 3, none⟩ = some (.string n) := (Same.cells s1 _ _ lbcW0).trans bcW03
  have bcw14 : w1.cell? ⟨w.heap.size + 1, 4, none⟩ = some (.int .i64 to_) := (Same.cells s1 _ _ lbcW0).trans bcW04
  have bcw15 : w1.cell? ⟨w.heap.size + 1, 5, none⟩ = some (.int .i64 dk) := (Same.cells s1 _ _ lbcW0).trans bcW05
  have bcw16 : w1.cell? ⟨w.heap.size + 1, 6, none⟩ = some (.int .i64 dn) := (Same.cells s1 _ _ lbcW0).trans bcW06
  have bcw17 : w1.cell? ⟨w.heap.size + 1, 7, none⟩ = some (.string ds) := (Same.cells s1 _ _ lbcW0).trans bcW07
  clear S_w_W0 lbsW0 bsW00 lbcW0 bcW00 bcW01 bcW02 bcW03 bcW04 bcW05 bcW06 bcW07
  clear s1
  clear HH
  go_wp2_with (fail)
  refine (HS'.out _ S_w_w1.out).mono ?_
  rintro e w2 ⟨rfl, s2⟩
  have S_w_w2 : Hid (Same w w2) := S_w_w1.out.trans s2
  have lbsw2 : w.heap.size < w2.heap.size := Nat.lt_of_lt_of_le lbsw1 (Same.size s2)
  have bsw20 : w2.cell? ⟨w.heap.size, 0, none⟩ = some (.slice A m cc) := (Same.cells s2 _ _ lbsw1).trans bsw10
  have lbcw2 : w.heap.size + 1 < w2.heap.size := Nat.lt_of_lt_of_le lbcw1 (Same.size s2)
  have bcw20 : w2.cell? ⟨w.heap.size + 1, 0, none⟩ = some (.int .i64 k) := (Same.cells s2 _ _ lbcw1).trans bcw10
  have bcw21 : w2.cell? ⟨w.heap.size + 1, 1, none⟩ = some (.string t) := (Same.cells s2 _ _ lbcw1).trans bcw11
  have bcw22 : w2.cell? ⟨w.heap.size + 1, 2, none⟩ = some (.string aa) := (Same.cells s2 _ _ lbcw1).trans bcw12
  have bcw23 : w2.cell? ⟨w.heap.size + 1, 3, none⟩ = some (.string n) := (Same.cells s2 _ _ lbcw1).trans bcw13
  have bcw24 : w2.cell? ⟨w.heap.size + 1, 4, none⟩ = some (.int .i64 to_) := (Same.cells s2 _ _ lbcw1).trans bcw14
  have bcw25 : w2.cell? ⟨w.heap.size + 1, 5, none⟩ = some (.int .i64 dk) := (Same.cells s2 _ _ lbcw1).trans bcw15
  have bcw26 : w2.cell? ⟨w.heap.size + 1, 6, none⟩ = some (.int .i64 dn) := (Same.cells s2 _ _ lbcw1).trans bcw16
  have bcw27 : w2.cell? ⟨w.heap.size + 1, 7, none⟩ = some (.string ds) := (Same.cells s2 _ _ lbcw1).trans bcw17
  clear S_w_w1 lbsw1 bsw10 lbcw1 bcw10 bcw11 bcw12 bcw13 bcw14 bcw15 bcw16 bcw17
  clear s2
  have SW2 : Hid (Same w w2) := S_w_w2
  clear HS'
  cases q with
  | false =>
    go_wp2_with (fail)
    go_ret
    first | exact ⟨rfl, S_w_w2.out⟩ | exact ⟨rfl, S_w_w2.out.alloc _⟩ | exact ⟨rfl, (S_w_w2.out.alloc _).alloc _⟩
  | true =>
    have HP := Lib.hid (smallM_parts HQ.out.symm)
    have HW : Hid (WasL (ts.map RT.tb) 10) := wasL_small HP.out.1
    have HTL : Hid (ts.length ≤ 1000000) := by have := len_small HP.out.1; rw [List.length_map] at this; exact this
    have HFR := Lib.hid (fewR_of HP.out.2.1)
    by_cases hE : startE (ts.map RT.tb) ⟨k, t, aa, n, to_, ⟨dk, dn, ds⟩⟩ (rowsOf tbs) = 0
    case neg =>
      obtain ⟨E1, hE1⟩ : ∃ E1, E1 = startE (ts.map RT.tb) ⟨k, t, aa, n, to_, ⟨dk, dn, ds⟩⟩ (rowsOf tbs) := ⟨_, rfl⟩
      have HX : Hid (∀ W, Same w W → Calls Tryz.prog 12 #[.agg #[.slice A m cc], .agg #[.int .i64 k, .string t, .string aa, .string n, .int .i64 to_, .int .i64 dk, .int .i64 dn, .string ds], .slice At_ tbs.length tc] W fun e w' => e = .returned (.tuple #[.pointer none, .int .i64 E1]) ∧ Same W w') := by rw [hE1]; exact HER.out (few_was rfl HW.out (by decide)) hE
      rw [← hE1] at hE
      have e1 : (E1 != 0) = true := by simp [hE]
      clear hE1 hE
      go_wp2_with (fail)
      refine (HX.out _ S_w_w2.out).mono ?_
      rintro e w4 ⟨rfl, s4⟩
      have S_w_w4 : Hid (Same w w4) := S_w_w2.out.trans s4
      have lbsw4 : w.heap.size < w4.heap.size := Nat.lt_of_lt_of_le lbsw2 (Same.size s4)
      have bsw40 : w4.cell? ⟨w.heap.size, 0, none⟩ = some (.slice A m cc) := (Same.cells s4 _ _ lbsw2).trans bsw20
      have lbcw4 : w.heap.size + 1 < w4.heap.size := Nat.lt_of_lt_of_le lbcw2 (Same.size s4)
      have bcw40 : w4.cell? ⟨w.heap.size + 1, 0, none⟩ = some (.int .i64 k) := (Same.cells s4 _ _ lbcw2).trans bcw20
      have bcw41 : w4.cell? ⟨w.heap.size + 1, 1, none⟩ = some (.string t) := (Same.cells s4 _ _ lbcw2).trans bcw21
      have bcw42 : w4.cell? ⟨w.heap.size + 1, 2, none⟩ = some (.string aa) := (Same.cells s4 _ _ lbcw2).trans bcw22
      have bcw43 : w4.cell? ⟨w.heap.size + 1, 3, none⟩ = some (.string n) := (Same.cells s4 _ _ lbcw2).trans bcw23
      have bcw44 : w4.cell? ⟨w.heap.size + 1, 4, none⟩ = some (.int .i64 to_) := (Same.cells s4 _ _ lbcw2).trans bcw24
      have bcw45 : w4.cell? ⟨w.heap.size + 1, 5, none⟩ = some (.int .i64 dk) := (Same.cells s4 _ _ lbcw2).trans bcw25
      have bcw46 : w4.cell? ⟨w.heap.size + 1, 6, none⟩ = some (.int .i64 dn) := (Same.cells s4 _ _ lbcw2).trans bcw26
      have bcw47 : w4.cell? ⟨w.heap.size + 1, 7, none⟩ = some (.string ds) := (Same.cells s4 _ _ lbcw2).trans bcw27
      clear S_w_w2 lbsw2 bsw20 lbcw2 bcw20 bcw21 bcw22 bcw23 bcw24 bcw25 bcw26 bcw27
      clear s4
      go_wp2_with (fail)
      go_ret
      exact ⟨rfl, S_w_w4.out⟩
    case pos =>
      have HX := Lib.hid (HOK.out HW.out HTL.out HFR.out.1 hE)
      obtain ⟨M0, hM0⟩ : ∃ M0, M0 = start (ts.map RT.tb) ⟨k, t, aa, n, to_, ⟨dk, dn, ds⟩⟩ (rowsOf tbs) := ⟨_, rfl⟩
      have HM0 : Hid (M0.Fine ∧ M0.tabs = rowsOf tbs ∧ M0.closed = false ∧ M0.failed = false ∧ M0.done = [] ∧ findT (ts.map RT.tb) t = (M0.ti : Int) ∧ M0.ti < tbs.length) := by
        have f := start_fine hE
        have e1 : findT (ts.map RT.tb) t = ((start (ts.map RT.tb) ⟨k, t, aa, n, to_, ⟨dk, dn, ds⟩⟩ (rowsOf tbs)).ti : Int) := f.at_
        have e2 : (start (ts.map RT.tb) ⟨k, t, aa, n, to_, ⟨dk, dn, ds⟩⟩ (rowsOf tbs)).ti < tbs.length := by have := f.til; have h2 := f.len; rw [← h2] at this; simpa [start, rowsOf] using this
        rw [hM0]
        exact ⟨f, rfl, rfl, rfl, rfl, e1, e2⟩
      rw [← hM0] at HX
      clear hM0 hE HER HOK
      go_wp2_with (fail)
      refine (HX.out _ S_w_w2.out).mono ?_
      rintro e w3 ⟨g, rfl, lv⟩
      have s3 := lv.same
      have LV := Lib.hid lv
      clear lv
      have S_w_w3 : Hid (Same w w3) := S_w_w2.out.trans s3
      have lbsw3 : w.heap.size < w3.heap.size := Nat.lt_of_lt_of_le lbsw2 (Same.size s3)
      have bsw30 : w3.cell? ⟨w.heap.size, 0, none⟩ = some (.slice A m cc) := (Same.cells s3 _ _ lbsw2).trans bsw20
      have lbcw3 : w.heap.size + 1 < w3.heap.size := Nat.lt_of_lt_of_le lbcw2 (Same.size s3)
      have bcw30 : w3.cell? ⟨w.heap.size + 1, 0, none⟩ = some (.int .i64 k) := (Same.cells s3 _ _ lbcw2).trans bcw20
      have bcw31 : w3.cell? ⟨w.heap.size + 1, 1, none⟩ = some (.string t) := (Same.cells s3 _ _ lbcw2).trans bcw21
      have bcw32 : w3.cell? ⟨w.heap.size + 1, 2, none⟩ = some (.string aa) := (Same.cells s3 _ _ lbcw2).trans bcw22
      have bcw33 : w3.cell? ⟨w.heap.size + 1, 3, none⟩ = some (.string n) := (Same.cells s3 _ _ lbcw2).trans bcw23
      have bcw34 : w3.cell? ⟨w.heap.size + 1, 4, none⟩ = some (.int .i64 to_) := (Same.cells s3 _ _ lbcw2).trans bcw24
      have bcw35 : w3.cell? ⟨w.heap.size + 1, 5, none⟩ = some (.int .i64 dk) := (Same.cells s3 _ _ lbcw2).trans bcw25
      have bcw36 : w3.cell? ⟨w.heap.size + 1, 6, none⟩ = some (.int .i64 dn) := (Same.cells s3 _ _ lbcw2).trans bcw26
      have bcw37 : w3.cell? ⟨w.heap.size + 1, 7, none⟩ = some (.string ds) := (Same.cells s3 _ _ lbcw2).trans bcw27
      clear S_w_w2 lbsw2 bsw20 lbcw2 bcw20 bcw21 bcw22 bcw23 bcw24 bcw25 bcw26 bcw27
      clear s3
      obtain ⟨ti, hti⟩ : ∃ ti, ti = M0.ti := ⟨_, rfl⟩
      have HTI : Hid (ti = M0.ti) := hti
      have htlt : ti < tbs.length := by rw [hti]; exact HM0.out.2.2.2.2.2.2
      have HF : Hid (∀ W, Same w W → Calls Tryz.prog 25 #[.agg #[.slice A m cc], .string t] W fun e w' => e = .returned (.int .i64 (ti : Int)) ∧ Same W w') := by
        rw [hti, ← HM0.out.2.2.2.2.2.1]; exact HFI
      clear hti HFI HX
      go_wp2_with (fail)
      refine (HF.out _ S_w_w3.out).mono ?_
      rintro e w4 ⟨rfl, s4⟩
      have S_w_w4 : Hid (Same w w4) := S_w_w3.out.trans s4
      have S_w3_w4 : Hid (Same w3 w4) := s4
      have lbsw4 : w.heap.size < w4.heap.size := Nat.lt_of_lt_of_le lbsw3 (Same.size s4)
      have bsw40 : w4.cell? ⟨w.heap.size, 0, none⟩ = some (.slice A m cc) := (Same.cells s4 _ _ lbsw3).trans bsw30
      have lbcw4 : w.heap.size + 1 < w4.heap.size := Nat.lt_of_lt_of_le lbcw3 (Same.size s4)
      have bcw40 : w4.cell? ⟨w.heap.size + 1, 0, none⟩ = some (.int .i64 k) := (Same.cells s4 _ _ lbcw3).trans bcw30
      have bcw41 : w4.cell? ⟨w.heap.size + 1, 1, none⟩ = some (.string t) := (Same.cells s4 _ _ lbcw3).trans bcw31
      have bcw42 : w4.cell? ⟨w.heap.size + 1, 2, none⟩ = some (.string aa) := (Same.cells s4 _ _ lbcw3).trans bcw32
      have bcw43 : w4.cell? ⟨w.heap.size + 1, 3, none⟩ = some (.string n) := (Same.cells s4 _ _ lbcw3).trans bcw33
      have bcw44 : w4.cell? ⟨w.heap.size + 1, 4, none⟩ = some (.int .i64 to_) := (Same.cells s4 _ _ lbcw3).trans bcw34
      have bcw45 : w4.cell? ⟨w.heap.size + 1, 5, none⟩ = some (.int .i64 dk) := (Same.cells s4 _ _ lbcw3).trans bcw35
      have bcw46 : w4.cell? ⟨w.heap.size + 1, 6, none⟩ = some (.int .i64 dn) := (Same.cells s4 _ _ lbcw3).trans bcw36
      have bcw47 : w4.cell? ⟨w.heap.size + 1, 7, none⟩ = some (.string ds) := (Same.cells s4 _ _ lbcw3).trans bcw37
      clear S_w_w3 lbsw3 bsw30 lbcw3 bcw30 bcw31 bcw32 bcw33 bcw34 bcw35 bcw36 bcw37
      clear s4
      have g1 : decide ((ti : Int) < 0) = false := decide_eq_false (by omega)
      have g2 : decide ((ti : Int) ≥ (tbs.length : Int)) = false := decide_eq_false (by omega)
      have g2' : decide ((tbs.length : Int) ≤ (ti : Int)) = false := g2
      have g2n : decide (tbs.length ≤ ti) = false := decide_eq_false (by omega)
      have g3 : (0 : Int) ≤ (ti : Int) := by omega
      have g4 : (ti : Int) < (tbs.length : Int) := by omega
      obtain ⟨b, off, hA, blt, hc⟩ := (HT.out.1).2.2 ti htlt
      have hA' : At_ = some ⟨b, off, none⟩ := hA
      have HL0 : Hid (M0.left = tbs[ti].h.n ∧ tbs[ti].h.n ≤ 20) := by
        have e1 := (HT.out.2.2 _ (List.getElem_mem htlt)).1.1
        have e2 : M0.rows = tbs[ti].rows := by unfold Mg.rows; rw [HM0.out.2.1, ← HTI.out]; simp [rowsOf, htlt]
        have e3 : tbs[ti].rows.length ≤ 20 := HFR.out.2 _ (List.mem_map_of_mem (List.getElem_mem htlt))
        have e4 : tbs[ti].rows.length = tbs[ti].rs.length := by simp [Tbl.rows]
        exact ⟨by unfold Mg.left; rw [e2, HM0.out.2.2.2.2.1, e4]; simpa using e1, by omega⟩
      obtain ⟨x, hx⟩ : ∃ x, x = tbs[ti] := ⟨_, rfl⟩
      rw [← hx] at hc HL0
      clear hx hA HT
      obtain ⟨⟨A3, n3, c3⟩, rs⟩ := x
      have x0 : w.cell? ⟨b, off + ti, none⟩ = some (.slice A3 n3 c3) := by have := hc 0 (.slice A3 n3 c3) rfl; simpa using this
      have x1 := (S_w_w4.out.cells _ _ blt).trans x0
      clear hc x0
      subst hA'
      have HL1 : Hid (M0.left = n3 ∧ n3 ≤ 20) := HL0
      go_wp2_with (fail)
      go_loopw [13, 14, 15] (fun lv fv iv wr => ∃ (q : Nat) (M : Mg), q ≤ ops.length ∧ lv = .int .i64 (M.left : Int) ∧ fv = .bool M.failed ∧ iv = .int .i64 q ∧ Hid (LiveM w2 wr g M ∧ M.closed = false ∧ M.rows.length ≤ 20 ∧ M.left ≤ 20)) (fun _ _ iv _ => ops.length - (intOf iv).toNat)
      case atStart => exact ⟨0, M0, Nat.zero_le _, by rw [HL1.out.1], by rw [HM0.out.2.2.2.1], rfl, LV.out.next S_w3_w4.out, HM0.out.2.2.1, by have h1 := HL1.out; have h2 := HM0.out.2.2.2.2.1; unfold Mg.left at h1; rw [h2] at h1; simp at h1; omega, by have := HL1.out; omega⟩
      case round =>
        obtain ⟨q, M, hk, rfl, rfl, rfl, R⟩ := hrel
        clear x1
        by_cases hlt : q < ops.length
        · obtain ⟨b5, o5, hB, blt5, hc5⟩ := (HO.out.1).2.2 q hlt
          have hB' : Ao = some ⟨b5, o5, none⟩ := hB
          have HOF := Lib.hid (HO.out.2 _ (List.getElem_mem hlt)).2
          obtain ⟨x, hx⟩ : ∃ x, x = ops[q] := ⟨_, rfl⟩
          rw [← hx] at hc5 HOF
          clear hx hB
          obtain ⟨xk, xn, xr⟩ := x
          have y0 : w.cell? ⟨b5, o5 + q * 3 + 1, none⟩ = some (.int .i64 xn) := hc5 1 _ rfl
          have SW : Hid (Same w wr) := SW2.out.trans R.out.1.same
          have y1 := (SW.out.cells _ _ blt5).trans y0
          subst hB'
          have HST : Hid (Calls Tryz.prog 14 #[.pointer (some ⟨g, 0, none⟩), .int .i64 xn] wr fun e w' => e = .returned (.tuple #[.int .i64 (M.stepN xn), .int .i64 (M.stepE xn)]) ∧ LiveM w2 w' g (M.step xn)) := R.out.1.step xn (by have := R.out.2.2.1; omega) HOF.out.n1 HOF.out.n2
          have HSF := Lib.hid (step_facts R.out.1.fine R.out.2.1 xn (by have := R.out.2.2.2; omega))
          go_wp2_with (fail)
          refine HST.out.mono ?_
          rintro e w5 ⟨rfl, lv5⟩
          have SM : Hid (LiveM w2 w5 g (M.step xn)) := lv5
          clear lv5 HST
          have SW5 : Hid (Same w w5) := SW2.out.trans SM.out.same
          have y2 := (SW5.out.cells _ _ blt5).trans y0
          have HSN := Lib.hid HSF.out.1
          obtain ⟨nl, hnl⟩ : ∃ nl : Int, nl = (M.stepN xn : Int) := ⟨_, rfl⟩
          obtain ⟨ne, hne⟩ : ∃ ne, ne = M.stepE xn := ⟨_, rfl⟩
          have HNL : Hid (nl = (M.step xn).left) := by show _ = _; rw [hnl, HSF.out.1]
          have HNE : Hid (ne = if (M.step xn).failed then 15 else 0) := by show _ = _; rw [hne]; exact HSF.out.2.2.2.2.1
          rw [← hnl, ← hne]
          clear hnl hne HSN
          obtain ⟨mo, hmo⟩ : ∃ mo, mo = max 0 (min xn (M.left : Int)) := ⟨_, rfl⟩
          have HMO : Hid (mo = max 0 (min xn (M.left : Int))) := hmo
          clear hmo
          go_upto_region 16 with (fail)
          go_cut [18] from 53 to 115 (fun v wx => v = .int .i64 mo ∧ wx = w5)
          case first =>
            go_wp2_with (fail)
            all_goals go_meet
            all_goals exact ⟨congrArg (Value.int IntKind.i64) (by have := HMO.out; omega), rfl⟩
          case rest =>
            obtain ⟨rfl, hwc⟩ := hcut
            subst hwc
            have H1 := HSF.out.2.1
            have H2 := HSF.out.2.2.1
            rw [← HMO.out] at H2
            have H3 := HMO.out
            have H4 := R.out.2.2.2
            have H5 := HNL.out
            obtain ⟨L, hL⟩ : ∃ L : Int, L = (M.left : Int) := ⟨_, rfl⟩
            have N1 : nl ≤ L := by omega
            have N2 : L - mo ≤ nl := by omega
            have N3 : 0 ≤ mo := by omega
            have N4 : mo ≤ L := by omega
            have N5 : L ≤ 20 := by omega
            have N6 : 0 ≤ nl := by omega
            have G1 : decide (nl > L) = false := decide_eq_false (by omega)
            have G1' : decide (L < nl) = false := decide_eq_false (by omega)
            have G2 : decide (nl < L - mo) = false := decide_eq_false (by omega)
            have HRL : Hid ((M.step xn).closed = false ∧ (M.step xn).rows.length ≤ 20 ∧ (M.step xn).left ≤ 20) := ⟨HSF.out.2.2.2.2.2.1, by rw [HSF.out.2.2.2.2.2.2]; exact R.out.2.2.1, by omega⟩
            have H6 := HSF.out.2.2.2.1
            rw [← HMO.out] at H6
            clear H1 H2 H3 H4 H5
            rw [← hL]
            cases hcf : (M.step xn).failed with
            | true =>
              obtain rfl : ne = 15 := by rw [HNE.out, hcf]; rfl
              have HCF := Lib.hid hcf
              clear H6 hcf hL
              obtain ⟨fl, hfl⟩ : ∃ fl, fl = M.failed := ⟨_, rfl⟩
              rw [← hfl]
              clear hfl
              cases fl
              all_goals
                go_wp2_with (fail)
                go_round
                case rel => exact ⟨q + 1, M.step xn, by omega, by first | rw [HNL.out] | rw [G6.out], by rw [HCF.out], by go_num, SM.out, HRL.out⟩
                case measure => simp [intOf]; omega
            | false =>
              obtain rfl : ne = 0 := by rw [HNE.out, hcf]; rfl
              have HMF := Lib.hid (H6 hcf)
              have HCF := Lib.hid hcf
              have G3 : M.failed = false := HMF.out.1
              have G4 : nl = L - mo := by rw [hL]; have := HMF.out.2; have := HNL.out; omega
              have G6 : Hid (L - mo = ((M.step xn).left : Int)) := by show _ = _; rw [← G4, HNL.out]
              have G5 : (nl != L - mo) = false := by simp [G4]
              clear H6 hcf hL
              rw [G3]
              go_wp2_with (fail)
              go_round
              case rel => exact ⟨q + 1, M.step xn, by omega, by first | rw [HNL.out] | rw [G6.out], by rw [HCF.out], by go_num, SM.out, HRL.out⟩
              case measure => simp [intOf]; omega
        · go_wp2_with (fail)
          go_ret
          exact ⟨rfl, SW2.out.trans R.out.1.same⟩
end Go.Proofs.YtpakimhhpeaefaaGreatDoor

/- MigrateNothing: the walk. Conditions: Laid. -/
import Derived.Test.YtpakimhhpeaefaaGreatDoorKHp
set_option linter.unusedSimpArgs false
set_option linter.unusedVariables false
namespace Go.Proofs.YtpakimhhpeaefaaGreatDoor
open Go.RowKit
set_option maxHeartbeats 8000000 in
set_option maxRecDepth 100000 in
theorem nothing_walk (h : Hd) (ts : List RT) (c : Cg)  (ht : Hd) (tbs : List Tbl) (ho : Hd) (ops : List Opn) (w : World) (l : Laid w) (a : TabsAt w h ts) (hn : okS c.name) (hd : okS c.dflt.s)  (tt : TablesAt w (fun k => k < w.heap.size) ht tbs) (oo : OpsAt w (fun k => k < w.heap.size) ho ops) :
    Calls Tryz.prog 5 #[.agg #[h.val], c.val, ht.val, ho.val] w fun e w' => e = .returned (.bool true) ∧ Same w w' := by
  have HL := Lib.hid l
  have HTA := Lib.hid a
  have HH := Lib.hid (fun W (s : Same w W) => head43_ok W (l.same s))
  have HS := Lib.hid (fun W (s : Same w W) => smallM_ok h ht ho ts tbs ops W (a.same s) (tt.same s) (oo.same s))
  have HER := Lib.hid (fun (few : Few ts) (hE : startE (ts.map RT.tb) c (rowsOf tbs) ≠ 0) W (s : Same w W) => start_err h ts c ht tbs W (a.same s) few hn hd (tt.same s) hE)
  have HOK := Lib.hid (fun (hw : WasL (ts.map RT.tb) 10) (tsl : ts.length ≤ 1000000) (fr : FewR (rowsOf tbs)) (hE : startE (ts.map RT.tb) c (rowsOf tbs) = 0) W (s : Same w W) => start_liveX h ts c ht tbs W (l.same s) (a.same s) hw (by decide) tsl hn hd (tt.same s) fr hE)
  have HPL := Lib.hid (fun (hf : fewB (rowsOf tbs) = true) (h20 : ops.length ≤ 20) (w2 w3 : World) (g : Nat) (s : Same w w2) (L : LiveX w2 w3 g (start (ts.map RT.tb) c (rowsOf tbs)) w2.heap.size w3.heap.size (fun _ => False)) => play_live (K := fun _ => True) ht tbs ho ops w s tt oo hf h20 L)
  have HON := Lib.hid hn
  have HOD := Lib.hid hd
  have htl : tbs.length = ht.n := tt.1.1
  have htb : ht.n ≤ 9223372036854775807 := tt.1.2.1
  have hol : ops.length = ho.n := oo.1.1
  have hob : ho.n ≤ 9223372036854775807 := oo.1.2.1
  obtain ⟨A, m, cc⟩ := h
  obtain ⟨At_, tm, tc⟩ := ht
  obtain ⟨Ao, om, oc⟩ := ho
  obtain ⟨k, t, aa, n, to_, ⟨dk, dn, ds⟩⟩ := c
  have htl' : tbs.length = tm := htl
  have htb' : tm ≤ 9223372036854775807 := htb
  have hol' : ops.length = om := hol
  have hob' : om ≤ 9223372036854775807 := hob
  subst htl' hol'
  clear htl htb hol hob a l hn hd tt oo
  show Calls Tryz.prog 5 #[.agg #[.slice A m cc], .agg #[.int .i64 k, .string t, .string aa, .string n, .int .i64 to_, .int .i64 dk, .int .i64 dn, .string ds], .slice At_ tbs.length tc, .slice Ao ops.length oc] w _
  obtain ⟨q, hq⟩ : ∃ q, q = smallM (ts.map RT.tb) (rowsOf tbs) ops := ⟨_, rfl⟩
  have HS' : Hid (∀ W, Same w W → Calls Tryz.prog 11 #[.agg #[.slice A m cc], .slice At_ tbs.length tc, .slice Ao ops.length oc] W fun e w' => e = .returned (.bool q) ∧ Same W w') := by rw [hq]; exact HS
  have HQ := Lib.hid hq
  clear HS hq
  go_enter Tryz.func5, Tryz.ntmps5
  go_wp2_with (fail)
  obtain ⟨W0, hW0⟩ : ∃ W0, W0 = (w.alloc (.cells #[.slice A m cc] 24)).alloc (.cells #[.int .i64 k, .string t, .string aa, .string n, .int .i64 to_, .int .i64 dk, .int .i64 dn, .string ds] 28) := ⟨_, rfl⟩
  have S_w_W0 : Hid (Same w W0) := by rw [hW0]; exact ((Same.refl w).alloc _).alloc _
  have Bbs : Blk W0 (w.heap.size) 24 #[.slice A m cc] := by rw [hW0]; exact ((Blk.new w _ _).alloc _)
  have Bbc : Blk W0 (w.heap.size + 1) 28 #[.int .i64 k, .string t, .string aa, .string n, .int .i64 to_, .int .i64 dk, .int .i64 dn, .string ds] := by
    have e : w.heap.size + 1 = (w.alloc (.cells #[.slice A m cc] 24)).heap.size := by simp
    rw [hW0, e]; exact (Blk.new _ _ _)
  rw [← hW0]
  clear hW0
  have lbsW0 := Bbs.lt
  have bsW00 : W0.cell? ⟨w.heap.size, 0, none⟩ = some (.slice A m cc) := Bbs.cell 0
  clear Bbs
  have lbcW0 := Bbc.lt
  have bcW00 : W0.cell? ⟨w.heap.size + 1, 0, none⟩ = some (.int .i64 k) := Bbc.cell 0
  have bcW01 : W0.cell? ⟨w.heap.size + 1, 1, none⟩ = some (.string t) := Bbc.cell 1
  have bcW02 : W0.cell? ⟨w.heap.size + 1, 2, none⟩ = some (.string aa) := Bbc.cell 2
  have bcW03 : W0.cell? ⟨w.heap.size + 1, 3, none⟩ = some (.string n) := Bbc.cell 3
  have bcW04 : W0.cell? ⟨w.heap.size + 1, 4, none⟩ = some (.int .i64 to_) := Bbc.cell 4
  have bcW05 : W0.cell? ⟨w.heap.size + 1, 5, none⟩ = some (.int .i64 dk) := Bbc.cell 5
  have bcW06 : W0.cell? ⟨w.heap.size + 1, 6, none⟩ = some (.int .i64 dn) := Bbc.cell 6
  have bcW07 : W0.cell? ⟨w.heap.size + 1, 7, none⟩ = some (.string ds) := Bbc.cell 7
  clear Bbc
  refine (HH.out _ S_w_W0.out).mono ?_
  rintro e w1 ⟨rfl, s1⟩
  have S_w_w1 : Hid (Same w w1) := S_w_W0.out.trans s1
  have lbsw1 : w.heap.size < w1.heap.size := Nat.lt_of_lt_of_le lbsW0 (Same.size s1)
  have bsw10 : w1.cell? ⟨w.heap.size, 0, none⟩ = some (.slice A m cc) := (Same.cells s1 _ _ lbsW0).trans bsW00
  have lbcw1 : w.heap.size + 1 < w1.heap.size := Nat.lt_of_lt_of_le lbcW0 (Same.size s1)
  have bcw10 : w1.cell? ⟨w.heap.size + 1, 0, none⟩ = some (.int .i64 k) := (Same.cells s1 _ _ lbcW0).trans bcW00
  have bcw11 : w1.cell? ⟨w.heap.size + 1, 1, none⟩ = some (.string t) := (Same.cells s1 _ _ lbcW0).trans bcW01
  have bcw12 : w1.cell? ⟨w.heap.size + 1, 2, none⟩ = some (.string aa) := (Same.cells s1 _ _ lbcW0).trans bcW02
  have bcw13 : w1.cell? ⟨w.heap.size + 1, 3, none⟩ = some (.string n) := (Same.cells s1 _ _ lbcW0).trans bcW03
  have bcw14 : w1.cell? ⟨w.heap.size + 1, 4, none⟩ = some (.int .i64 to_) := (Same.cells s1 _ _ lbcW0).trans bcW04
  have bcw15 : w1.cell? ⟨w.heap.size + 1, 5, none⟩ = some (.int .i64 dk) := (Same.cells s1 _ _ lbcW0).trans bcW05
  have bcw16 : w1.cell? ⟨w.heap.size + 1, 6, none⟩ = some (.int .i64 dn) := (Same.cells s1 _ _ lbcW0).trans bcW06
  have bcw17 : w1.cell? ⟨w.heap.size + 1, 7, none⟩ = some (.string ds) := (Same.cells s1 _ _ lbcW0).trans bcW07
  clear S_w_W0 lbsW0 bsW00 lbcW0 bcW00 bcW01 bcW02 bcW03 bcW04 bcW05 bcW06 bcW07
  clear s1
  clear HH
  go_wp2_with (fail)
  refine (HS'.out _ S_w_w1.out).mono ?_
  rintro e w2 ⟨rfl, s2⟩
  have S_w_w2 : Hid (Same w w2) := S_w_w1.out.trans s2
  have lbsw2 : w.heap.size < w2.heap.size := Nat.lt_of_lt_of_le lbsw1 (Same.size s2)
  have bsw20 : w2.cell? ⟨w.heap.size, 0, none⟩ = some (.slice A m cc) := (Same.cells s2 _ _ lbsw1).trans bsw10
  have lbcw2 : w.heap.size + 1 < w2.heap.size := Nat.lt_of_lt_of_le lbcw1 (Same.size s2)
  have bcw20 : w2.cell? ⟨w.heap.size + 1, 0, none⟩ = some (.int .i64 k) := (Same.cells s2 _ _ lbcw1).trans bcw10
  have bcw21 : w2.cell? ⟨w.heap.size + 1, 1, none⟩ = some (.string t) := (Same.cells s2 _ _ lbcw1).trans bcw11
  have bcw22 : w2.cell? ⟨w.heap.size + 1, 2, none⟩ = some (.string aa) := (Same.cells s2 _ _ lbcw1).trans bcw12
  have bcw23 : w2.cell? ⟨w.heap.size + 1, 3, none⟩ = some (.string n) := (Same.cells s2 _ _ lbcw1).trans bcw13
  have bcw24 : w2.cell? ⟨w.heap.size + 1, 4, none⟩ = some (.int .i64 to_) := (Same.cells s2 _ _ lbcw1).trans bcw14
  have bcw25 : w2.cell? ⟨w.heap.size + 1, 5, none⟩ = some (.int .i64 dk) := (Same.cells s2 _ _ lbcw1).trans bcw15
  have bcw26 : w2.cell? ⟨w.heap.size + 1, 6, none⟩ = some (.int .i64 dn) := (Same.cells s2 _ _ lbcw1).trans bcw16
  have bcw27 : w2.cell? ⟨w.heap.size + 1, 7, none⟩ = some (.string ds) := (Same.cells s2 _ _ lbcw1).trans bcw17
  clear S_w_w1 lbsw1 bsw10 lbcw1 bcw10 bcw11 bcw12 bcw13 bcw14 bcw15 bcw16 bcw17
  clear s2
  have SW2 : Hid (Same w w2) := S_w_w2
  clear HS'
  cases q with
  | false =>
    go_wp2_with (fail)
    go_ret
    first | exact ⟨rfl, S_w_w2.out⟩ | exact ⟨rfl, S_w_w2.out.alloc _⟩ | exact ⟨rfl, (S_w_w2.out.alloc _).alloc _⟩
  | true =>
    have HP := Lib.hid (smallM_parts HQ.out.symm)
    have HW : Hid (WasL (ts.map RT.tb) 10) := wasL_small HP.out.1
    have HTL : Hid (ts.length ≤ 1000000) := by have := len_small HP.out.1; rw [List.length_map] at this; exact this
    have HFR := Lib.hid (fewR_of HP.out.2.1)
    have HT6 : Hid (tbs.length ≤ 6) := tabs_le6 HP.out.2.1
    by_cases hE : startE (ts.map RT.tb) ⟨k, t, aa, n, to_, ⟨dk, dn, ds⟩⟩ (rowsOf tbs) = 0
    case neg =>
      obtain ⟨E1, hE1⟩ : ∃ E1, E1 = startE (ts.map RT.tb) ⟨k, t, aa, n, to_, ⟨dk, dn, ds⟩⟩ (rowsOf tbs) := ⟨_, rfl⟩
      have HX : Hid (∀ W, Same w W → Calls Tryz.prog 12 #[.agg #[.slice A m cc], .agg #[.int .i64 k, .string t, .string aa, .string n, .int .i64 to_, .int .i64 dk, .int .i64 dn, .string ds], .slice At_ tbs.length tc] W fun e w' => e = .returned (.tuple #[.pointer none, .int .i64 E1]) ∧ Same W w') := by rw [hE1]; exact HER.out (few_was rfl HW.out (by decide)) hE
      rw [← hE1] at hE
      have e1 : (E1 != 0) = true := by simp [hE]
      clear hE1 hE HPL HOK
      go_wp2_with (fail)
      refine (HX.out _ S_w_w2.out).mono ?_
      rintro e w4 ⟨rfl, s4⟩
      have S_w_w4 : Hid (Same w w4) := S_w_w2.out.trans s4
      have lbsw4 : w.heap.size < w4.heap.size := Nat.lt_of_lt_of_le lbsw2 (Same.size s4)
      have bsw40 : w4.cell? ⟨w.heap.size, 0, none⟩ = some (.slice A m cc) := (Same.cells s4 _ _ lbsw2).trans bsw20
      have lbcw4 : w.heap.size + 1 < w4.heap.size := Nat.lt_of_lt_of_le lbcw2 (Same.size s4)
      have bcw40 : w4.cell? ⟨w.heap.size + 1, 0, none⟩ = some (.int .i64 k) := (Same.cells s4 _ _ lbcw2).trans bcw20
      have bcw41 : w4.cell? ⟨w.heap.size + 1, 1, none⟩ = some (.string t) := (Same.cells s4 _ _ lbcw2).trans bcw21
      have bcw42 : w4.cell? ⟨w.heap.size + 1, 2, none⟩ = some (.string aa) := (Same.cells s4 _ _ lbcw2).trans bcw22
      have bcw43 : w4.cell? ⟨w.heap.size + 1, 3, none⟩ = some (.string n) := (Same.cells s4 _ _ lbcw2).trans bcw23
      have bcw44 : w4.cell? ⟨w.heap.size + 1, 4, none⟩ = some (.int .i64 to_) := (Same.cells s4 _ _ lbcw2).trans bcw24
      have bcw45 : w4.cell? ⟨w.heap.size + 1, 5, none⟩ = some (.int .i64 dk) := (Same.cells s4 _ _ lbcw2).trans bcw25
      have bcw46 : w4.cell? ⟨w.heap.size + 1, 6, none⟩ = some (.int .i64 dn) := (Same.cells s4 _ _ lbcw2).trans bcw26
      have bcw47 : w4.cell? ⟨w.heap.size + 1, 7, none⟩ = some (.string ds) := (Same.cells s4 _ _ lbcw2).trans bcw27
      clear S_w_w2 lbsw2 bsw20 lbcw2 bcw20 bcw21 bcw22 bcw23 bcw24 bcw25 bcw26 bcw27
      clear s4
      go_wp2_with (fail)
      go_ret
      exact ⟨rfl, S_w_w4.out⟩
    case pos =>
      have HX := Lib.hid (HOK.out HW.out HTL.out HFR.out.1 hE)
      have HY := Lib.hid (HPL.out HP.out.2.1 HP.out.2.2.1)
      have HM1 : Hid ((start (ts.map RT.tb) ⟨k, t, aa, n, to_, ⟨dk, dn, ds⟩⟩ (rowsOf tbs)).Fine ∧ errOf (ts.map RT.tb) ⟨k, t, aa, n, to_, ⟨dk, dn, ds⟩⟩ = 0) := ⟨start_fine hE, (start_fine hE).err⟩
      obtain ⟨M0, hM0⟩ : ∃ M0, M0 = start (ts.map RT.tb) ⟨k, t, aa, n, to_, ⟨dk, dn, ds⟩⟩ (rowsOf tbs) := ⟨_, rfl⟩
      have HM0 : Hid (M0.Fine ∧ M0.s = (ts.map RT.tb) ∧ M0.c = ⟨k, t, aa, n, to_, ⟨dk, dn, ds⟩⟩ ∧ M0.tabs = rowsOf tbs) := by rw [hM0]; exact Lib.hid ⟨start_fine hE, rfl, rfl, rfl⟩
      rw [← hM0] at HX HY
      clear hM0 hE HER HOK HPL
      go_wp2_with (fail)
      refine (HX.out _ SW2.out).mono ?_
      rintro e w3 ⟨g, rfl, lv⟩
      have LV := Lib.hid lv
      clear lv HX
      go_wp2_with (fail)
      refine (HY.out _ _ _ SW2.out LV.out).mono ?_
      rintro e w4 ⟨Ap, cp, M, hi, tb, rfl, D⟩
      have DD := Lib.hid D
      have HFEW : Hid (FewR M.tabs) := D.fewR (show tbs.length ≤ 1000000 by have := HT6.out; omega) (by decide)
      have HRW : Hid (M.rows.length ≤ 40) := rows_le D.few
      clear D HY LV
      go_wp2_with (fail)
      refine (DD.out.live.abandon HFEW.out DD.out.closed).mono ?_
      rintro e w5 ⟨A5, n5, c5, rfl, ⟨ts5, o5⟩, lv5, cc5⟩
      have LV5 := Lib.hid lv5
      have HSM := Lib.hid (fun W (s : Same w5 W) => same43_ok ⟨A5, n5, c5⟩ ⟨Ap, tbs.length, cp⟩ ts5 tb W (o5.tables.same s) ((DD.out.tablesX lv5.same cc5).same s))
      have HDEC : Hid (decide (rowsOf ts5 = rowsOf tb) = true) := Lib.hid (decide_eq_true (o5.2.1.trans DD.out.rows.symm))
      obtain ⟨dq, hdq⟩ : ∃ dq, dq = decide (rowsOf ts5 = rowsOf tb) := ⟨_, rfl⟩
      rw [← hdq] at HSM HDEC
      obtain rfl : dq = true := HDEC.out
      have HSM' : Hid (∀ W, Same w5 W → Calls Tryz.prog 21 #[.slice A5 n5 c5, .slice Ap tbs.length cp] W fun e w' => e = .returned (.bool true) ∧ Same W w') := HSM
      have S5 : Hid (Same w w5) := SW2.out.trans lv5.same
      clear hdq HDEC HSM lv5 cc5 o5
      go_wp2_with (fail)
      refine (HSM'.out _ (Same.refl _)).mono ?_
      rintro e w6 ⟨rfl, s6⟩
      have S6 : Hid (Same w w6) := S5.out.trans s6
      clear s6
      go_wp2_with (fail)
      go_ret
      exact ⟨rfl, S6.out⟩
end Go.Proofs.YtpakimhhpeaefaaGreatDoor

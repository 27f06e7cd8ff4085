/- SchemaNames: the walk. Conditions: Laid. -/
import Derived.Test.YtalpbodjplnjcaaGreatDoorKLm
set_option linter.unusedSimpArgs false
set_option linter.unusedVariables false
namespace Go.Proofs.YtalpbodjplnjcaaGreatDoor
open Go.RowKit

set_option maxHeartbeats 8000000 in
set_option maxRecDepth 100000 in
theorem names_walk (h : Hd) (ts : List RT) (c : Cg) (w : World) (l : Laid w) (a : TabsAt w h ts) (hn : okS c.name) (hd : okS c.dflt.s) :
    Calls Tryz.prog 5 #[.agg #[h.val], c.val] w fun e w' => e = .returned (.bool true) ∧ Same w w' := by
  have HH := Lib.hid (fun W (s : Same w W) => head_ok W (l.same s))
  have HS := Lib.hid (fun W (s : Same w W) => small_ok h ts c none 0 0 W (a.same s) hn hd (by decide))
  have HA := Lib.hid a
  have hml : ts.length = h.n := a.1.1
  have hmb : h.n ≤ 9223372036854775807 := a.1.2.1
  obtain ⟨A, m, cc⟩ := h
  obtain ⟨k, t, aa, n, to_, ⟨dk, dn, ds⟩⟩ := c
  have hml' : ts.length = m := hml
  have hmb' : m ≤ 9223372036854775807 := hmb
  subst hml'
  have HN : Hid (okS n) := hn
  have HD : Hid (okS ds) := hd
  clear hml hmb a l hn hd
  show Calls Tryz.prog 5 #[.agg #[.slice A ts.length cc], .agg #[.int .i64 k, .string t, .string aa, .string n, .int .i64 to_, .int .i64 dk, .int .i64 dn, .string ds]] w _
  obtain ⟨q, hq⟩ : ∃ q, q = smallL (ts.map RT.tb) ⟨k, t, aa, n, to_, ⟨dk, dn, ds⟩⟩ 0 := ⟨_, rfl⟩
  have HS' : Hid (∀ W, Same w W → Calls Tryz.prog 10 #[.agg #[.slice A ts.length cc], .agg #[.int .i64 k, .string t, .string aa, .string n, .int .i64 to_, .int .i64 dk, .int .i64 dn, .string ds], .slice none 0 0] W fun e w' => e = .returned (.bool q) ∧ Same W w') := by rw [hq]; exact HS
  have HQ := Lib.hid hq
  clear HS hq
  go_enter Tryz.func5, Tryz.ntmps5
  go_wp2_with (fail)
  obtain ⟨W0, hW0⟩ : ∃ W0, W0 = (w.alloc (.cells #[.slice A ts.length cc] 24)).alloc (.cells #[.int .i64 k, .string t, .string aa, .string n, .int .i64 to_, .int .i64 dk, .int .i64 dn, .string ds] 28) := ⟨_, rfl⟩
  have S_w_W0 : Hid (Same w W0) := by rw [hW0]; exact ((Same.refl w).alloc _).alloc _
  have Bbs : Blk W0 (w.heap.size) 24 #[.slice A ts.length cc] := by rw [hW0]; exact ((Blk.new w _ _).alloc _)
  have Bbc : Blk W0 (w.heap.size + 1) 28 #[.int .i64 k, .string t, .string aa, .string n, .int .i64 to_, .int .i64 dk, .int .i64 dn, .string ds] := by
    have e : w.heap.size + 1 = (w.alloc (.cells #[.slice A ts.length cc] 24)).heap.size := by simp
    rw [hW0, e]; exact (Blk.new _ _ _)
  rw [← hW0]
  clear hW0
  have lbsW0 := Bbs.lt
  have bsW00 : W0.cell? ⟨w.heap.size, 0, none⟩ = some (.slice A ts.length cc) := Bbs.cell 0
  clear Bbs
  have lbcW0 := Bbc.lt
  have bcW00 : W0.cell? ⟨w.heap.size + 1, 0, none⟩ = some (.int .i64 k) := Bbc.cell 0
  have bcW01 : W0.cell? ⟨w.heap.size + 1, 1, none⟩ = some (.string t) := Bbc.cell 1
  have bcW02 : W0.cell? ⟨w.heap.size + 1, 2, none⟩ = some (.string aa) := Bbc.cell 2
  have bcW03 : W0.cell? ⟨w.heap.size + 1, 3, none⟩ = some (.string n) := Bbc.cell 3
  have bcW04 : W0.cell? ⟨w.heap.size + 1, 4, none⟩ = some (.int .i64 to_) := Bbc.cell 4
  have bcW05 : W0.cell? ⟨w.heap.size + 1, 5, none⟩ = some (.int .i64 dk) := Bbc.cell 5
  have bcW06 : W0.cell? ⟨w.heap.size + 1, 6, none⟩ = some (.int .i64 dn) := Bbc.cell 6
  have bcW07 : W0.cell? ⟨w.heap.size + 1, 7, none⟩ = some (.string ds) := Bbc.cell 7
  clear Bbc
  refine (HH.out _ S_w_W0.out).mono ?_
  rintro e w1 ⟨rfl, s1⟩
  have S_w_w1 : Hid (Same w w1) := S_w_W0.out.trans s1
  have lbsw1 : w.heap.size < w1.heap.size := Nat.lt_of_lt_of_le lbsW0 (Same.size s1)
  have bsw10 : w1.cell? ⟨w.heap.size, 0, none⟩ = some (.slice A ts.length cc) := (Same.cells s1 _ _ lbsW0).trans bsW00
  have lbcw1 : w.heap.size + 1 < w1.heap.size := Nat.lt_of_lt_of_le lbcW0 (Same.size s1)
  have bcw10 : w1.cell? ⟨w.heap.size + 1, 0, none⟩ = some (.int .i64 k) := (Same.cells s1 _ _ lbcW0).trans bcW00
  have bcw11 : w1.cell? ⟨w.heap.size + 1, 1, none⟩ = some (.string t) := (Same.cells s1 _ _ lbcW0).trans bcW01
  have bcw12 : w1.cell? ⟨w.heap.size + 1, 2, none⟩ = some (.string aa) := (Same.cells s1 _ _ lbcW0).trans bcW02
  have bcw13 : w1.cell? ⟨w.heap.size + 1, 3, none⟩ = some (.string n) := (Same.cells s1 _ _ lbcW0).trans bcW03
  have bcw14 : w1.cell? ⟨w.heap.size + 1, 4, none⟩ = some (.int .i64 to_) := (Same.cells s1 _ _ lbcW0).trans bcW04
  have bcw15 : w1.cell? ⟨w.heap.size + 1, 5, none⟩ = some (.int .i64 dk) := (Same.cells s1 _ _ lbcW0).trans bcW05
  have bcw16 : w1.cell? ⟨w.heap.size + 1, 6, none⟩ = some (.int .i64 dn) := (Same.cells s1 _ _ lbcW0).trans bcW06
  have bcw17 : w1.cell? ⟨w.heap.size + 1, 7, none⟩ = some (.string ds) := (Same.cells s1 _ _ lbcW0).trans bcW07
  clear S_w_W0 lbsW0 bsW00 lbcW0 bcW00 bcW01 bcW02 bcW03 bcW04 bcW05 bcW06 bcW07
  clear s1
  clear HH
  go_wp2_with (fail)
  refine (HS'.out _ S_w_w1.out).mono ?_
  rintro e w2 ⟨rfl, s2⟩
  have S_w_w2 : Hid (Same w w2) := S_w_w1.out.trans s2
  have lbsw2 : w.heap.size < w2.heap.size := Nat.lt_of_lt_of_le lbsw1 (Same.size s2)
  have bsw20 : w2.cell? ⟨w.heap.size, 0, none⟩ = some (.slice A ts.length cc) := (Same.cells s2 _ _ lbsw1).trans bsw10
  have lbcw2 : w.heap.size + 1 < w2.heap.size := Nat.lt_of_lt_of_le lbcw1 (Same.size s2)
  have bcw20 : w2.cell? ⟨w.heap.size + 1, 0, none⟩ = some (.int .i64 k) := (Same.cells s2 _ _ lbcw1).trans bcw10
  have bcw21 : w2.cell? ⟨w.heap.size + 1, 1, none⟩ = some (.string t) := (Same.cells s2 _ _ lbcw1).trans bcw11
  have bcw22 : w2.cell? ⟨w.heap.size + 1, 2, none⟩ = some (.string aa) := (Same.cells s2 _ _ lbcw1).trans bcw12
  have bcw23 : w2.cell? ⟨w.heap.size + 1, 3, none⟩ = some (.string n) := (Same.cells s2 _ _ lbcw1).trans bcw13
  have bcw24 : w2.cell? ⟨w.heap.size + 1, 4, none⟩ = some (.int .i64 to_) := (Same.cells s2 _ _ lbcw1).trans bcw14
  have bcw25 : w2.cell? ⟨w.heap.size + 1, 5, none⟩ = some (.int .i64 dk) := (Same.cells s2 _ _ lbcw1).trans bcw15
  have bcw26 : w2.cell? ⟨w.heap.size + 1, 6, none⟩ = some (.int .i64 dn) := (Same.cells s2 _ _ lbcw1).trans bcw16
  have bcw27 : w2.cell? ⟨w.heap.size + 1, 7, none⟩ = some (.string ds) := (Same.cells s2 _ _ lbcw1).trans bcw17
  clear S_w_w1 lbsw1 bsw10 lbcw1 bcw10 bcw11 bcw12 bcw13 bcw14 bcw15 bcw16 bcw17
  clear s2
  clear HS'
  cases q with
  | false =>
    go_wp2_with (fail)
    go_ret
    first | exact ⟨rfl, S_w_w2.out⟩ | exact ⟨rfl, S_w_w2.out.alloc _⟩ | exact ⟨rfl, (S_w_w2.out.alloc _).alloc _⟩
  | true =>
    have HP : Hid (smallS (ts.map RT.tb) = true ∧ n.size ≤ 100 ∧ ds.size ≤ 300 ∧ 0 ≤ 20) := small_parts HQ.out.symm
    have HF : Hid (Few ts) := Lib.hid (few_of_small HP.out.1).1
    obtain ⟨E1, hE1⟩ : ∃ E1, E1 = errOf (ts.map RT.tb) ⟨k, t, aa, n, to_, ⟨dk, dn, ds⟩⟩ := ⟨_, rfl⟩
    by_cases hz1 : E1 = 0
    · subst hz1
      have HE1 := Lib.hid hE1.symm
      clear hE1
      go_wp2_with (fail)
      refine (apply_zeroE (HA.out.same S_w_w2.out) HF.out HN.out HD.out HE1.out).mono ?_
      rintro e w4 ⟨A1, m1, c1, ts1, rfl, ta1, hm1, s4⟩
      have HLE : Hid (ts1.length = ts.length) := by have := congrArg List.length hm1; rw [applyS_len, List.length_map, List.length_map] at this; exact this
      obtain rfl : m1 = ts.length := (show ts1.length = m1 from ta1.1.1).symm.trans HLE.out
      have TA1 := Lib.hid ta1
      have HM1 := Lib.hid hm1
      clear ta1 hm1
      have S_w_w4 : Hid (Same w w4) := S_w_w2.out.trans s4
      have lbsw4 : w.heap.size < w4.heap.size := Nat.lt_of_lt_of_le lbsw2 (Same.size s4)
      have bsw40 : w4.cell? ⟨w.heap.size, 0, none⟩ = some (.slice A ts.length cc) := (Same.cells s4 _ _ lbsw2).trans bsw20
      have lbcw4 : w.heap.size + 1 < w4.heap.size := Nat.lt_of_lt_of_le lbcw2 (Same.size s4)
      have bcw40 : w4.cell? ⟨w.heap.size + 1, 0, none⟩ = some (.int .i64 k) := (Same.cells s4 _ _ lbcw2).trans bcw20
      have bcw41 : w4.cell? ⟨w.heap.size + 1, 1, none⟩ = some (.string t) := (Same.cells s4 _ _ lbcw2).trans bcw21
      have bcw42 : w4.cell? ⟨w.heap.size + 1, 2, none⟩ = some (.string aa) := (Same.cells s4 _ _ lbcw2).trans bcw22
      have bcw43 : w4.cell? ⟨w.heap.size + 1, 3, none⟩ = some (.string n) := (Same.cells s4 _ _ lbcw2).trans bcw23
      have bcw44 : w4.cell? ⟨w.heap.size + 1, 4, none⟩ = some (.int .i64 to_) := (Same.cells s4 _ _ lbcw2).trans bcw24
      have bcw45 : w4.cell? ⟨w.heap.size + 1, 5, none⟩ = some (.int .i64 dk) := (Same.cells s4 _ _ lbcw2).trans bcw25
      have bcw46 : w4.cell? ⟨w.heap.size + 1, 6, none⟩ = some (.int .i64 dn) := (Same.cells s4 _ _ lbcw2).trans bcw26
      have bcw47 : w4.cell? ⟨w.heap.size + 1, 7, none⟩ = some (.string ds) := (Same.cells s4 _ _ lbcw2).trans bcw27
      clear S_w_w2 lbsw2 bsw20 lbcw2 bcw20 bcw21 bcw22 bcw23 bcw24 bcw25 bcw26 bcw27
      clear s4
      go_wp2_with (fail)
      obtain ⟨W5, hW5⟩ : ∃ W5, W5 = w4.alloc (.cells #[.slice A1 ts.length c1] 24) := ⟨_, rfl⟩
      have sW5 : Same w4 W5 := by rw [hW5]; exact (Same.refl w4).alloc _
      have Bba : Blk W5 w4.heap.size 24 #[.slice A1 ts.length c1] := by rw [hW5]; exact Blk.new w4 _ _
      rw [← hW5]
      clear hW5
      have S_w_W5 : Hid (Same w W5) := S_w_w4.out.trans sW5
      have S_w4_W5 : Hid (Same w4 W5) := sW5
      have lbsW5 : w.heap.size < W5.heap.size := Nat.lt_of_lt_of_le lbsw4 (Same.size sW5)
      have bsW50 : W5.cell? ⟨w.heap.size, 0, none⟩ = some (.slice A ts.length cc) := (Same.cells sW5 _ _ lbsw4).trans bsw40
      have lbcW5 : w.heap.size + 1 < W5.heap.size := Nat.lt_of_lt_of_le lbcw4 (Same.size sW5)
      have bcW50 : W5.cell? ⟨w.heap.size + 1, 0, none⟩ = some (.int .i64 k) := (Same.cells sW5 _ _ lbcw4).trans bcw40
      have bcW51 : W5.cell? ⟨w.heap.size + 1, 1, none⟩ = some (.string t) := (Same.cells sW5 _ _ lbcw4).trans bcw41
      have bcW52 : W5.cell? ⟨w.heap.size + 1, 2, none⟩ = some (.string aa) := (Same.cells sW5 _ _ lbcw4).trans bcw42
      have bcW53 : W5.cell? ⟨w.heap.size + 1, 3, none⟩ = some (.string n) := (Same.cells sW5 _ _ lbcw4).trans bcw43
      have bcW54 : W5.cell? ⟨w.heap.size + 1, 4, none⟩ = some (.int .i64 to_) := (Same.cells sW5 _ _ lbcw4).trans bcw44
      have bcW55 : W5.cell? ⟨w.heap.size + 1, 5, none⟩ = some (.int .i64 dk) := (Same.cells sW5 _ _ lbcw4).trans bcw45
      have bcW56 : W5.cell? ⟨w.heap.size + 1, 6, none⟩ = some (.int .i64 dn) := (Same.cells sW5 _ _ lbcw4).trans bcw46
      have bcW57 : W5.cell? ⟨w.heap.size + 1, 7, none⟩ = some (.string ds) := (Same.cells sW5 _ _ lbcw4).trans bcw47
      clear S_w_w4 lbsw4 bsw40 lbcw4 bcw40 bcw41 bcw42 bcw43 bcw44 bcw45 bcw46 bcw47
      have lbaW5 := Bba.lt
      have baW50 : W5.cell? ⟨w4.heap.size, 0, none⟩ = some (.slice A1 ts.length c1) := Bba.cell 0
      clear Bba sW5
      obtain ⟨jj, hjl, hfj, hno⟩ := names_facts HE1.out HM1.out
      have hjl1 : jj < ts1.length := by have := HLE.out; omega
      have HFJ := Lib.hid hfj
      have HNO := Lib.hid (hno hjl hjl1)
      clear hfj hno
      refine (findE (HA.out.same S_w_W5.out)).mono ?_
      rintro e w6 ⟨he, s6⟩
      rw [HFJ.out] at he
      subst he
      have S_w_w6 : Hid (Same w w6) := S_w_W5.out.trans s6
      have S_w4_w6 : Hid (Same w4 w6) := S_w4_W5.out.trans s6
      have lbsw6 : w.heap.size < w6.heap.size := Nat.lt_of_lt_of_le lbsW5 (Same.size s6)
      have bsw60 : w6.cell? ⟨w.heap.size, 0, none⟩ = some (.slice A ts.length cc) := (Same.cells s6 _ _ lbsW5).trans bsW50
      have lbcw6 : w.heap.size + 1 < w6.heap.size := Nat.lt_of_lt_of_le lbcW5 (Same.size s6)
      have bcw60 : w6.cell? ⟨w.heap.size + 1, 0, none⟩ = some (.int .i64 k) := (Same.cells s6 _ _ lbcW5).trans bcW50
      have bcw61 : w6.cell? ⟨w.heap.size + 1, 1, none⟩ = some (.string t) := (Same.cells s6 _ _ lbcW5).trans bcW51
      have bcw62 : w6.cell? ⟨w.heap.size + 1, 2, none⟩ = some (.string aa) := (Same.cells s6 _ _ lbcW5).trans bcW52
      have bcw63 : w6.cell? ⟨w.heap.size + 1, 3, none⟩ = some (.string n) := (Same.cells s6 _ _ lbcW5).trans bcW53
      have bcw64 : w6.cell? ⟨w.heap.size + 1, 4, none⟩ = some (.int .i64 to_) := (Same.cells s6 _ _ lbcW5).trans bcW54
      have bcw65 : w6.cell? ⟨w.heap.size + 1, 5, none⟩ = some (.int .i64 dk) := (Same.cells s6 _ _ lbcW5).trans bcW55
      have bcw66 : w6.cell? ⟨w.heap.size + 1, 6, none⟩ = some (.int .i64 dn) := (Same.cells s6 _ _ lbcW5).trans bcW56
      have bcw67 : w6.cell? ⟨w.heap.size + 1, 7, none⟩ = some (.string ds) := (Same.cells s6 _ _ lbcW5).trans bcW57
      have lbaw6 : w4.heap.size < w6.heap.size := Nat.lt_of_lt_of_le lbaW5 (Same.size s6)
      have baw60 : w6.cell? ⟨w4.heap.size, 0, none⟩ = some (.slice A1 ts.length c1) := (Same.cells s6 _ _ lbaW5).trans baW50
      clear S_w_W5 S_w4_W5 lbsW5 bsW50 lbcW5 bcW50 bcW51 bcW52 bcW53 bcW54 bcW55 bcW56 bcW57 lbaW5 baW50
      clear s6
      obtain ⟨b, off, hA, blt, hc⟩ := (HA.out.1.same S_w_w6.out).2.2 jj hjl
      obtain ⟨b2, off2, hB, blt2, hc2⟩ := (TA1.out.1.same S_w4_w6.out).2.2 jj hjl1
      have hA' : A = some ⟨b, off, none⟩ := hA
      have hB' : A1 = some ⟨b2, off2, none⟩ := hB
      have HTX := Lib.hid ((HA.out.2 _ (List.getElem_mem hjl)).same S_w_w6.out)
      have HTY := Lib.hid ((TA1.out.2 _ (List.getElem_mem hjl1)).same S_w4_w6.out)
      obtain ⟨x, hx⟩ : ∃ x, x = ts[jj] := ⟨_, rfl⟩
      obtain ⟨y, hy⟩ : ∃ y, y = ts1[jj] := ⟨_, rfl⟩
      rw [← hx] at hc HTX HNO
      rw [← hy] at hc2 HTY HNO
      clear hx hy hA hB
      obtain ⟨n1, ⟨A4, m4, c4⟩, ra1, ⟨B4, p4, d4⟩, key1⟩ := x
      obtain ⟨n2, ⟨A5, m5, c5⟩, ra2, ⟨B5, p5, d5⟩, key2⟩ := y
      have x0 : w6.cell? ⟨b, off + jj * 3, none⟩ = some (.string n1) := hc 0 _ rfl
      have x1 : w6.cell? ⟨b, off + jj * 3 + 1, none⟩ = some (.slice A4 m4 c4) := hc 1 _ rfl
      have x2 : w6.cell? ⟨b, off + jj * 3 + 2, none⟩ = some (.slice B4 p4 d4) := hc 2 _ rfl
      have y0 : w6.cell? ⟨b2, off2 + jj * 3, none⟩ = some (.string n2) := hc2 0 _ rfl
      have y1 : w6.cell? ⟨b2, off2 + jj * 3 + 1, none⟩ = some (.slice A5 m5 c5) := hc2 1 _ rfl
      have y2 : w6.cell? ⟨b2, off2 + jj * 3 + 2, none⟩ = some (.slice B5 p5 d5) := hc2 2 _ rfl
      subst hA' hB'
      clear hc hc2
      have hj0 : (0 : Int) ≤ (jj : Int) := by omega
      have hj1 : (jj : Int) < (ts.length : Int) := by omega
      have z1 : b ≠ w6.heap.size := by omega
      have z2 : b2 ≠ w6.heap.size := by omega
      have z3 : b ≠ w6.heap.size + 1 := by omega
      have z4 : b2 ≠ w6.heap.size + 1 := by omega
      have z5 : w.heap.size ≠ w6.heap.size := by omega
      have z6 : w4.heap.size ≠ w6.heap.size := by omega
      have z7 : w.heap.size ≠ w6.heap.size + 1 := by omega
      have z8 : w4.heap.size ≠ w6.heap.size + 1 := by omega
      go_upto_region 10 with (fail)
      go_cut [9, 10] (fun v9 v10 wx => ∃ bt bu : Nat, v9 = .pointer (some ⟨bt, 0, none⟩) ∧ v10 = .pointer (some ⟨bu, 0, none⟩) ∧ Hid (Same w6 wx ∧ (bt < wx.heap.size ∧ bu < wx.heap.size) ∧ (wx.cell? ⟨bt, 0, none⟩ = some (.string n1) ∧ wx.cell? ⟨bt, 1, none⟩ = some (.slice A4 m4 c4) ∧ wx.cell? ⟨bt, 2, none⟩ = some (.slice B4 p4 d4)) ∧ (wx.cell? ⟨bu, 0, none⟩ = some (.string n2) ∧ wx.cell? ⟨bu, 1, none⟩ = some (.slice A5 m5 c5) ∧ wx.cell? ⟨bu, 2, none⟩ = some (.slice B5 p5 d5))))
      case first =>
        go_region_held3 (fun w' => w'.cell? ⟨w.heap.size, 0, none⟩ = some (.slice (some ⟨b, off, none⟩) ts.length cc) ∧ w'.cell? ⟨w4.heap.size, 0, none⟩ = some (.slice (some ⟨b2, off2, none⟩) ts.length c1) ∧ w'.cell? ⟨b, off + jj * 3, none⟩ = some (.string n1) ∧ w'.cell? ⟨b, off + jj * 3 + 1, none⟩ = some (.slice A4 m4 c4) ∧ w'.cell? ⟨b, off + jj * 3 + 2, none⟩ = some (.slice B4 p4 d4) ∧ w'.cell? ⟨b2, off2 + jj * 3, none⟩ = some (.string n2) ∧ w'.cell? ⟨b2, off2 + jj * 3 + 1, none⟩ = some (.slice A5 m5 c5) ∧ w'.cell? ⟨b2, off2 + jj * 3 + 2, none⟩ = some (.slice B5 p5 d5)) (first | (simp [*]; done) | ((repeat' apply And.intro) <;> (first | (simp [*]; done) | (simp [*, size_setCell, cell_drew, cell_far, cell_near, cell_new', cell_old]; done) | go_keep))) (fail)
        all_goals go_wp2_with (fail)
        all_goals go_meet
        all_goals first
          | exact ⟨_, _, rfl, rfl, two_box w6 _ _ _ _ _ _ _ _ rfl⟩
          | (refine ⟨_, _, rfl, rfl, ?_⟩; have tb := two_box w6 44 (.string n2) (.slice A5 m5 c5) (.slice B5 p5 d5) (.string n1) (.slice A4 m4 c4) (.slice B4 p4 d4) _ rfl; exact ⟨tb.1, ⟨tb.2.1.2, tb.2.1.1⟩, tb.2.2.2, tb.2.2.1⟩)
      case rest =>
        obtain ⟨bt, bu, rfl, rfl, R⟩ := hcut
        obtain ⟨wq, rfl⟩ : ∃ wq : World, wq = wc := ⟨_, rfl⟩
        have S_w_wq : Hid (Same w wq) := S_w_w6.out.trans R.out.1
        have S_w4_wq : Hid (Same w4 wq) := S_w4_w6.out.trans R.out.1
        have lbswq : w.heap.size < wq.heap.size := Nat.lt_of_lt_of_le lbsw6 (Same.size R.out.1)
        have bswq0 : wq.cell? ⟨w.heap.size, 0, none⟩ = some (.slice (some ⟨b, off, none⟩) ts.length cc) := (Same.cells R.out.1 _ _ lbsw6).trans bsw60
        have lbcwq : w.heap.size + 1 < wq.heap.size := Nat.lt_of_lt_of_le lbcw6 (Same.size R.out.1)
        have bcwq0 : wq.cell? ⟨w.heap.size + 1, 0, none⟩ = some (.int .i64 k) := (Same.cells R.out.1 _ _ lbcw6).trans bcw60
        have bcwq1 : wq.cell? ⟨w.heap.size + 1, 1, none⟩ = some (.string t) := (Same.cells R.out.1 _ _ lbcw6).trans bcw61
        have bcwq2 : wq.cell? ⟨w.heap.size + 1, 2, none⟩ = some (.string aa) := (Same.cells R.out.1 _ _ lbcw6).trans bcw62
        have bcwq3 : wq.cell? ⟨w.heap.size + 1, 3, none⟩ = some (.string n) := (Same.cells R.out.1 _ _ lbcw6).trans bcw63
        have bcwq4 : wq.cell? ⟨w.heap.size + 1, 4, none⟩ = some (.int .i64 to_) := (Same.cells R.out.1 _ _ lbcw6).trans bcw64
        have bcwq5 : wq.cell? ⟨w.heap.size + 1, 5, none⟩ = some (.int .i64 dk) := (Same.cells R.out.1 _ _ lbcw6).trans bcw65
        have bcwq6 : wq.cell? ⟨w.heap.size + 1, 6, none⟩ = some (.int .i64 dn) := (Same.cells R.out.1 _ _ lbcw6).trans bcw66
        have bcwq7 : wq.cell? ⟨w.heap.size + 1, 7, none⟩ = some (.string ds) := (Same.cells R.out.1 _ _ lbcw6).trans bcw67
        have lbawq : w4.heap.size < wq.heap.size := Nat.lt_of_lt_of_le lbaw6 (Same.size R.out.1)
        have bawq0 : wq.cell? ⟨w4.heap.size, 0, none⟩ = some (.slice (some ⟨b2, off2, none⟩) ts.length c1) := (Same.cells R.out.1 _ _ lbaw6).trans baw60
        clear S_w_w6 S_w4_w6 lbsw6 bsw60 lbcw6 bcw60 bcw61 bcw62 bcw63 bcw64 bcw65 bcw66 bcw67 lbaw6 baw60
        have HTX' : Hid (TbAt wq ⟨n1, ⟨A4, m4, c4⟩, ra1, ⟨B4, p4, d4⟩, key1⟩) := HTX.out.same R.out.1
        have HTY' : Hid (TbAt wq ⟨n2, ⟨A5, m5, c5⟩, ra2, ⟨B5, p5, d5⟩, key2⟩) := HTY.out.same R.out.1
        have lt0 := R.out.2.1.1
        have lu0 := R.out.2.1.2
        have t0 := R.out.2.2.1.1
        have t1 := R.out.2.2.1.2.1
        have t2 := R.out.2.2.1.2.2
        have u0 := R.out.2.2.2.1
        have u1 := R.out.2.2.2.2.1
        have u2 := R.out.2.2.2.2.2
        clear R HTX HTY
        have l1 : ra1.length = m4 := HTX'.out.1.1.1
        have l2 : key1.length = p4 := HTX'.out.2.1.1
        have l3 : ra2.length = m5 := HTY'.out.1.1.1
        have l4 : key2.length = p5 := HTY'.out.2.1.1
        have l12 : ra1.length ≤ 12 := by have := HNO.out.al; simpa [RT.tb] using this
        have hkk : key2.length = key1.length := by
          have := congrArg List.length HNO.out.key
          simpa [RT.tb] using this
        have lk : key1.length ≤ 9223372036854775807 := by have := HTX'.out.2.1.2.1; simp only at this; omega
        subst l1 l2 l3
        obtain rfl : p5 = key1.length := l4.symm.trans hkk
        clear x0 x1 x2 y0 y1 y2 z1 z2 z3 z4 z5 z6 z7 z8 blt blt2
        have HKK := Lib.hid hkk
        have HL12 := Lib.hid l12
        clear hkk
        obtain ⟨tt, htt⟩ : ∃ tt : Tb, tt = (⟨n1, ⟨A4, ra1.length, c4⟩, ra1, ⟨B4, key1.length, d4⟩, key1⟩ : RT).tb := ⟨_, rfl⟩
        obtain ⟨uu, huu⟩ : ∃ uu : Tb, uu = (⟨n2, ⟨A5, ra2.length, c5⟩, ra2, ⟨B5, key1.length, d5⟩, key2⟩ : RT).tb := ⟨_, rfl⟩
        have TTA : Hid (tt.attrs = ra1.map RA.at_) := by show _ = _; rw [htt]; rfl
        have TTK : Hid (tt.key = key1) := by show _ = _; rw [htt]; rfl
        have UUK : Hid (uu.key = key2) := by show _ = _; rw [huu]; rfl
        have HCOL : Hid (∀ W, Same wq W → ∀ nm, Calls Tryz.prog 23 #[.agg #[.string n2, .slice A5 ra2.length c5, .slice B5 key1.length d5], .string nm] W fun e w' => e = .returned (.int .i64 (colA uu.attrs nm)) ∧ Same W w') := fun W s nm => by rw [huu]; exact columnE (HTY'.out.same s)
        have HCOT : Hid (∀ W, Same wq W → ∀ nm, Calls Tryz.prog 23 #[.agg #[.string n1, .slice A4 ra1.length c4, .slice B4 key1.length d4], .string nm] W fun e w' => e = .returned (.int .i64 (colA tt.attrs nm)) ∧ Same W w') := fun W s nm => by rw [htt]; exact columnE (HTX'.out.same s)
        have HMOV : Hid (∀ W, Same wq W → ∀ i : Int, 0 ≤ i → i ≤ 1000000000 → Calls Tryz.prog 26 #[.agg #[.string n1, .slice A4 ra1.length c4, .slice B4 key1.length d4], .agg #[.int .i64 k, .string t, .string aa, .string n, .int .i64 to_, .int .i64 dk, .int .i64 dn, .string ds], .int .i64 i] W fun e w' => e = .returned (.int .i64 (movedI tt ⟨k, t, aa, n, to_, ⟨dk, dn, ds⟩⟩ i)) ∧ Same W w') := fun W s i h0 h1 => by rw [htt]; exact movedE (HTX'.out.same s) h0 h1
        have HOK : Hid (NamesOk tt uu ⟨k, t, aa, n, to_, ⟨dk, dn, ds⟩⟩) := by rw [htt, huu]; exact HNO.out
        have HRA : Hid (AttrsAt wq ⟨A4, ra1.length, c4⟩ ra1) := HTX'.out.1
        have HKX : Hid (IntsAt wq ⟨B4, key1.length, d4⟩ key1) := HTX'.out.2.1
        have HKY : Hid (IntsAt wq ⟨B5, key1.length, d5⟩ key2) := HTY'.out.2.1
        clear HNO HTX' HTY' htt huu l4
        go_wp2_with (fail)
        go_loopw [11] (fun i wr => ∃ k' : Nat, k' ≤ ra1.length ∧ i = .int .i64 k' ∧ Hid (Same wq wr)) (fun i _ => ra1.length - (intOf i).toNat)
        case atStart => exact ⟨0, Nat.zero_le _, rfl, Same.refl wq⟩
        case round =>
          obtain ⟨k', hk', rfl, S⟩ := hrel
          have t0r := (S.out.cells _ _ lt0).trans t0
          have t1r := (S.out.cells _ _ lt0).trans t1
          have t2r := (S.out.cells _ _ lt0).trans t2
          have c0r := (S.out.cells _ _ lbcwq).trans bcwq0
          have c1r := (S.out.cells _ _ lbcwq).trans bcwq1
          have c2r := (S.out.cells _ _ lbcwq).trans bcwq2
          have c3r := (S.out.cells _ _ lbcwq).trans bcwq3
          have c4r := (S.out.cells _ _ lbcwq).trans bcwq4
          have c5r := (S.out.cells _ _ lbcwq).trans bcwq5
          have c6r := (S.out.cells _ _ lbcwq).trans bcwq6
          have c7r := (S.out.cells _ _ lbcwq).trans bcwq7
          have ltr : bt < wr.heap.size := Nat.lt_of_lt_of_le lt0 S.out.size
          have lbr : w.heap.size + 1 < wr.heap.size := Nat.lt_of_lt_of_le lbcwq S.out.size
          by_cases hlt : k' < ra1.length
          · have hlt' : k' < tt.attrs.length := by rw [TTA.out, List.length_map]; exact hlt
            go_wp2_with (fail)
            refine (HMOV.out _ S.out (k' : Int) (by omega) (by omega)).mono ?_
            rintro e wm ⟨he, sm⟩
            obtain ⟨mv, hmv⟩ : ∃ mv, mv = movedI tt ⟨k, t, aa, n, to_, ⟨dk, dn, ds⟩⟩ (k' : Int) := ⟨_, rfl⟩
            rw [← hmv] at he
            subst he
            have HMV := Lib.hid hmv
            have SM : Hid (Same wq wm) := S.out.trans sm
            clear hmv sm t0r t1r t2r c0r c1r c2r c3r c4r c5r c6r c7r ltr lbr
            by_cases hneg : mv < 0
            · go_wp2_with (fail)
              go_roundw
              case rel => exact ⟨k' + 1, by omega, by go_num, SM.out⟩
              case measure => simp [intOf]; omega
            · have HST : Hid (∀ x, tt.attrs[k'].has x → colA uu.attrs x = mv) := fun x hx => by
                have hh := HMV.out
                rw [hh]
                exact HOK.out.stay k' hlt' (by rw [← hh]; omega) x hx
              have hn0 : ¬ (mv < 0) := hneg
              obtain ⟨b4, off4, hA4, blt4, hc4⟩ := (HRA.out.1.same SM.out).2.2 k' hlt
              have hA4' : A4 = some ⟨b4, off4, none⟩ := hA4
              have HWS := Lib.hid ((HRA.out.2 _ (List.getElem_mem hlt)).1.same SM.out)
              have HRK : Hid (tt.attrs[k'] = ra1[k'].at_) := by
                have e : (ra1.map RA.at_)[k']? = some ra1[k'].at_ := by simp [hlt]
                rw [← TTA.out, List.getElem?_eq_getElem hlt'] at e
                exact Option.some.inj e
              obtain ⟨r, hr⟩ : ∃ r, r = ra1[k'] := ⟨_, rfl⟩
              rw [← hr] at hc4 HWS HRK
              clear hr hA4
              obtain ⟨⟨rn, rk, was, rd⟩, ⟨Aw, mw, cw⟩⟩ := r
              have lw : was.length = mw := HWS.out.1.1
              have lwb : mw ≤ 9223372036854775807 := HWS.out.1.2.1
              subst lw
              have HHN : Hid (colA uu.attrs rn = mv) := HST.out rn (by rw [HRK.out]; exact .inl rfl)
              have HHW : Hid (∀ x ∈ was, colA uu.attrs x = mv) := fun x hx => HST.out x (by rw [HRK.out]; exact .inr hx)
              have r0 : wm.cell? ⟨b4, off4 + k' * 6, none⟩ = some (.string rn) := hc4 0 _ rfl
              have r2 : wm.cell? ⟨b4, off4 + k' * 6 + 2, none⟩ = some (.slice Aw was.length cw) := hc4 2 _ rfl
              have HCN : Hid (∀ W, Same wm W → Calls Tryz.prog 23 #[.agg #[.string n2, .slice A5 ra2.length c5, .slice B5 key1.length d5], .string rn] W fun e w' => e = .returned (.int .i64 mv) ∧ Same W w') := fun W s => by
                have h := HCOL.out W (SM.out.trans s) rn
                rw [HHN.out] at h
                exact h
              have cC := regr (w := wm) (fun W s => HCN.out W s)
              have kt1 := cellr ((SM.out.cells _ _ lt0).trans t1)
              have ku0 := cellr ((SM.out.cells _ _ lu0).trans u0)
              have ku1 := cellr ((SM.out.cells _ _ lu0).trans u1)
              have ku2 := cellr ((SM.out.cells _ _ lu0).trans u2)
              have kr0 := cellr r0
              subst hA4'
              clear hc4 HHN HCN
              go_wp2_with (fail)
              refine wp_region_quiet_below (by kernel_rfl) (by kernel_rfl) ?_
              repeat (go_big_quiet_step (first | (go_at_call 23; exact cC _ _)))
              refine wpQuiet_nil ?_
              intro _ hw'
              obtain ⟨⟨dq, osq⟩, hw''⟩ := hw'
              subst hw''
              have S1 := Lib.hid (SM.out.trans (Same.reg wm dq osq))
              have S1m := Lib.hid (Same.reg wm dq osq)
              generalize Sort.grow (redrawn wm dq) osq = w11 at S1 S1m ⊢
              clear kt1 ku0 ku1 ku2 kr0 cC
              go_wp2_with (fail)
              go_loopw [13] (fun i wr => ∃ j : Nat, j ≤ was.length ∧ i = .int .i64 j ∧ Hid (Same w11 wr)) (fun i _ => was.length - (intOf i).toNat)
              case atStart => exact ⟨0, Nat.zero_le _, rfl, Same.refl w11⟩
              case round =>
                obtain ⟨j, hj, rfl, S2⟩ := hrel
                have SR : Hid (Same wq wr) := S1.out.trans S2.out
                have SRm : Hid (Same wm wr) := S1m.out.trans S2.out
                have t1q := (SR.out.cells _ _ lt0).trans t1
                have r2q := (SRm.out.cells _ _ blt4).trans r2
                by_cases hltj : j < was.length
                · obtain ⟨b5, off5, hA5, blt5, cs5⟩ := (StrsAt.same HWS.out SRm.out).1.one j hltj (v := .string was[j]) rfl
                  have hA5' : Aw = some ⟨b5, off5, none⟩ := hA5
                  have HHJ : Hid (colA uu.attrs was[j] = mv) := HHW.out _ (List.getElem_mem hltj)
                  obtain ⟨y, hy⟩ : ∃ y, y = was[j] := ⟨_, rfl⟩
                  rw [← hy] at cs5 HHJ
                  clear hy hA5
                  have HCN : Hid (∀ W, Same wr W → Calls Tryz.prog 23 #[.agg #[.string n2, .slice A5 ra2.length c5, .slice B5 key1.length d5], .string y] W fun e w' => e = .returned (.int .i64 mv) ∧ Same W w') := fun W s => by
                    have h := HCOL.out W (SR.out.trans s) y
                    rw [HHJ.out] at h
                    exact h
                  have cC := regr (w := wr) (fun W s => HCN.out W s)
                  have kt1 := cellr t1q
                  have ku0 := cellr ((SR.out.cells _ _ lu0).trans u0)
                  have ku1 := cellr ((SR.out.cells _ _ lu0).trans u1)
                  have ku2 := cellr ((SR.out.cells _ _ lu0).trans u2)
                  have kr2 := cellr r2q
                  have kw := cellr cs5
                  subst hA5'
                  clear HHJ HCN
                  go_wp2_with (fail)
                  refine wp_region_quiet_below (by kernel_rfl) (by kernel_rfl) ?_
                  repeat (go_big_quiet_step (first | (go_at_call 23; exact cC _ _)))
                  refine wpQuiet_nil ?_
                  intro _ hw'
                  obtain ⟨⟨dq, osq⟩, hw''⟩ := hw'
                  subst hw''
                  have S3 := Lib.hid (S2.out.trans (Same.reg wr dq osq))
                  generalize Sort.grow (redrawn wr dq) osq = w12 at S3 ⊢
                  clear kt1 ku0 ku1 ku2 kr2 kw cC t1q r2q
                  go_wp2
                  go_roundw
                  case rel => exact ⟨j + 1, by omega, by go_num, S3.out⟩
                  case measure => simp [intOf]; omega
                · go_wp2_with (fail)
                  go_roundw
                  case rel => exact ⟨k' + 1, by omega, by go_num, SR.out⟩
                  case measure => simp [intOf]; omega
          · have kt0 := cellr t0r
            have kt1 := cellr t1r
            have kt2 := cellr t2r
            have ku0 := cellr ((S.out.cells _ _ lu0).trans u0)
            have ku1 := cellr ((S.out.cells _ _ lu0).trans u1)
            have ku2 := cellr ((S.out.cells _ _ lu0).trans u2)
            have kc0 := cellr c0r
            have kc2 := cellr c2r
            have kc3 := cellr c3r
            clear t2r c0r c1r c2r c3r c4r c5r c6r c7r
            go_upto_region 23 with (fail)
            go_cut [137] (fun v wx => v = .bool false ∧ Hid (Same wq wx))
            case first =>
              by_cases hk1 : k = 1
              · subst hk1
                have HC1 : Hid (∀ W, Same wr W → Calls Tryz.prog 23 #[.agg #[.string n2, .slice A5 ra2.length c5, .slice B5 key1.length d5], .string n] W fun e w' => e = .returned (.int .i64 (ra1.length : Int)) ∧ Same W w') := fun W s => by
                  have h := HCOL.out W (S.out.trans s) n
                  rw [HOK.out.add rfl, TTA.out, List.length_map] at h
                  exact h
                have cC := regr (w := wr) (fun W s => HC1.out W s)
                clear HC1
                refine wp_region_quiet_below (by kernel_rfl) (by kernel_rfl) ?_
                repeat (go_big_quiet_step (first | (go_at_call 23; exact cC _ _)))
                refine wpQuiet_nil ?_
                intro _ hw'
                obtain ⟨⟨dq, osq⟩, hw''⟩ := hw'
                subst hw''
                have S1 := Lib.hid (S.out.trans (Same.reg wr dq osq))
                generalize Sort.grow (redrawn wr dq) osq = w13 at S1 ⊢
                go_wp2_with (fail)
                go_meet
                exact ⟨rfl, S1⟩
              · by_cases hk3 : k = 3
                · subst hk3
                  obtain ⟨cv, hcv⟩ : ∃ cv, cv = colA tt.attrs aa := ⟨_, rfl⟩
                  have HCV := Lib.hid hcv
                  have HC1 : Hid (∀ W, Same wr W → Calls Tryz.prog 23 #[.agg #[.string n2, .slice A5 ra2.length c5, .slice B5 key1.length d5], .string n] W fun e w' => e = .returned (.int .i64 cv) ∧ Same W w') := fun W s => by
                    have h := HCOL.out W (S.out.trans s) n
                    rw [HOK.out.ren rfl, ← HCV.out] at h
                    exact h
                  have HC2 : Hid (∀ W, Same wr W → Calls Tryz.prog 23 #[.agg #[.string n1, .slice A4 ra1.length c4, .slice B4 key1.length d4], .string aa] W fun e w' => e = .returned (.int .i64 cv) ∧ Same W w') := fun W s => by
                    have h := HCOT.out W (S.out.trans s) aa
                    rw [← HCV.out] at h
                    exact h
                  have cC := regr (w := wr) (fun W s => HC1.out W s)
                  have cD := regr (w := wr) (fun W s => HC2.out W s)
                  clear HC1 HC2 hcv
                  refine wp_region_quiet_below (by kernel_rfl) (by kernel_rfl) ?_
                  repeat (go_big_quiet_step (first | (go_at_call 23; with_reducible exact cC _ _) | (go_at_call 23; with_reducible exact cD _ _)))
                  refine wpQuiet_nil ?_
                  intro _ hw'
                  obtain ⟨⟨dq, osq⟩, hw''⟩ := hw'
                  subst hw''
                  have S1 := Lib.hid (S.out.trans (Same.reg wr dq osq))
                  generalize Sort.grow (redrawn wr dq) osq = w13 at S1 ⊢
                  go_wp2_with (fail)
                  go_meet
                  exact ⟨rfl, S1⟩
                · have f1 : (k == 1) = false := by simp [hk1]
                  have f3 : (k == 3) = false := by simp [hk3]
                  refine wp_region_quiet_below (by kernel_rfl) (by kernel_rfl) ?_
                  repeat (go_big_quiet_step (fail))
                  refine wpQuiet_nil ?_
                  intro _ hw'
                  obtain ⟨⟨dq, osq⟩, hw''⟩ := hw'
                  subst hw''
                  have S1 := Lib.hid (S.out.trans (Same.reg wr dq osq))
                  generalize Sort.grow (redrawn wr dq) osq = w13 at S1 ⊢
                  go_wp2_with (fail)
                  go_meet
                  exact ⟨rfl, S1⟩
            case rest =>
              obtain ⟨rfl, S1⟩ := hcut
              obtain ⟨w13, rfl⟩ : ∃ w13 : World, w13 = wc := ⟨_, rfl⟩
              clear kt0 kt1 kt2 ku0 ku1 ku2 kc0 kc2 kc3 ltr lbr
              go_wp2_with (fail)
              go_loopw [14] (fun i wr => ∃ j : Nat, j ≤ key1.length ∧ i = .int .i64 j ∧ Hid (Same w13 wr)) (fun i _ => key1.length - (intOf i).toNat)
              case atStart => exact ⟨0, Nat.zero_le _, rfl, Same.refl w13⟩
              case round =>
                obtain ⟨j, hj, rfl, S4⟩ := hrel
                have SR : Hid (Same wq wr) := S1.out.trans S4.out
                have qt0 := (SR.out.cells _ _ lt0).trans t0
                have qt1 := (SR.out.cells _ _ lt0).trans t1
                have qt2 := (SR.out.cells _ _ lt0).trans t2
                by_cases hltj : j < key1.length
                · have hltj2 : j < key2.length := by rw [HKK.out]; exact hltj
                  obtain ⟨b6, off6, hA6, blt6, cs6⟩ := (IntsAt.same HKX.out SR.out).one j hltj (v := .int .i64 key1[j]) rfl
                  obtain ⟨b7, off7, hA7, blt7, cs7⟩ := (IntsAt.same HKY.out SR.out).one j hltj2 (v := .int .i64 key2[j]) rfl
                  have hA6' : B4 = some ⟨b6, off6, none⟩ := hA6
                  have hA7' : B5 = some ⟨b7, off7, none⟩ := hA7
                  have HXY : Hid (key2[j] = movedI tt ⟨k, t, aa, n, to_, ⟨dk, dn, ds⟩⟩ key1[j]) := by
                    have e := HOK.out.key
                    rw [UUK.out, TTK.out] at e
                    have e2 : key2[j]? = (key1.map (movedI tt ⟨k, t, aa, n, to_, ⟨dk, dn, ds⟩⟩))[j]? := by rw [e]
                    rw [List.getElem?_eq_getElem hltj2, List.getElem?_map, List.getElem?_eq_getElem hltj] at e2
                    exact Option.some.inj e2
                  have HLO : Hid (0 ≤ key1[j] ∧ key1[j] ≤ 1000000000) := HOK.out.low _ (by rw [TTK.out]; exact List.getElem_mem hltj)
                  obtain ⟨x, hx⟩ : ∃ x, x = key1[j] := ⟨_, rfl⟩
                  obtain ⟨y, hy⟩ : ∃ y, y = key2[j] := ⟨_, rfl⟩
                  rw [← hx] at cs6 HXY HLO
                  rw [← hy] at cs7 HXY
                  clear hx hy hA6 hA7
                  have HMY : Hid (∀ W, Same wr W → Calls Tryz.prog 26 #[.agg #[.string n1, .slice A4 ra1.length c4, .slice B4 key1.length d4], .agg #[.int .i64 k, .string t, .string aa, .string n, .int .i64 to_, .int .i64 dk, .int .i64 dn, .string ds], .int .i64 x] W fun e w' => e = .returned (.int .i64 y) ∧ Same W w') := fun W s => by
                    have h := HMOV.out W (SR.out.trans s) x HLO.out.1 HLO.out.2
                    rw [← HXY.out] at h
                    exact h
                  have cM := regr (w := wr) (fun W s => HMY.out W s)
                  have kt0 := cellr qt0
                  have kt1 := cellr qt1
                  have kt2 := cellr qt2
                  have ku2 := cellr ((SR.out.cells _ _ lu0).trans u2)
                  have kx := cellr cs6
                  have ky := cellr cs7
                  have kc0 := cellr ((SR.out.cells _ _ lbcwq).trans bcwq0)
                  have kc1 := cellr ((SR.out.cells _ _ lbcwq).trans bcwq1)
                  have kc2 := cellr ((SR.out.cells _ _ lbcwq).trans bcwq2)
                  have kc3 := cellr ((SR.out.cells _ _ lbcwq).trans bcwq3)
                  have kc4 := cellr ((SR.out.cells _ _ lbcwq).trans bcwq4)
                  have kc5 := cellr ((SR.out.cells _ _ lbcwq).trans bcwq5)
                  have kc6 := cellr ((SR.out.cells _ _ lbcwq).trans bcwq6)
                  have kc7 := cellr ((SR.out.cells _ _ lbcwq).trans bcwq7)
                  subst hA6' hA7'
                  clear HMY
                  go_wp2_with (fail)
                  refine wp_region_quiet_below (by kernel_rfl) (by kernel_rfl) ?_
                  repeat (go_big_quiet_step (first | (go_at_call 26; exact cM _ _)))
                  refine wpQuiet_nil ?_
                  intro _ hw'
                  obtain ⟨⟨dq2, osq2⟩, hw''⟩ := hw'
                  subst hw''
                  have S5 := Lib.hid (S4.out.trans (Same.reg wr dq2 osq2))
                  generalize Sort.grow (redrawn wr dq2) osq2 = w14 at S5 ⊢
                  clear kt0 kt1 kt2 ku2 kx ky kc0 kc1 kc2 kc3 kc4 kc5 kc6 kc7 cM qt0 qt1 qt2
                  go_wp2
                  go_roundw
                  case rel => exact ⟨j + 1, by omega, by go_num, S5.out⟩
                  case measure => simp [intOf]; omega
                · go_wp2_with (fail)
                  go_ret
                  exact ⟨rfl, S_w_wq.out.trans SR.out⟩
    · have e1 : (E1 != 0) = true := by simp [hz1]
      have HA1 : Hid (∀ W, Same w W → Calls Tryz.prog 11 #[.agg #[.slice A ts.length cc], .agg #[.int .i64 k, .string t, .string aa, .string n, .int .i64 to_, .int .i64 dk, .int .i64 dn, .string ds]] W fun e w' => e = .returned (.tuple #[.agg #[.slice none 0 0], .int .i64 E1]) ∧ Same W w') := fun W s => by
        have h := apply_nonE (HA.out.same s) HF.out HN.out HD.out (hE1 ▸ hz1)
        rw [← hE1] at h
        exact h
      clear hE1 hz1
      go_wp2_with (fail)
      refine (HA1.out _ S_w_w2.out).mono ?_
      rintro e w4 ⟨rfl, s4⟩
      have S_w_w4 : Hid (Same w w4) := S_w_w2.out.trans s4
      have lbsw4 : w.heap.size < w4.heap.size := Nat.lt_of_lt_of_le lbsw2 (Same.size s4)
      have bsw40 : w4.cell? ⟨w.heap.size, 0, none⟩ = some (.slice A ts.length cc) := (Same.cells s4 _ _ lbsw2).trans bsw20
      have lbcw4 : w.heap.size + 1 < w4.heap.size := Nat.lt_of_lt_of_le lbcw2 (Same.size s4)
      have bcw40 : w4.cell? ⟨w.heap.size + 1, 0, none⟩ = some (.int .i64 k) := (Same.cells s4 _ _ lbcw2).trans bcw20
      have bcw41 : w4.cell? ⟨w.heap.size + 1, 1, none⟩ = some (.string t) := (Same.cells s4 _ _ lbcw2).trans bcw21
      have bcw42 : w4.cell? ⟨w.heap.size + 1, 2, none⟩ = some (.string aa) := (Same.cells s4 _ _ lbcw2).trans bcw22
      have bcw43 : w4.cell? ⟨w.heap.size + 1, 3, none⟩ = some (.string n) := (Same.cells s4 _ _ lbcw2).trans bcw23
      have bcw44 : w4.cell? ⟨w.heap.size + 1, 4, none⟩ = some (.int .i64 to_) := (Same.cells s4 _ _ lbcw2).trans bcw24
      have bcw45 : w4.cell? ⟨w.heap.size + 1, 5, none⟩ = some (.int .i64 dk) := (Same.cells s4 _ _ lbcw2).trans bcw25
      have bcw46 : w4.cell? ⟨w.heap.size + 1, 6, none⟩ = some (.int .i64 dn) := (Same.cells s4 _ _ lbcw2).trans bcw26
      have bcw47 : w4.cell? ⟨w.heap.size + 1, 7, none⟩ = some (.string ds) := (Same.cells s4 _ _ lbcw2).trans bcw27
      clear S_w_w2 lbsw2 bsw20 lbcw2 bcw20 bcw21 bcw22 bcw23 bcw24 bcw25 bcw26 bcw27
      clear s4
      go_wp2_with (fail)
      go_ret
      first | exact ⟨rfl, S_w_w4.out⟩ | exact ⟨rfl, S_w_w4.out.alloc _⟩ | exact ⟨rfl, (S_w_w4.out.alloc _).alloc _⟩
end Go.Proofs.YtalpbodjplnjcaaGreatDoor

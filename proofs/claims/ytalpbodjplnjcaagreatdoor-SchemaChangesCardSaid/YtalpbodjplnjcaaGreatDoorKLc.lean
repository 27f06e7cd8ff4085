/- SchemaChanges: the walk. Conditions: Laid. -/
import Derived.Test.YtalpbodjplnjcaaGreatDoorKOa
set_option linter.unusedSimpArgs false
set_option linter.unusedVariables false
namespace Go.Proofs.YtalpbodjplnjcaaGreatDoor
open Go.RowKit

set_option maxHeartbeats 8000000 in
set_option maxRecDepth 100000 in
theorem changes_walk (h : Hd) (ts : List RT) (c : Cg) (w : World) (l : Laid w) (a : TabsAt w h ts) (hn : okS c.name) (hd : okS c.dflt.s) :
    Calls Tryz.prog 4 #[.agg #[h.val], c.val] w fun e w' => e = .returned (.bool true) ∧ Same w w' := by
  have HH := Lib.hid (fun W (s : Same w W) => head_ok W (l.same s))
  have HS := Lib.hid (fun W (s : Same w W) => small_ok h ts c none 0 0 W (a.same s) hn hd (by decide))
  have HA := Lib.hid a
  have hml : ts.length = h.n := a.1.1
  have hmb : h.n ≤ 9223372036854775807 := a.1.2.1
  obtain ⟨A, m, cc⟩ := h
  obtain ⟨k, t, aa, n, to_, ⟨dk, dn, ds⟩⟩ := c
  have hml' : ts.length = m := hml
  have hmb' : m ≤ 9223372036854775807 := hmb
  subst hml'
  have HN : Hid (okS n) := hn
  have HD : Hid (okS ds) := hd
  clear hml hmb a l hn hd
  show Calls Tryz.prog 4 #[.agg #[.slice A ts.length cc], .agg #[.int .i64 k, .string t, .string aa, .string n, .int .i64 to_, .int .i64 dk, .int .i64 dn, .string ds]] w _
  obtain ⟨q, hq⟩ : ∃ q, q = smallL (ts.map RT.tb) ⟨k, t, aa, n, to_, ⟨dk, dn, ds⟩⟩ 0 := ⟨_, rfl⟩
  have HS' : Hid (∀ W, Same w W → Calls Tryz.prog 10 #[.agg #[.slice A ts.length cc], .agg #[.int .i64 k, .string t, .string aa, .string n, .int .i64 to_, .int .i64 dk, .int .i64 dn, .string ds], .slice none 0 0] W fun e w' => e = .returned (.bool q) ∧ Same W w') := by rw [hq]; exact HS
  have HQ := Lib.hid hq
  clear HS hq
  go_enter Tryz.func4, Tryz.ntmps4
  go_wp2_with (fail)
  obtain ⟨W0, hW0⟩ : ∃ W0, W0 = (w.alloc (.cells #[.slice A ts.length cc] 24)).alloc (.cells #[.int .i64 k, .string t, .string aa, .string n, .int .i64 to_, .int .i64 dk, .int .i64 dn, .string ds] 28) := ⟨_, rfl⟩
  have S_w_W0 : Hid (Same w W0) := by rw [hW0]; exact ((Same.refl w).alloc _).alloc _
  have Bbs : Blk W0 (w.heap.size) 24 #[.slice A ts.length cc] := by rw [hW0]; exact ((Blk.new w _ _).alloc _)
  have Bbc : Blk W0 (w.heap.size + 1) 28 #[.int .i64 k, .string t, .string aa, .string n, .int .i64 to_, .int .i64 dk, .int .i64 dn, .string ds] := by
    have e : w.heap.size + 1 = (w.alloc (.cells #[.slice A ts.length cc] 24)).heap.size := by simp
    rw [hW0, e]; exact (Blk.new _ _ _)
  rw [← hW0]
  clear hW0
  have lbsW0 := Bbs.lt
  have bsW00 : W0.cell? ⟨w.heap.size, 0, none⟩ = some (.slice A ts.length cc) := Bbs.cell 0
  clear Bbs
  have lbcW0 := Bbc.lt
  have bcW00 : W0.cell? ⟨w.heap.size + 1, 0, none⟩ = some (.int .i64 k) := Bbc.cell 0
  have bcW01 : W0.cell? ⟨w.heap.size + 1, 1, none⟩ = some (.string t) := Bbc.cell 1
  have bcW02 : W0.cell? ⟨w.heap.size + 1, 2, none⟩ = some (.string aa) := Bbc.cell 2
  have bcW03 : W0.cell? ⟨w.heap.size + 1, 3, none⟩ = some (.string n) := Bbc.cell 3
  have bcW04 : W0.cell? ⟨w.heap.size + 1, 4, none⟩ = some (.int .i64 to_) := Bbc.cell 4
  have bcW05 : W0.cell? ⟨w.heap.size + 1, 5, none⟩ = some (.int .i64 dk) := Bbc.cell 5
  have bcW06 : W0.cell? ⟨w.heap.size + 1, 6, none⟩ = some (.int .i64 dn) := Bbc.cell 6
  have bcW07 : W0.cell? ⟨w.heap.size + 1, 7, none⟩ = some (.string ds) := Bbc.cell 7
  clear Bbc
  refine (HH.out _ S_w_W0.out).mono ?_
  rintro e w1 ⟨rfl, s1⟩
  have S_w_w1 : Hid (Same w w1) := S_w_W0.out.trans s1
  have lbsw1 : w.heap.size < w1.heap.size := Nat.lt_of_lt_of_le lbsW0 (Same.size s1)
  have bsw10 : w1.cell? ⟨w.heap.size, 0, none⟩ = some (.slice A ts.length cc) := (Same.cells s1 _ _ lbsW0).trans bsW00
  have lbcw1 : w.heap.size + 1 < w1.heap.size := Nat.lt_of_lt_of_le lbcW0 (Same.size s1)
  have bcw10 : w1.cell? ⟨w.heap.size + 1, 0, none⟩ = some (.int .i64 k) := (Same.cells s1 _ _ lbcW0).trans bcW00
  have bcw11 : w1.cell? ⟨w.heap.size + 1, 1, none⟩ = some (.string t) := (Same.cells s1 _ _ lbcW0).trans bcW01
  have bcw12 : w1.cell? ⟨w.heap.size + 1, 2, none⟩ = some (.string aa) := (Same.cells s1 _ _ lbcW0).trans bcW02
  have bcw13 : w1.cell? ⟨w.heap.size + 1, 3, none⟩ = some (.string n) := (Same.cells s1 _ _ lbcW0).trans bcW03
  have bcw14 : w1.cell? ⟨w.heap.size + 1, 4, none⟩ = some (.int .i64 to_) := (Same.cells s1 _ _ lbcW0).trans bcW04
  have bcw15 : w1.cell? ⟨w.heap.size + 1, 5, none⟩ = some (.int .i64 dk) := (Same.cells s1 _ _ lbcW0).trans bcW05
  have bcw16 : w1.cell? ⟨w.heap.size + 1, 6, none⟩ = some (.int .i64 dn) := (Same.cells s1 _ _ lbcW0).trans bcW06
  have bcw17 : w1.cell? ⟨w.heap.size + 1, 7, none⟩ = some (.string ds) := (Same.cells s1 _ _ lbcW0).trans bcW07
  clear S_w_W0 lbsW0 bsW00 lbcW0 bcW00 bcW01 bcW02 bcW03 bcW04 bcW05 bcW06 bcW07
  clear s1
  clear HH
  go_wp2_with (fail)
  refine (HS'.out _ S_w_w1.out).mono ?_
  rintro e w2 ⟨rfl, s2⟩
  have S_w_w2 : Hid (Same w w2) := S_w_w1.out.trans s2
  have lbsw2 : w.heap.size < w2.heap.size := Nat.lt_of_lt_of_le lbsw1 (Same.size s2)
  have bsw20 : w2.cell? ⟨w.heap.size, 0, none⟩ = some (.slice A ts.length cc) := (Same.cells s2 _ _ lbsw1).trans bsw10
  have lbcw2 : w.heap.size + 1 < w2.heap.size := Nat.lt_of_lt_of_le lbcw1 (Same.size s2)
  have bcw20 : w2.cell? ⟨w.heap.size + 1, 0, none⟩ = some (.int .i64 k) := (Same.cells s2 _ _ lbcw1).trans bcw10
  have bcw21 : w2.cell? ⟨w.heap.size + 1, 1, none⟩ = some (.string t) := (Same.cells s2 _ _ lbcw1).trans bcw11
  have bcw22 : w2.cell? ⟨w.heap.size + 1, 2, none⟩ = some (.string aa) := (Same.cells s2 _ _ lbcw1).trans bcw12
  have bcw23 : w2.cell? ⟨w.heap.size + 1, 3, none⟩ = some (.string n) := (Same.cells s2 _ _ lbcw1).trans bcw13
  have bcw24 : w2.cell? ⟨w.heap.size + 1, 4, none⟩ = some (.int .i64 to_) := (Same.cells s2 _ _ lbcw1).trans bcw14
  have bcw25 : w2.cell? ⟨w.heap.size + 1, 5, none⟩ = some (.int .i64 dk) := (Same.cells s2 _ _ lbcw1).trans bcw15
  have bcw26 : w2.cell? ⟨w.heap.size + 1, 6, none⟩ = some (.int .i64 dn) := (Same.cells s2 _ _ lbcw1).trans bcw16
  have bcw27 : w2.cell? ⟨w.heap.size + 1, 7, none⟩ = some (.string ds) := (Same.cells s2 _ _ lbcw1).trans bcw17
  clear S_w_w1 lbsw1 bsw10 lbcw1 bcw10 bcw11 bcw12 bcw13 bcw14 bcw15 bcw16 bcw17
  clear s2
  clear HS'
  cases q with
  | false =>
    go_wp2_with (fail)
    go_ret
    first | exact ⟨rfl, S_w_w2.out⟩ | exact ⟨rfl, S_w_w2.out.alloc _⟩ | exact ⟨rfl, (S_w_w2.out.alloc _).alloc _⟩
  | true =>
    have HP : Hid (smallS (ts.map RT.tb) = true ∧ n.size ≤ 100 ∧ ds.size ≤ 300 ∧ 0 ≤ 20) := small_parts HQ.out.symm
    have HF : Hid (Few ts) := Lib.hid (few_of_small HP.out.1).1
    obtain ⟨E1, hE1⟩ : ∃ E1, E1 = errOf (ts.map RT.tb) ⟨k, t, aa, n, to_, ⟨dk, dn, ds⟩⟩ := ⟨_, rfl⟩
    by_cases hz1 : E1 = 0
    · subst hz1
      have HE1 := Lib.hid hE1.symm
      clear hE1
      go_wp2_with (fail)
      refine (apply_zeroE (HA.out.same S_w_w2.out) HF.out HN.out HD.out HE1.out).mono ?_
      rintro e w4 ⟨A1, m1, c1, ts1, rfl, ta1, hm1, s4⟩
      have HLE : Hid (ts1.length = ts.length) := by have := congrArg List.length hm1; rw [applyS_len, List.length_map, List.length_map] at this; exact this
      obtain rfl : m1 = ts.length := (show ts1.length = m1 from ta1.1.1).symm.trans HLE.out
      have TA1 := Lib.hid ta1
      have HM1 := Lib.hid hm1
      clear ta1 hm1
      have S_w_w4 : Hid (Same w w4) := S_w_w2.out.trans s4
      have lbsw4 : w.heap.size < w4.heap.size := Nat.lt_of_lt_of_le lbsw2 (Same.size s4)
      have bsw40 : w4.cell? ⟨w.heap.size, 0, none⟩ = some (.slice A ts.length cc) := (Same.cells s4 _ _ lbsw2).trans bsw20
      have lbcw4 : w.heap.size + 1 < w4.heap.size := Nat.lt_of_lt_of_le lbcw2 (Same.size s4)
      have bcw40 : w4.cell? ⟨w.heap.size + 1, 0, none⟩ = some (.int .i64 k) := (Same.cells s4 _ _ lbcw2).trans bcw20
      have bcw41 : w4.cell? ⟨w.heap.size + 1, 1, none⟩ = some (.string t) := (Same.cells s4 _ _ lbcw2).trans bcw21
      have bcw42 : w4.cell? ⟨w.heap.size + 1, 2, none⟩ = some (.string aa) := (Same.cells s4 _ _ lbcw2).trans bcw22
      have bcw43 : w4.cell? ⟨w.heap.size + 1, 3, none⟩ = some (.string n) := (Same.cells s4 _ _ lbcw2).trans bcw23
      have bcw44 : w4.cell? ⟨w.heap.size + 1, 4, none⟩ = some (.int .i64 to_) := (Same.cells s4 _ _ lbcw2).trans bcw24
      have bcw45 : w4.cell? ⟨w.heap.size + 1, 5, none⟩ = some (.int .i64 dk) := (Same.cells s4 _ _ lbcw2).trans bcw25
      have bcw46 : w4.cell? ⟨w.heap.size + 1, 6, none⟩ = some (.int .i64 dn) := (Same.cells s4 _ _ lbcw2).trans bcw26
      have bcw47 : w4.cell? ⟨w.heap.size + 1, 7, none⟩ = some (.string ds) := (Same.cells s4 _ _ lbcw2).trans bcw27
      clear S_w_w2 lbsw2 bsw20 lbcw2 bcw20 bcw21 bcw22 bcw23 bcw24 bcw25 bcw26 bcw27
      clear s4
      go_wp2_with (fail)
      obtain ⟨W5, hW5⟩ : ∃ W5, W5 = w4.alloc (.cells #[.slice A1 ts.length c1] 24) := ⟨_, rfl⟩
      have sW5 : Same w4 W5 := by rw [hW5]; exact (Same.refl w4).alloc _
      have Bba : Blk W5 w4.heap.size 24 #[.slice A1 ts.length c1] := by rw [hW5]; exact Blk.new w4 _ _
      rw [← hW5]
      clear hW5
      have S_w_W5 : Hid (Same w W5) := S_w_w4.out.trans sW5
      have S_w4_W5 : Hid (Same w4 W5) := sW5
      have lbsW5 : w.heap.size < W5.heap.size := Nat.lt_of_lt_of_le lbsw4 (Same.size sW5)
      have bsW50 : W5.cell? ⟨w.heap.size, 0, none⟩ = some (.slice A ts.length cc) := (Same.cells sW5 _ _ lbsw4).trans bsw40
      have lbcW5 : w.heap.size + 1 < W5.heap.size := Nat.lt_of_lt_of_le lbcw4 (Same.size sW5)
      have bcW50 : W5.cell? ⟨w.heap.size + 1, 0, none⟩ = some (.int .i64 k) := (Same.cells sW5 _ _ lbcw4).trans bcw40
      have bcW51 : W5.cell? ⟨w.heap.size + 1, 1, none⟩ = some (.string t) := (Same.cells sW5 _ _ lbcw4).trans bcw41
      have bcW52 : W5.cell? ⟨w.heap.size + 1, 2, none⟩ = some (.string aa) := (Same.cells sW5 _ _ lbcw4).trans bcw42
      have bcW53 : W5.cell? ⟨w.heap.size + 1, 3, none⟩ = some (.string n) := (Same.cells sW5 _ _ lbcw4).trans bcw43
      have bcW54 : W5.cell? ⟨w.heap.size + 1, 4, none⟩ = some (.int .i64 to_) := (Same.cells sW5 _ _ lbcw4).trans bcw44
      have bcW55 : W5.cell? ⟨w.heap.size + 1, 5, none⟩ = some (.int .i64 dk) := (Same.cells sW5 _ _ lbcw4).trans bcw45
      have bcW56 : W5.cell? ⟨w.heap.size + 1, 6, none⟩ = some (.int .i64 dn) := (Same.cells sW5 _ _ lbcw4).trans bcw46
      have bcW57 : W5.cell? ⟨w.heap.size + 1, 7, none⟩ = some (.string ds) := (Same.cells sW5 _ _ lbcw4).trans bcw47
      clear S_w_w4 lbsw4 bsw40 lbcw4 bcw40 bcw41 bcw42 bcw43 bcw44 bcw45 bcw46 bcw47
      have lbaW5 := Bba.lt
      have baW50 : W5.cell? ⟨w4.heap.size, 0, none⟩ = some (.slice A1 ts.length c1) := Bba.cell 0
      clear Bba sW5
      have HV1 : Hid (validB (ts.map RT.tb) = true) := (errOf_zero HE1.out).2.1
      have HV2 : Hid (validB (ts1.map RT.tb) = true) := by rw [HM1.out]; exact valid_apply HE1.out
      have F1 : Hid (Few ts1) := few_of_was HM1.out ((wasLe_small HP.out.1).apply HE1.out) (by decide)
      refine (validE (HA.out.same S_w_W5.out) HF.out HV1.out).mono ?_
      rintro e w6 ⟨rfl, s6⟩
      have S_w_w6 : Hid (Same w w6) := S_w_W5.out.trans s6
      have S_w4_w6 : Hid (Same w4 w6) := S_w4_W5.out.trans s6
      have lbsw6 : w.heap.size < w6.heap.size := Nat.lt_of_lt_of_le lbsW5 (Same.size s6)
      have bsw60 : w6.cell? ⟨w.heap.size, 0, none⟩ = some (.slice A ts.length cc) := (Same.cells s6 _ _ lbsW5).trans bsW50
      have lbcw6 : w.heap.size + 1 < w6.heap.size := Nat.lt_of_lt_of_le lbcW5 (Same.size s6)
      have bcw60 : w6.cell? ⟨w.heap.size + 1, 0, none⟩ = some (.int .i64 k) := (Same.cells s6 _ _ lbcW5).trans bcW50
      have bcw61 : w6.cell? ⟨w.heap.size + 1, 1, none⟩ = some (.string t) := (Same.cells s6 _ _ lbcW5).trans bcW51
      have bcw62 : w6.cell? ⟨w.heap.size + 1, 2, none⟩ = some (.string aa) := (Same.cells s6 _ _ lbcW5).trans bcW52
      have bcw63 : w6.cell? ⟨w.heap.size + 1, 3, none⟩ = some (.string n) := (Same.cells s6 _ _ lbcW5).trans bcW53
      have bcw64 : w6.cell? ⟨w.heap.size + 1, 4, none⟩ = some (.int .i64 to_) := (Same.cells s6 _ _ lbcW5).trans bcW54
      have bcw65 : w6.cell? ⟨w.heap.size + 1, 5, none⟩ = some (.int .i64 dk) := (Same.cells s6 _ _ lbcW5).trans bcW55
      have bcw66 : w6.cell? ⟨w.heap.size + 1, 6, none⟩ = some (.int .i64 dn) := (Same.cells s6 _ _ lbcW5).trans bcW56
      have bcw67 : w6.cell? ⟨w.heap.size + 1, 7, none⟩ = some (.string ds) := (Same.cells s6 _ _ lbcW5).trans bcW57
      have lbaw6 : w4.heap.size < w6.heap.size := Nat.lt_of_lt_of_le lbaW5 (Same.size s6)
      have baw60 : w6.cell? ⟨w4.heap.size, 0, none⟩ = some (.slice A1 ts.length c1) := (Same.cells s6 _ _ lbaW5).trans baW50
      clear S_w_W5 S_w4_W5 lbsW5 bsW50 lbcW5 bcW50 bcW51 bcW52 bcW53 bcW54 bcW55 bcW56 bcW57 lbaW5 baW50
      clear s6
      go_wp2_with (fail)
      refine (validE (TA1.out.same S_w4_w6.out) F1.out HV2.out).mono ?_
      rintro e w7 ⟨rfl, s7⟩
      have S_w_w7 : Hid (Same w w7) := S_w_w6.out.trans s7
      have S_w4_w7 : Hid (Same w4 w7) := S_w4_w6.out.trans s7
      have lbsw7 : w.heap.size < w7.heap.size := Nat.lt_of_lt_of_le lbsw6 (Same.size s7)
      have bsw70 : w7.cell? ⟨w.heap.size, 0, none⟩ = some (.slice A ts.length cc) := (Same.cells s7 _ _ lbsw6).trans bsw60
      have lbcw7 : w.heap.size + 1 < w7.heap.size := Nat.lt_of_lt_of_le lbcw6 (Same.size s7)
      have bcw70 : w7.cell? ⟨w.heap.size + 1, 0, none⟩ = some (.int .i64 k) := (Same.cells s7 _ _ lbcw6).trans bcw60
      have bcw71 : w7.cell? ⟨w.heap.size + 1, 1, none⟩ = some (.string t) := (Same.cells s7 _ _ lbcw6).trans bcw61
      have bcw72 : w7.cell? ⟨w.heap.size + 1, 2, none⟩ = some (.string aa) := (Same.cells s7 _ _ lbcw6).trans bcw62
      have bcw73 : w7.cell? ⟨w.heap.size + 1, 3, none⟩ = some (.string n) := (Same.cells s7 _ _ lbcw6).trans bcw63
      have bcw74 : w7.cell? ⟨w.heap.size + 1, 4, none⟩ = some (.int .i64 to_) := (Same.cells s7 _ _ lbcw6).trans bcw64
      have bcw75 : w7.cell? ⟨w.heap.size + 1, 5, none⟩ = some (.int .i64 dk) := (Same.cells s7 _ _ lbcw6).trans bcw65
      have bcw76 : w7.cell? ⟨w.heap.size + 1, 6, none⟩ = some (.int .i64 dn) := (Same.cells s7 _ _ lbcw6).trans bcw66
      have bcw77 : w7.cell? ⟨w.heap.size + 1, 7, none⟩ = some (.string ds) := (Same.cells s7 _ _ lbcw6).trans bcw67
      have lbaw7 : w4.heap.size < w7.heap.size := Nat.lt_of_lt_of_le lbaw6 (Same.size s7)
      have baw70 : w7.cell? ⟨w4.heap.size, 0, none⟩ = some (.slice A1 ts.length c1) := (Same.cells s7 _ _ lbaw6).trans baw60
      clear S_w_w6 S_w4_w6 lbsw6 bsw60 lbcw6 bcw60 bcw61 bcw62 bcw63 bcw64 bcw65 bcw66 bcw67 lbaw6 baw60
      clear s7
      go_wp2_with (fail)
      obtain ⟨jj, hjj, hfj, hne⟩ := changes_find HE1.out
      have hjl : jj < ts.length := by simpa using hjj
      have HFJ := Lib.hid hfj
      have HNE := Lib.hid hne
      clear hjj hfj hne HV1 HV2
      go_loopw [8] (fun i wr => ∃ k : Nat, k ≤ ts.length ∧ i = .int .i64 k ∧ Hid (Same w7 wr)) (fun i _ => ts.length - (intOf i).toNat)
      case atStart => exact ⟨0, Nat.zero_le _, rfl, Same.refl w7⟩
      case round =>
        obtain ⟨k, hk, rfl, S⟩ := hrel
        have c0 := (S.out.cells _ _ lbsw7).trans bsw70
        have c1a := (S.out.cells _ _ lbaw7).trans baw70
        have c2 := (S.out.cells _ _ lbcw7).trans bcw71
        have zr0 : w.heap.size < wr.heap.size := Nat.lt_of_lt_of_le lbsw7 S.out.size
        have zr1 : w.heap.size + 1 < wr.heap.size := Nat.lt_of_lt_of_le lbcw7 S.out.size
        have zr2 : w4.heap.size < wr.heap.size := Nat.lt_of_lt_of_le lbaw7 S.out.size
        have SW : Hid (Same w wr) := S_w_w7.out.trans S.out
        have SW4 : Hid (Same w4 wr) := S_w4_w7.out.trans S.out
        by_cases hlt : k < ts.length
        · have hlt1 : k < ts1.length := by have := HLE.out; omega
          obtain ⟨b, off, hA, blt, hc⟩ := (HA.out.1.same SW.out).2.2 k hlt
          obtain ⟨b2, off2, hB, blt2, hc2⟩ := (TA1.out.1.same SW4.out).2.2 k hlt1
          have hA' : A = some ⟨b, off, none⟩ := hA
          have hB' : A1 = some ⟨b2, off2, none⟩ := hB
          have HSM := Lib.hid (fun W (s : Same wr W) => sameTable_ok ts[k] ts1[k] W ((HA.out.2 _ (List.getElem_mem hlt)).same (SW.out.trans s)) ((TA1.out.2 _ (List.getElem_mem hlt1)).same (SW4.out.trans s)))
          have HX := Lib.hid (changes_at HE1.out HM1.out k hlt hlt1)
          obtain ⟨x, hx⟩ : ∃ x, x = ts[k] := ⟨_, rfl⟩
          obtain ⟨y, hy⟩ : ∃ y, y = ts1[k] := ⟨_, rfl⟩
          rw [← hx] at hc HSM HX
          rw [← hy] at hc2 HSM HX
          clear hx hy hA hB
          obtain ⟨n1, ⟨A4, m4, c4⟩, ra1, ⟨B4, p4, d4⟩, key1⟩ := x
          obtain ⟨n2, ⟨A5, m5, c5⟩, ra2, ⟨B5, p5, d5⟩, key2⟩ := y
          obtain rfl : n2 = n1 := HX.out.1
          have kx0 := cellr (hc 0 (.string n2) rfl)
          have kx1 := cellr (hc 1 (.slice A4 m4 c4) rfl)
          have kx2 := cellr (hc 2 (.slice B4 p4 d4) rfl)
          have ky0 := cellr (hc2 0 (.string n2) rfl)
          have ky1 := cellr (hc2 1 (.slice A5 m5 c5) rfl)
          have ky2 := cellr (hc2 2 (.slice B5 p5 d5) rfl)
          simp only [Nat.add_zero] at kx0 ky0
          subst hA' hB'
          have kb0 := cellr c0
          have kb1 := cellr c1a
          have kb2 := cellr c2
          clear hc hc2
          have tn : (n2.toList == n2.toList) = true := by simp
          by_cases hnt : n2 = t
          · have tt : (n2.toList == t.toList) = true := by rw [beqB]; simp [hnt]
            clear hnt HSM
            go_wp2_with (fail)
            refine wp_region_quiet_below (by kernel_rfl) (by kernel_rfl) ?_
            repeat (go_big_quiet_step (fail))
            refine wpQuiet_nil ?_
            intro _ hw'
            obtain ⟨⟨dq, osq⟩, hw''⟩ := hw'
            subst hw''
            have S1 := Lib.hid (S.out.trans (Same.reg wr dq osq))
            generalize Sort.grow (redrawn wr dq) osq = w1 at S1 ⊢
            clear kx0 kx1 kx2 ky0 ky1 ky2 kb0 kb1 kb2
            go_wp2
            go_roundw
            case rel => exact ⟨k + 1, by omega, by go_num, S1.out⟩
            case measure => simp [intOf]; omega
          · have tt : (n2.toList == t.toList) = false := by rw [beqB]; simp [hnt]
            have HSM' : Hid (∀ W, Same wr W → Calls Tryz.prog 25 #[.agg #[.string n2, .slice A4 m4 c4, .slice B4 p4 d4], .agg #[.string n2, .slice A5 m5 c5, .slice B5 p5 d5]] W fun e w' => e = .returned (.bool true) ∧ Same W w') := fun W s => by
              have h := HSM.out W s
              rw [decide_eq_true (HX.out.2 hnt).symm] at h
              exact h
            clear hnt HSM
            have cS := regr (w := wr) (fun W s => HSM'.out W s)
            go_wp2_with (fail)
            refine wp_region_quiet_below (by kernel_rfl) (by kernel_rfl) ?_
            repeat (go_big_quiet_step (first | (go_at_call 25; exact cS _ _)))
            refine wpQuiet_nil ?_
            intro _ hw'
            obtain ⟨⟨dq, osq⟩, hw''⟩ := hw'
            subst hw''
            have S1 := Lib.hid (S.out.trans (Same.reg wr dq osq))
            generalize Sort.grow (redrawn wr dq) osq = w1 at S1 ⊢
            clear kx0 kx1 kx2 ky0 ky1 ky2 kb0 kb1 kb2 cS
            go_wp2
            go_roundw
            case rel => exact ⟨k + 1, by omega, by go_num, S1.out⟩
            case measure => simp [intOf]; omega
        · go_wp2_with (fail)
          refine (findE (HA.out.same SW.out)).mono ?_
          rintro e wf ⟨he, sf⟩
          rw [HFJ.out] at he
          subst he
          have c0f := (Same.cells sf _ _ zr0).trans c0
          have c1f := (Same.cells sf _ _ zr2).trans c1a
          have SWF : Hid (Same w wf) := SW.out.trans sf
          have SWF4 : Hid (Same w4 wf) := SW4.out.trans sf
          clear sf c0 c1a c2
          have hjl1 : jj < ts1.length := by have := HLE.out; omega
          obtain ⟨b, off, hA, blt, hc⟩ := (HA.out.1.same SWF.out).2.2 jj hjl
          obtain ⟨b2, off2, hB, blt2, hc2⟩ := (TA1.out.1.same SWF4.out).2.2 jj hjl1
          have hA' : A = some ⟨b, off, none⟩ := hA
          have hB' : A1 = some ⟨b2, off2, none⟩ := hB
          have HSM := Lib.hid (fun W (s : Same wf W) => sameTable_ok ts[jj] ts1[jj] W ((HA.out.2 _ (List.getElem_mem hjl)).same (SWF.out.trans s)) ((TA1.out.2 _ (List.getElem_mem hjl1)).same (SWF4.out.trans s)))
          have HX : Hid (¬ ts[jj].tb = ts1[jj].tb) := fun e => HNE.out ts1 HM1.out jj (by rw [List.length_map]; exact hjl) hjl1 rfl (by rw [List.getElem_map]; exact e)
          obtain ⟨x, hx⟩ : ∃ x, x = ts[jj] := ⟨_, rfl⟩
          obtain ⟨y, hy⟩ : ∃ y, y = ts1[jj] := ⟨_, rfl⟩
          rw [← hx] at hc HSM HX
          rw [← hy] at hc2 HSM HX
          clear hx hy hA hB
          obtain ⟨n1, ⟨A4, m4, c4⟩, ra1, ⟨B4, p4, d4⟩, key1⟩ := x
          obtain ⟨n2, ⟨A5, m5, c5⟩, ra2, ⟨B5, p5, d5⟩, key2⟩ := y
          have kx0 := cellr (hc 0 (.string n1) rfl)
          have kx1 := cellr (hc 1 (.slice A4 m4 c4) rfl)
          have kx2 := cellr (hc 2 (.slice B4 p4 d4) rfl)
          have ky0 := cellr (hc2 0 (.string n2) rfl)
          have ky1 := cellr (hc2 1 (.slice A5 m5 c5) rfl)
          have ky2 := cellr (hc2 2 (.slice B5 p5 d5) rfl)
          simp only [Nat.add_zero] at kx0 ky0
          subst hA' hB'
          have kb0 := cellr c0f
          have kb1 := cellr c1f
          have HSM' : Hid (∀ W, Same wf W → Calls Tryz.prog 25 #[.agg #[.string n1, .slice A4 m4 c4, .slice B4 p4 d4], .agg #[.string n2, .slice A5 m5 c5, .slice B5 p5 d5]] W fun e w' => e = .returned (.bool false) ∧ Same W w') := fun W s => by
            have h := HSM.out W s
            rw [decide_eq_false HX.out] at h
            exact h
          clear hc hc2 HSM
          have cS := regr (w := wf) (fun W s => HSM'.out W s)
          have hj0 : (0 : Int) ≤ (jj : Int) := by omega
          go_wp2_with (fail)
          refine wp_region_quiet_below (by kernel_rfl) (by kernel_rfl) ?_
          repeat (go_big_quiet_step (first | (go_at_call 25; exact cS _ _)))
          refine wpQuiet_nil ?_
          intro _ hw'
          obtain ⟨⟨dq, osq⟩, hw''⟩ := hw'
          subst hw''
          have S1 := Lib.hid (SWF.out.trans (Same.reg wf dq osq))
          generalize Sort.grow (redrawn wf dq) osq = w1 at S1 ⊢
          clear kx0 kx1 kx2 ky0 ky1 ky2 kb0 kb1 cS
          go_wp2_with (fail)
          go_ret
          exact ⟨rfl, S1.out⟩
    · have e1 : (E1 != 0) = true := by simp [hz1]
      have HA1 : Hid (∀ W, Same w W → Calls Tryz.prog 11 #[.agg #[.slice A ts.length cc], .agg #[.int .i64 k, .string t, .string aa, .string n, .int .i64 to_, .int .i64 dk, .int .i64 dn, .string ds]] W fun e w' => e = .returned (.tuple #[.agg #[.slice none 0 0], .int .i64 E1]) ∧ Same W w') := fun W s => by
        have h := apply_nonE (HA.out.same s) HF.out HN.out HD.out (hE1 ▸ hz1)
        rw [← hE1] at h
        exact h
      clear hE1 hz1
      go_wp2_with (fail)
      refine (HA1.out _ S_w_w2.out).mono ?_
      rintro e w4 ⟨rfl, s4⟩
      have S_w_w4 : Hid (Same w w4) := S_w_w2.out.trans s4
      have lbsw4 : w.heap.size < w4.heap.size := Nat.lt_of_lt_of_le lbsw2 (Same.size s4)
      have bsw40 : w4.cell? ⟨w.heap.size, 0, none⟩ = some (.slice A ts.length cc) := (Same.cells s4 _ _ lbsw2).trans bsw20
      have lbcw4 : w.heap.size + 1 < w4.heap.size := Nat.lt_of_lt_of_le lbcw2 (Same.size s4)
      have bcw40 : w4.cell? ⟨w.heap.size + 1, 0, none⟩ = some (.int .i64 k) := (Same.cells s4 _ _ lbcw2).trans bcw20
      have bcw41 : w4.cell? ⟨w.heap.size + 1, 1, none⟩ = some (.string t) := (Same.cells s4 _ _ lbcw2).trans bcw21
      have bcw42 : w4.cell? ⟨w.heap.size + 1, 2, none⟩ = some (.string aa) := (Same.cells s4 _ _ lbcw2).trans bcw22
      have bcw43 : w4.cell? ⟨w.heap.size + 1, 3, none⟩ = some (.string n) := (Same.cells s4 _ _ lbcw2).trans bcw23
      have bcw44 : w4.cell? ⟨w.heap.size + 1, 4, none⟩ = some (.int .i64 to_) := (Same.cells s4 _ _ lbcw2).trans bcw24
      have bcw45 : w4.cell? ⟨w.heap.size + 1, 5, none⟩ = some (.int .i64 dk) := (Same.cells s4 _ _ lbcw2).trans bcw25
      have bcw46 : w4.cell? ⟨w.heap.size + 1, 6, none⟩ = some (.int .i64 dn) := (Same.cells s4 _ _ lbcw2).trans bcw26
      have bcw47 : w4.cell? ⟨w.heap.size + 1, 7, none⟩ = some (.string ds) := (Same.cells s4 _ _ lbcw2).trans bcw27
      clear S_w_w2 lbsw2 bsw20 lbcw2 bcw20 bcw21 bcw22 bcw23 bcw24 bcw25 bcw26 bcw27
      clear s4
      go_wp2_with (fail)
      go_ret
      first | exact ⟨rfl, S_w_w4.out⟩ | exact ⟨rfl, S_w_w4.out.alloc _⟩ | exact ⟨rfl, (S_w_w4.out.alloc _).alloc _⟩
end Go.Proofs.YtalpbodjplnjcaaGreatDoor

/- SchemaTables: the walk. Conditions: Laid. -/
import Derived.Test.YtalpbodjplnjcaaGreatDoorKOa
set_option linter.unusedSimpArgs false
set_option linter.unusedVariables false
namespace Go.Proofs.YtalpbodjplnjcaaGreatDoor
open Go.RowKit

set_option maxHeartbeats 8000000 in
set_option maxRecDepth 100000 in
theorem tables_walk (h : Hd) (ts : List RT) (c d : Cg) (raw : Nat) (hr : Hd) (row : List V) (w : World) (hraw : raw < 256) (l : Laid w) (a : TabsAt w h ts) (r : RowAt w hr row) (hn : okS c.name) (hd : okS c.dflt.s) (hn2 : okS d.name) (hd2 : okS d.dflt.s) :
    Calls Tryz.prog 8 #[.agg #[h.val], c.val, d.val, .int .u8 raw, hr.val] w fun e w' => e = .returned (.bool true) ∧ Same w w' := by
  have HH := Lib.hid (fun W (s : Same w W) => head_ok W (l.same s))
  have HS := Lib.hid (fun W (s : Same w W) => small_ok h ts c hr.a hr.n hr.c W (a.same s) hn hd r.1.2.1)
  have HS2 := Lib.hid (fun W (s : Same w W) => small_ok h ts d hr.a hr.n hr.c W (a.same s) hn2 hd2 r.1.2.1)
  have HL := Lib.hid l
  have HA := Lib.hid a
  have HR := Lib.hid r
  have hml : ts.length = h.n := a.1.1
  have hmb : h.n ≤ 9223372036854775807 := a.1.2.1
  obtain ⟨A, m, cc⟩ := h
  obtain ⟨Ar, rm, rc⟩ := hr
  obtain ⟨k, t, aa, n, to_, ⟨dk, dn, ds⟩⟩ := c
  obtain ⟨k2, t2, aa2, n2, to2, ⟨dk2, dn2, ds2⟩⟩ := d
  have hml' : ts.length = m := hml
  have hmb' : m ≤ 9223372036854775807 := hmb
  have HN : Hid (okS n ∧ okS n2) := ⟨hn, hn2⟩
  have HD : Hid (okS ds ∧ okS ds2) := ⟨hd, hd2⟩
  clear hml hmb a r l hn hd hn2 hd2
  show Calls Tryz.prog 8 #[.agg #[.slice A m cc], .agg #[.int .i64 k, .string t, .string aa, .string n, .int .i64 to_, .int .i64 dk, .int .i64 dn, .string ds], .agg #[.int .i64 k2, .string t2, .string aa2, .string n2, .int .i64 to2, .int .i64 dk2, .int .i64 dn2, .string ds2], .int .u8 raw, .slice Ar rm rc] w _
  obtain ⟨q, hq⟩ : ∃ q, q = smallL (ts.map RT.tb) ⟨k, t, aa, n, to_, ⟨dk, dn, ds⟩⟩ rm := ⟨_, rfl⟩
  obtain ⟨q2, hq2⟩ : ∃ q2, q2 = smallL (ts.map RT.tb) ⟨k2, t2, aa2, n2, to2, ⟨dk2, dn2, ds2⟩⟩ rm := ⟨_, rfl⟩
  have HS' : Hid (∀ W, Same w W → Calls Tryz.prog 10 #[.agg #[.slice A m cc], .agg #[.int .i64 k, .string t, .string aa, .string n, .int .i64 to_, .int .i64 dk, .int .i64 dn, .string ds], .slice Ar rm rc] W fun e w' => e = .returned (.bool q) ∧ Same W w') := by rw [hq]; exact HS
  have HS2' : Hid (∀ W, Same w W → Calls Tryz.prog 10 #[.agg #[.slice A m cc], .agg #[.int .i64 k2, .string t2, .string aa2, .string n2, .int .i64 to2, .int .i64 dk2, .int .i64 dn2, .string ds2], .slice Ar rm rc] W fun e w' => e = .returned (.bool q2) ∧ Same W w') := by rw [hq2]; exact HS2
  have HQ := Lib.hid hq
  have HQ2 := Lib.hid hq2
  clear HS HS2 hq hq2
  go_enter Tryz.func8, Tryz.ntmps8
  go_wp2_with (fail)
  obtain ⟨W0, hW0⟩ : ∃ W0, W0 = ((w.alloc (.cells #[.slice A m cc] 24)).alloc (.cells #[.int .i64 k, .string t, .string aa, .string n, .int .i64 to_, .int .i64 dk, .int .i64 dn, .string ds] 28)).alloc (.cells #[.int .i64 k2, .string t2, .string aa2, .string n2, .int .i64 to2, .int .i64 dk2, .int .i64 dn2, .string ds2] 28) := ⟨_, rfl⟩
  have S_w_W0 : Hid (Same w W0) := by rw [hW0]; exact (((Same.refl w).alloc _).alloc _).alloc _
  have Bbs : Blk W0 (w.heap.size) 24 #[.slice A m cc] := by rw [hW0]; exact (((Blk.new w _ _).alloc _).alloc _)
  have Bbc : Blk W0 (w.heap.size + 1) 28 #[.int .i64 k, .string t, .string aa, .string n, .int .i64 to_, .int .i64 dk, .int .i64 dn, .string ds] := by
    have e : w.heap.size + 1 = (w.alloc (.cells #[.slice A m cc] 24)).heap.size := by simp
    rw [hW0, e]; exact ((Blk.new _ _ _).alloc _)
  have Bbd : Blk W0 (w.heap.size + 1 + 1) 28 #[.int .i64 k2, .string t2, .string aa2, .string n2, .int .i64 to2, .int .i64 dk2, .int .i64 dn2, .string ds2] := by
    have e : w.heap.size + 1 + 1 = ((w.alloc (.cells #[.slice A m cc] 24)).alloc (.cells #[.int .i64 k, .string t, .string aa, .string n, .int .i64 to_, .int .i64 dk, .int .i64 dn, .string ds] 28)).heap.size := by simp
    rw [hW0, e]; exact (Blk.new _ _ _)
  rw [← hW0]
  clear hW0
  have lbsW0 := Bbs.lt
  have bsW00 : W0.cell? ⟨w.heap.size, 0, none⟩ = some (.slice A m cc) := Bbs.cell 0
  clear Bbs
  have lbcW0 := Bbc.lt
  have bcW00 : W0.cell? ⟨w.heap.size + 1, 0, none⟩ = some (.int .i64 k) := Bbc.cell 0
  have bcW01 : W0.cell? ⟨w.heap.size + 1, 1, none⟩ = some (.string t) := Bbc.cell 1
  have bcW02 : W0.cell? ⟨w.heap.size + 1, 2, none⟩ = some (.string aa) := Bbc.cell 2
  have bcW03 : W0.cell? ⟨w.heap.size + 1, 3, none⟩ = some (.string n) := Bbc.cell 3
  have bcW04 : W0.cell? ⟨w.heap.size + 1, 4, none⟩ = some (.int .i64 to_) := Bbc.cell 4
  have bcW05 : W0.cell? ⟨w.heap.size + 1, 5, none⟩ = some (.int .i64 dk) := Bbc.cell 5
  have bcW06 : W0.cell? ⟨w.heap.size + 1, 6, none⟩ = some (.int .i64 dn) := Bbc.cell 6
  have bcW07 : W0.cell? ⟨w.heap.size + 1, 7, none⟩ = some (.string ds) := Bbc.cell 7
  clear Bbc
  have lbdW0 := Bbd.lt
  have bdW00 : W0.cell? ⟨w.heap.size + 1 + 1, 0, none⟩ = some (.int .i64 k2) := Bbd.cell 0
  have bdW01 : W0.cell? ⟨w.heap.size + 1 + 1, 1, none⟩ = some (.string t2) := Bbd.cell 1
  have bdW02 : W0.cell? ⟨w.heap.size + 1 + 1, 2, none⟩ = some (.string aa2) := Bbd.cell 2
  have bdW03 : W0.cell? ⟨w.heap.size + 1 + 1, 3, none⟩ = some (.string n2) := Bbd.cell 3
  have bdW04 : W0.cell? ⟨w.heap.size + 1 + 1, 4, none⟩ = some (.int .i64 to2) := Bbd.cell 4
  have bdW05 : W0.cell? ⟨w.heap.size + 1 + 1, 5, none⟩ = some (.int .i64 dk2) := Bbd.cell 5
  have bdW06 : W0.cell? ⟨w.heap.size + 1 + 1, 6, none⟩ = some (.int .i64 dn2) := Bbd.cell 6
  have bdW07 : W0.cell? ⟨w.heap.size + 1 + 1, 7, none⟩ = some (.string ds2) := Bbd.cell 7
  clear Bbd
  refine (HH.out _ S_w_W0.out).mono ?_
  rintro e w1 ⟨rfl, s1⟩
  have S_w_w1 : Hid (Same w w1) := S_w_W0.out.trans s1
  have lbsw1 : w.heap.size < w1.heap.size := Nat.lt_of_lt_of_le lbsW0 (Same.size s1)
  have bsw10 : w1.cell? ⟨w.heap.size, 0, none⟩ = some (.slice A m cc) := (Same.cells s1 _ _ lbsW0).trans bsW00
  have lbcw1 : w.heap.size + 1 < w1.heap.size := Nat.lt_of_lt_of_le lbcW0 (Same.size s1)
  have bcw10 : w1.cell? ⟨w.heap.size + 1, 0, none⟩ = some (.int .i64 k) := (Same.cells s1 _ _ lbcW0).trans bcW00
  have bcw11 : w1.cell? ⟨w.heap.size + 1, 1, none⟩ = some (.string t) := (Same.cells s1 _ _ lbcW0).trans bcW01
  have bcw12 : w1.cell? ⟨w.heap.size + 1, 2, none⟩ = some (.string aa) := (Same.cells s1 _ _ lbcW0).trans bcW02
  have bcw13 : w1.cell? ⟨w.heap.size + 1, 3, none⟩ = some (.string n) := (Same.cells s1 _ _ lbcW0).trans bcW03
  have bcw14 : w1.cell? ⟨w.heap.size + 1, 4, none⟩ = some (.int .i64 to_) := (Same.cells s1 _ _ lbcW0).trans bcW04
  have bcw15 : w1.cell? ⟨w.heap.size + 1, 5, none⟩ = some (.int .i64 dk) := (Same.cells s1 _ _ lbcW0).trans bcW05
  have bcw16 : w1.cell? ⟨w.heap.size + 1, 6, none⟩ = some (.int .i64 dn) := (Same.cells s1 _ _ lbcW0).trans bcW06
  have bcw17 : w1.cell? ⟨w.heap.size + 1, 7, none⟩ = some (.string ds) := (Same.cells s1 _ _ lbcW0).trans bcW07
  have lbdw1 : w.heap.size + 1 + 1 < w1.heap.size := Nat.lt_of_lt_of_le lbdW0 (Same.size s1)
  have bdw10 : w1.cell? ⟨w.heap.size + 1 + 1, 0, none⟩ = some (.int .i64 k2) := (Same.cells s1 _ _ lbdW0).trans bdW00
  have bdw11 : w1.cell? ⟨w.heap.size + 1 + 1, 1, none⟩ = some (.string t2) := (Same.cells s1 _ _ lbdW0).trans bdW01
  have bdw12 : w1.cell? ⟨w.heap.size + 1 + 1, 2, none⟩ = some (.string aa2) := (Same.cells s1 _ _ lbdW0).trans bdW02
  have bdw13 : w1.cell? ⟨w.heap.size + 1 + 1, 3, none⟩ = some (.string n2) := (Same.cells s1 _ _ lbdW0).trans bdW03
  have bdw14 : w1.cell? ⟨w.heap.size + 1 + 1, 4, none⟩ = some (.int .i64 to2) := (Same.cells s1 _ _ lbdW0).trans bdW04
  have bdw15 : w1.cell? ⟨w.heap.size + 1 + 1, 5, none⟩ = some (.int .i64 dk2) := (Same.cells s1 _ _ lbdW0).trans bdW05
  have bdw16 : w1.cell? ⟨w.heap.size + 1 + 1, 6, none⟩ = some (.int .i64 dn2) := (Same.cells s1 _ _ lbdW0).trans bdW06
  have bdw17 : w1.cell? ⟨w.heap.size + 1 + 1, 7, none⟩ = some (.string ds2) := (Same.cells s1 _ _ lbdW0).trans bdW07
  clear S_w_W0 lbsW0 bsW00 lbcW0 bcW00 bcW01 bcW02 bcW03 bcW04 bcW05 bcW06 bcW07 lbdW0 bdW00 bdW01 bdW02 bdW03 bdW04 bdW05 bdW06 bdW07
  clear s1
  clear HH
  go_wp2_with (fail)
  refine (HS'.out _ S_w_w1.out).mono ?_
  rintro e w2 ⟨rfl, s2⟩
  have S_w_w2 : Hid (Same w w2) := S_w_w1.out.trans s2
  have lbsw2 : w.heap.size < w2.heap.size := Nat.lt_of_lt_of_le lbsw1 (Same.size s2)
  have bsw20 : w2.cell? ⟨w.heap.size, 0, none⟩ = some (.slice A m cc) := (Same.cells s2 _ _ lbsw1).trans bsw10
  have lbcw2 : w.heap.size + 1 < w2.heap.size := Nat.lt_of_lt_of_le lbcw1 (Same.size s2)
  have bcw20 : w2.cell? ⟨w.heap.size + 1, 0, none⟩ = some (.int .i64 k) := (Same.cells s2 _ _ lbcw1).trans bcw10
  have bcw21 : w2.cell? ⟨w.heap.size + 1, 1, none⟩ = some (.string t) := (Same.cells s2 _ _ lbcw1).trans bcw11
  have bcw22 : w2.cell? ⟨w.heap.size + 1, 2, none⟩ = some (.string aa) := (Same.cells s2 _ _ lbcw1).trans bcw12
  have bcw23 : w2.cell? ⟨w.heap.size + 1, 3, none⟩ = some (.string n) := (Same.cells s2 _ _ lbcw1).trans bcw13
  have bcw24 : w2.cell? ⟨w.heap.size + 1, 4, none⟩ = some (.int .i64 to_) := (Same.cells s2 _ _ lbcw1).trans bcw14
  have bcw25 : w2.cell? ⟨w.heap.size + 1, 5, none⟩ = some (.int .i64 dk) := (Same.cells s2 _ _ lbcw1).trans bcw15
  have bcw26 : w2.cell? ⟨w.heap.size + 1, 6, none⟩ = some (.int .i64 dn) := (Same.cells s2 _ _ lbcw1).trans bcw16
  have bcw27 : w2.cell? ⟨w.heap.size + 1, 7, none⟩ = some (.string ds) := (Same.cells s2 _ _ lbcw1).trans bcw17
  have lbdw2 : w.heap.size + 1 + 1 < w2.heap.size := Nat.lt_of_lt_of_le lbdw1 (Same.size s2)
  have bdw20 : w2.cell? ⟨w.heap.size + 1 + 1, 0, none⟩ = some (.int .i64 k2) := (Same.cells s2 _ _ lbdw1).trans bdw10
  have bdw21 : w2.cell? ⟨w.heap.size + 1 + 1, 1, none⟩ = some (.string t2) := (Same.cells s2 _ _ lbdw1).trans bdw11
  have bdw22 : w2.cell? ⟨w.heap.size + 1 + 1, 2, none⟩ = some (.string aa2) := (Same.cells s2 _ _ lbdw1).trans bdw12
  have bdw23 : w2.cell? ⟨w.heap.size + 1 + 1, 3, none⟩ = some (.string n2) := (Same.cells s2 _ _ lbdw1).trans bdw13
  have bdw24 : w2.cell? ⟨w.heap.size + 1 + 1, 4, none⟩ = some (.int .i64 to2) := (Same.cells s2 _ _ lbdw1).trans bdw14
  have bdw25 : w2.cell? ⟨w.heap.size + 1 + 1, 5, none⟩ = some (.int .i64 dk2) := (Same.cells s2 _ _ lbdw1).trans bdw15
  have bdw26 : w2.cell? ⟨w.heap.size + 1 + 1, 6, none⟩ = some (.int .i64 dn2) := (Same.cells s2 _ _ lbdw1).trans bdw16
  have bdw27 : w2.cell? ⟨w.heap.size + 1 + 1, 7, none⟩ = some (.string ds2) := (Same.cells s2 _ _ lbdw1).trans bdw17
  clear S_w_w1 lbsw1 bsw10 lbcw1 bcw10 bcw11 bcw12 bcw13 bcw14 bcw15 bcw16 bcw17 lbdw1 bdw10 bdw11 bdw12 bdw13 bdw14 bdw15 bdw16 bdw17
  clear s2
  clear HS'
  cases q with
  | false =>
    go_wp2_with (fail)
    go_ret
    first | exact ⟨rfl, S_w_w2.out⟩ | exact ⟨rfl, S_w_w2.out.alloc _⟩ | exact ⟨rfl, (S_w_w2.out.alloc _).alloc _⟩
  | true =>
    go_wp2_with (fail)
    refine (HS2'.out _ S_w_w2.out).mono ?_
    rintro e w3 ⟨rfl, s3⟩
    have S_w_w3 : Hid (Same w w3) := S_w_w2.out.trans s3
    have lbsw3 : w.heap.size < w3.heap.size := Nat.lt_of_lt_of_le lbsw2 (Same.size s3)
    have bsw30 : w3.cell? ⟨w.heap.size, 0, none⟩ = some (.slice A m cc) := (Same.cells s3 _ _ lbsw2).trans bsw20
    have lbcw3 : w.heap.size + 1 < w3.heap.size := Nat.lt_of_lt_of_le lbcw2 (Same.size s3)
    have bcw30 : w3.cell? ⟨w.heap.size + 1, 0, none⟩ = some (.int .i64 k) := (Same.cells s3 _ _ lbcw2).trans bcw20
    have bcw31 : w3.cell? ⟨w.heap.size + 1, 1, none⟩ = some (.string t) := (Same.cells s3 _ _ lbcw2).trans bcw21
    have bcw32 : w3.cell? ⟨w.heap.size + 1, 2, none⟩ = some (.string aa) := (Same.cells s3 _ _ lbcw2).trans bcw22
    have bcw33 : w3.cell? ⟨w.heap.size + 1, 3, none⟩ = some (.string n) := (Same.cells s3 _ _ lbcw2).trans bcw23
    have bcw34 : w3.cell? ⟨w.heap.size + 1, 4, none⟩ = some (.int .i64 to_) := (Same.cells s3 _ _ lbcw2).trans bcw24
    have bcw35 : w3.cell? ⟨w.heap.size + 1, 5, none⟩ = some (.int .i64 dk) := (Same.cells s3 _ _ lbcw2).trans bcw25
    have bcw36 : w3.cell? ⟨w.heap.size + 1, 6, none⟩ = some (.int .i64 dn) := (Same.cells s3 _ _ lbcw2).trans bcw26
    have bcw37 : w3.cell? ⟨w.heap.size + 1, 7, none⟩ = some (.string ds) := (Same.cells s3 _ _ lbcw2).trans bcw27
    have lbdw3 : w.heap.size + 1 + 1 < w3.heap.size := Nat.lt_of_lt_of_le lbdw2 (Same.size s3)
    have bdw30 : w3.cell? ⟨w.heap.size + 1 + 1, 0, none⟩ = some (.int .i64 k2) := (Same.cells s3 _ _ lbdw2).trans bdw20
    have bdw31 : w3.cell? ⟨w.heap.size + 1 + 1, 1, none⟩ = some (.string t2) := (Same.cells s3 _ _ lbdw2).trans bdw21
    have bdw32 : w3.cell? ⟨w.heap.size + 1 + 1, 2, none⟩ = some (.string aa2) := (Same.cells s3 _ _ lbdw2).trans bdw22
    have bdw33 : w3.cell? ⟨w.heap.size + 1 + 1, 3, none⟩ = some (.string n2) := (Same.cells s3 _ _ lbdw2).trans bdw23
    have bdw34 : w3.cell? ⟨w.heap.size + 1 + 1, 4, none⟩ = some (.int .i64 to2) := (Same.cells s3 _ _ lbdw2).trans bdw24
    have bdw35 : w3.cell? ⟨w.heap.size + 1 + 1, 5, none⟩ = some (.int .i64 dk2) := (Same.cells s3 _ _ lbdw2).trans bdw25
    have bdw36 : w3.cell? ⟨w.heap.size + 1 + 1, 6, none⟩ = some (.int .i64 dn2) := (Same.cells s3 _ _ lbdw2).trans bdw26
    have bdw37 : w3.cell? ⟨w.heap.size + 1 + 1, 7, none⟩ = some (.string ds2) := (Same.cells s3 _ _ lbdw2).trans bdw27
    clear S_w_w2 lbsw2 bsw20 lbcw2 bcw20 bcw21 bcw22 bcw23 bcw24 bcw25 bcw26 bcw27 lbdw2 bdw20 bdw21 bdw22 bdw23 bdw24 bdw25 bdw26 bdw27
    clear s3
    clear HS2'
    cases q2 with
    | false =>
      go_wp2_with (fail)
      go_ret
      first | exact ⟨rfl, S_w_w3.out⟩ | exact ⟨rfl, S_w_w3.out.alloc _⟩ | exact ⟨rfl, (S_w_w3.out.alloc _).alloc _⟩
    | true =>
      have HP : Hid (smallS (ts.map RT.tb) = true ∧ n.size ≤ 100 ∧ ds.size ≤ 300 ∧ rm ≤ 20) := small_parts HQ.out.symm
      by_cases ht : t = t2
      · have te : (t.toList == t2.toList) = true := by rw [beqB]; simp [ht]
        clear ht
        go_wp2_with (fail)
        go_ret
        first | exact ⟨rfl, S_w_w3.out⟩ | exact ⟨rfl, S_w_w3.out.alloc _⟩ | exact ⟨rfl, (S_w_w3.out.alloc _).alloc _⟩
      · have te : (t.toList == t2.toList) = false := by rw [beqB]; simp [ht]
        have HT := Lib.hid ht
        clear ht
        by_cases hm : m = 0
        · subst hm
          go_wp2_with (fail)
          go_ret
          first | exact ⟨rfl, S_w_w3.out⟩ | exact ⟨rfl, S_w_w3.out.alloc _⟩ | exact ⟨rfl, (S_w_w3.out.alloc _).alloc _⟩
        · have t1 : (((m : Nat) : Int) == 0) = false := by simp [hm]
          obtain ⟨hS, hn100, hd300, hr20⟩ := HP.out
          obtain ⟨few, hts⟩ := few_of_small hS
          have HF := Lib.hid few
          have HRL : Hid (row.length ≤ 1000000) := by have e : row.length = rm := HR.out.1.1; exact Lib.hid (by omega)
          have HTL : Hid (ts.length ≤ 1000000) := Lib.hid (by omega)
          have hpos : 0 < m := Nat.pos_of_ne_zero hm
          have HNL : Hid (raw % m < (ts.map RT.tb).length) := Lib.hid (by rw [List.length_map, hml']; exact Nat.mod_lt _ hpos)
          have HMOD : Hid ((raw : Int) % (m : Int) = ((raw % m : Nat) : Int)) := Lib.hid (emod_nat raw m)
          clear few hts hS hn100 hd300 hr20 hpos
          obtain ⟨E1, hE1⟩ : ∃ E1, E1 = errOf (ts.map RT.tb) ⟨k, t, aa, n, to_, ⟨dk, dn, ds⟩⟩ := ⟨_, rfl⟩
          obtain ⟨E2, hE2⟩ : ∃ E2, E2 = errOf (ts.map RT.tb) ⟨k2, t2, aa2, n2, to2, ⟨dk2, dn2, ds2⟩⟩ := ⟨_, rfl⟩
          have HE1 := Lib.hid hE1
          have HE2 := Lib.hid hE2
          clear hE1 hE2
          by_cases hz1 : E1 = 0
          · by_cases hz2 : E2 = 0
            · subst hz1 hz2
              go_wp2_with (fail)
              refine (apply_zeroE (HA.out.same S_w_w3.out) HF.out HN.out.1 HD.out.1 HE1.out.symm).mono ?_
              rintro e w4 ⟨A1, m1, c1, ts1, rfl, ta1, hm1, s4⟩
              have TA1 := Lib.hid ta1
              have HM1 := Lib.hid hm1
              clear ta1 hm1
              have S_w_w4 : Hid (Same w w4) := S_w_w3.out.trans s4
              have lbsw4 : w.heap.size < w4.heap.size := Nat.lt_of_lt_of_le lbsw3 (Same.size s4)
              have bsw40 : w4.cell? ⟨w.heap.size, 0, none⟩ = some (.slice A m cc) := (Same.cells s4 _ _ lbsw3).trans bsw30
              have lbcw4 : w.heap.size + 1 < w4.heap.size := Nat.lt_of_lt_of_le lbcw3 (Same.size s4)
              have bcw40 : w4.cell? ⟨w.heap.size + 1, 0, none⟩ = some (.int .i64 k) := (Same.cells s4 _ _ lbcw3).trans bcw30
              have bcw41 : w4.cell? ⟨w.heap.size + 1, 1, none⟩ = some (.string t) := (Same.cells s4 _ _ lbcw3).trans bcw31
              have bcw42 : w4.cell? ⟨w.heap.size + 1, 2, none⟩ = some (.string aa) := (Same.cells s4 _ _ lbcw3).trans bcw32
              have bcw43 : w4.cell? ⟨w.heap.size + 1, 3, none⟩ = some (.string n) := (Same.cells s4 _ _ lbcw3).trans bcw33
              have bcw44 : w4.cell? ⟨w.heap.size + 1, 4, none⟩ = some (.int .i64 to_) := (Same.cells s4 _ _ lbcw3).trans bcw34
              have bcw45 : w4.cell? ⟨w.heap.size + 1, 5, none⟩ = some (.int .i64 dk) := (Same.cells s4 _ _ lbcw3).trans bcw35
              have bcw46 : w4.cell? ⟨w.heap.size + 1, 6, none⟩ = some (.int .i64 dn) := (Same.cells s4 _ _ lbcw3).trans bcw36
              have bcw47 : w4.cell? ⟨w.heap.size + 1, 7, none⟩ = some (.string ds) := (Same.cells s4 _ _ lbcw3).trans bcw37
              have lbdw4 : w.heap.size + 1 + 1 < w4.heap.size := Nat.lt_of_lt_of_le lbdw3 (Same.size s4)
              have bdw40 : w4.cell? ⟨w.heap.size + 1 + 1, 0, none⟩ = some (.int .i64 k2) := (Same.cells s4 _ _ lbdw3).trans bdw30
              have bdw41 : w4.cell? ⟨w.heap.size + 1 + 1, 1, none⟩ = some (.string t2) := (Same.cells s4 _ _ lbdw3).trans bdw31
              have bdw42 : w4.cell? ⟨w.heap.size + 1 + 1, 2, none⟩ = some (.string aa2) := (Same.cells s4 _ _ lbdw3).trans bdw32
              have bdw43 : w4.cell? ⟨w.heap.size + 1 + 1, 3, none⟩ = some (.string n2) := (Same.cells s4 _ _ lbdw3).trans bdw33
              have bdw44 : w4.cell? ⟨w.heap.size + 1 + 1, 4, none⟩ = some (.int .i64 to2) := (Same.cells s4 _ _ lbdw3).trans bdw34
              have bdw45 : w4.cell? ⟨w.heap.size + 1 + 1, 5, none⟩ = some (.int .i64 dk2) := (Same.cells s4 _ _ lbdw3).trans bdw35
              have bdw46 : w4.cell? ⟨w.heap.size + 1 + 1, 6, none⟩ = some (.int .i64 dn2) := (Same.cells s4 _ _ lbdw3).trans bdw36
              have bdw47 : w4.cell? ⟨w.heap.size + 1 + 1, 7, none⟩ = some (.string ds2) := (Same.cells s4 _ _ lbdw3).trans bdw37
              clear S_w_w3 lbsw3 bsw30 lbcw3 bcw30 bcw31 bcw32 bcw33 bcw34 bcw35 bcw36 bcw37 lbdw3 bdw30 bdw31 bdw32 bdw33 bdw34 bdw35 bdw36 bdw37
              clear s4
              go_wp2_with (fail)
              obtain ⟨W5, hW5⟩ : ∃ W5, W5 = w4.alloc (.cells #[.slice A1 m1 c1] 24) := ⟨_, rfl⟩
              have sW5 : Same w4 W5 := by rw [hW5]; exact (Same.refl w4).alloc _
              have Bba : Blk W5 w4.heap.size 24 #[.slice A1 m1 c1] := by rw [hW5]; exact Blk.new w4 _ _
              rw [← hW5]
              clear hW5
              have S_w_W5 : Hid (Same w W5) := S_w_w4.out.trans sW5
              have S_w4_W5 : Hid (Same w4 W5) := sW5
              have lbsW5 : w.heap.size < W5.heap.size := Nat.lt_of_lt_of_le lbsw4 (Same.size sW5)
              have bsW50 : W5.cell? ⟨w.heap.size, 0, none⟩ = some (.slice A m cc) := (Same.cells sW5 _ _ lbsw4).trans bsw40
              have lbcW5 : w.heap.size + 1 < W5.heap.size := Nat.lt_of_lt_of_le lbcw4 (Same.size sW5)
              have bcW50 : W5.cell? ⟨w.heap.size + 1, 0, none⟩ = some (.int .i64 k) := (Same.cells sW5 _ _ lbcw4).trans bcw40
              have bcW51 : W5.cell? ⟨w.heap.size + 1, 1, none⟩ = some (.string t) := (Same.cells sW5 _ _ lbcw4).trans bcw41
              have bcW52 : W5.cell? ⟨w.heap.size + 1, 2, none⟩ = some (.string aa) := (Same.cells sW5 _ _ lbcw4).trans bcw42
              have bcW53 : W5.cell? ⟨w.heap.size + 1, 3, none⟩ = some (.string n) := (Same.cells sW5 _ _ lbcw4).trans bcw43
              have bcW54 : W5.cell? ⟨w.heap.size + 1, 4, none⟩ = some (.int .i64 to_) := (Same.cells sW5 _ _ lbcw4).trans bcw44
              have bcW55 : W5.cell? ⟨w.heap.size + 1, 5, none⟩ = some (.int .i64 dk) := (Same.cells sW5 _ _ lbcw4).trans bcw45
              have bcW56 : W5.cell? ⟨w.heap.size + 1, 6, none⟩ = some (.int .i64 dn) := (Same.cells sW5 _ _ lbcw4).trans bcw46
              have bcW57 : W5.cell? ⟨w.heap.size + 1, 7, none⟩ = some (.string ds) := (Same.cells sW5 _ _ lbcw4).trans bcw47
              have lbdW5 : w.heap.size + 1 + 1 < W5.heap.size := Nat.lt_of_lt_of_le lbdw4 (Same.size sW5)
              have bdW50 : W5.cell? ⟨w.heap.size + 1 + 1, 0, none⟩ = some (.int .i64 k2) := (Same.cells sW5 _ _ lbdw4).trans bdw40
              have bdW51 : W5.cell? ⟨w.heap.size + 1 + 1, 1, none⟩ = some (.string t2) := (Same.cells sW5 _ _ lbdw4).trans bdw41
              have bdW52 : W5.cell? ⟨w.heap.size + 1 + 1, 2, none⟩ = some (.string aa2) := (Same.cells sW5 _ _ lbdw4).trans bdw42
              have bdW53 : W5.cell? ⟨w.heap.size + 1 + 1, 3, none⟩ = some (.string n2) := (Same.cells sW5 _ _ lbdw4).trans bdw43
              have bdW54 : W5.cell? ⟨w.heap.size + 1 + 1, 4, none⟩ = some (.int .i64 to2) := (Same.cells sW5 _ _ lbdw4).trans bdw44
              have bdW55 : W5.cell? ⟨w.heap.size + 1 + 1, 5, none⟩ = some (.int .i64 dk2) := (Same.cells sW5 _ _ lbdw4).trans bdw45
              have bdW56 : W5.cell? ⟨w.heap.size + 1 + 1, 6, none⟩ = some (.int .i64 dn2) := (Same.cells sW5 _ _ lbdw4).trans bdw46
              have bdW57 : W5.cell? ⟨w.heap.size + 1 + 1, 7, none⟩ = some (.string ds2) := (Same.cells sW5 _ _ lbdw4).trans bdw47
              clear S_w_w4 lbsw4 bsw40 lbcw4 bcw40 bcw41 bcw42 bcw43 bcw44 bcw45 bcw46 bcw47 lbdw4 bdw40 bdw41 bdw42 bdw43 bdw44 bdw45 bdw46 bdw47
              have lbaW5 := Bba.lt
              have baW50 : W5.cell? ⟨w4.heap.size, 0, none⟩ = some (.slice A1 m1 c1) := Bba.cell 0
              clear Bba sW5
              refine (apply_zeroE (HA.out.same S_w_W5.out) HF.out HN.out.2 HD.out.2 HE2.out.symm).mono ?_
              rintro e w6 ⟨A2, m2, c2, ts2, rfl, ta2, hm2, s6⟩
              have TA2 := Lib.hid ta2
              have HM2 := Lib.hid hm2
              clear ta2 hm2
              have S_w_w6 : Hid (Same w w6) := S_w_W5.out.trans s6
              have S_w4_w6 : Hid (Same w4 w6) := S_w4_W5.out.trans s6
              have lbsw6 : w.heap.size < w6.heap.size := Nat.lt_of_lt_of_le lbsW5 (Same.size s6)
              have bsw60 : w6.cell? ⟨w.heap.size, 0, none⟩ = some (.slice A m cc) := (Same.cells s6 _ _ lbsW5).trans bsW50
              have lbcw6 : w.heap.size + 1 < w6.heap.size := Nat.lt_of_lt_of_le lbcW5 (Same.size s6)
              have bcw60 : w6.cell? ⟨w.heap.size + 1, 0, none⟩ = some (.int .i64 k) := (Same.cells s6 _ _ lbcW5).trans bcW50
              have bcw61 : w6.cell? ⟨w.heap.size + 1, 1, none⟩ = some (.string t) := (Same.cells s6 _ _ lbcW5).trans bcW51
              have bcw62 : w6.cell? ⟨w.heap.size + 1, 2, none⟩ = some (.string aa) := (Same.cells s6 _ _ lbcW5).trans bcW52
              have bcw63 : w6.cell? ⟨w.heap.size + 1, 3, none⟩ = some (.string n) := (Same.cells s6 _ _ lbcW5).trans bcW53
              have bcw64 : w6.cell? ⟨w.heap.size + 1, 4, none⟩ = some (.int .i64 to_) := (Same.cells s6 _ _ lbcW5).trans bcW54
              have bcw65 : w6.cell? ⟨w.heap.size + 1, 5, none⟩ = some (.int .i64 dk) := (Same.cells s6 _ _ lbcW5).trans bcW55
              have bcw66 : w6.cell? ⟨w.heap.size + 1, 6, none⟩ = some (.int .i64 dn) := (Same.cells s6 _ _ lbcW5).trans bcW56
              have bcw67 : w6.cell? ⟨w.heap.size + 1, 7, none⟩ = some (.string ds) := (Same.cells s6 _ _ lbcW5).trans bcW57
              have lbdw6 : w.heap.size + 1 + 1 < w6.heap.size := Nat.lt_of_lt_of_le lbdW5 (Same.size s6)
              have bdw60 : w6.cell? ⟨w.heap.size + 1 + 1, 0, none⟩ = some (.int .i64 k2) := (Same.cells s6 _ _ lbdW5).trans bdW50
              have bdw61 : w6.cell? ⟨w.heap.size + 1 + 1, 1, none⟩ = some (.string t2) := (Same.cells s6 _ _ lbdW5).trans bdW51
              have bdw62 : w6.cell? ⟨w.heap.size + 1 + 1, 2, none⟩ = some (.string aa2) := (Same.cells s6 _ _ lbdW5).trans bdW52
              have bdw63 : w6.cell? ⟨w.heap.size + 1 + 1, 3, none⟩ = some (.string n2) := (Same.cells s6 _ _ lbdW5).trans bdW53
              have bdw64 : w6.cell? ⟨w.heap.size + 1 + 1, 4, none⟩ = some (.int .i64 to2) := (Same.cells s6 _ _ lbdW5).trans bdW54
              have bdw65 : w6.cell? ⟨w.heap.size + 1 + 1, 5, none⟩ = some (.int .i64 dk2) := (Same.cells s6 _ _ lbdW5).trans bdW55
              have bdw66 : w6.cell? ⟨w.heap.size + 1 + 1, 6, none⟩ = some (.int .i64 dn2) := (Same.cells s6 _ _ lbdW5).trans bdW56
              have bdw67 : w6.cell? ⟨w.heap.size + 1 + 1, 7, none⟩ = some (.string ds2) := (Same.cells s6 _ _ lbdW5).trans bdW57
              have lbaw6 : w4.heap.size < w6.heap.size := Nat.lt_of_lt_of_le lbaW5 (Same.size s6)
              have baw60 : w6.cell? ⟨w4.heap.size, 0, none⟩ = some (.slice A1 m1 c1) := (Same.cells s6 _ _ lbaW5).trans baW50
              clear S_w_W5 S_w4_W5 lbsW5 bsW50 lbcW5 bcW50 bcW51 bcW52 bcW53 bcW54 bcW55 bcW56 bcW57 lbdW5 bdW50 bdW51 bdW52 bdW53 bdW54 bdW55 bdW56 bdW57 lbaW5 baW50
              clear s6
              go_wp2_with (fail)
              obtain ⟨W7, hW7⟩ : ∃ W7, W7 = w6.alloc (.cells #[.slice A2 m2 c2] 24) := ⟨_, rfl⟩
              have sW7 : Same w6 W7 := by rw [hW7]; exact (Same.refl w6).alloc _
              have Bbb : Blk W7 w6.heap.size 24 #[.slice A2 m2 c2] := by rw [hW7]; exact Blk.new w6 _ _
              rw [← hW7]
              clear hW7
              have S_w_W7 : Hid (Same w W7) := S_w_w6.out.trans sW7
              have S_w4_W7 : Hid (Same w4 W7) := S_w4_w6.out.trans sW7
              have S_w6_W7 : Hid (Same w6 W7) := sW7
              have lbsW7 : w.heap.size < W7.heap.size := Nat.lt_of_lt_of_le lbsw6 (Same.size sW7)
              have bsW70 : W7.cell? ⟨w.heap.size, 0, none⟩ = some (.slice A m cc) := (Same.cells sW7 _ _ lbsw6).trans bsw60
              have lbcW7 : w.heap.size + 1 < W7.heap.size := Nat.lt_of_lt_of_le lbcw6 (Same.size sW7)
              have bcW70 : W7.cell? ⟨w.heap.size + 1, 0, none⟩ = some (.int .i64 k) := (Same.cells sW7 _ _ lbcw6).trans bcw60
              have bcW71 : W7.cell? ⟨w.heap.size + 1, 1, none⟩ = some (.string t) := (Same.cells sW7 _ _ lbcw6).trans bcw61
              have bcW72 : W7.cell? ⟨w.heap.size + 1, 2, none⟩ = some (.string aa) := (Same.cells sW7 _ _ lbcw6).trans bcw62
              have bcW73 : W7.cell? ⟨w.heap.size + 1, 3, none⟩ = some (.string n) := (Same.cells sW7 _ _ lbcw6).trans bcw63
              have bcW74 : W7.cell? ⟨w.heap.size + 1, 4, none⟩ = some (.int .i64 to_) := (Same.cells sW7 _ _ lbcw6).trans bcw64
              have bcW75 : W7.cell? ⟨w.heap.size + 1, 5, none⟩ = some (.int .i64 dk) := (Same.cells sW7 _ _ lbcw6).trans bcw65
              have bcW76 : W7.cell? ⟨w.heap.size + 1, 6, none⟩ = some (.int .i64 dn) := (Same.cells sW7 _ _ lbcw6).trans bcw66
              have bcW77 : W7.cell? ⟨w.heap.size + 1, 7, none⟩ = some (.string ds) := (Same.cells sW7 _ _ lbcw6).trans bcw67
              have lbdW7 : w.heap.size + 1 + 1 < W7.heap.size := Nat.lt_of_lt_of_le lbdw6 (Same.size sW7)
              have bdW70 : W7.cell? ⟨w.heap.size + 1 + 1, 0, none⟩ = some (.int .i64 k2) := (Same.cells sW7 _ _ lbdw6).trans bdw60
              have bdW71 : W7.cell? ⟨w.heap.size + 1 + 1, 1, none⟩ = some (.string t2) := (Same.cells sW7 _ _ lbdw6).trans bdw61
              have bdW72 : W7.cell? ⟨w.heap.size + 1 + 1, 2, none⟩ = some (.string aa2) := (Same.cells sW7 _ _ lbdw6).trans bdw62
              have bdW73 : W7.cell? ⟨w.heap.size + 1 + 1, 3, none⟩ = some (.string n2) := (Same.cells sW7 _ _ lbdw6).trans bdw63
              have bdW74 : W7.cell? ⟨w.heap.size + 1 + 1, 4, none⟩ = some (.int .i64 to2) := (Same.cells sW7 _ _ lbdw6).trans bdw64
              have bdW75 : W7.cell? ⟨w.heap.size + 1 + 1, 5, none⟩ = some (.int .i64 dk2) := (Same.cells sW7 _ _ lbdw6).trans bdw65
              have bdW76 : W7.cell? ⟨w.heap.size + 1 + 1, 6, none⟩ = some (.int .i64 dn2) := (Same.cells sW7 _ _ lbdw6).trans bdw66
              have bdW77 : W7.cell? ⟨w.heap.size + 1 + 1, 7, none⟩ = some (.string ds2) := (Same.cells sW7 _ _ lbdw6).trans bdw67
              have lbaW7 : w4.heap.size < W7.heap.size := Nat.lt_of_lt_of_le lbaw6 (Same.size sW7)
              have baW70 : W7.cell? ⟨w4.heap.size, 0, none⟩ = some (.slice A1 m1 c1) := (Same.cells sW7 _ _ lbaw6).trans baw60
              clear S_w_w6 S_w4_w6 lbsw6 bsw60 lbcw6 bcw60 bcw61 bcw62 bcw63 bcw64 bcw65 bcw66 bcw67 lbdw6 bdw60 bdw61 bdw62 bdw63 bdw64 bdw65 bdw66 bdw67 lbaw6 baw60
              have lbbW7 := Bbb.lt
              have bbW70 : W7.cell? ⟨w6.heap.size, 0, none⟩ = some (.slice A2 m2 c2) := Bbb.cell 0
              clear Bbb sW7
              have F1 : Hid (Few ts1) := few_of_was HM1.out ((wasLe_small HP.out.1).apply HE1.out.symm) (by decide)
              have F2 : Hid (Few ts2) := few_of_was HM2.out ((wasLe_small HP.out.1).apply HE2.out.symm) (by decide)
              have X1 : Hid (errOf (ts1.map RT.tb) ⟨k2, t2, aa2, n2, to2, ⟨dk2, dn2, ds2⟩⟩ = 0) := by rw [HM1.out]; exact two_err HE1.out.symm HE2.out.symm HT.out
              have X2 : Hid (errOf (ts2.map RT.tb) ⟨k, t, aa, n, to_, ⟨dk, dn, ds⟩⟩ = 0) := by rw [HM2.out]; exact two_err HE2.out.symm HE1.out.symm (fun e => HT.out e.symm)
              refine (apply_zeroE (TA1.out.same S_w4_W7.out) F1.out HN.out.2 HD.out.2 X1.out).mono ?_
              rintro e w8 ⟨A3, m3, c3, ts3, rfl, ta3, hm3, s8⟩
              have TA3 := Lib.hid ta3
              have HM3 := Lib.hid hm3
              clear ta3 hm3
              have S_w_w8 : Hid (Same w w8) := S_w_W7.out.trans s8
              have S_w4_w8 : Hid (Same w4 w8) := S_w4_W7.out.trans s8
              have S_w6_w8 : Hid (Same w6 w8) := S_w6_W7.out.trans s8
              have lbsw8 : w.heap.size < w8.heap.size := Nat.lt_of_lt_of_le lbsW7 (Same.size s8)
              have bsw80 : w8.cell? ⟨w.heap.size, 0, none⟩ = some (.slice A m cc) := (Same.cells s8 _ _ lbsW7).trans bsW70
              have lbcw8 : w.heap.size + 1 < w8.heap.size := Nat.lt_of_lt_of_le lbcW7 (Same.size s8)
              have bcw80 : w8.cell? ⟨w.heap.size + 1, 0, none⟩ = some (.int .i64 k) := (Same.cells s8 _ _ lbcW7).trans bcW70
              have bcw81 : w8.cell? ⟨w.heap.size + 1, 1, none⟩ = some (.string t) := (Same.cells s8 _ _ lbcW7).trans bcW71
              have bcw82 : w8.cell? ⟨w.heap.size + 1, 2, none⟩ = some (.string aa) := (Same.cells s8 _ _ lbcW7).trans bcW72
              have bcw83 : w8.cell? ⟨w.heap.size + 1, 3, none⟩ = some (.string n) := (Same.cells s8 _ _ lbcW7).trans bcW73
              have bcw84 : w8.cell? ⟨w.heap.size + 1, 4, none⟩ = some (.int .i64 to_) := (Same.cells s8 _ _ lbcW7).trans bcW74
              have bcw85 : w8.cell? ⟨w.heap.size + 1, 5, none⟩ = some (.int .i64 dk) := (Same.cells s8 _ _ lbcW7).trans bcW75
              have bcw86 : w8.cell? ⟨w.heap.size + 1, 6, none⟩ = some (.int .i64 dn) := (Same.cells s8 _ _ lbcW7).trans bcW76
              have bcw87 : w8.cell? ⟨w.heap.size + 1, 7, none⟩ = some (.string ds) := (Same.cells s8 _ _ lbcW7).trans bcW77
              have lbdw8 : w.heap.size + 1 + 1 < w8.heap.size := Nat.lt_of_lt_of_le lbdW7 (Same.size s8)
              have bdw80 : w8.cell? ⟨w.heap.size + 1 + 1, 0, none⟩ = some (.int .i64 k2) := (Same.cells s8 _ _ lbdW7).trans bdW70
              have bdw81 : w8.cell? ⟨w.heap.size + 1 + 1, 1, none⟩ = some (.string t2) := (Same.cells s8 _ _ lbdW7).trans bdW71
              have bdw82 : w8.cell? ⟨w.heap.size + 1 + 1, 2, none⟩ = some (.string aa2) := (Same.cells s8 _ _ lbdW7).trans bdW72
              have bdw83 : w8.cell? ⟨w.heap.size + 1 + 1, 3, none⟩ = some (.string n2) := (Same.cells s8 _ _ lbdW7).trans bdW73
              have bdw84 : w8.cell? ⟨w.heap.size + 1 + 1, 4, none⟩ = some (.int .i64 to2) := (Same.cells s8 _ _ lbdW7).trans bdW74
              have bdw85 : w8.cell? ⟨w.heap.size + 1 + 1, 5, none⟩ = some (.int .i64 dk2) := (Same.cells s8 _ _ lbdW7).trans bdW75
              have bdw86 : w8.cell? ⟨w.heap.size + 1 + 1, 6, none⟩ = some (.int .i64 dn2) := (Same.cells s8 _ _ lbdW7).trans bdW76
              have bdw87 : w8.cell? ⟨w.heap.size + 1 + 1, 7, none⟩ = some (.string ds2) := (Same.cells s8 _ _ lbdW7).trans bdW77
              have lbaw8 : w4.heap.size < w8.heap.size := Nat.lt_of_lt_of_le lbaW7 (Same.size s8)
              have baw80 : w8.cell? ⟨w4.heap.size, 0, none⟩ = some (.slice A1 m1 c1) := (Same.cells s8 _ _ lbaW7).trans baW70
              have lbbw8 : w6.heap.size < w8.heap.size := Nat.lt_of_lt_of_le lbbW7 (Same.size s8)
              have bbw80 : w8.cell? ⟨w6.heap.size, 0, none⟩ = some (.slice A2 m2 c2) := (Same.cells s8 _ _ lbbW7).trans bbW70
              clear S_w_W7 S_w4_W7 S_w6_W7 lbsW7 bsW70 lbcW7 bcW70 bcW71 bcW72 bcW73 bcW74 bcW75 bcW76 bcW77 lbdW7 bdW70 bdW71 bdW72 bdW73 bdW74 bdW75 bdW76 bdW77 lbaW7 baW70 lbbW7 bbW70
              clear s8
              go_wp2_with (fail)
              obtain ⟨W9, hW9⟩ : ∃ W9, W9 = w8.alloc (.cells #[.slice A3 m3 c3] 24) := ⟨_, rfl⟩
              have sW9 : Same w8 W9 := by rw [hW9]; exact (Same.refl w8).alloc _
              have Bbx : Blk W9 w8.heap.size 24 #[.slice A3 m3 c3] := by rw [hW9]; exact Blk.new w8 _ _
              rw [← hW9]
              clear hW9
              have S_w_W9 : Hid (Same w W9) := S_w_w8.out.trans sW9
              have S_w4_W9 : Hid (Same w4 W9) := S_w4_w8.out.trans sW9
              have S_w6_W9 : Hid (Same w6 W9) := S_w6_w8.out.trans sW9
              have S_w8_W9 : Hid (Same w8 W9) := sW9
              have lbsW9 : w.heap.size < W9.heap.size := Nat.lt_of_lt_of_le lbsw8 (Same.size sW9)
              have bsW90 : W9.cell? ⟨w.heap.size, 0, none⟩ = some (.slice A m cc) := (Same.cells sW9 _ _ lbsw8).trans bsw80
              have lbcW9 : w.heap.size + 1 < W9.heap.size := Nat.lt_of_lt_of_le lbcw8 (Same.size sW9)
              have bcW90 : W9.cell? ⟨w.heap.size + 1, 0, none⟩ = some (.int .i64 k) := (Same.cells sW9 _ _ lbcw8).trans bcw80
              have bcW91 : W9.cell? ⟨w.heap.size + 1, 1, none⟩ = some (.string t) := (Same.cells sW9 _ _ lbcw8).trans bcw81
              have bcW92 : W9.cell? ⟨w.heap.size + 1, 2, none⟩ = some (.string aa) := (Same.cells sW9 _ _ lbcw8).trans bcw82
              have bcW93 : W9.cell? ⟨w.heap.size + 1, 3, none⟩ = some (.string n) := (Same.cells sW9 _ _ lbcw8).trans bcw83
              have bcW94 : W9.cell? ⟨w.heap.size + 1, 4, none⟩ = some (.int .i64 to_) := (Same.cells sW9 _ _ lbcw8).trans bcw84
              have bcW95 : W9.cell? ⟨w.heap.size + 1, 5, none⟩ = some (.int .i64 dk) := (Same.cells sW9 _ _ lbcw8).trans bcw85
              have bcW96 : W9.cell? ⟨w.heap.size + 1, 6, none⟩ = some (.int .i64 dn) := (Same.cells sW9 _ _ lbcw8).trans bcw86
              have bcW97 : W9.cell? ⟨w.heap.size + 1, 7, none⟩ = some (.string ds) := (Same.cells sW9 _ _ lbcw8).trans bcw87
              have lbdW9 : w.heap.size + 1 + 1 < W9.heap.size := Nat.lt_of_lt_of_le lbdw8 (Same.size sW9)
              have bdW90 : W9.cell? ⟨w.heap.size + 1 + 1, 0, none⟩ = some (.int .i64 k2) := (Same.cells sW9 _ _ lbdw8).trans bdw80
              have bdW91 : W9.cell? ⟨w.heap.size + 1 + 1, 1, none⟩ = some (.string t2) := (Same.cells sW9 _ _ lbdw8).trans bdw81
              have bdW92 : W9.cell? ⟨w.heap.size + 1 + 1, 2, none⟩ = some (.string aa2) := (Same.cells sW9 _ _ lbdw8).trans bdw82
              have bdW93 : W9.cell? ⟨w.heap.size + 1 + 1, 3, none⟩ = some (.string n2) := (Same.cells sW9 _ _ lbdw8).trans bdw83
              have bdW94 : W9.cell? ⟨w.heap.size + 1 + 1, 4, none⟩ = some (.int .i64 to2) := (Same.cells sW9 _ _ lbdw8).trans bdw84
              have bdW95 : W9.cell? ⟨w.heap.size + 1 + 1, 5, none⟩ = some (.int .i64 dk2) := (Same.cells sW9 _ _ lbdw8).trans bdw85
              have bdW96 : W9.cell? ⟨w.heap.size + 1 + 1, 6, none⟩ = some (.int .i64 dn2) := (Same.cells sW9 _ _ lbdw8).trans bdw86
              have bdW97 : W9.cell? ⟨w.heap.size + 1 + 1, 7, none⟩ = some (.string ds2) := (Same.cells sW9 _ _ lbdw8).trans bdw87
              have lbaW9 : w4.heap.size < W9.heap.size := Nat.lt_of_lt_of_le lbaw8 (Same.size sW9)
              have baW90 : W9.cell? ⟨w4.heap.size, 0, none⟩ = some (.slice A1 m1 c1) := (Same.cells sW9 _ _ lbaw8).trans baw80
              have lbbW9 : w6.heap.size < W9.heap.size := Nat.lt_of_lt_of_le lbbw8 (Same.size sW9)
              have bbW90 : W9.cell? ⟨w6.heap.size, 0, none⟩ = some (.slice A2 m2 c2) := (Same.cells sW9 _ _ lbbw8).trans bbw80
              clear S_w_w8 S_w4_w8 S_w6_w8 lbsw8 bsw80 lbcw8 bcw80 bcw81 bcw82 bcw83 bcw84 bcw85 bcw86 bcw87 lbdw8 bdw80 bdw81 bdw82 bdw83 bdw84 bdw85 bdw86 bdw87 lbaw8 baw80 lbbw8 bbw80
              have lbxW9 := Bbx.lt
              have bxW90 : W9.cell? ⟨w8.heap.size, 0, none⟩ = some (.slice A3 m3 c3) := Bbx.cell 0
              clear Bbx sW9
              refine (apply_zeroE (TA2.out.same S_w6_W9.out) F2.out HN.out.1 HD.out.1 X2.out).mono ?_
              rintro e w10 ⟨A4, m4, c4, ts4, rfl, ta4, hm4, s10⟩
              have TA4 := Lib.hid ta4
              have HM4 := Lib.hid hm4
              clear ta4 hm4
              have S_w_w10 : Hid (Same w w10) := S_w_W9.out.trans s10
              have S_w4_w10 : Hid (Same w4 w10) := S_w4_W9.out.trans s10
              have S_w6_w10 : Hid (Same w6 w10) := S_w6_W9.out.trans s10
              have S_w8_w10 : Hid (Same w8 w10) := S_w8_W9.out.trans s10
              have lbsw10 : w.heap.size < w10.heap.size := Nat.lt_of_lt_of_le lbsW9 (Same.size s10)
              have bsw100 : w10.cell? ⟨w.heap.size, 0, none⟩ = some (.slice A m cc) := (Same.cells s10 _ _ lbsW9).trans bsW90
              have lbcw10 : w.heap.size + 1 < w10.heap.size := Nat.lt_of_lt_of_le lbcW9 (Same.size s10)
              have bcw100 : w10.cell? ⟨w.heap.size + 1, 0, none⟩ = some (.int .i64 k) := (Same.cells s10 _ _ lbcW9).trans bcW90
              have bcw101 : w10.cell? ⟨w.heap.size + 1, 1, none⟩ = some (.string t) := (Same.cells s10 _ _ lbcW9).trans bcW91
              have bcw102 : w10.cell? ⟨w.heap.size + 1, 2, none⟩ = some (.string aa) := (Same.cells s10 _ _ lbcW9).trans bcW92
              have bcw103 : w10.cell? ⟨w.heap.size + 1, 3, none⟩ = some (.string n) := (Same.cells s10 _ _ lbcW9).trans bcW93
              have bcw104 : w10.cell? ⟨w.heap.size + 1, 4, none⟩ = some (.int .i64 to_) := (Same.cells s10 _ _ lbcW9).trans bcW94
              have bcw105 : w10.cell? ⟨w.heap.size + 1, 5, none⟩ = some (.int .i64 dk) := (Same.cells s10 _ _ lbcW9).trans bcW95
              have bcw106 : w10.cell? ⟨w.heap.size + 1, 6, none⟩ = some (.int .i64 dn) := (Same.cells s10 _ _ lbcW9).trans bcW96
              have bcw107 : w10.cell? ⟨w.heap.size + 1, 7, none⟩ = some (.string ds) := (Same.cells s10 _ _ lbcW9).trans bcW97
              have lbdw10 : w.heap.size + 1 + 1 < w10.heap.size := Nat.lt_of_lt_of_le lbdW9 (Same.size s10)
              have bdw100 : w10.cell? ⟨w.heap.size + 1 + 1, 0, none⟩ = some (.int .i64 k2) := (Same.cells s10 _ _ lbdW9).trans bdW90
              have bdw101 : w10.cell? ⟨w.heap.size + 1 + 1, 1, none⟩ = some (.string t2) := (Same.cells s10 _ _ lbdW9).trans bdW91
              have bdw102 : w10.cell? ⟨w.heap.size + 1 + 1, 2, none⟩ = some (.string aa2) := (Same.cells s10 _ _ lbdW9).trans bdW92
              have bdw103 : w10.cell? ⟨w.heap.size + 1 + 1, 3, none⟩ = some (.string n2) := (Same.cells s10 _ _ lbdW9).trans bdW93
              have bdw104 : w10.cell? ⟨w.heap.size + 1 + 1, 4, none⟩ = some (.int .i64 to2) := (Same.cells s10 _ _ lbdW9).trans bdW94
              have bdw105 : w10.cell? ⟨w.heap.size + 1 + 1, 5, none⟩ = some (.int .i64 dk2) := (Same.cells s10 _ _ lbdW9).trans bdW95
              have bdw106 : w10.cell? ⟨w.heap.size + 1 + 1, 6, none⟩ = some (.int .i64 dn2) := (Same.cells s10 _ _ lbdW9).trans bdW96
              have bdw107 : w10.cell? ⟨w.heap.size + 1 + 1, 7, none⟩ = some (.string ds2) := (Same.cells s10 _ _ lbdW9).trans bdW97
              have lbaw10 : w4.heap.size < w10.heap.size := Nat.lt_of_lt_of_le lbaW9 (Same.size s10)
              have baw100 : w10.cell? ⟨w4.heap.size, 0, none⟩ = some (.slice A1 m1 c1) := (Same.cells s10 _ _ lbaW9).trans baW90
              have lbbw10 : w6.heap.size < w10.heap.size := Nat.lt_of_lt_of_le lbbW9 (Same.size s10)
              have bbw100 : w10.cell? ⟨w6.heap.size, 0, none⟩ = some (.slice A2 m2 c2) := (Same.cells s10 _ _ lbbW9).trans bbW90
              have lbxw10 : w8.heap.size < w10.heap.size := Nat.lt_of_lt_of_le lbxW9 (Same.size s10)
              have bxw100 : w10.cell? ⟨w8.heap.size, 0, none⟩ = some (.slice A3 m3 c3) := (Same.cells s10 _ _ lbxW9).trans bxW90
              clear S_w_W9 S_w4_W9 S_w6_W9 S_w8_W9 lbsW9 bsW90 lbcW9 bcW90 bcW91 bcW92 bcW93 bcW94 bcW95 bcW96 bcW97 lbdW9 bdW90 bdW91 bdW92 bdW93 bdW94 bdW95 bdW96 bdW97 lbaW9 baW90 lbbW9 bbW90 lbxW9 bxW90
              clear s10
              go_wp2_with (fail)
              obtain ⟨W11, hW11⟩ : ∃ W11, W11 = w10.alloc (.cells #[.slice A4 m4 c4] 24) := ⟨_, rfl⟩
              have sW11 : Same w10 W11 := by rw [hW11]; exact (Same.refl w10).alloc _
              have Bby_ : Blk W11 w10.heap.size 24 #[.slice A4 m4 c4] := by rw [hW11]; exact Blk.new w10 _ _
              rw [← hW11]
              clear hW11
              have S_w_W11 : Hid (Same w W11) := S_w_w10.out.trans sW11
              have S_w4_W11 : Hid (Same w4 W11) := S_w4_w10.out.trans sW11
              have S_w6_W11 : Hid (Same w6 W11) := S_w6_w10.out.trans sW11
              have S_w8_W11 : Hid (Same w8 W11) := S_w8_w10.out.trans sW11
              have S_w10_W11 : Hid (Same w10 W11) := sW11
              have lbsW11 : w.heap.size < W11.heap.size := Nat.lt_of_lt_of_le lbsw10 (Same.size sW11)
              have bsW110 : W11.cell? ⟨w.heap.size, 0, none⟩ = some (.slice A m cc) := (Same.cells sW11 _ _ lbsw10).trans bsw100
              have lbcW11 : w.heap.size + 1 < W11.heap.size := Nat.lt_of_lt_of_le lbcw10 (Same.size sW11)
              have bcW110 : W11.cell? ⟨w.heap.size + 1, 0, none⟩ = some (.int .i64 k) := (Same.cells sW11 _ _ lbcw10).trans bcw100
              have bcW111 : W11.cell? ⟨w.heap.size + 1, 1, none⟩ = some (.string t) := (Same.cells sW11 _ _ lbcw10).trans bcw101
              have bcW112 : W11.cell? ⟨w.heap.size + 1, 2, none⟩ = some (.string aa) := (Same.cells sW11 _ _ lbcw10).trans bcw102
              have bcW113 : W11.cell? ⟨w.heap.size + 1, 3, none⟩ = some (.string n) := (Same.cells sW11 _ _ lbcw10).trans bcw103
              have bcW114 : W11.cell? ⟨w.heap.size + 1, 4, none⟩ = some (.int .i64 to_) := (Same.cells sW11 _ _ lbcw10).trans bcw104
              have bcW115 : W11.cell? ⟨w.heap.size + 1, 5, none⟩ = some (.int .i64 dk) := (Same.cells sW11 _ _ lbcw10).trans bcw105
              have bcW116 : W11.cell? ⟨w.heap.size + 1, 6, none⟩ = some (.int .i64 dn) := (Same.cells sW11 _ _ lbcw10).trans bcw106
              have bcW117 : W11.cell? ⟨w.heap.size + 1, 7, none⟩ = some (.string ds) := (Same.cells sW11 _ _ lbcw10).trans bcw107
              have lbdW11 : w.heap.size + 1 + 1 < W11.heap.size := Nat.lt_of_lt_of_le lbdw10 (Same.size sW11)
              have bdW110 : W11.cell? ⟨w.heap.size + 1 + 1, 0, none⟩ = some (.int .i64 k2) := (Same.cells sW11 _ _ lbdw10).trans bdw100
              have bdW111 : W11.cell? ⟨w.heap.size + 1 + 1, 1, none⟩ = some (.string t2) := (Same.cells sW11 _ _ lbdw10).trans bdw101
              have bdW112 : W11.cell? ⟨w.heap.size + 1 + 1, 2, none⟩ = some (.string aa2) := (Same.cells sW11 _ _ lbdw10).trans bdw102
              have bdW113 : W11.cell? ⟨w.heap.size + 1 + 1, 3, none⟩ = some (.string n2) := (Same.cells sW11 _ _ lbdw10).trans bdw103
              have bdW114 : W11.cell? ⟨w.heap.size + 1 + 1, 4, none⟩ = some (.int .i64 to2) := (Same.cells sW11 _ _ lbdw10).trans bdw104
              have bdW115 : W11.cell? ⟨w.heap.size + 1 + 1, 5, none⟩ = some (.int .i64 dk2) := (Same.cells sW11 _ _ lbdw10).trans bdw105
              have bdW116 : W11.cell? ⟨w.heap.size + 1 + 1, 6, none⟩ = some (.int .i64 dn2) := (Same.cells sW11 _ _ lbdw10).trans bdw106
              have bdW117 : W11.cell? ⟨w.heap.size + 1 + 1, 7, none⟩ = some (.string ds2) := (Same.cells sW11 _ _ lbdw10).trans bdw107
              have lbaW11 : w4.heap.size < W11.heap.size := Nat.lt_of_lt_of_le lbaw10 (Same.size sW11)
              have baW110 : W11.cell? ⟨w4.heap.size, 0, none⟩ = some (.slice A1 m1 c1) := (Same.cells sW11 _ _ lbaw10).trans baw100
              have lbbW11 : w6.heap.size < W11.heap.size := Nat.lt_of_lt_of_le lbbw10 (Same.size sW11)
              have bbW110 : W11.cell? ⟨w6.heap.size, 0, none⟩ = some (.slice A2 m2 c2) := (Same.cells sW11 _ _ lbbw10).trans bbw100
              have lbxW11 : w8.heap.size < W11.heap.size := Nat.lt_of_lt_of_le lbxw10 (Same.size sW11)
              have bxW110 : W11.cell? ⟨w8.heap.size, 0, none⟩ = some (.slice A3 m3 c3) := (Same.cells sW11 _ _ lbxw10).trans bxw100
              clear S_w_w10 S_w4_w10 S_w6_w10 S_w8_w10 lbsw10 bsw100 lbcw10 bcw100 bcw101 bcw102 bcw103 bcw104 bcw105 bcw106 bcw107 lbdw10 bdw100 bdw101 bdw102 bdw103 bdw104 bdw105 bdw106 bdw107 lbaw10 baw100 lbbw10 bbw100 lbxw10 bxw100
              have lby_W11 := Bby_.lt
              have by_W110 : W11.cell? ⟨w10.heap.size, 0, none⟩ = some (.slice A4 m4 c4) := Bby_.cell 0
              clear Bby_ sW11
              have X3 : Hid (ts3.map RT.tb = ts4.map RT.tb) := by rw [HM3.out, HM4.out, HM1.out, HM2.out]; exact two_apply HE1.out.symm HE2.out.symm HT.out
              refine (sameE (TA3.out.same S_w8_W11.out) (TA4.out.same S_w10_W11.out) X3.out).mono ?_
              rintro e w12 ⟨rfl, s12⟩
              have S_w_w12 : Hid (Same w w12) := S_w_W11.out.trans s12
              have S_w4_w12 : Hid (Same w4 w12) := S_w4_W11.out.trans s12
              have S_w6_w12 : Hid (Same w6 w12) := S_w6_W11.out.trans s12
              have S_w8_w12 : Hid (Same w8 w12) := S_w8_W11.out.trans s12
              have S_w10_w12 : Hid (Same w10 w12) := S_w10_W11.out.trans s12
              have lbsw12 : w.heap.size < w12.heap.size := Nat.lt_of_lt_of_le lbsW11 (Same.size s12)
              have bsw120 : w12.cell? ⟨w.heap.size, 0, none⟩ = some (.slice A m cc) := (Same.cells s12 _ _ lbsW11).trans bsW110
              have lbcw12 : w.heap.size + 1 < w12.heap.size := Nat.lt_of_lt_of_le lbcW11 (Same.size s12)
              have bcw120 : w12.cell? ⟨w.heap.size + 1, 0, none⟩ = some (.int .i64 k) := (Same.cells s12 _ _ lbcW11).trans bcW110
              have bcw121 : w12.cell? ⟨w.heap.size + 1, 1, none⟩ = some (.string t) := (Same.cells s12 _ _ lbcW11).trans bcW111
              have bcw122 : w12.cell? ⟨w.heap.size + 1, 2, none⟩ = some (.string aa) := (Same.cells s12 _ _ lbcW11).trans bcW112
              have bcw123 : w12.cell? ⟨w.heap.size + 1, 3, none⟩ = some (.string n) := (Same.cells s12 _ _ lbcW11).trans bcW113
              have bcw124 : w12.cell? ⟨w.heap.size + 1, 4, none⟩ = some (.int .i64 to_) := (Same.cells s12 _ _ lbcW11).trans bcW114
              have bcw125 : w12.cell? ⟨w.heap.size + 1, 5, none⟩ = some (.int .i64 dk) := (Same.cells s12 _ _ lbcW11).trans bcW115
              have bcw126 : w12.cell? ⟨w.heap.size + 1, 6, none⟩ = some (.int .i64 dn) := (Same.cells s12 _ _ lbcW11).trans bcW116
              have bcw127 : w12.cell? ⟨w.heap.size + 1, 7, none⟩ = some (.string ds) := (Same.cells s12 _ _ lbcW11).trans bcW117
              have lbdw12 : w.heap.size + 1 + 1 < w12.heap.size := Nat.lt_of_lt_of_le lbdW11 (Same.size s12)
              have bdw120 : w12.cell? ⟨w.heap.size + 1 + 1, 0, none⟩ = some (.int .i64 k2) := (Same.cells s12 _ _ lbdW11).trans bdW110
              have bdw121 : w12.cell? ⟨w.heap.size + 1 + 1, 1, none⟩ = some (.string t2) := (Same.cells s12 _ _ lbdW11).trans bdW111
              have bdw122 : w12.cell? ⟨w.heap.size + 1 + 1, 2, none⟩ = some (.string aa2) := (Same.cells s12 _ _ lbdW11).trans bdW112
              have bdw123 : w12.cell? ⟨w.heap.size + 1 + 1, 3, none⟩ = some (.string n2) := (Same.cells s12 _ _ lbdW11).trans bdW113
              have bdw124 : w12.cell? ⟨w.heap.size + 1 + 1, 4, none⟩ = some (.int .i64 to2) := (Same.cells s12 _ _ lbdW11).trans bdW114
              have bdw125 : w12.cell? ⟨w.heap.size + 1 + 1, 5, none⟩ = some (.int .i64 dk2) := (Same.cells s12 _ _ lbdW11).trans bdW115
              have bdw126 : w12.cell? ⟨w.heap.size + 1 + 1, 6, none⟩ = some (.int .i64 dn2) := (Same.cells s12 _ _ lbdW11).trans bdW116
              have bdw127 : w12.cell? ⟨w.heap.size + 1 + 1, 7, none⟩ = some (.string ds2) := (Same.cells s12 _ _ lbdW11).trans bdW117
              have lbaw12 : w4.heap.size < w12.heap.size := Nat.lt_of_lt_of_le lbaW11 (Same.size s12)
              have baw120 : w12.cell? ⟨w4.heap.size, 0, none⟩ = some (.slice A1 m1 c1) := (Same.cells s12 _ _ lbaW11).trans baW110
              have lbbw12 : w6.heap.size < w12.heap.size := Nat.lt_of_lt_of_le lbbW11 (Same.size s12)
              have bbw120 : w12.cell? ⟨w6.heap.size, 0, none⟩ = some (.slice A2 m2 c2) := (Same.cells s12 _ _ lbbW11).trans bbW110
              clear S_w_W11 S_w4_W11 S_w6_W11 S_w8_W11 S_w10_W11 lbsW11 bsW110 lbcW11 bcW110 bcW111 bcW112 bcW113 bcW114 bcW115 bcW116 bcW117 lbdW11 bdW110 bdW111 bdW112 bdW113 bdW114 bdW115 bdW116 bdW117 lbaW11 baW110 lbbW11 bbW110
              clear s12
              clear TA3 TA4 HM3 HM4 X1 X2 X3
              go_wp2_with (fail)
              rw [HMOD.out]
              refine (convertE ((raw % m : Nat) : Int) (HL.out.same S_w_w12.out) (HA.out.same S_w_w12.out) HF.out HN.out.1 HD.out.1 (HR.out.same S_w_w12.out) HRL.out HTL.out).mono ?_
              rintro e w13 ⟨A5, m5, c5, rfl, r5, s13⟩
              have R5 := Lib.hid r5
              clear r5
              have S_w_w13 : Hid (Same w w13) := S_w_w12.out.trans s13
              have S_w4_w13 : Hid (Same w4 w13) := S_w4_w12.out.trans s13
              have S_w6_w13 : Hid (Same w6 w13) := S_w6_w12.out.trans s13
              have lbsw13 : w.heap.size < w13.heap.size := Nat.lt_of_lt_of_le lbsw12 (Same.size s13)
              have bsw130 : w13.cell? ⟨w.heap.size, 0, none⟩ = some (.slice A m cc) := (Same.cells s13 _ _ lbsw12).trans bsw120
              have lbcw13 : w.heap.size + 1 < w13.heap.size := Nat.lt_of_lt_of_le lbcw12 (Same.size s13)
              have bcw130 : w13.cell? ⟨w.heap.size + 1, 0, none⟩ = some (.int .i64 k) := (Same.cells s13 _ _ lbcw12).trans bcw120
              have bcw131 : w13.cell? ⟨w.heap.size + 1, 1, none⟩ = some (.string t) := (Same.cells s13 _ _ lbcw12).trans bcw121
              have bcw132 : w13.cell? ⟨w.heap.size + 1, 2, none⟩ = some (.string aa) := (Same.cells s13 _ _ lbcw12).trans bcw122
              have bcw133 : w13.cell? ⟨w.heap.size + 1, 3, none⟩ = some (.string n) := (Same.cells s13 _ _ lbcw12).trans bcw123
              have bcw134 : w13.cell? ⟨w.heap.size + 1, 4, none⟩ = some (.int .i64 to_) := (Same.cells s13 _ _ lbcw12).trans bcw124
              have bcw135 : w13.cell? ⟨w.heap.size + 1, 5, none⟩ = some (.int .i64 dk) := (Same.cells s13 _ _ lbcw12).trans bcw125
              have bcw136 : w13.cell? ⟨w.heap.size + 1, 6, none⟩ = some (.int .i64 dn) := (Same.cells s13 _ _ lbcw12).trans bcw126
              have bcw137 : w13.cell? ⟨w.heap.size + 1, 7, none⟩ = some (.string ds) := (Same.cells s13 _ _ lbcw12).trans bcw127
              have lbdw13 : w.heap.size + 1 + 1 < w13.heap.size := Nat.lt_of_lt_of_le lbdw12 (Same.size s13)
              have bdw130 : w13.cell? ⟨w.heap.size + 1 + 1, 0, none⟩ = some (.int .i64 k2) := (Same.cells s13 _ _ lbdw12).trans bdw120
              have bdw131 : w13.cell? ⟨w.heap.size + 1 + 1, 1, none⟩ = some (.string t2) := (Same.cells s13 _ _ lbdw12).trans bdw121
              have bdw132 : w13.cell? ⟨w.heap.size + 1 + 1, 2, none⟩ = some (.string aa2) := (Same.cells s13 _ _ lbdw12).trans bdw122
              have bdw133 : w13.cell? ⟨w.heap.size + 1 + 1, 3, none⟩ = some (.string n2) := (Same.cells s13 _ _ lbdw12).trans bdw123
              have bdw134 : w13.cell? ⟨w.heap.size + 1 + 1, 4, none⟩ = some (.int .i64 to2) := (Same.cells s13 _ _ lbdw12).trans bdw124
              have bdw135 : w13.cell? ⟨w.heap.size + 1 + 1, 5, none⟩ = some (.int .i64 dk2) := (Same.cells s13 _ _ lbdw12).trans bdw125
              have bdw136 : w13.cell? ⟨w.heap.size + 1 + 1, 6, none⟩ = some (.int .i64 dn2) := (Same.cells s13 _ _ lbdw12).trans bdw126
              have bdw137 : w13.cell? ⟨w.heap.size + 1 + 1, 7, none⟩ = some (.string ds2) := (Same.cells s13 _ _ lbdw12).trans bdw127
              have lbaw13 : w4.heap.size < w13.heap.size := Nat.lt_of_lt_of_le lbaw12 (Same.size s13)
              have baw130 : w13.cell? ⟨w4.heap.size, 0, none⟩ = some (.slice A1 m1 c1) := (Same.cells s13 _ _ lbaw12).trans baw120
              have lbbw13 : w6.heap.size < w13.heap.size := Nat.lt_of_lt_of_le lbbw12 (Same.size s13)
              have bbw130 : w13.cell? ⟨w6.heap.size, 0, none⟩ = some (.slice A2 m2 c2) := (Same.cells s13 _ _ lbbw12).trans bbw120
              clear S_w_w12 S_w4_w12 S_w6_w12 lbsw12 bsw120 lbcw12 bcw120 bcw121 bcw122 bcw123 bcw124 bcw125 bcw126 bcw127 lbdw12 bdw120 bdw121 bdw122 bdw123 bdw124 bdw125 bdw126 bdw127 lbaw12 baw120 lbbw12 bbw120
              clear s13
              go_wp2_with (fail)
              rw [HMOD.out]
              refine (convertE ((raw % m : Nat) : Int) (HL.out.same S_w_w13.out) (HA.out.same S_w_w13.out) HF.out HN.out.2 HD.out.2 (HR.out.same S_w_w13.out) HRL.out HTL.out).mono ?_
              rintro e w14 ⟨A6, m6, c6, he, r6, s14⟩
              have R6 := Lib.hid r6
              clear r6
              have S_w_w14 : Hid (Same w w14) := S_w_w13.out.trans s14
              have S_w4_w14 : Hid (Same w4 w14) := S_w4_w13.out.trans s14
              have S_w6_w14 : Hid (Same w6 w14) := S_w6_w13.out.trans s14
              have S_w13_w14 : Hid (Same w13 w14) := s14
              have lbsw14 : w.heap.size < w14.heap.size := Nat.lt_of_lt_of_le lbsw13 (Same.size s14)
              have bsw140 : w14.cell? ⟨w.heap.size, 0, none⟩ = some (.slice A m cc) := (Same.cells s14 _ _ lbsw13).trans bsw130
              have lbcw14 : w.heap.size + 1 < w14.heap.size := Nat.lt_of_lt_of_le lbcw13 (Same.size s14)
              have bcw140 : w14.cell? ⟨w.heap.size + 1, 0, none⟩ = some (.int .i64 k) := (Same.cells s14 _ _ lbcw13).trans bcw130
              have bcw141 : w14.cell? ⟨w.heap.size + 1, 1, none⟩ = some (.string t) := (Same.cells s14 _ _ lbcw13).trans bcw131
              have bcw142 : w14.cell? ⟨w.heap.size + 1, 2, none⟩ = some (.string aa) := (Same.cells s14 _ _ lbcw13).trans bcw132
              have bcw143 : w14.cell? ⟨w.heap.size + 1, 3, none⟩ = some (.string n) := (Same.cells s14 _ _ lbcw13).trans bcw133
              have bcw144 : w14.cell? ⟨w.heap.size + 1, 4, none⟩ = some (.int .i64 to_) := (Same.cells s14 _ _ lbcw13).trans bcw134
              have bcw145 : w14.cell? ⟨w.heap.size + 1, 5, none⟩ = some (.int .i64 dk) := (Same.cells s14 _ _ lbcw13).trans bcw135
              have bcw146 : w14.cell? ⟨w.heap.size + 1, 6, none⟩ = some (.int .i64 dn) := (Same.cells s14 _ _ lbcw13).trans bcw136
              have bcw147 : w14.cell? ⟨w.heap.size + 1, 7, none⟩ = some (.string ds) := (Same.cells s14 _ _ lbcw13).trans bcw137
              have lbdw14 : w.heap.size + 1 + 1 < w14.heap.size := Nat.lt_of_lt_of_le lbdw13 (Same.size s14)
              have bdw140 : w14.cell? ⟨w.heap.size + 1 + 1, 0, none⟩ = some (.int .i64 k2) := (Same.cells s14 _ _ lbdw13).trans bdw130
              have bdw141 : w14.cell? ⟨w.heap.size + 1 + 1, 1, none⟩ = some (.string t2) := (Same.cells s14 _ _ lbdw13).trans bdw131
              have bdw142 : w14.cell? ⟨w.heap.size + 1 + 1, 2, none⟩ = some (.string aa2) := (Same.cells s14 _ _ lbdw13).trans bdw132
              have bdw143 : w14.cell? ⟨w.heap.size + 1 + 1, 3, none⟩ = some (.string n2) := (Same.cells s14 _ _ lbdw13).trans bdw133
              have bdw144 : w14.cell? ⟨w.heap.size + 1 + 1, 4, none⟩ = some (.int .i64 to2) := (Same.cells s14 _ _ lbdw13).trans bdw134
              have bdw145 : w14.cell? ⟨w.heap.size + 1 + 1, 5, none⟩ = some (.int .i64 dk2) := (Same.cells s14 _ _ lbdw13).trans bdw135
              have bdw146 : w14.cell? ⟨w.heap.size + 1 + 1, 6, none⟩ = some (.int .i64 dn2) := (Same.cells s14 _ _ lbdw13).trans bdw136
              have bdw147 : w14.cell? ⟨w.heap.size + 1 + 1, 7, none⟩ = some (.string ds2) := (Same.cells s14 _ _ lbdw13).trans bdw137
              have lbaw14 : w4.heap.size < w14.heap.size := Nat.lt_of_lt_of_le lbaw13 (Same.size s14)
              have baw140 : w14.cell? ⟨w4.heap.size, 0, none⟩ = some (.slice A1 m1 c1) := (Same.cells s14 _ _ lbaw13).trans baw130
              have lbbw14 : w6.heap.size < w14.heap.size := Nat.lt_of_lt_of_le lbbw13 (Same.size s14)
              have bbw140 : w14.cell? ⟨w6.heap.size, 0, none⟩ = some (.slice A2 m2 c2) := (Same.cells s14 _ _ lbbw13).trans bbw130
              clear S_w_w13 S_w4_w13 S_w6_w13 lbsw13 bsw130 lbcw13 bcw130 bcw131 bcw132 bcw133 bcw134 bcw135 bcw136 bcw137 lbdw13 bdw130 bdw131 bdw132 bdw133 bdw134 bdw135 bdw136 bdw137 lbaw13 baw130 lbbw13 bbw130
              clear s14
              subst he
              obtain ⟨Y1, hY1⟩ : ∃ Y1, Y1 = (convS (ts.map RT.tb) ⟨k, t, aa, n, to_, ⟨dk, dn, ds⟩⟩ ((raw % m : Nat) : Int) row).2 := ⟨_, rfl⟩
              obtain ⟨Y2, hY2⟩ : ∃ Y2, Y2 = (convS (ts.map RT.tb) ⟨k2, t2, aa2, n2, to2, ⟨dk2, dn2, ds2⟩⟩ ((raw % m : Nat) : Int) row).2 := ⟨_, rfl⟩
              rw [← hY1, ← hY2]
              have HY1 := Lib.hid hY1
              have HY2 := Lib.hid hY2
              clear hY1 hY2
              by_cases hy1 : Y1 = 0
              · by_cases hy2 : Y2 = 0
                · subst hy1 hy2
                  have X : Hid ((convS (applyS (ts.map RT.tb) ⟨k, t, aa, n, to_, ⟨dk, dn, ds⟩⟩) ⟨k2, t2, aa2, n2, to2, ⟨dk2, dn2, ds2⟩⟩ ((raw % m : Nat) : Int) (convS (ts.map RT.tb) ⟨k, t, aa, n, to_, ⟨dk, dn, ds⟩⟩ ((raw % m : Nat) : Int) row).1).2 = 0 ∧ convS (applyS (ts.map RT.tb) ⟨k, t, aa, n, to_, ⟨dk, dn, ds⟩⟩) ⟨k2, t2, aa2, n2, to2, ⟨dk2, dn2, ds2⟩⟩ ((raw % m : Nat) : Int) (convS (ts.map RT.tb) ⟨k, t, aa, n, to_, ⟨dk, dn, ds⟩⟩ ((raw % m : Nat) : Int) row).1 = convS (applyS (ts.map RT.tb) ⟨k2, t2, aa2, n2, to2, ⟨dk2, dn2, ds2⟩⟩) ⟨k, t, aa, n, to_, ⟨dk, dn, ds⟩⟩ ((raw % m : Nat) : Int) (convS (ts.map RT.tb) ⟨k2, t2, aa2, n2, to2, ⟨dk2, dn2, ds2⟩⟩ ((raw % m : Nat) : Int) row).1) := two_rows HE1.out.symm HE2.out.symm HT.out (raw % m) HNL.out row HY1.out.symm HY2.out.symm
                  have hlen1 := conv_len HE1.out.symm HNL.out HY1.out.symm
                  have hlen2 := conv_len HE2.out.symm HNL.out HY2.out.symm
                  have HLN : Hid ((convS (ts.map RT.tb) ⟨k, t, aa, n, to_, ⟨dk, dn, ds⟩⟩ ((raw % m : Nat) : Int) row).1.length ≤ 1000000 ∧ (convS (ts.map RT.tb) ⟨k2, t2, aa2, n2, to2, ⟨dk2, dn2, ds2⟩⟩ ((raw % m : Nat) : Int) row).1.length ≤ 1000000) := ⟨by omega, by omega⟩
                  have ht1 : ts1.length = ts.length := by have := congrArg List.length HM1.out; rw [applyS_len, List.length_map, List.length_map] at this; exact this
                  have ht2 : ts2.length = ts.length := by have := congrArg List.length HM2.out; rw [applyS_len, List.length_map, List.length_map] at this; exact this
                  have HTL1 : Hid (ts1.length ≤ 1000000 ∧ ts2.length ≤ 1000000) := ⟨by rw [ht1]; exact HTL.out, by rw [ht2]; exact HTL.out⟩
                  clear hlen1 hlen2 ht1 ht2
                  go_wp2_with (fail)
                  rw [HMOD.out]
                  refine (convertE ((raw % m : Nat) : Int) (HL.out.same S_w_w14.out) (TA1.out.same S_w4_w14.out) F1.out HN.out.2 HD.out.2 (R5.out.same S_w13_w14.out) HLN.out.1 HTL1.out.1).mono ?_
                  rintro e w15 ⟨A7, m7, c7, he, r7, s15⟩
                  rw [HM1.out, X.out.1] at he
                  rw [HM1.out] at r7
                  subst he
                  have R7 := Lib.hid r7
                  clear r7
                  have S_w_w15 : Hid (Same w w15) := S_w_w14.out.trans s15
                  have S_w4_w15 : Hid (Same w4 w15) := S_w4_w14.out.trans s15
                  have S_w6_w15 : Hid (Same w6 w15) := S_w6_w14.out.trans s15
                  have S_w13_w15 : Hid (Same w13 w15) := S_w13_w14.out.trans s15
                  have S_w14_w15 : Hid (Same w14 w15) := s15
                  have lbsw15 : w.heap.size < w15.heap.size := Nat.lt_of_lt_of_le lbsw14 (Same.size s15)
                  have bsw150 : w15.cell? ⟨w.heap.size, 0, none⟩ = some (.slice A m cc) := (Same.cells s15 _ _ lbsw14).trans bsw140
                  have lbcw15 : w.heap.size + 1 < w15.heap.size := Nat.lt_of_lt_of_le lbcw14 (Same.size s15)
                  have bcw150 : w15.cell? ⟨w.heap.size + 1, 0, none⟩ = some (.int .i64 k) := (Same.cells s15 _ _ lbcw14).trans bcw140
                  have bcw151 : w15.cell? ⟨w.heap.size + 1, 1, none⟩ = some (.string t) := (Same.cells s15 _ _ lbcw14).trans bcw141
                  have bcw152 : w15.cell? ⟨w.heap.size + 1, 2, none⟩ = some (.string aa) := (Same.cells s15 _ _ lbcw14).trans bcw142
                  have bcw153 : w15.cell? ⟨w.heap.size + 1, 3, none⟩ = some (.string n) := (Same.cells s15 _ _ lbcw14).trans bcw143
                  have bcw154 : w15.cell? ⟨w.heap.size + 1, 4, none⟩ = some (.int .i64 to_) := (Same.cells s15 _ _ lbcw14).trans bcw144
                  have bcw155 : w15.cell? ⟨w.heap.size + 1, 5, none⟩ = some (.int .i64 dk) := (Same.cells s15 _ _ lbcw14).trans bcw145
                  have bcw156 : w15.cell? ⟨w.heap.size + 1, 6, none⟩ = some (.int .i64 dn) := (Same.cells s15 _ _ lbcw14).trans bcw146
                  have bcw157 : w15.cell? ⟨w.heap.size + 1, 7, none⟩ = some (.string ds) := (Same.cells s15 _ _ lbcw14).trans bcw147
                  have lbdw15 : w.heap.size + 1 + 1 < w15.heap.size := Nat.lt_of_lt_of_le lbdw14 (Same.size s15)
                  have bdw150 : w15.cell? ⟨w.heap.size + 1 + 1, 0, none⟩ = some (.int .i64 k2) := (Same.cells s15 _ _ lbdw14).trans bdw140
                  have bdw151 : w15.cell? ⟨w.heap.size + 1 + 1, 1, none⟩ = some (.string t2) := (Same.cells s15 _ _ lbdw14).trans bdw141
                  have bdw152 : w15.cell? ⟨w.heap.size + 1 + 1, 2, none⟩ = some (.string aa2) := (Same.cells s15 _ _ lbdw14).trans bdw142
                  have bdw153 : w15.cell? ⟨w.heap.size + 1 + 1, 3, none⟩ = some (.string n2) := (Same.cells s15 _ _ lbdw14).trans bdw143
                  have bdw154 : w15.cell? ⟨w.heap.size + 1 + 1, 4, none⟩ = some (.int .i64 to2) := (Same.cells s15 _ _ lbdw14).trans bdw144
                  have bdw155 : w15.cell? ⟨w.heap.size + 1 + 1, 5, none⟩ = some (.int .i64 dk2) := (Same.cells s15 _ _ lbdw14).trans bdw145
                  have bdw156 : w15.cell? ⟨w.heap.size + 1 + 1, 6, none⟩ = some (.int .i64 dn2) := (Same.cells s15 _ _ lbdw14).trans bdw146
                  have bdw157 : w15.cell? ⟨w.heap.size + 1 + 1, 7, none⟩ = some (.string ds2) := (Same.cells s15 _ _ lbdw14).trans bdw147
                  have lbaw15 : w4.heap.size < w15.heap.size := Nat.lt_of_lt_of_le lbaw14 (Same.size s15)
                  have baw150 : w15.cell? ⟨w4.heap.size, 0, none⟩ = some (.slice A1 m1 c1) := (Same.cells s15 _ _ lbaw14).trans baw140
                  have lbbw15 : w6.heap.size < w15.heap.size := Nat.lt_of_lt_of_le lbbw14 (Same.size s15)
                  have bbw150 : w15.cell? ⟨w6.heap.size, 0, none⟩ = some (.slice A2 m2 c2) := (Same.cells s15 _ _ lbbw14).trans bbw140
                  clear S_w_w14 S_w4_w14 S_w6_w14 S_w13_w14 lbsw14 bsw140 lbcw14 bcw140 bcw141 bcw142 bcw143 bcw144 bcw145 bcw146 bcw147 lbdw14 bdw140 bdw141 bdw142 bdw143 bdw144 bdw145 bdw146 bdw147 lbaw14 baw140 lbbw14 bbw140
                  clear s15
                  go_wp2_with (fail)
                  rw [HMOD.out]
                  refine (convertE ((raw % m : Nat) : Int) (HL.out.same S_w_w15.out) (TA2.out.same S_w6_w15.out) F2.out HN.out.1 HD.out.1 (R6.out.same S_w14_w15.out) HLN.out.2 HTL1.out.2).mono ?_
                  rintro e w16 ⟨A8, m8, c8, he, r8, s16⟩
                  rw [HM2.out, ← X.out.2, X.out.1] at he
                  rw [HM2.out, ← X.out.2] at r8
                  subst he
                  have R8 := Lib.hid r8
                  clear r8
                  have S_w_w16 : Hid (Same w w16) := S_w_w15.out.trans s16
                  have S_w4_w16 : Hid (Same w4 w16) := S_w4_w15.out.trans s16
                  have S_w6_w16 : Hid (Same w6 w16) := S_w6_w15.out.trans s16
                  have S_w13_w16 : Hid (Same w13 w16) := S_w13_w15.out.trans s16
                  have S_w14_w16 : Hid (Same w14 w16) := S_w14_w15.out.trans s16
                  have S_w15_w16 : Hid (Same w15 w16) := s16
                  have lbsw16 : w.heap.size < w16.heap.size := Nat.lt_of_lt_of_le lbsw15 (Same.size s16)
                  have bsw160 : w16.cell? ⟨w.heap.size, 0, none⟩ = some (.slice A m cc) := (Same.cells s16 _ _ lbsw15).trans bsw150
                  have lbcw16 : w.heap.size + 1 < w16.heap.size := Nat.lt_of_lt_of_le lbcw15 (Same.size s16)
                  have bcw160 : w16.cell? ⟨w.heap.size + 1, 0, none⟩ = some (.int .i64 k) := (Same.cells s16 _ _ lbcw15).trans bcw150
                  have bcw161 : w16.cell? ⟨w.heap.size + 1, 1, none⟩ = some (.string t) := (Same.cells s16 _ _ lbcw15).trans bcw151
                  have bcw162 : w16.cell? ⟨w.heap.size + 1, 2, none⟩ = some (.string aa) := (Same.cells s16 _ _ lbcw15).trans bcw152
                  have bcw163 : w16.cell? ⟨w.heap.size + 1, 3, none⟩ = some (.string n) := (Same.cells s16 _ _ lbcw15).trans bcw153
                  have bcw164 : w16.cell? ⟨w.heap.size + 1, 4, none⟩ = some (.int .i64 to_) := (Same.cells s16 _ _ lbcw15).trans bcw154
                  have bcw165 : w16.cell? ⟨w.heap.size + 1, 5, none⟩ = some (.int .i64 dk) := (Same.cells s16 _ _ lbcw15).trans bcw155
                  have bcw166 : w16.cell? ⟨w.heap.size + 1, 6, none⟩ = some (.int .i64 dn) := (Same.cells s16 _ _ lbcw15).trans bcw156
                  have bcw167 : w16.cell? ⟨w.heap.size + 1, 7, none⟩ = some (.string ds) := (Same.cells s16 _ _ lbcw15).trans bcw157
                  have lbdw16 : w.heap.size + 1 + 1 < w16.heap.size := Nat.lt_of_lt_of_le lbdw15 (Same.size s16)
                  have bdw160 : w16.cell? ⟨w.heap.size + 1 + 1, 0, none⟩ = some (.int .i64 k2) := (Same.cells s16 _ _ lbdw15).trans bdw150
                  have bdw161 : w16.cell? ⟨w.heap.size + 1 + 1, 1, none⟩ = some (.string t2) := (Same.cells s16 _ _ lbdw15).trans bdw151
                  have bdw162 : w16.cell? ⟨w.heap.size + 1 + 1, 2, none⟩ = some (.string aa2) := (Same.cells s16 _ _ lbdw15).trans bdw152
                  have bdw163 : w16.cell? ⟨w.heap.size + 1 + 1, 3, none⟩ = some (.string n2) := (Same.cells s16 _ _ lbdw15).trans bdw153
                  have bdw164 : w16.cell? ⟨w.heap.size + 1 + 1, 4, none⟩ = some (.int .i64 to2) := (Same.cells s16 _ _ lbdw15).trans bdw154
                  have bdw165 : w16.cell? ⟨w.heap.size + 1 + 1, 5, none⟩ = some (.int .i64 dk2) := (Same.cells s16 _ _ lbdw15).trans bdw155
                  have bdw166 : w16.cell? ⟨w.heap.size + 1 + 1, 6, none⟩ = some (.int .i64 dn2) := (Same.cells s16 _ _ lbdw15).trans bdw156
                  have bdw167 : w16.cell? ⟨w.heap.size + 1 + 1, 7, none⟩ = some (.string ds2) := (Same.cells s16 _ _ lbdw15).trans bdw157
                  have lbaw16 : w4.heap.size < w16.heap.size := Nat.lt_of_lt_of_le lbaw15 (Same.size s16)
                  have baw160 : w16.cell? ⟨w4.heap.size, 0, none⟩ = some (.slice A1 m1 c1) := (Same.cells s16 _ _ lbaw15).trans baw150
                  have lbbw16 : w6.heap.size < w16.heap.size := Nat.lt_of_lt_of_le lbbw15 (Same.size s16)
                  have bbw160 : w16.cell? ⟨w6.heap.size, 0, none⟩ = some (.slice A2 m2 c2) := (Same.cells s16 _ _ lbbw15).trans bbw150
                  clear S_w_w15 S_w4_w15 S_w6_w15 S_w13_w15 S_w14_w15 lbsw15 bsw150 lbcw15 bcw150 bcw151 bcw152 bcw153 bcw154 bcw155 bcw156 bcw157 lbdw15 bdw150 bdw151 bdw152 bdw153 bdw154 bdw155 bdw156 bdw157 lbaw15 baw150 lbbw15 bbw150
                  clear s16
                  go_wp2_with (fail)
                  refine (rowsE (R7.out.same S_w15_w16.out) R8.out rfl).mono ?_
                  rintro e w17 ⟨rfl, s17⟩
                  have S_w_w17 : Hid (Same w w17) := S_w_w16.out.trans s17
                  have S_w4_w17 : Hid (Same w4 w17) := S_w4_w16.out.trans s17
                  have S_w6_w17 : Hid (Same w6 w17) := S_w6_w16.out.trans s17
                  have S_w13_w17 : Hid (Same w13 w17) := S_w13_w16.out.trans s17
                  have S_w14_w17 : Hid (Same w14 w17) := S_w14_w16.out.trans s17
                  have S_w15_w17 : Hid (Same w15 w17) := S_w15_w16.out.trans s17
                  have lbsw17 : w.heap.size < w17.heap.size := Nat.lt_of_lt_of_le lbsw16 (Same.size s17)
                  have bsw170 : w17.cell? ⟨w.heap.size, 0, none⟩ = some (.slice A m cc) := (Same.cells s17 _ _ lbsw16).trans bsw160
                  have lbcw17 : w.heap.size + 1 < w17.heap.size := Nat.lt_of_lt_of_le lbcw16 (Same.size s17)
                  have bcw170 : w17.cell? ⟨w.heap.size + 1, 0, none⟩ = some (.int .i64 k) := (Same.cells s17 _ _ lbcw16).trans bcw160
                  have bcw171 : w17.cell? ⟨w.heap.size + 1, 1, none⟩ = some (.string t) := (Same.cells s17 _ _ lbcw16).trans bcw161
                  have bcw172 : w17.cell? ⟨w.heap.size + 1, 2, none⟩ = some (.string aa) := (Same.cells s17 _ _ lbcw16).trans bcw162
                  have bcw173 : w17.cell? ⟨w.heap.size + 1, 3, none⟩ = some (.string n) := (Same.cells s17 _ _ lbcw16).trans bcw163
                  have bcw174 : w17.cell? ⟨w.heap.size + 1, 4, none⟩ = some (.int .i64 to_) := (Same.cells s17 _ _ lbcw16).trans bcw164
                  have bcw175 : w17.cell? ⟨w.heap.size + 1, 5, none⟩ = some (.int .i64 dk) := (Same.cells s17 _ _ lbcw16).trans bcw165
                  have bcw176 : w17.cell? ⟨w.heap.size + 1, 6, none⟩ = some (.int .i64 dn) := (Same.cells s17 _ _ lbcw16).trans bcw166
                  have bcw177 : w17.cell? ⟨w.heap.size + 1, 7, none⟩ = some (.string ds) := (Same.cells s17 _ _ lbcw16).trans bcw167
                  have lbdw17 : w.heap.size + 1 + 1 < w17.heap.size := Nat.lt_of_lt_of_le lbdw16 (Same.size s17)
                  have bdw170 : w17.cell? ⟨w.heap.size + 1 + 1, 0, none⟩ = some (.int .i64 k2) := (Same.cells s17 _ _ lbdw16).trans bdw160
                  have bdw171 : w17.cell? ⟨w.heap.size + 1 + 1, 1, none⟩ = some (.string t2) := (Same.cells s17 _ _ lbdw16).trans bdw161
                  have bdw172 : w17.cell? ⟨w.heap.size + 1 + 1, 2, none⟩ = some (.string aa2) := (Same.cells s17 _ _ lbdw16).trans bdw162
                  have bdw173 : w17.cell? ⟨w.heap.size + 1 + 1, 3, none⟩ = some (.string n2) := (Same.cells s17 _ _ lbdw16).trans bdw163
                  have bdw174 : w17.cell? ⟨w.heap.size + 1 + 1, 4, none⟩ = some (.int .i64 to2) := (Same.cells s17 _ _ lbdw16).trans bdw164
                  have bdw175 : w17.cell? ⟨w.heap.size + 1 + 1, 5, none⟩ = some (.int .i64 dk2) := (Same.cells s17 _ _ lbdw16).trans bdw165
                  have bdw176 : w17.cell? ⟨w.heap.size + 1 + 1, 6, none⟩ = some (.int .i64 dn2) := (Same.cells s17 _ _ lbdw16).trans bdw166
                  have bdw177 : w17.cell? ⟨w.heap.size + 1 + 1, 7, none⟩ = some (.string ds2) := (Same.cells s17 _ _ lbdw16).trans bdw167
                  have lbaw17 : w4.heap.size < w17.heap.size := Nat.lt_of_lt_of_le lbaw16 (Same.size s17)
                  have baw170 : w17.cell? ⟨w4.heap.size, 0, none⟩ = some (.slice A1 m1 c1) := (Same.cells s17 _ _ lbaw16).trans baw160
                  have lbbw17 : w6.heap.size < w17.heap.size := Nat.lt_of_lt_of_le lbbw16 (Same.size s17)
                  have bbw170 : w17.cell? ⟨w6.heap.size, 0, none⟩ = some (.slice A2 m2 c2) := (Same.cells s17 _ _ lbbw16).trans bbw160
                  clear S_w_w16 S_w4_w16 S_w6_w16 S_w13_w16 S_w14_w16 S_w15_w16 lbsw16 bsw160 lbcw16 bcw160 bcw161 bcw162 bcw163 bcw164 bcw165 bcw166 bcw167 lbdw16 bdw160 bdw161 bdw162 bdw163 bdw164 bdw165 bdw166 bdw167 lbaw16 baw160 lbbw16 bbw160
                  clear s17
                  go_wp2_with (fail)
                  go_ret
                  first | exact ⟨rfl, S_w_w17.out⟩ | exact ⟨rfl, S_w_w17.out.alloc _⟩ | exact ⟨rfl, (S_w_w17.out.alloc _).alloc _⟩
                · have y2 : (Y2 != 0) = true := by simp [hy2]
                  subst hy1
                  clear hy2
                  go_wp2_with (fail)
                  go_ret
                  first | exact ⟨rfl, S_w_w14.out⟩ | exact ⟨rfl, S_w_w14.out.alloc _⟩ | exact ⟨rfl, (S_w_w14.out.alloc _).alloc _⟩
              · have y1 : (Y1 != 0) = true := by simp [hy1]
                clear hy1
                go_wp2_with (fail)
                go_ret
                first | exact ⟨rfl, S_w_w14.out⟩ | exact ⟨rfl, S_w_w14.out.alloc _⟩ | exact ⟨rfl, (S_w_w14.out.alloc _).alloc _⟩
            · have e2 : (E2 != 0) = true := by simp [hz2]
              subst hz1
              clear hz2
              go_wp2_with (fail)
              refine (apply_genE (HA.out.same S_w_w3.out) HF.out HN.out.1 HD.out.1).mono ?_
              rintro e w4 ⟨A1, m1, c1, he, s4⟩
              rw [← HE1.out] at he
              subst he
              have S_w_w4 : Hid (Same w w4) := S_w_w3.out.trans s4
              have lbsw4 : w.heap.size < w4.heap.size := Nat.lt_of_lt_of_le lbsw3 (Same.size s4)
              have bsw40 : w4.cell? ⟨w.heap.size, 0, none⟩ = some (.slice A m cc) := (Same.cells s4 _ _ lbsw3).trans bsw30
              have lbcw4 : w.heap.size + 1 < w4.heap.size := Nat.lt_of_lt_of_le lbcw3 (Same.size s4)
              have bcw40 : w4.cell? ⟨w.heap.size + 1, 0, none⟩ = some (.int .i64 k) := (Same.cells s4 _ _ lbcw3).trans bcw30
              have bcw41 : w4.cell? ⟨w.heap.size + 1, 1, none⟩ = some (.string t) := (Same.cells s4 _ _ lbcw3).trans bcw31
              have bcw42 : w4.cell? ⟨w.heap.size + 1, 2, none⟩ = some (.string aa) := (Same.cells s4 _ _ lbcw3).trans bcw32
              have bcw43 : w4.cell? ⟨w.heap.size + 1, 3, none⟩ = some (.string n) := (Same.cells s4 _ _ lbcw3).trans bcw33
              have bcw44 : w4.cell? ⟨w.heap.size + 1, 4, none⟩ = some (.int .i64 to_) := (Same.cells s4 _ _ lbcw3).trans bcw34
              have bcw45 : w4.cell? ⟨w.heap.size + 1, 5, none⟩ = some (.int .i64 dk) := (Same.cells s4 _ _ lbcw3).trans bcw35
              have bcw46 : w4.cell? ⟨w.heap.size + 1, 6, none⟩ = some (.int .i64 dn) := (Same.cells s4 _ _ lbcw3).trans bcw36
              have bcw47 : w4.cell? ⟨w.heap.size + 1, 7, none⟩ = some (.string ds) := (Same.cells s4 _ _ lbcw3).trans bcw37
              have lbdw4 : w.heap.size + 1 + 1 < w4.heap.size := Nat.lt_of_lt_of_le lbdw3 (Same.size s4)
              have bdw40 : w4.cell? ⟨w.heap.size + 1 + 1, 0, none⟩ = some (.int .i64 k2) := (Same.cells s4 _ _ lbdw3).trans bdw30
              have bdw41 : w4.cell? ⟨w.heap.size + 1 + 1, 1, none⟩ = some (.string t2) := (Same.cells s4 _ _ lbdw3).trans bdw31
              have bdw42 : w4.cell? ⟨w.heap.size + 1 + 1, 2, none⟩ = some (.string aa2) := (Same.cells s4 _ _ lbdw3).trans bdw32
              have bdw43 : w4.cell? ⟨w.heap.size + 1 + 1, 3, none⟩ = some (.string n2) := (Same.cells s4 _ _ lbdw3).trans bdw33
              have bdw44 : w4.cell? ⟨w.heap.size + 1 + 1, 4, none⟩ = some (.int .i64 to2) := (Same.cells s4 _ _ lbdw3).trans bdw34
              have bdw45 : w4.cell? ⟨w.heap.size + 1 + 1, 5, none⟩ = some (.int .i64 dk2) := (Same.cells s4 _ _ lbdw3).trans bdw35
              have bdw46 : w4.cell? ⟨w.heap.size + 1 + 1, 6, none⟩ = some (.int .i64 dn2) := (Same.cells s4 _ _ lbdw3).trans bdw36
              have bdw47 : w4.cell? ⟨w.heap.size + 1 + 1, 7, none⟩ = some (.string ds2) := (Same.cells s4 _ _ lbdw3).trans bdw37
              clear S_w_w3 lbsw3 bsw30 lbcw3 bcw30 bcw31 bcw32 bcw33 bcw34 bcw35 bcw36 bcw37 lbdw3 bdw30 bdw31 bdw32 bdw33 bdw34 bdw35 bdw36 bdw37
              clear s4
              go_wp2_with (fail)
              obtain ⟨W5, hW5⟩ : ∃ W5, W5 = w4.alloc (.cells #[.slice A1 m1 c1] 24) := ⟨_, rfl⟩
              have sW5 : Same w4 W5 := by rw [hW5]; exact (Same.refl w4).alloc _
              have Bba : Blk W5 w4.heap.size 24 #[.slice A1 m1 c1] := by rw [hW5]; exact Blk.new w4 _ _
              rw [← hW5]
              clear hW5
              have S_w_W5 : Hid (Same w W5) := S_w_w4.out.trans sW5
              have lbsW5 : w.heap.size < W5.heap.size := Nat.lt_of_lt_of_le lbsw4 (Same.size sW5)
              have bsW50 : W5.cell? ⟨w.heap.size, 0, none⟩ = some (.slice A m cc) := (Same.cells sW5 _ _ lbsw4).trans bsw40
              have lbcW5 : w.heap.size + 1 < W5.heap.size := Nat.lt_of_lt_of_le lbcw4 (Same.size sW5)
              have bcW50 : W5.cell? ⟨w.heap.size + 1, 0, none⟩ = some (.int .i64 k) := (Same.cells sW5 _ _ lbcw4).trans bcw40
              have bcW51 : W5.cell? ⟨w.heap.size + 1, 1, none⟩ = some (.string t) := (Same.cells sW5 _ _ lbcw4).trans bcw41
              have bcW52 : W5.cell? ⟨w.heap.size + 1, 2, none⟩ = some (.string aa) := (Same.cells sW5 _ _ lbcw4).trans bcw42
              have bcW53 : W5.cell? ⟨w.heap.size + 1, 3, none⟩ = some (.string n) := (Same.cells sW5 _ _ lbcw4).trans bcw43
              have bcW54 : W5.cell? ⟨w.heap.size + 1, 4, none⟩ = some (.int .i64 to_) := (Same.cells sW5 _ _ lbcw4).trans bcw44
              have bcW55 : W5.cell? ⟨w.heap.size + 1, 5, none⟩ = some (.int .i64 dk) := (Same.cells sW5 _ _ lbcw4).trans bcw45
              have bcW56 : W5.cell? ⟨w.heap.size + 1, 6, none⟩ = some (.int .i64 dn) := (Same.cells sW5 _ _ lbcw4).trans bcw46
              have bcW57 : W5.cell? ⟨w.heap.size + 1, 7, none⟩ = some (.string ds) := (Same.cells sW5 _ _ lbcw4).trans bcw47
              have lbdW5 : w.heap.size + 1 + 1 < W5.heap.size := Nat.lt_of_lt_of_le lbdw4 (Same.size sW5)
              have bdW50 : W5.cell? ⟨w.heap.size + 1 + 1, 0, none⟩ = some (.int .i64 k2) := (Same.cells sW5 _ _ lbdw4).trans bdw40
              have bdW51 : W5.cell? ⟨w.heap.size + 1 + 1, 1, none⟩ = some (.string t2) := (Same.cells sW5 _ _ lbdw4).trans bdw41
              have bdW52 : W5.cell? ⟨w.heap.size + 1 + 1, 2, none⟩ = some (.string aa2) := (Same.cells sW5 _ _ lbdw4).trans bdw42
              have bdW53 : W5.cell? ⟨w.heap.size + 1 + 1, 3, none⟩ = some (.string n2) := (Same.cells sW5 _ _ lbdw4).trans bdw43
              have bdW54 : W5.cell? ⟨w.heap.size + 1 + 1, 4, none⟩ = some (.int .i64 to2) := (Same.cells sW5 _ _ lbdw4).trans bdw44
              have bdW55 : W5.cell? ⟨w.heap.size + 1 + 1, 5, none⟩ = some (.int .i64 dk2) := (Same.cells sW5 _ _ lbdw4).trans bdw45
              have bdW56 : W5.cell? ⟨w.heap.size + 1 + 1, 6, none⟩ = some (.int .i64 dn2) := (Same.cells sW5 _ _ lbdw4).trans bdw46
              have bdW57 : W5.cell? ⟨w.heap.size + 1 + 1, 7, none⟩ = some (.string ds2) := (Same.cells sW5 _ _ lbdw4).trans bdw47
              clear S_w_w4 lbsw4 bsw40 lbcw4 bcw40 bcw41 bcw42 bcw43 bcw44 bcw45 bcw46 bcw47 lbdw4 bdw40 bdw41 bdw42 bdw43 bdw44 bdw45 bdw46 bdw47
              have lbaW5 := Bba.lt
              have baW50 : W5.cell? ⟨w4.heap.size, 0, none⟩ = some (.slice A1 m1 c1) := Bba.cell 0
              clear Bba sW5
              refine (apply_genE (HA.out.same S_w_W5.out) HF.out HN.out.2 HD.out.2).mono ?_
              rintro e w6 ⟨A2, m2, c2, he, s6⟩
              rw [← HE2.out] at he
              subst he
              have S_w_w6 : Hid (Same w w6) := S_w_W5.out.trans s6
              have lbsw6 : w.heap.size < w6.heap.size := Nat.lt_of_lt_of_le lbsW5 (Same.size s6)
              have bsw60 : w6.cell? ⟨w.heap.size, 0, none⟩ = some (.slice A m cc) := (Same.cells s6 _ _ lbsW5).trans bsW50
              have lbcw6 : w.heap.size + 1 < w6.heap.size := Nat.lt_of_lt_of_le lbcW5 (Same.size s6)
              have bcw60 : w6.cell? ⟨w.heap.size + 1, 0, none⟩ = some (.int .i64 k) := (Same.cells s6 _ _ lbcW5).trans bcW50
              have bcw61 : w6.cell? ⟨w.heap.size + 1, 1, none⟩ = some (.string t) := (Same.cells s6 _ _ lbcW5).trans bcW51
              have bcw62 : w6.cell? ⟨w.heap.size + 1, 2, none⟩ = some (.string aa) := (Same.cells s6 _ _ lbcW5).trans bcW52
              have bcw63 : w6.cell? ⟨w.heap.size + 1, 3, none⟩ = some (.string n) := (Same.cells s6 _ _ lbcW5).trans bcW53
              have bcw64 : w6.cell? ⟨w.heap.size + 1, 4, none⟩ = some (.int .i64 to_) := (Same.cells s6 _ _ lbcW5).trans bcW54
              have bcw65 : w6.cell? ⟨w.heap.size + 1, 5, none⟩ = some (.int .i64 dk) := (Same.cells s6 _ _ lbcW5).trans bcW55
              have bcw66 : w6.cell? ⟨w.heap.size + 1, 6, none⟩ = some (.int .i64 dn) := (Same.cells s6 _ _ lbcW5).trans bcW56
              have bcw67 : w6.cell? ⟨w.heap.size + 1, 7, none⟩ = some (.string ds) := (Same.cells s6 _ _ lbcW5).trans bcW57
              have lbdw6 : w.heap.size + 1 + 1 < w6.heap.size := Nat.lt_of_lt_of_le lbdW5 (Same.size s6)
              have bdw60 : w6.cell? ⟨w.heap.size + 1 + 1, 0, none⟩ = some (.int .i64 k2) := (Same.cells s6 _ _ lbdW5).trans bdW50
              have bdw61 : w6.cell? ⟨w.heap.size + 1 + 1, 1, none⟩ = some (.string t2) := (Same.cells s6 _ _ lbdW5).trans bdW51
              have bdw62 : w6.cell? ⟨w.heap.size + 1 + 1, 2, none⟩ = some (.string aa2) := (Same.cells s6 _ _ lbdW5).trans bdW52
              have bdw63 : w6.cell? ⟨w.heap.size + 1 + 1, 3, none⟩ = some (.string n2) := (Same.cells s6 _ _ lbdW5).trans bdW53
              have bdw64 : w6.cell? ⟨w.heap.size + 1 + 1, 4, none⟩ = some (.int .i64 to2) := (Same.cells s6 _ _ lbdW5).trans bdW54
              have bdw65 : w6.cell? ⟨w.heap.size + 1 + 1, 5, none⟩ = some (.int .i64 dk2) := (Same.cells s6 _ _ lbdW5).trans bdW55
              have bdw66 : w6.cell? ⟨w.heap.size + 1 + 1, 6, none⟩ = some (.int .i64 dn2) := (Same.cells s6 _ _ lbdW5).trans bdW56
              have bdw67 : w6.cell? ⟨w.heap.size + 1 + 1, 7, none⟩ = some (.string ds2) := (Same.cells s6 _ _ lbdW5).trans bdW57
              have lbaw6 : w4.heap.size < w6.heap.size := Nat.lt_of_lt_of_le lbaW5 (Same.size s6)
              have baw60 : w6.cell? ⟨w4.heap.size, 0, none⟩ = some (.slice A1 m1 c1) := (Same.cells s6 _ _ lbaW5).trans baW50
              clear S_w_W5 lbsW5 bsW50 lbcW5 bcW50 bcW51 bcW52 bcW53 bcW54 bcW55 bcW56 bcW57 lbdW5 bdW50 bdW51 bdW52 bdW53 bdW54 bdW55 bdW56 bdW57 lbaW5 baW50
              clear s6
              go_wp2_with (fail)
              go_ret
              first | exact ⟨rfl, S_w_w6.out⟩ | exact ⟨rfl, S_w_w6.out.alloc _⟩ | exact ⟨rfl, (S_w_w6.out.alloc _).alloc _⟩
          · have e1 : (E1 != 0) = true := by simp [hz1]
            clear hz1
            go_wp2_with (fail)
            refine (apply_genE (HA.out.same S_w_w3.out) HF.out HN.out.1 HD.out.1).mono ?_
            rintro e w4 ⟨A1, m1, c1, he, s4⟩
            rw [← HE1.out] at he
            subst he
            have S_w_w4 : Hid (Same w w4) := S_w_w3.out.trans s4
            have lbsw4 : w.heap.size < w4.heap.size := Nat.lt_of_lt_of_le lbsw3 (Same.size s4)
            have bsw40 : w4.cell? ⟨w.heap.size, 0, none⟩ = some (.slice A m cc) := (Same.cells s4 _ _ lbsw3).trans bsw30
            have lbcw4 : w.heap.size + 1 < w4.heap.size := Nat.lt_of_lt_of_le lbcw3 (Same.size s4)
            have bcw40 : w4.cell? ⟨w.heap.size + 1, 0, none⟩ = some (.int .i64 k) := (Same.cells s4 _ _ lbcw3).trans bcw30
            have bcw41 : w4.cell? ⟨w.heap.size + 1, 1, none⟩ = some (.string t) := (Same.cells s4 _ _ lbcw3).trans bcw31
            have bcw42 : w4.cell? ⟨w.heap.size + 1, 2, none⟩ = some (.string aa) := (Same.cells s4 _ _ lbcw3).trans bcw32
            have bcw43 : w4.cell? ⟨w.heap.size + 1, 3, none⟩ = some (.string n) := (Same.cells s4 _ _ lbcw3).trans bcw33
            have bcw44 : w4.cell? ⟨w.heap.size + 1, 4, none⟩ = some (.int .i64 to_) := (Same.cells s4 _ _ lbcw3).trans bcw34
            have bcw45 : w4.cell? ⟨w.heap.size + 1, 5, none⟩ = some (.int .i64 dk) := (Same.cells s4 _ _ lbcw3).trans bcw35
            have bcw46 : w4.cell? ⟨w.heap.size + 1, 6, none⟩ = some (.int .i64 dn) := (Same.cells s4 _ _ lbcw3).trans bcw36
            have bcw47 : w4.cell? ⟨w.heap.size + 1, 7, none⟩ = some (.string ds) := (Same.cells s4 _ _ lbcw3).trans bcw37
            have lbdw4 : w.heap.size + 1 + 1 < w4.heap.size := Nat.lt_of_lt_of_le lbdw3 (Same.size s4)
            have bdw40 : w4.cell? ⟨w.heap.size + 1 + 1, 0, none⟩ = some (.int .i64 k2) := (Same.cells s4 _ _ lbdw3).trans bdw30
            have bdw41 : w4.cell? ⟨w.heap.size + 1 + 1, 1, none⟩ = some (.string t2) := (Same.cells s4 _ _ lbdw3).trans bdw31
            have bdw42 : w4.cell? ⟨w.heap.size + 1 + 1, 2, none⟩ = some (.string aa2) := (Same.cells s4 _ _ lbdw3).trans bdw32
            have bdw43 : w4.cell? ⟨w.heap.size + 1 + 1, 3, none⟩ = some (.string n2) := (Same.cells s4 _ _ lbdw3).trans bdw33
            have bdw44 : w4.cell? ⟨w.heap.size + 1 + 1, 4, none⟩ = some (.int .i64 to2) := (Same.cells s4 _ _ lbdw3).trans bdw34
            have bdw45 : w4.cell? ⟨w.heap.size + 1 + 1, 5, none⟩ = some (.int .i64 dk2) := (Same.cells s4 _ _ lbdw3).trans bdw35
            have bdw46 : w4.cell? ⟨w.heap.size + 1 + 1, 6, none⟩ = some (.int .i64 dn2) := (Same.cells s4 _ _ lbdw3).trans bdw36
            have bdw47 : w4.cell? ⟨w.heap.size + 1 + 1, 7, none⟩ = some (.string ds2) := (Same.cells s4 _ _ lbdw3).trans bdw37
            clear S_w_w3 lbsw3 bsw30 lbcw3 bcw30 bcw31 bcw32 bcw33 bcw34 bcw35 bcw36 bcw37 lbdw3 bdw30 bdw31 bdw32 bdw33 bdw34 bdw35 bdw36 bdw37
            clear s4
            go_wp2_with (fail)
            obtain ⟨W5, hW5⟩ : ∃ W5, W5 = w4.alloc (.cells #[.slice A1 m1 c1] 24) := ⟨_, rfl⟩
            have sW5 : Same w4 W5 := by rw [hW5]; exact (Same.refl w4).alloc _
            have Bba : Blk W5 w4.heap.size 24 #[.slice A1 m1 c1] := by rw [hW5]; exact Blk.new w4 _ _
            rw [← hW5]
            clear hW5
            have S_w_W5 : Hid (Same w W5) := S_w_w4.out.trans sW5
            have lbsW5 : w.heap.size < W5.heap.size := Nat.lt_of_lt_of_le lbsw4 (Same.size sW5)
            have bsW50 : W5.cell? ⟨w.heap.size, 0, none⟩ = some (.slice A m cc) := (Same.cells sW5 _ _ lbsw4).trans bsw40
            have lbcW5 : w.heap.size + 1 < W5.heap.size := Nat.lt_of_lt_of_le lbcw4 (Same.size sW5)
            have bcW50 : W5.cell? ⟨w.heap.size + 1, 0, none⟩ = some (.int .i64 k) := (Same.cells sW5 _ _ lbcw4).trans bcw40
            have bcW51 : W5.cell? ⟨w.heap.size + 1, 1, none⟩ = some (.string t) := (Same.cells sW5 _ _ lbcw4).trans bcw41
            have bcW52 : W5.cell? ⟨w.heap.size + 1, 2, none⟩ = some (.string aa) := (Same.cells sW5 _ _ lbcw4).trans bcw42
            have bcW53 : W5.cell? ⟨w.heap.size + 1, 3, none⟩ = some (.string n) := (Same.cells sW5 _ _ lbcw4).trans bcw43
            have bcW54 : W5.cell? ⟨w.heap.size + 1, 4, none⟩ = some (.int .i64 to_) := (Same.cells sW5 _ _ lbcw4).trans bcw44
            have bcW55 : W5.cell? ⟨w.heap.size + 1, 5, none⟩ = some (.int .i64 dk) := (Same.cells sW5 _ _ lbcw4).trans bcw45
            have bcW56 : W5.cell? ⟨w.heap.size + 1, 6, none⟩ = some (.int .i64 dn) := (Same.cells sW5 _ _ lbcw4).trans bcw46
            have bcW57 : W5.cell? ⟨w.heap.size + 1, 7, none⟩ = some (.string ds) := (Same.cells sW5 _ _ lbcw4).trans bcw47
            have lbdW5 : w.heap.size + 1 + 1 < W5.heap.size := Nat.lt_of_lt_of_le lbdw4 (Same.size sW5)
            have bdW50 : W5.cell? ⟨w.heap.size + 1 + 1, 0, none⟩ = some (.int .i64 k2) := (Same.cells sW5 _ _ lbdw4).trans bdw40
            have bdW51 : W5.cell? ⟨w.heap.size + 1 + 1, 1, none⟩ = some (.string t2) := (Same.cells sW5 _ _ lbdw4).trans bdw41
            have bdW52 : W5.cell? ⟨w.heap.size + 1 + 1, 2, none⟩ = some (.string aa2) := (Same.cells sW5 _ _ lbdw4).trans bdw42
            have bdW53 : W5.cell? ⟨w.heap.size + 1 + 1, 3, none⟩ = some (.string n2) := (Same.cells sW5 _ _ lbdw4).trans bdw43
            have bdW54 : W5.cell? ⟨w.heap.size + 1 + 1, 4, none⟩ = some (.int .i64 to2) := (Same.cells sW5 _ _ lbdw4).trans bdw44
            have bdW55 : W5.cell? ⟨w.heap.size + 1 + 1, 5, none⟩ = some (.int .i64 dk2) := (Same.cells sW5 _ _ lbdw4).trans bdw45
            have bdW56 : W5.cell? ⟨w.heap.size + 1 + 1, 6, none⟩ = some (.int .i64 dn2) := (Same.cells sW5 _ _ lbdw4).trans bdw46
            have bdW57 : W5.cell? ⟨w.heap.size + 1 + 1, 7, none⟩ = some (.string ds2) := (Same.cells sW5 _ _ lbdw4).trans bdw47
            clear S_w_w4 lbsw4 bsw40 lbcw4 bcw40 bcw41 bcw42 bcw43 bcw44 bcw45 bcw46 bcw47 lbdw4 bdw40 bdw41 bdw42 bdw43 bdw44 bdw45 bdw46 bdw47
            have lbaW5 := Bba.lt
            have baW50 : W5.cell? ⟨w4.heap.size, 0, none⟩ = some (.slice A1 m1 c1) := Bba.cell 0
            clear Bba sW5
            refine (apply_genE (HA.out.same S_w_W5.out) HF.out HN.out.2 HD.out.2).mono ?_
            rintro e w6 ⟨A2, m2, c2, he, s6⟩
            rw [← HE2.out] at he
            subst he
            have S_w_w6 : Hid (Same w w6) := S_w_W5.out.trans s6
            have lbsw6 : w.heap.size < w6.heap.size := Nat.lt_of_lt_of_le lbsW5 (Same.size s6)
            have bsw60 : w6.cell? ⟨w.heap.size, 0, none⟩ = some (.slice A m cc) := (Same.cells s6 _ _ lbsW5).trans bsW50
            have lbcw6 : w.heap.size + 1 < w6.heap.size := Nat.lt_of_lt_of_le lbcW5 (Same.size s6)
            have bcw60 : w6.cell? ⟨w.heap.size + 1, 0, none⟩ = some (.int .i64 k) := (Same.cells s6 _ _ lbcW5).trans bcW50
            have bcw61 : w6.cell? ⟨w.heap.size + 1, 1, none⟩ = some (.string t) := (Same.cells s6 _ _ lbcW5).trans bcW51
            have bcw62 : w6.cell? ⟨w.heap.size + 1, 2, none⟩ = some (.string aa) := (Same.cells s6 _ _ lbcW5).trans bcW52
            have bcw63 : w6.cell? ⟨w.heap.size + 1, 3, none⟩ = some (.string n) := (Same.cells s6 _ _ lbcW5).trans bcW53
            have bcw64 : w6.cell? ⟨w.heap.size + 1, 4, none⟩ = some (.int .i64 to_) := (Same.cells s6 _ _ lbcW5).trans bcW54
            have bcw65 : w6.cell? ⟨w.heap.size + 1, 5, none⟩ = some (.int .i64 dk) := (Same.cells s6 _ _ lbcW5).trans bcW55
            have bcw66 : w6.cell? ⟨w.heap.size + 1, 6, none⟩ = some (.int .i64 dn) := (Same.cells s6 _ _ lbcW5).trans bcW56
            have bcw67 : w6.cell? ⟨w.heap.size + 1, 7, none⟩ = some (.string ds) := (Same.cells s6 _ _ lbcW5).trans bcW57
            have lbdw6 : w.heap.size + 1 + 1 < w6.heap.size := Nat.lt_of_lt_of_le lbdW5 (Same.size s6)
            have bdw60 : w6.cell? ⟨w.heap.size + 1 + 1, 0, none⟩ = some (.int .i64 k2) := (Same.cells s6 _ _ lbdW5).trans bdW50
            have bdw61 : w6.cell? ⟨w.heap.size + 1 + 1, 1, none⟩ = some (.string t2) := (Same.cells s6 _ _ lbdW5).trans bdW51
            have bdw62 : w6.cell? ⟨w.heap.size + 1 + 1, 2, none⟩ = some (.string aa2) := (Same.cells s6 _ _ lbdW5).trans bdW52
            have bdw63 : w6.cell? ⟨w.heap.size + 1 + 1, 3, none⟩ = some (.string n2) := (Same.cells s6 _ _ lbdW5).trans bdW53
            have bdw64 : w6.cell? ⟨w.heap.size + 1 + 1, 4, none⟩ = some (.int .i64 to2) := (Same.cells s6 _ _ lbdW5).trans bdW54
            have bdw65 : w6.cell? ⟨w.heap.size + 1 + 1, 5, none⟩ = some (.int .i64 dk2) := (Same.cells s6 _ _ lbdW5).trans bdW55
            have bdw66 : w6.cell? ⟨w.heap.size + 1 + 1, 6, none⟩ = some (.int .i64 dn2) := (Same.cells s6 _ _ lbdW5).trans bdW56
            have bdw67 : w6.cell? ⟨w.heap.size + 1 + 1, 7, none⟩ = some (.string ds2) := (Same.cells s6 _ _ lbdW5).trans bdW57
            have lbaw6 : w4.heap.size < w6.heap.size := Nat.lt_of_lt_of_le lbaW5 (Same.size s6)
            have baw60 : w6.cell? ⟨w4.heap.size, 0, none⟩ = some (.slice A1 m1 c1) := (Same.cells s6 _ _ lbaW5).trans baW50
            clear S_w_W5 lbsW5 bsW50 lbcW5 bcW50 bcW51 bcW52 bcW53 bcW54 bcW55 bcW56 bcW57 lbdW5 bdW50 bdW51 bdW52 bdW53 bdW54 bdW55 bdW56 bdW57 lbaW5 baW50
            clear s6
            go_wp2_with (fail)
            go_ret
            first | exact ⟨rfl, S_w_w6.out⟩ | exact ⟨rfl, S_w_w6.out.alloc _⟩ | exact ⟨rfl, (S_w_w6.out.alloc _).alloc _⟩
end Go.Proofs.YtalpbodjplnjcaaGreatDoor

/- SchemaBack: the walk. Conditions: Laid. -/
import Derived.Test.YtalpbodjplnjcaaGreatDoorKOa
set_option linter.unusedSimpArgs false
set_option linter.unusedVariables false
namespace Go.Proofs.YtalpbodjplnjcaaGreatDoor
open Go.RowKit

set_option maxHeartbeats 4000000 in
set_option maxRecDepth 100000 in
theorem back_walk (h : Hd) (ts : List RT) (c : Cg) (raw : Nat) (hr : Hd) (row : List V) (w : World) (hraw : raw < 256) (l : Laid w) (a : TabsAt w h ts) (r : RowAt w hr row) (hn : okS c.name) (hd : okS c.dflt.s) :
    Calls Tryz.prog 7 #[.agg #[h.val], c.val, .int .u8 raw, hr.val] w fun e w' => e = .returned (.bool true) ∧ Same w w' := by
  have HH := Lib.hid (fun W (s : Same w W) => head_ok W (l.same s))
  have HS := Lib.hid (fun W (s : Same w W) => small_ok h ts c hr.a hr.n hr.c W (a.same s) hn hd r.1.2.1)
  have HL := Lib.hid l
  have HA := Lib.hid a
  have HR := Lib.hid r
  have hml : ts.length = h.n := a.1.1
  have hmb : h.n ≤ 9223372036854775807 := a.1.2.1
  obtain ⟨A, m, cc⟩ := h
  obtain ⟨Ar, rm, rc⟩ := hr
  obtain ⟨k, t, aa, n, to_, ⟨dk, dn, ds⟩⟩ := c
  have hml' : ts.length = m := hml
  have hmb' : m ≤ 9223372036854775807 := hmb
  have HN : Hid (okS n) := hn
  have HD : Hid (okS ds) := hd
  clear hml hmb a r l hn hd
  show Calls Tryz.prog 7 #[.agg #[.slice A m cc], .agg #[.int .i64 k, .string t, .string aa, .string n, .int .i64 to_, .int .i64 dk, .int .i64 dn, .string ds], .int .u8 raw, .slice Ar rm rc] w _
  obtain ⟨q, hq⟩ : ∃ q, q = smallL (ts.map RT.tb) ⟨k, t, aa, n, to_, ⟨dk, dn, ds⟩⟩ rm := ⟨_, rfl⟩
  have HS' : Hid (∀ W, Same w W → Calls Tryz.prog 10 #[.agg #[.slice A m cc], .agg #[.int .i64 k, .string t, .string aa, .string n, .int .i64 to_, .int .i64 dk, .int .i64 dn, .string ds], .slice Ar rm rc] W fun e w' => e = .returned (.bool q) ∧ Same W w') := by rw [hq]; exact HS
  have HQ := Lib.hid hq
  clear HS hq
  go_enter Tryz.func7, Tryz.ntmps7
  go_wp2_with (fail)
  obtain ⟨W0, hW0⟩ : ∃ W0, W0 = (w.alloc (.cells #[.slice A m cc] 24)).alloc (.cells #[.int .i64 k, .string t, .string aa, .string n, .int .i64 to_, .int .i64 dk, .int .i64 dn, .string ds] 28) := ⟨_, rfl⟩
  have S0 : Hid (Same w W0) := by rw [hW0]; exact ((Same.refl w).alloc _).alloc _
  have B1 : Blk W0 w.heap.size 24 #[.slice A m cc] := by rw [hW0]; exact (Blk.new w _ _).alloc _
  have B2 : Blk W0 (w.heap.size + 1) 28 #[.int .i64 k, .string t, .string aa, .string n, .int .i64 to_, .int .i64 dk, .int .i64 dn, .string ds] := by
    rw [hW0]
    have e : w.heap.size + 1 = (w.alloc (.cells #[.slice A m cc] 24)).heap.size := by simp
    rw [e]; exact Blk.new _ _ _
  rw [← hW0]
  clear hW0
  have lbsW0 := B1.lt
  have lbcW0 := B2.lt
  have bsW00 : W0.cell? ⟨w.heap.size, 0, none⟩ = some (.slice A m cc) := B1.cell 0
  have bcW00 : W0.cell? ⟨w.heap.size + 1, 0, none⟩ = some (.int .i64 k) := B2.cell 0
  have bcW01 : W0.cell? ⟨w.heap.size + 1, 1, none⟩ = some (.string t) := B2.cell 1
  have bcW02 : W0.cell? ⟨w.heap.size + 1, 2, none⟩ = some (.string aa) := B2.cell 2
  have bcW03 : W0.cell? ⟨w.heap.size + 1, 3, none⟩ = some (.string n) := B2.cell 3
  have bcW04 : W0.cell? ⟨w.heap.size + 1, 4, none⟩ = some (.int .i64 to_) := B2.cell 4
  have bcW05 : W0.cell? ⟨w.heap.size + 1, 5, none⟩ = some (.int .i64 dk) := B2.cell 5
  have bcW06 : W0.cell? ⟨w.heap.size + 1, 6, none⟩ = some (.int .i64 dn) := B2.cell 6
  have bcW07 : W0.cell? ⟨w.heap.size + 1, 7, none⟩ = some (.string ds) := B2.cell 7
  clear B1 B2
  refine (HH.out _ S0.out).mono ?_
  rintro e w1 ⟨rfl, s1⟩
  have S1 : Hid (Same w w1) := S0.out.trans s1
  have lbsw1 : w.heap.size < w1.heap.size := Nat.lt_of_lt_of_le lbsW0 (s1).size
  have bsw10 : w1.cell? ⟨w.heap.size, 0, none⟩ = some (.slice A m cc) := ((s1).cells _ _ lbsW0).trans bsW00
  have lbcw1 : w.heap.size + 1 < w1.heap.size := Nat.lt_of_lt_of_le lbcW0 (s1).size
  have bcw10 : w1.cell? ⟨w.heap.size + 1, 0, none⟩ = some (.int .i64 k) := ((s1).cells _ _ lbcW0).trans bcW00
  have bcw11 : w1.cell? ⟨w.heap.size + 1, 1, none⟩ = some (.string t) := ((s1).cells _ _ lbcW0).trans bcW01
  have bcw12 : w1.cell? ⟨w.heap.size + 1, 2, none⟩ = some (.string aa) := ((s1).cells _ _ lbcW0).trans bcW02
  have bcw13 : w1.cell? ⟨w.heap.size + 1, 3, none⟩ = some (.string n) := ((s1).cells _ _ lbcW0).trans bcW03
  have bcw14 : w1.cell? ⟨w.heap.size + 1, 4, none⟩ = some (.int .i64 to_) := ((s1).cells _ _ lbcW0).trans bcW04
  have bcw15 : w1.cell? ⟨w.heap.size + 1, 5, none⟩ = some (.int .i64 dk) := ((s1).cells _ _ lbcW0).trans bcW05
  have bcw16 : w1.cell? ⟨w.heap.size + 1, 6, none⟩ = some (.int .i64 dn) := ((s1).cells _ _ lbcW0).trans bcW06
  have bcw17 : w1.cell? ⟨w.heap.size + 1, 7, none⟩ = some (.string ds) := ((s1).cells _ _ lbcW0).trans bcW07
  clear lbsW0 bsW00 lbcW0 bcW00 bcW01 bcW02 bcW03 bcW04 bcW05 bcW06 bcW07
  clear s1 S0
  go_wp2_with (fail)
  refine (HS'.out _ S1.out).mono ?_
  rintro e w2 ⟨rfl, s2⟩
  have S2 : Hid (Same w w2) := S1.out.trans s2
  have lbsw2 : w.heap.size < w2.heap.size := Nat.lt_of_lt_of_le lbsw1 (s2).size
  have bsw20 : w2.cell? ⟨w.heap.size, 0, none⟩ = some (.slice A m cc) := ((s2).cells _ _ lbsw1).trans bsw10
  have lbcw2 : w.heap.size + 1 < w2.heap.size := Nat.lt_of_lt_of_le lbcw1 (s2).size
  have bcw20 : w2.cell? ⟨w.heap.size + 1, 0, none⟩ = some (.int .i64 k) := ((s2).cells _ _ lbcw1).trans bcw10
  have bcw21 : w2.cell? ⟨w.heap.size + 1, 1, none⟩ = some (.string t) := ((s2).cells _ _ lbcw1).trans bcw11
  have bcw22 : w2.cell? ⟨w.heap.size + 1, 2, none⟩ = some (.string aa) := ((s2).cells _ _ lbcw1).trans bcw12
  have bcw23 : w2.cell? ⟨w.heap.size + 1, 3, none⟩ = some (.string n) := ((s2).cells _ _ lbcw1).trans bcw13
  have bcw24 : w2.cell? ⟨w.heap.size + 1, 4, none⟩ = some (.int .i64 to_) := ((s2).cells _ _ lbcw1).trans bcw14
  have bcw25 : w2.cell? ⟨w.heap.size + 1, 5, none⟩ = some (.int .i64 dk) := ((s2).cells _ _ lbcw1).trans bcw15
  have bcw26 : w2.cell? ⟨w.heap.size + 1, 6, none⟩ = some (.int .i64 dn) := ((s2).cells _ _ lbcw1).trans bcw16
  have bcw27 : w2.cell? ⟨w.heap.size + 1, 7, none⟩ = some (.string ds) := ((s2).cells _ _ lbcw1).trans bcw17
  clear lbsw1 bsw10 lbcw1 bcw10 bcw11 bcw12 bcw13 bcw14 bcw15 bcw16 bcw17
  clear s2 S1 HS' HH
  cases q with
  | false =>
    go_wp2_with (fail)
    go_ret
    exact ⟨rfl, S2.out⟩
  | true =>
    have HP : Hid (smallS (ts.map RT.tb) = true ∧ n.size ≤ 100 ∧ ds.size ≤ 300 ∧ rm ≤ 20) := small_parts HQ.out.symm
    by_cases hk : k = 1
    · subst hk
      by_cases hm : m = 0
      · subst hm
        go_wp2_with (fail)
        go_ret
        exact ⟨rfl, S2.out⟩
      · have t1 : (((m : Nat) : Int) == 0) = false := by simp [hm]

        obtain ⟨hS, hn100, hd300, hr20⟩ := HP.out
        obtain ⟨few, hts⟩ := few_of_small hS
        have HF := Lib.hid few
        have HRL : Hid (row.length ≤ 1000000) := by have e : row.length = rm := HR.out.1.1; exact Lib.hid (by omega)
        have HTL : Hid (ts.length ≤ 1000000) := Lib.hid (by omega)
        have hpos : 0 < m := Nat.pos_of_ne_zero hm
        have HNL : Hid (raw % m < ts.length) := Lib.hid (by rw [hml']; exact Nat.mod_lt _ hpos)
        have HMOD : Hid ((raw : Int) % (m : Int) = ((raw % m : Nat) : Int)) := Lib.hid (emod_nat raw m)
        clear few hts hS hn100 hd300 hr20 hpos
        by_cases hE : errOf (ts.map RT.tb) ⟨1, t, aa, n, to_, ⟨dk, dn, ds⟩⟩ = 0
        · have HA1 : Hid (∀ W, Same w W → Calls Tryz.prog 11 #[.agg #[.slice A m cc], .agg #[.int .i64 1, .string t, .string aa, .string n, .int .i64 to_, .int .i64 dk, .int .i64 dn, .string ds]] W fun e w' => ∃ (A1 : Option Addr) (m1 c1 : Nat) (ts1 : List RT), e = .returned (.tuple #[.agg #[.slice A1 m1 c1], .int .i64 0]) ∧ TabsAt w' ⟨A1, m1, c1⟩ ts1 ∧ ts1.map RT.tb = applyS (ts.map RT.tb) ⟨1, t, aa, n, to_, ⟨dk, dn, ds⟩⟩ ∧ Same W w') :=
            Lib.hid fun W s => apply_zeroE (HA.out.same s) HF.out HN.out HD.out hE
          have HE := Lib.hid hE
          clear hE
          go_wp2_with (fail)
          refine (HA1.out _ S2.out).mono ?_
          rintro e w3 ⟨A1, m1, c1, ts1, rfl, ta1, hm1, s3⟩
          have TA1 := Lib.hid ta1
          have HM1 := Lib.hid hm1
          have S3 : Hid (Same w w3) := S2.out.trans s3
          have S23 : Hid (Same w2 w3) := s3
          clear ta1 hm1 s3 HA1
          have lbsw3 : w.heap.size < w3.heap.size := Nat.lt_of_lt_of_le lbsw2 (S23.out).size
          have bsw30 : w3.cell? ⟨w.heap.size, 0, none⟩ = some (.slice A m cc) := ((S23.out).cells _ _ lbsw2).trans bsw20
          have lbcw3 : w.heap.size + 1 < w3.heap.size := Nat.lt_of_lt_of_le lbcw2 (S23.out).size
          have bcw30 : w3.cell? ⟨w.heap.size + 1, 0, none⟩ = some (.int .i64 1) := ((S23.out).cells _ _ lbcw2).trans bcw20
          have bcw31 : w3.cell? ⟨w.heap.size + 1, 1, none⟩ = some (.string t) := ((S23.out).cells _ _ lbcw2).trans bcw21
          have bcw32 : w3.cell? ⟨w.heap.size + 1, 2, none⟩ = some (.string aa) := ((S23.out).cells _ _ lbcw2).trans bcw22
          have bcw33 : w3.cell? ⟨w.heap.size + 1, 3, none⟩ = some (.string n) := ((S23.out).cells _ _ lbcw2).trans bcw23
          have bcw34 : w3.cell? ⟨w.heap.size + 1, 4, none⟩ = some (.int .i64 to_) := ((S23.out).cells _ _ lbcw2).trans bcw24
          have bcw35 : w3.cell? ⟨w.heap.size + 1, 5, none⟩ = some (.int .i64 dk) := ((S23.out).cells _ _ lbcw2).trans bcw25
          have bcw36 : w3.cell? ⟨w.heap.size + 1, 6, none⟩ = some (.int .i64 dn) := ((S23.out).cells _ _ lbcw2).trans bcw26
          have bcw37 : w3.cell? ⟨w.heap.size + 1, 7, none⟩ = some (.string ds) := ((S23.out).cells _ _ lbcw2).trans bcw27
          clear lbsw2 bsw20 lbcw2 bcw20 bcw21 bcw22 bcw23 bcw24 bcw25 bcw26 bcw27

          go_wp2_with (fail)
          obtain ⟨W4, hW4⟩ : ∃ W4, W4 = (w3.alloc (.cells #[.slice A1 m1 c1] 24)).alloc (.cells #[.int .i64 2, .string t, .string n, .string ⟨#[]⟩, .int .i64 0, .int .i64 0, .int .i64 0, .string ⟨#[]⟩] 28) := ⟨_, rfl⟩
          have s34 : Same w3 W4 := by rw [hW4]; exact ((Same.refl w3).alloc _).alloc _
          have B3 : Blk W4 w3.heap.size 24 #[.slice A1 m1 c1] := by rw [hW4]; exact (Blk.new w3 _ _).alloc _
          have B4 : Blk W4 (w3.heap.size + 1) 28 #[.int .i64 2, .string t, .string n, .string ⟨#[]⟩, .int .i64 0, .int .i64 0, .int .i64 0, .string ⟨#[]⟩] := by
            rw [hW4]
            have e : w3.heap.size + 1 = (w3.alloc (.cells #[.slice A1 m1 c1] 24)).heap.size := by simp
            rw [e]; exact Blk.new _ _ _
          rw [← hW4]
          clear hW4
          have S34 : Hid (Same w3 W4) := s34
          have S4 : Hid (Same w W4) := S3.out.trans s34
          have lbsW4 : w.heap.size < W4.heap.size := Nat.lt_of_lt_of_le lbsw3 (s34).size
          have bsW40 : W4.cell? ⟨w.heap.size, 0, none⟩ = some (.slice A m cc) := ((s34).cells _ _ lbsw3).trans bsw30
          have lbcW4 : w.heap.size + 1 < W4.heap.size := Nat.lt_of_lt_of_le lbcw3 (s34).size
          have bcW40 : W4.cell? ⟨w.heap.size + 1, 0, none⟩ = some (.int .i64 1) := ((s34).cells _ _ lbcw3).trans bcw30
          have bcW41 : W4.cell? ⟨w.heap.size + 1, 1, none⟩ = some (.string t) := ((s34).cells _ _ lbcw3).trans bcw31
          have bcW42 : W4.cell? ⟨w.heap.size + 1, 2, none⟩ = some (.string aa) := ((s34).cells _ _ lbcw3).trans bcw32
          have bcW43 : W4.cell? ⟨w.heap.size + 1, 3, none⟩ = some (.string n) := ((s34).cells _ _ lbcw3).trans bcw33
          have bcW44 : W4.cell? ⟨w.heap.size + 1, 4, none⟩ = some (.int .i64 to_) := ((s34).cells _ _ lbcw3).trans bcw34
          have bcW45 : W4.cell? ⟨w.heap.size + 1, 5, none⟩ = some (.int .i64 dk) := ((s34).cells _ _ lbcw3).trans bcw35
          have bcW46 : W4.cell? ⟨w.heap.size + 1, 6, none⟩ = some (.int .i64 dn) := ((s34).cells _ _ lbcw3).trans bcw36
          have bcW47 : W4.cell? ⟨w.heap.size + 1, 7, none⟩ = some (.string ds) := ((s34).cells _ _ lbcw3).trans bcw37
          clear lbsw3 bsw30 lbcw3 bcw30 bcw31 bcw32 bcw33 bcw34 bcw35 bcw36 bcw37

          have lbaW4 := B3.lt
          have lbdW4 := B4.lt
          have baW40 : W4.cell? ⟨w3.heap.size, 0, none⟩ = some (.slice A1 m1 c1) := B3.cell 0
          have bdW40 : W4.cell? ⟨w3.heap.size + 1, 0, none⟩ = some (.int .i64 2) := B4.cell 0
          have bdW41 : W4.cell? ⟨w3.heap.size + 1, 1, none⟩ = some (.string t) := B4.cell 1
          have bdW42 : W4.cell? ⟨w3.heap.size + 1, 2, none⟩ = some (.string n) := B4.cell 2
          have bdW43 : W4.cell? ⟨w3.heap.size + 1, 3, none⟩ = some (.string ⟨#[]⟩) := B4.cell 3
          have bdW44 : W4.cell? ⟨w3.heap.size + 1, 4, none⟩ = some (.int .i64 0) := B4.cell 4
          have bdW45 : W4.cell? ⟨w3.heap.size + 1, 5, none⟩ = some (.int .i64 0) := B4.cell 5
          have bdW46 : W4.cell? ⟨w3.heap.size + 1, 6, none⟩ = some (.int .i64 0) := B4.cell 6
          have bdW47 : W4.cell? ⟨w3.heap.size + 1, 7, none⟩ = some (.string ⟨#[]⟩) := B4.cell 7
          clear B3 B4 s34 S2 S23
          have HA2 : Hid (∀ W, Same w3 W → Calls Tryz.prog 11 #[.agg #[.slice A1 m1 c1], .agg #[.int .i64 2, .string t, .string n, .string ⟨#[]⟩, .int .i64 0, .int .i64 0, .int .i64 0, .string ⟨#[]⟩]] W fun e w' => ∃ (A2 : Option Addr) (m2 c2 : Nat) (ts2 : List RT), e = .returned (.tuple #[.agg #[.slice A2 m2 c2], .int .i64 0]) ∧ TabsAt w' ⟨A2, m2, c2⟩ ts2 ∧ ts2.map RT.tb = (ts.map RT.tb) ∧ Same W w') := Lib.hid fun W s => by
            have hb := back_okE HE.out
            rw [← HM1.out] at hb
            refine (apply_zeroE (k := 2) (t := t) (aa := n) (n := ⟨#[]⟩) (to_ := 0) (dk := 0) (dn := 0) (ds := ⟨#[]⟩) (TA1.out.same s) (few_of_was HM1.out ((wasLe_small HP.out.1).apply HE.out) (by decide)) (okS_of (by decide)) (okS_of (by decide)) hb.1).mono ?_
            rintro e w' ⟨A2, m2, c2, ts2, rfl, ta, hm, s⟩
            exact ⟨A2, m2, c2, ts2, rfl, ta, hm.trans hb.2, s⟩
          refine (HA2.out _ S34.out).mono ?_
          rintro e w5 ⟨A2, m2, c2, ts2, rfl, ta2, hm2, s5⟩
          have TA2 := Lib.hid ta2
          have HM2 := Lib.hid hm2
          have S5 : Hid (Same w W4 ∧ Same W4 w5) := ⟨S4.out, s5⟩
          clear ta2 hm2 HA2
          have lbsw5 : w.heap.size < w5.heap.size := Nat.lt_of_lt_of_le lbsW4 (s5).size
          have bsw50 : w5.cell? ⟨w.heap.size, 0, none⟩ = some (.slice A m cc) := ((s5).cells _ _ lbsW4).trans bsW40
          have lbcw5 : w.heap.size + 1 < w5.heap.size := Nat.lt_of_lt_of_le lbcW4 (s5).size
          have bcw50 : w5.cell? ⟨w.heap.size + 1, 0, none⟩ = some (.int .i64 1) := ((s5).cells _ _ lbcW4).trans bcW40
          have bcw51 : w5.cell? ⟨w.heap.size + 1, 1, none⟩ = some (.string t) := ((s5).cells _ _ lbcW4).trans bcW41
          have bcw52 : w5.cell? ⟨w.heap.size + 1, 2, none⟩ = some (.string aa) := ((s5).cells _ _ lbcW4).trans bcW42
          have bcw53 : w5.cell? ⟨w.heap.size + 1, 3, none⟩ = some (.string n) := ((s5).cells _ _ lbcW4).trans bcW43
          have bcw54 : w5.cell? ⟨w.heap.size + 1, 4, none⟩ = some (.int .i64 to_) := ((s5).cells _ _ lbcW4).trans bcW44
          have bcw55 : w5.cell? ⟨w.heap.size + 1, 5, none⟩ = some (.int .i64 dk) := ((s5).cells _ _ lbcW4).trans bcW45
          have bcw56 : w5.cell? ⟨w.heap.size + 1, 6, none⟩ = some (.int .i64 dn) := ((s5).cells _ _ lbcW4).trans bcW46
          have bcw57 : w5.cell? ⟨w.heap.size + 1, 7, none⟩ = some (.string ds) := ((s5).cells _ _ lbcW4).trans bcW47
          have lbaw5 : w3.heap.size < w5.heap.size := Nat.lt_of_lt_of_le lbaW4 (s5).size
          have baw50 : w5.cell? ⟨w3.heap.size, 0, none⟩ = some (.slice A1 m1 c1) := ((s5).cells _ _ lbaW4).trans baW40
          have lbdw5 : w3.heap.size + 1 < w5.heap.size := Nat.lt_of_lt_of_le lbdW4 (s5).size
          have bdw50 : w5.cell? ⟨w3.heap.size + 1, 0, none⟩ = some (.int .i64 2) := ((s5).cells _ _ lbdW4).trans bdW40
          have bdw51 : w5.cell? ⟨w3.heap.size + 1, 1, none⟩ = some (.string t) := ((s5).cells _ _ lbdW4).trans bdW41
          have bdw52 : w5.cell? ⟨w3.heap.size + 1, 2, none⟩ = some (.string n) := ((s5).cells _ _ lbdW4).trans bdW42
          have bdw53 : w5.cell? ⟨w3.heap.size + 1, 3, none⟩ = some (.string ⟨#[]⟩) := ((s5).cells _ _ lbdW4).trans bdW43
          have bdw54 : w5.cell? ⟨w3.heap.size + 1, 4, none⟩ = some (.int .i64 0) := ((s5).cells _ _ lbdW4).trans bdW44
          have bdw55 : w5.cell? ⟨w3.heap.size + 1, 5, none⟩ = some (.int .i64 0) := ((s5).cells _ _ lbdW4).trans bdW45
          have bdw56 : w5.cell? ⟨w3.heap.size + 1, 6, none⟩ = some (.int .i64 0) := ((s5).cells _ _ lbdW4).trans bdW46
          have bdw57 : w5.cell? ⟨w3.heap.size + 1, 7, none⟩ = some (.string ⟨#[]⟩) := ((s5).cells _ _ lbdW4).trans bdW47
          clear lbsW4 bsW40 lbcW4 bcW40 bcW41 bcW42 bcW43 bcW44 bcW45 bcW46 bcW47 lbaW4 baW40 lbdW4 bdW40 bdW41 bdW42 bdW43 bdW44 bdW45 bdW46 bdW47

          clear s5
          go_wp2_with (fail)
          obtain ⟨W6, hW6⟩ : ∃ W6, W6 = w5.alloc (.cells #[.slice A2 m2 c2] 24) := ⟨_, rfl⟩
          have s56 : Same w5 W6 := by rw [hW6]; exact (Same.refl w5).alloc _
          rw [← hW6]
          clear hW6
          have S6 : Hid (Same w W6 ∧ Same w3 W6 ∧ Same w5 W6) := ⟨(S5.out.1.trans S5.out.2).trans s56, (S34.out.trans S5.out.2).trans s56, s56⟩
          have lbsW6 : w.heap.size < W6.heap.size := Nat.lt_of_lt_of_le lbsw5 (s56).size
          have bsW60 : W6.cell? ⟨w.heap.size, 0, none⟩ = some (.slice A m cc) := ((s56).cells _ _ lbsw5).trans bsw50
          have lbcW6 : w.heap.size + 1 < W6.heap.size := Nat.lt_of_lt_of_le lbcw5 (s56).size
          have bcW60 : W6.cell? ⟨w.heap.size + 1, 0, none⟩ = some (.int .i64 1) := ((s56).cells _ _ lbcw5).trans bcw50
          have bcW61 : W6.cell? ⟨w.heap.size + 1, 1, none⟩ = some (.string t) := ((s56).cells _ _ lbcw5).trans bcw51
          have bcW62 : W6.cell? ⟨w.heap.size + 1, 2, none⟩ = some (.string aa) := ((s56).cells _ _ lbcw5).trans bcw52
          have bcW63 : W6.cell? ⟨w.heap.size + 1, 3, none⟩ = some (.string n) := ((s56).cells _ _ lbcw5).trans bcw53
          have bcW64 : W6.cell? ⟨w.heap.size + 1, 4, none⟩ = some (.int .i64 to_) := ((s56).cells _ _ lbcw5).trans bcw54
          have bcW65 : W6.cell? ⟨w.heap.size + 1, 5, none⟩ = some (.int .i64 dk) := ((s56).cells _ _ lbcw5).trans bcw55
          have bcW66 : W6.cell? ⟨w.heap.size + 1, 6, none⟩ = some (.int .i64 dn) := ((s56).cells _ _ lbcw5).trans bcw56
          have bcW67 : W6.cell? ⟨w.heap.size + 1, 7, none⟩ = some (.string ds) := ((s56).cells _ _ lbcw5).trans bcw57
          have lbaW6 : w3.heap.size < W6.heap.size := Nat.lt_of_lt_of_le lbaw5 (s56).size
          have baW60 : W6.cell? ⟨w3.heap.size, 0, none⟩ = some (.slice A1 m1 c1) := ((s56).cells _ _ lbaw5).trans baw50
          have lbdW6 : w3.heap.size + 1 < W6.heap.size := Nat.lt_of_lt_of_le lbdw5 (s56).size
          have bdW60 : W6.cell? ⟨w3.heap.size + 1, 0, none⟩ = some (.int .i64 2) := ((s56).cells _ _ lbdw5).trans bdw50
          have bdW61 : W6.cell? ⟨w3.heap.size + 1, 1, none⟩ = some (.string t) := ((s56).cells _ _ lbdw5).trans bdw51
          have bdW62 : W6.cell? ⟨w3.heap.size + 1, 2, none⟩ = some (.string n) := ((s56).cells _ _ lbdw5).trans bdw52
          have bdW63 : W6.cell? ⟨w3.heap.size + 1, 3, none⟩ = some (.string ⟨#[]⟩) := ((s56).cells _ _ lbdw5).trans bdw53
          have bdW64 : W6.cell? ⟨w3.heap.size + 1, 4, none⟩ = some (.int .i64 0) := ((s56).cells _ _ lbdw5).trans bdw54
          have bdW65 : W6.cell? ⟨w3.heap.size + 1, 5, none⟩ = some (.int .i64 0) := ((s56).cells _ _ lbdw5).trans bdw55
          have bdW66 : W6.cell? ⟨w3.heap.size + 1, 6, none⟩ = some (.int .i64 0) := ((s56).cells _ _ lbdw5).trans bdw56
          have bdW67 : W6.cell? ⟨w3.heap.size + 1, 7, none⟩ = some (.string ⟨#[]⟩) := ((s56).cells _ _ lbdw5).trans bdw57
          clear lbsw5 bsw50 lbcw5 bcw50 bcw51 bcw52 bcw53 bcw54 bcw55 bcw56 bcw57 lbaw5 baw50 lbdw5 bdw50 bdw51 bdw52 bdw53 bdw54 bdw55 bdw56 bdw57

          clear s56 S5 S4 S34
          refine (sameE (TA2.out.same S6.out.2.2) (HA.out.same S6.out.1) HM2.out).mono ?_
          rintro e w7 ⟨rfl, s7⟩
          have S7 : Hid (Same w w7 ∧ Same w3 w7) := ⟨S6.out.1.trans s7, S6.out.2.1.trans s7⟩
          have lbsw7 : w.heap.size < w7.heap.size := Nat.lt_of_lt_of_le lbsW6 (s7).size
          have bsw70 : w7.cell? ⟨w.heap.size, 0, none⟩ = some (.slice A m cc) := ((s7).cells _ _ lbsW6).trans bsW60
          have lbcw7 : w.heap.size + 1 < w7.heap.size := Nat.lt_of_lt_of_le lbcW6 (s7).size
          have bcw70 : w7.cell? ⟨w.heap.size + 1, 0, none⟩ = some (.int .i64 1) := ((s7).cells _ _ lbcW6).trans bcW60
          have bcw71 : w7.cell? ⟨w.heap.size + 1, 1, none⟩ = some (.string t) := ((s7).cells _ _ lbcW6).trans bcW61
          have bcw72 : w7.cell? ⟨w.heap.size + 1, 2, none⟩ = some (.string aa) := ((s7).cells _ _ lbcW6).trans bcW62
          have bcw73 : w7.cell? ⟨w.heap.size + 1, 3, none⟩ = some (.string n) := ((s7).cells _ _ lbcW6).trans bcW63
          have bcw74 : w7.cell? ⟨w.heap.size + 1, 4, none⟩ = some (.int .i64 to_) := ((s7).cells _ _ lbcW6).trans bcW64
          have bcw75 : w7.cell? ⟨w.heap.size + 1, 5, none⟩ = some (.int .i64 dk) := ((s7).cells _ _ lbcW6).trans bcW65
          have bcw76 : w7.cell? ⟨w.heap.size + 1, 6, none⟩ = some (.int .i64 dn) := ((s7).cells _ _ lbcW6).trans bcW66
          have bcw77 : w7.cell? ⟨w.heap.size + 1, 7, none⟩ = some (.string ds) := ((s7).cells _ _ lbcW6).trans bcW67
          have lbaw7 : w3.heap.size < w7.heap.size := Nat.lt_of_lt_of_le lbaW6 (s7).size
          have baw70 : w7.cell? ⟨w3.heap.size, 0, none⟩ = some (.slice A1 m1 c1) := ((s7).cells _ _ lbaW6).trans baW60
          have lbdw7 : w3.heap.size + 1 < w7.heap.size := Nat.lt_of_lt_of_le lbdW6 (s7).size
          have bdw70 : w7.cell? ⟨w3.heap.size + 1, 0, none⟩ = some (.int .i64 2) := ((s7).cells _ _ lbdW6).trans bdW60
          have bdw71 : w7.cell? ⟨w3.heap.size + 1, 1, none⟩ = some (.string t) := ((s7).cells _ _ lbdW6).trans bdW61
          have bdw72 : w7.cell? ⟨w3.heap.size + 1, 2, none⟩ = some (.string n) := ((s7).cells _ _ lbdW6).trans bdW62
          have bdw73 : w7.cell? ⟨w3.heap.size + 1, 3, none⟩ = some (.string ⟨#[]⟩) := ((s7).cells _ _ lbdW6).trans bdW63
          have bdw74 : w7.cell? ⟨w3.heap.size + 1, 4, none⟩ = some (.int .i64 0) := ((s7).cells _ _ lbdW6).trans bdW64
          have bdw75 : w7.cell? ⟨w3.heap.size + 1, 5, none⟩ = some (.int .i64 0) := ((s7).cells _ _ lbdW6).trans bdW65
          have bdw76 : w7.cell? ⟨w3.heap.size + 1, 6, none⟩ = some (.int .i64 0) := ((s7).cells _ _ lbdW6).trans bdW66
          have bdw77 : w7.cell? ⟨w3.heap.size + 1, 7, none⟩ = some (.string ⟨#[]⟩) := ((s7).cells _ _ lbdW6).trans bdW67
          clear lbsW6 bsW60 lbcW6 bcW60 bcW61 bcW62 bcW63 bcW64 bcW65 bcW66 bcW67 lbaW6 baW60 lbdW6 bdW60 bdW61 bdW62 bdW63 bdW64 bdW65 bdW66 bdW67

          clear s7 S6 TA2 HM2
          go_wp2_with (fail)
          rw [HMOD.out]
          refine (convertE ((raw % m : Nat) : Int) (HL.out.same S7.out.1) (HA.out.same S7.out.1) HF.out HN.out HD.out (HR.out.same S7.out.1) HRL.out HTL.out).mono ?_
          rintro e w8 ⟨A3, m3, c3, he, r3, s8⟩
          have R3 := Lib.hid r3
          have S8 : Hid (Same w w8 ∧ Same w3 w8) := ⟨S7.out.1.trans s8, S7.out.2.trans s8⟩
          have lbsw8 : w.heap.size < w8.heap.size := Nat.lt_of_lt_of_le lbsw7 (s8).size
          have bsw80 : w8.cell? ⟨w.heap.size, 0, none⟩ = some (.slice A m cc) := ((s8).cells _ _ lbsw7).trans bsw70
          have lbcw8 : w.heap.size + 1 < w8.heap.size := Nat.lt_of_lt_of_le lbcw7 (s8).size
          have bcw80 : w8.cell? ⟨w.heap.size + 1, 0, none⟩ = some (.int .i64 1) := ((s8).cells _ _ lbcw7).trans bcw70
          have bcw81 : w8.cell? ⟨w.heap.size + 1, 1, none⟩ = some (.string t) := ((s8).cells _ _ lbcw7).trans bcw71
          have bcw82 : w8.cell? ⟨w.heap.size + 1, 2, none⟩ = some (.string aa) := ((s8).cells _ _ lbcw7).trans bcw72
          have bcw83 : w8.cell? ⟨w.heap.size + 1, 3, none⟩ = some (.string n) := ((s8).cells _ _ lbcw7).trans bcw73
          have bcw84 : w8.cell? ⟨w.heap.size + 1, 4, none⟩ = some (.int .i64 to_) := ((s8).cells _ _ lbcw7).trans bcw74
          have bcw85 : w8.cell? ⟨w.heap.size + 1, 5, none⟩ = some (.int .i64 dk) := ((s8).cells _ _ lbcw7).trans bcw75
          have bcw86 : w8.cell? ⟨w.heap.size + 1, 6, none⟩ = some (.int .i64 dn) := ((s8).cells _ _ lbcw7).trans bcw76
          have bcw87 : w8.cell? ⟨w.heap.size + 1, 7, none⟩ = some (.string ds) := ((s8).cells _ _ lbcw7).trans bcw77
          have lbaw8 : w3.heap.size < w8.heap.size := Nat.lt_of_lt_of_le lbaw7 (s8).size
          have baw80 : w8.cell? ⟨w3.heap.size, 0, none⟩ = some (.slice A1 m1 c1) := ((s8).cells _ _ lbaw7).trans baw70
          have lbdw8 : w3.heap.size + 1 < w8.heap.size := Nat.lt_of_lt_of_le lbdw7 (s8).size
          have bdw80 : w8.cell? ⟨w3.heap.size + 1, 0, none⟩ = some (.int .i64 2) := ((s8).cells _ _ lbdw7).trans bdw70
          have bdw81 : w8.cell? ⟨w3.heap.size + 1, 1, none⟩ = some (.string t) := ((s8).cells _ _ lbdw7).trans bdw71
          have bdw82 : w8.cell? ⟨w3.heap.size + 1, 2, none⟩ = some (.string n) := ((s8).cells _ _ lbdw7).trans bdw72
          have bdw83 : w8.cell? ⟨w3.heap.size + 1, 3, none⟩ = some (.string ⟨#[]⟩) := ((s8).cells _ _ lbdw7).trans bdw73
          have bdw84 : w8.cell? ⟨w3.heap.size + 1, 4, none⟩ = some (.int .i64 0) := ((s8).cells _ _ lbdw7).trans bdw74
          have bdw85 : w8.cell? ⟨w3.heap.size + 1, 5, none⟩ = some (.int .i64 0) := ((s8).cells _ _ lbdw7).trans bdw75
          have bdw86 : w8.cell? ⟨w3.heap.size + 1, 6, none⟩ = some (.int .i64 0) := ((s8).cells _ _ lbdw7).trans bdw76
          have bdw87 : w8.cell? ⟨w3.heap.size + 1, 7, none⟩ = some (.string ⟨#[]⟩) := ((s8).cells _ _ lbdw7).trans bdw77
          clear lbsw7 bsw70 lbcw7 bcw70 bcw71 bcw72 bcw73 bcw74 bcw75 bcw76 bcw77 lbaw7 baw70 lbdw7 bdw70 bdw71 bdw72 bdw73 bdw74 bdw75 bdw76 bdw77

          clear s8 S7 r3
          by_cases hz : (convS (ts.map RT.tb) ⟨1, t, aa, n, to_, ⟨dk, dn, ds⟩⟩ ((raw % m : Nat) : Int) row).2 = 0
          · rw [hz] at he
            subst he
            have HZ := Lib.hid hz
            clear hz
            go_wp2_with (fail)
            have HC2 : Hid (Calls Tryz.prog 13 #[.agg #[.slice A1 m1 c1], .agg #[.int .i64 2, .string t, .string n, .string ⟨#[]⟩, .int .i64 0, .int .i64 0, .int .i64 0, .string ⟨#[]⟩], .int .i64 ((raw % m : Nat) : Int), .slice A3 m3 c3] w8 fun e w' => ∃ (A4 : Option Addr) (m4 c4 : Nat), e = .returned (.tuple #[.slice A4 m4 c4, .int .i64 0]) ∧ RowAt w' ⟨A4, m4, c4⟩ row ∧ Same w8 w') := by
              have hnl : raw % m < (ts.map RT.tb).length := by rw [List.length_map]; exact HNL.out
              have e1 := back_rowE HE.out (raw % m) hnl row HZ.out
              have hlen := conv_len HE.out hnl HZ.out
              have ht1 : ts1.length = ts.length := by have := congrArg List.length HM1.out; rw [applyS_len, List.length_map, List.length_map] at this; exact this
              have htl := HTL.out
              refine Lib.hid ((convertE (k := 2) (t := t) (aa := n) (n := ⟨#[]⟩) (to_ := 0) (dk := 0) (dn := 0) (ds := ⟨#[]⟩) ((raw % m : Nat) : Int) (HL.out.same S8.out.1) (TA1.out.same S8.out.2) (few_of_was HM1.out ((wasLe_small HP.out.1).apply HE.out) (by decide)) (okS_of (by decide)) (okS_of (by decide)) R3.out (by omega) (by omega)).mono ?_)
              rintro e w' ⟨A4, m4, c4, he, r4, s⟩
              rw [HM1.out] at he r4
              rw [e1] at he r4
              exact ⟨A4, m4, c4, he, r4, s⟩
            refine HC2.out.mono ?_
            rintro e w9 ⟨A4, m4, c4, rfl, r4, s9⟩
            have R4 := Lib.hid r4
            have S9 : Hid (Same w w9) := S8.out.1.trans s9
            clear r4 s9 HC2
            go_wp2_with (fail)
            refine (rowsE R4.out (HR.out.same S9.out) rfl).mono ?_
            rintro e w10 ⟨rfl, s10⟩
            have S10 : Hid (Same w w10) := S9.out.trans s10
            clear s10
            go_wp2_with (fail)
            go_ret
            exact ⟨rfl, S10.out⟩
          · obtain ⟨E2, hE2⟩ : ∃ E2, E2 = (convS (ts.map RT.tb) ⟨1, t, aa, n, to_, ⟨dk, dn, ds⟩⟩ ((raw % m : Nat) : Int) row).2 := ⟨_, rfl⟩
            rw [← hE2] at he hz
            subst he
            have t3 : (E2 != 0) = true := by simp [hz]
            clear hE2 hz
            go_wp2_with (fail)
            go_ret
            exact ⟨rfl, S8.out.1⟩
        · have HA1 : Hid (∀ W, Same w W → Calls Tryz.prog 11 #[.agg #[.slice A m cc], .agg #[.int .i64 1, .string t, .string aa, .string n, .int .i64 to_, .int .i64 dk, .int .i64 dn, .string ds]] W fun e w' => e = .returned (.tuple #[.agg #[.slice none 0 0], .int .i64 (errOf (ts.map RT.tb) ⟨1, t, aa, n, to_, ⟨dk, dn, ds⟩⟩)]) ∧ Same W w') :=
            Lib.hid fun W s => apply_nonE (HA.out.same s) HF.out HN.out HD.out hE
          obtain ⟨E, hEE⟩ : ∃ E, E = errOf (ts.map RT.tb) ⟨1, t, aa, n, to_, ⟨dk, dn, ds⟩⟩ := ⟨_, rfl⟩
          rw [← hEE] at HA1 hE
          have t2 : (E != 0) = true := by simp [hE]
          clear hEE hE
          go_wp2_with (fail)
          refine (HA1.out _ S2.out).mono ?_
          rintro e w3 ⟨rfl, s3⟩
          have S3 : Hid (Same w w3) := S2.out.trans s3
          clear s3
          go_wp2_with (fail)
          go_ret
          exact ⟨rfl, S3.out.alloc _⟩
    · have t1 : (k != 1) = true := by simp [hk]
      go_wp2_with (fail)
      go_ret
      exact ⟨rfl, S2.out⟩
end Go.Proofs.YtalpbodjplnjcaaGreatDoor

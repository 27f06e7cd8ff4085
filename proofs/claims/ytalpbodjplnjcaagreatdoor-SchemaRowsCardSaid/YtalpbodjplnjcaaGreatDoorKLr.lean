/- SchemaRows: the walk. Conditions: Laid. -/
import Derived.Test.YtalpbodjplnjcaaGreatDoorKLq
set_option linter.unusedSimpArgs false
set_option linter.unusedVariables false
namespace Go.Proofs.YtalpbodjplnjcaaGreatDoor
open Go.RowKit

set_option maxHeartbeats 8000000 in
set_option maxRecDepth 100000 in
theorem rows_walk (h : Hd) (ts : List RT) (c : Cg) (raw : Nat) (hr : Hd) (row : List V) (w : World) (_hraw : raw < 256) (l : Laid w) (a : TabsAt w h ts) (r : RowAt w hr row) (hn : okS c.name) (hd : okS c.dflt.s) :
    Calls Tryz.prog 6 #[.agg #[h.val], c.val, .int .u8 raw, hr.val] w fun e w' => e = .returned (.bool true) ∧ Same w w' := by
  have HH := Lib.hid (fun W (s : Same w W) => head_ok W (l.same s))
  have HS := Lib.hid (fun W (s : Same w W) => small_ok h ts c hr.a hr.n hr.c W (a.same s) hn hd r.1.2.1)
  have HL := Lib.hid l
  have HA := Lib.hid a
  have HR := Lib.hid r
  have hml : ts.length = h.n := a.1.1
  have hmb : h.n ≤ 9223372036854775807 := a.1.2.1
  have hrl : row.length = hr.n := r.1.1
  have hrb : hr.n ≤ 9223372036854775807 := r.1.2.1
  obtain ⟨A, m, cc⟩ := h
  obtain ⟨Ar, rm, rc⟩ := hr
  obtain ⟨k, t, aa, n, to_, ⟨dk, dn, ds⟩⟩ := c
  have hml' : ts.length = m := hml
  have hmb' : m ≤ 9223372036854775807 := hmb
  have hrl' : row.length = rm := hrl
  have hrb' : rm ≤ 9223372036854775807 := hrb
  subst hml' hrl'
  have HN : Hid (okS n) := hn
  have HD : Hid (okS ds) := hd
  clear hml hmb hrl hrb a r l hn hd
  show Calls Tryz.prog 6 #[.agg #[.slice A ts.length cc], .agg #[.int .i64 k, .string t, .string aa, .string n, .int .i64 to_, .int .i64 dk, .int .i64 dn, .string ds], .int .u8 raw, .slice Ar row.length rc] w _
  obtain ⟨q, hq⟩ : ∃ q, q = smallL (ts.map RT.tb) ⟨k, t, aa, n, to_, ⟨dk, dn, ds⟩⟩ row.length := ⟨_, rfl⟩
  have HS' : Hid (∀ W, Same w W → Calls Tryz.prog 10 #[.agg #[.slice A ts.length cc], .agg #[.int .i64 k, .string t, .string aa, .string n, .int .i64 to_, .int .i64 dk, .int .i64 dn, .string ds], .slice Ar row.length rc] W fun e w' => e = .returned (.bool q) ∧ Same W w') := by rw [hq]; exact HS
  have HQ := Lib.hid hq
  clear HS hq
  go_enter Tryz.func6, Tryz.ntmps6
  go_wp2_with (fail)
  obtain ⟨W0, hW0⟩ : ∃ W0, W0 = (w.alloc (.cells #[.slice A ts.length cc] 24)).alloc (.cells #[.int .i64 k, .string t, .string aa, .string n, .int .i64 to_, .int .i64 dk, .int .i64 dn, .string ds] 28) := ⟨_, rfl⟩
  have S_w_W0 : Hid (Same w W0) := by rw [hW0]; exact ((Same.refl w).alloc _).alloc _
  have Bbs : Blk W0 (w.heap.size) 24 #[.slice A ts.length cc] := by rw [hW0]; exact ((Blk.new w _ _).alloc _)
  have Bbc : Blk W0 (w.heap.size + 1) 28 #[.int .i64 k, .string t, .string aa, .string n, .int .i64 to_, .int .i64 dk, .int .i64 dn, .string ds] := by
    have e : w.heap.size + 1 = (w.alloc (.cells #[.slice A ts.length cc] 24)).heap.size := by simp
    rw [hW0, e]; exact (Blk.new _ _ _)
  rw [← hW0]
  clear hW0
  have lbsW0 := Bbs.lt
  have bsW00 : W0.cell? ⟨w.heap.size, 0, none⟩ = some (.slice A ts.length cc) := Bbs.cell 0
  clear Bbs
  have lbcW0 := Bbc.lt
  have bcW00 : W0.cell? ⟨w.heap.size + 1, 0, none⟩ = some (.int .i64 k) := Bbc.cell 0
  have bcW01 : W0.cell? ⟨w.heap.size + 1, 1, none⟩ = some (.string t) := Bbc.cell 1
  have bcW02 : W0.cell? ⟨w.heap.size + 1, 2, none⟩ = some (.string aa) := Bbc.cell 2
  have bcW03 : W0.cell? ⟨w.heap.size + 1, 3, none⟩ = some (.string n) := Bbc.cell 3
  have bcW04 : W0.cell? ⟨w.heap.size + 1, 4, none⟩ = some (.int .i64 to_) := Bbc.cell 4
  have bcW05 : W0.cell? ⟨w.heap.size + 1, 5, none⟩ = some (.int .i64 dk) := Bbc.cell 5
  have bcW06 : W0.cell? ⟨w.heap.size + 1, 6, none⟩ = some (.int .i64 dn) := Bbc.cell 6
  have bcW07 : W0.cell? ⟨w.heap.size + 1, 7, none⟩ = some (.string ds) := Bbc.cell 7
  clear Bbc
  refine (HH.out _ S_w_W0.out).mono ?_
  rintro e w1 ⟨rfl, s1⟩
  have S_w_w1 : Hid (Same w w1) := S_w_W0.out.trans s1
  have lbsw1 : w.heap.size < w1.heap.size := Nat.lt_of_lt_of_le lbsW0 (Same.size s1)
  have bsw10 : w1.cell? ⟨w.heap.size, 0, none⟩ = some (.slice A ts.length cc) := (Same.cells s1 _ _ lbsW0).trans bsW00
  have lbcw1 : w.heap.size + 1 < w1.heap.size := Nat.lt_of_lt_of_le lbcW0 (Same.size s1)
  have bcw10 : w1.cell? ⟨w.heap.size + 1, 0, none⟩ = some (.int .i64 k) := (Same.cells s1 _ _ lbcW0).trans bcW00
  have bcw11 : w1.cell? ⟨w.heap.size + 1, 1, none⟩ = some (.string t) := (Same.cells s1 _ _ lbcW0).trans bcW01
  have bcw12 : w1.cell? ⟨w.heap.size + 1, 2, none⟩ = some (.string aa) := (Same.cells s1 _ _ lbcW0).trans bcW02
  have bcw13 : w1.cell? ⟨w.heap.size + 1, 3, none⟩ = some (.string n) := (Same.cells s1 _ _ lbcW0).trans bcW03
  have bcw14 : w1.cell? ⟨w.heap.size + 1, 4, none⟩ = some (.int .i64 to_) := (Same.cells s1 _ _ lbcW0).trans bcW04
  have bcw15 : w1.cell? ⟨w.heap.size + 1, 5, none⟩ = some (.int .i64 dk) := (Same.cells s1 _ _ lbcW0).trans bcW05
  have bcw16 : w1.cell? ⟨w.heap.size + 1, 6, none⟩ = some (.int .i64 dn) := (Same.cells s1 _ _ lbcW0).trans bcW06
  have bcw17 : w1.cell? ⟨w.heap.size + 1, 7, none⟩ = some (.string ds) := (Same.cells s1 _ _ lbcW0).trans bcW07
  clear S_w_W0 lbsW0 bsW00 lbcW0 bcW00 bcW01 bcW02 bcW03 bcW04 bcW05 bcW06 bcW07
  clear s1
  clear HH
  go_wp2_with (fail)
  refine (HS'.out _ S_w_w1.out).mono ?_
  rintro e w2 ⟨rfl, s2⟩
  have S_w_w2 : Hid (Same w w2) := S_w_w1.out.trans s2
  have lbsw2 : w.heap.size < w2.heap.size := Nat.lt_of_lt_of_le lbsw1 (Same.size s2)
  have bsw20 : w2.cell? ⟨w.heap.size, 0, none⟩ = some (.slice A ts.length cc) := (Same.cells s2 _ _ lbsw1).trans bsw10
  have lbcw2 : w.heap.size + 1 < w2.heap.size := Nat.lt_of_lt_of_le lbcw1 (Same.size s2)
  have bcw20 : w2.cell? ⟨w.heap.size + 1, 0, none⟩ = some (.int .i64 k) := (Same.cells s2 _ _ lbcw1).trans bcw10
  have bcw21 : w2.cell? ⟨w.heap.size + 1, 1, none⟩ = some (.string t) := (Same.cells s2 _ _ lbcw1).trans bcw11
  have bcw22 : w2.cell? ⟨w.heap.size + 1, 2, none⟩ = some (.string aa) := (Same.cells s2 _ _ lbcw1).trans bcw12
  have bcw23 : w2.cell? ⟨w.heap.size + 1, 3, none⟩ = some (.string n) := (Same.cells s2 _ _ lbcw1).trans bcw13
  have bcw24 : w2.cell? ⟨w.heap.size + 1, 4, none⟩ = some (.int .i64 to_) := (Same.cells s2 _ _ lbcw1).trans bcw14
  have bcw25 : w2.cell? ⟨w.heap.size + 1, 5, none⟩ = some (.int .i64 dk) := (Same.cells s2 _ _ lbcw1).trans bcw15
  have bcw26 : w2.cell? ⟨w.heap.size + 1, 6, none⟩ = some (.int .i64 dn) := (Same.cells s2 _ _ lbcw1).trans bcw16
  have bcw27 : w2.cell? ⟨w.heap.size + 1, 7, none⟩ = some (.string ds) := (Same.cells s2 _ _ lbcw1).trans bcw17
  clear S_w_w1 lbsw1 bsw10 lbcw1 bcw10 bcw11 bcw12 bcw13 bcw14 bcw15 bcw16 bcw17
  clear s2
  clear HS'
  cases q with
  | false =>
    go_wp2_with (fail)
    go_ret
    first | exact ⟨rfl, S_w_w2.out⟩ | exact ⟨rfl, S_w_w2.out.alloc _⟩ | exact ⟨rfl, (S_w_w2.out.alloc _).alloc _⟩
  | true =>
    have HP : Hid (smallS (ts.map RT.tb) = true ∧ n.size ≤ 100 ∧ ds.size ≤ 300 ∧ row.length ≤ 20) := small_parts HQ.out.symm
    by_cases hm : ts.length = 0
    · have t1 : ((ts.length : Int) == 0) = true := by simp [hm]
      clear hm
      go_wp2_with (fail)
      go_ret
      first | exact ⟨rfl, S_w_w2.out⟩ | exact ⟨rfl, S_w_w2.out.alloc _⟩ | exact ⟨rfl, (S_w_w2.out.alloc _).alloc _⟩
    ·
      have t1 : ((ts.length : Int) == 0) = false := by rw [beq_eq_false_iff_ne]; omega
      have HF : Hid (Few ts) := Lib.hid (few_of_small HP.out.1).1
      have HTL : Hid (ts.length ≤ 1000000) := Lib.hid (by have := (few_of_small HP.out.1).2; omega)
      have HRL : Hid (row.length ≤ 1000000) := Lib.hid (by have := HP.out.2.2.2; omega)
      obtain ⟨nn, hnn⟩ : ∃ nn, nn = raw % ts.length := ⟨_, rfl⟩
      have hnl : nn < ts.length := by rw [hnn]; exact Nat.mod_lt _ (Nat.pos_of_ne_zero hm)
      have hmod : (raw : Int) % (ts.length : Int) = (nn : Int) := by rw [hnn]; exact emod_nat raw _
      have hn0 : (0 : Int) ≤ (nn : Int) := by omega
      have hnI : (nn : Int) < (ts.length : Int) := by omega
      have hnS : nn < (ts.map RT.tb).length := by rw [List.length_map]; exact hnl
      have HMOD := Lib.hid hmod
      clear hnn hm hmod
      obtain ⟨b, off, hA, blt, hc⟩ := (HA.out.1).2.2 nn hnl
      have hA' : A = some ⟨b, off, none⟩ := hA
      have HTX := Lib.hid (HA.out.2 _ (List.getElem_mem hnl))
      have HSX : Hid ((ts.map RT.tb)[nn] = ts[nn].tb) := by show _ = _; rw [List.getElem_map]
      obtain ⟨x, hx⟩ : ∃ x, x = ts[nn] := ⟨_, rfl⟩
      rw [← hx] at hc HTX HSX
      clear hx hA
      obtain ⟨n1, ⟨A4, m4, c4⟩, ra1, ⟨B4, p4, d4⟩, key1⟩ := x
      have x0 : w.cell? ⟨b, off + nn * 3, none⟩ = some (.string n1) := hc 0 _ rfl
      have x1 : w.cell? ⟨b, off + nn * 3 + 1, none⟩ = some (.slice A4 m4 c4) := hc 1 _ rfl
      have x2 : w.cell? ⟨b, off + nn * 3 + 2, none⟩ = some (.slice B4 p4 d4) := hc 2 _ rfl
      subst hA'
      clear hc
      have HCOL : Hid (∀ W, Same w W → Calls Tryz.prog 23 #[.agg #[.string n1, .slice A4 m4 c4, .slice B4 p4 d4], .string aa] W fun e w' => e = .returned (.int .i64 (colA (ts.map RT.tb)[nn].attrs aa)) ∧ Same W w') := fun W s => by rw [HSX.out]; exact columnE (HTX.out.same s)
      have HMOV : Hid (∀ W, Same w W → ∀ i : Int, 0 ≤ i → i ≤ 1000000000 → Calls Tryz.prog 26 #[.agg #[.string n1, .slice A4 m4 c4, .slice B4 p4 d4], .agg #[.int .i64 k, .string t, .string aa, .string n, .int .i64 to_, .int .i64 dk, .int .i64 dn, .string ds], .int .i64 i] W fun e w' => e = .returned (.int .i64 (movedI (ts.map RT.tb)[nn] ⟨k, t, aa, n, to_, ⟨dk, dn, ds⟩⟩ i)) ∧ Same W w') := fun W s i h0 h1 => by rw [HSX.out]; exact movedE (HTX.out.same s) h0 h1
      have HFIT : Hid (∀ W, Same w W → Calls Tryz.prog 21 #[.agg #[.string n1, .slice A4 m4 c4, .slice B4 p4 d4], .slice Ar row.length rc] W fun e w' => e = .returned (.bool (fitsB (ts.map RT.tb)[nn] row)) ∧ Same W w') := fun W s => by rw [HSX.out]; exact fitsE (HTX.out.same s) (HR.out.same s)
      have HCNV : Hid (∀ W, Same w W → Calls Tryz.prog 13 #[.agg #[.slice (some ⟨b, off, none⟩) ts.length cc], .agg #[.int .i64 k, .string t, .string aa, .string n, .int .i64 to_, .int .i64 dk, .int .i64 dn, .string ds], .int .i64 (nn : Int), .slice Ar row.length rc] W fun e w' => ∃ (A3 : Option Addr) (m3 c3 : Nat), e = .returned (.tuple #[.slice A3 m3 c3, .int .i64 (convS (ts.map RT.tb) ⟨k, t, aa, n, to_, ⟨dk, dn, ds⟩⟩ (nn : Int) row).2]) ∧ RowAt w' ⟨A3, m3, c3⟩ (convS (ts.map RT.tb) ⟨k, t, aa, n, to_, ⟨dk, dn, ds⟩⟩ (nn : Int) row).1 ∧ Same W w') := fun W s => convertE (nn : Int) (HL.out.same s) (HA.out.same s) HF.out HN.out HD.out (HR.out.same s) HRL.out HTL.out
      have HNM : Hid ((ts.map RT.tb)[nn].name = n1) := by show _ = _; rw [HSX.out]; rfl
      obtain ⟨E1, hE1⟩ : ∃ E1, E1 = errOf (ts.map RT.tb) ⟨k, t, aa, n, to_, ⟨dk, dn, ds⟩⟩ := ⟨_, rfl⟩
      by_cases hz1 : E1 = 0
      case neg =>
        have e1 : (E1 != 0) = true := by simp [hz1]
        have e2 : (E1 == 0) = false := by simp [hz1]
        have HA1 : Hid (∀ W, Same w W → Calls Tryz.prog 11 #[.agg #[.slice (some ⟨b, off, none⟩) ts.length cc], .agg #[.int .i64 k, .string t, .string aa, .string n, .int .i64 to_, .int .i64 dk, .int .i64 dn, .string ds]] W fun e w' => e = .returned (.tuple #[.agg #[.slice none 0 0], .int .i64 E1]) ∧ Same W w') := fun W s => by
          have h := apply_nonE (HA.out.same s) HF.out HN.out HD.out (hE1 ▸ hz1)
          rw [← hE1] at h
          exact h
        have HC1 : Hid (∀ W, Same w W → Calls Tryz.prog 13 #[.agg #[.slice (some ⟨b, off, none⟩) ts.length cc], .agg #[.int .i64 k, .string t, .string aa, .string n, .int .i64 to_, .int .i64 dk, .int .i64 dn, .string ds], .int .i64 (nn : Int), .slice Ar row.length rc] W fun e w' => ∃ (A3 : Option Addr) (c3 : Nat), e = .returned (.tuple #[.slice A3 0 c3, .int .i64 E1]) ∧ Same W w') := fun W s => by
          refine (HCNV.out W s).mono ?_
          rintro e w' ⟨A3, m3, c3, he, r3, s3⟩
          rw [rows_bad (hE1 ▸ hz1)] at he r3
          obtain rfl : m3 = 0 := r3.1.1.symm
          exact ⟨A3, c3, by rw [hE1]; exact he, s3⟩
        clear hE1 hz1 x0 x1 x2
        go_wp2_with (fail)
        refine (HA1.out _ S_w_w2.out).mono ?_
        rintro e w4 ⟨rfl, s4⟩
        have S_w_w4 : Hid (Same w w4) := S_w_w2.out.trans s4
        have lbsw4 : w.heap.size < w4.heap.size := Nat.lt_of_lt_of_le lbsw2 (Same.size s4)
        have bsw40 : w4.cell? ⟨w.heap.size, 0, none⟩ = some (.slice (some ⟨b, off, none⟩) ts.length cc) := (Same.cells s4 _ _ lbsw2).trans bsw20
        have lbcw4 : w.heap.size + 1 < w4.heap.size := Nat.lt_of_lt_of_le lbcw2 (Same.size s4)
        have bcw40 : w4.cell? ⟨w.heap.size + 1, 0, none⟩ = some (.int .i64 k) := (Same.cells s4 _ _ lbcw2).trans bcw20
        have bcw41 : w4.cell? ⟨w.heap.size + 1, 1, none⟩ = some (.string t) := (Same.cells s4 _ _ lbcw2).trans bcw21
        have bcw42 : w4.cell? ⟨w.heap.size + 1, 2, none⟩ = some (.string aa) := (Same.cells s4 _ _ lbcw2).trans bcw22
        have bcw43 : w4.cell? ⟨w.heap.size + 1, 3, none⟩ = some (.string n) := (Same.cells s4 _ _ lbcw2).trans bcw23
        have bcw44 : w4.cell? ⟨w.heap.size + 1, 4, none⟩ = some (.int .i64 to_) := (Same.cells s4 _ _ lbcw2).trans bcw24
        have bcw45 : w4.cell? ⟨w.heap.size + 1, 5, none⟩ = some (.int .i64 dk) := (Same.cells s4 _ _ lbcw2).trans bcw25
        have bcw46 : w4.cell? ⟨w.heap.size + 1, 6, none⟩ = some (.int .i64 dn) := (Same.cells s4 _ _ lbcw2).trans bcw26
        have bcw47 : w4.cell? ⟨w.heap.size + 1, 7, none⟩ = some (.string ds) := (Same.cells s4 _ _ lbcw2).trans bcw27
        clear S_w_w2 lbsw2 bsw20 lbcw2 bcw20 bcw21 bcw22 bcw23 bcw24 bcw25 bcw26 bcw27
        clear s4
        go_wp2_with (fail)
        obtain ⟨W5, hW5⟩ : ∃ W5, W5 = w4.alloc (.cells #[.slice none 0 0] 24) := ⟨_, rfl⟩
        have sW5 : Same w4 W5 := by rw [hW5]; exact (Same.refl w4).alloc _
        have Bba : Blk W5 w4.heap.size 24 #[.slice none 0 0] := by rw [hW5]; exact Blk.new w4 _ _
        rw [← hW5]
        clear hW5
        have S_w_W5 : Hid (Same w W5) := S_w_w4.out.trans sW5
        have lbsW5 : w.heap.size < W5.heap.size := Nat.lt_of_lt_of_le lbsw4 (Same.size sW5)
        have bsW50 : W5.cell? ⟨w.heap.size, 0, none⟩ = some (.slice (some ⟨b, off, none⟩) ts.length cc) := (Same.cells sW5 _ _ lbsw4).trans bsw40
        have lbcW5 : w.heap.size + 1 < W5.heap.size := Nat.lt_of_lt_of_le lbcw4 (Same.size sW5)
        have bcW50 : W5.cell? ⟨w.heap.size + 1, 0, none⟩ = some (.int .i64 k) := (Same.cells sW5 _ _ lbcw4).trans bcw40
        have bcW51 : W5.cell? ⟨w.heap.size + 1, 1, none⟩ = some (.string t) := (Same.cells sW5 _ _ lbcw4).trans bcw41
        have bcW52 : W5.cell? ⟨w.heap.size + 1, 2, none⟩ = some (.string aa) := (Same.cells sW5 _ _ lbcw4).trans bcw42
        have bcW53 : W5.cell? ⟨w.heap.size + 1, 3, none⟩ = some (.string n) := (Same.cells sW5 _ _ lbcw4).trans bcw43
        have bcW54 : W5.cell? ⟨w.heap.size + 1, 4, none⟩ = some (.int .i64 to_) := (Same.cells sW5 _ _ lbcw4).trans bcw44
        have bcW55 : W5.cell? ⟨w.heap.size + 1, 5, none⟩ = some (.int .i64 dk) := (Same.cells sW5 _ _ lbcw4).trans bcw45
        have bcW56 : W5.cell? ⟨w.heap.size + 1, 6, none⟩ = some (.int .i64 dn) := (Same.cells sW5 _ _ lbcw4).trans bcw46
        have bcW57 : W5.cell? ⟨w.heap.size + 1, 7, none⟩ = some (.string ds) := (Same.cells sW5 _ _ lbcw4).trans bcw47
        clear S_w_w4 lbsw4 bsw40 lbcw4 bcw40 bcw41 bcw42 bcw43 bcw44 bcw45 bcw46 bcw47
        have lbaW5 := Bba.lt
        have baW50 : W5.cell? ⟨w4.heap.size, 0, none⟩ = some (.slice none 0 0) := Bba.cell 0
        clear Bba sW5
        rw [HMOD.out]
        refine (HC1.out _ S_w_W5.out).mono ?_
        rintro e w6 ⟨A3, c3, rfl, s6⟩
        have S_w_w6 : Hid (Same w w6) := S_w_W5.out.trans s6
        have lbsw6 : w.heap.size < w6.heap.size := Nat.lt_of_lt_of_le lbsW5 (Same.size s6)
        have bsw60 : w6.cell? ⟨w.heap.size, 0, none⟩ = some (.slice (some ⟨b, off, none⟩) ts.length cc) := (Same.cells s6 _ _ lbsW5).trans bsW50
        have lbcw6 : w.heap.size + 1 < w6.heap.size := Nat.lt_of_lt_of_le lbcW5 (Same.size s6)
        have bcw60 : w6.cell? ⟨w.heap.size + 1, 0, none⟩ = some (.int .i64 k) := (Same.cells s6 _ _ lbcW5).trans bcW50
        have bcw61 : w6.cell? ⟨w.heap.size + 1, 1, none⟩ = some (.string t) := (Same.cells s6 _ _ lbcW5).trans bcW51
        have bcw62 : w6.cell? ⟨w.heap.size + 1, 2, none⟩ = some (.string aa) := (Same.cells s6 _ _ lbcW5).trans bcW52
        have bcw63 : w6.cell? ⟨w.heap.size + 1, 3, none⟩ = some (.string n) := (Same.cells s6 _ _ lbcW5).trans bcW53
        have bcw64 : w6.cell? ⟨w.heap.size + 1, 4, none⟩ = some (.int .i64 to_) := (Same.cells s6 _ _ lbcW5).trans bcW54
        have bcw65 : w6.cell? ⟨w.heap.size + 1, 5, none⟩ = some (.int .i64 dk) := (Same.cells s6 _ _ lbcW5).trans bcW55
        have bcw66 : w6.cell? ⟨w.heap.size + 1, 6, none⟩ = some (.int .i64 dn) := (Same.cells s6 _ _ lbcW5).trans bcW56
        have bcw67 : w6.cell? ⟨w.heap.size + 1, 7, none⟩ = some (.string ds) := (Same.cells s6 _ _ lbcW5).trans bcW57
        have lbaw6 : w4.heap.size < w6.heap.size := Nat.lt_of_lt_of_le lbaW5 (Same.size s6)
        have baw60 : w6.cell? ⟨w4.heap.size, 0, none⟩ = some (.slice none 0 0) := (Same.cells s6 _ _ lbaW5).trans baW50
        clear S_w_W5 lbsW5 bsW50 lbcW5 bcW50 bcW51 bcW52 bcW53 bcW54 bcW55 bcW56 bcW57 lbaW5 baW50
        clear s6
        go_wp2_with (fail)
        go_ret
        exact ⟨rfl, S_w_w6.out⟩
      case pos =>
        subst hz1
        have HE1 := Lib.hid hE1.symm
        clear hE1
        have lxw2 : b < w2.heap.size := Nat.lt_of_lt_of_le blt S_w_w2.out.size
        go_wp2_with (fail)
        refine (apply_zeroE (HA.out.same S_w_w2.out) HF.out HN.out HD.out HE1.out).mono ?_
        rintro e w4 ⟨A1, m1, c1, ts1, rfl, ta1, hm1, s4⟩
        have HLE : Hid (ts1.length = ts.length) := by have := congrArg List.length hm1; rw [applyS_len, List.length_map, List.length_map] at this; exact this
        obtain rfl : m1 = ts.length := (show ts1.length = m1 from ta1.1.1).symm.trans HLE.out
        have TA1 := Lib.hid ta1
        have HM1 := Lib.hid hm1
        clear ta1 hm1
        have S_w_w4 : Hid (Same w w4) := S_w_w2.out.trans s4
        have lbsw4 : w.heap.size < w4.heap.size := Nat.lt_of_lt_of_le lbsw2 (Same.size s4)
        have bsw40 : w4.cell? ⟨w.heap.size, 0, none⟩ = some (.slice (some ⟨b, off, none⟩) ts.length cc) := (Same.cells s4 _ _ lbsw2).trans bsw20
        have lbcw4 : w.heap.size + 1 < w4.heap.size := Nat.lt_of_lt_of_le lbcw2 (Same.size s4)
        have bcw40 : w4.cell? ⟨w.heap.size + 1, 0, none⟩ = some (.int .i64 k) := (Same.cells s4 _ _ lbcw2).trans bcw20
        have bcw41 : w4.cell? ⟨w.heap.size + 1, 1, none⟩ = some (.string t) := (Same.cells s4 _ _ lbcw2).trans bcw21
        have bcw42 : w4.cell? ⟨w.heap.size + 1, 2, none⟩ = some (.string aa) := (Same.cells s4 _ _ lbcw2).trans bcw22
        have bcw43 : w4.cell? ⟨w.heap.size + 1, 3, none⟩ = some (.string n) := (Same.cells s4 _ _ lbcw2).trans bcw23
        have bcw44 : w4.cell? ⟨w.heap.size + 1, 4, none⟩ = some (.int .i64 to_) := (Same.cells s4 _ _ lbcw2).trans bcw24
        have bcw45 : w4.cell? ⟨w.heap.size + 1, 5, none⟩ = some (.int .i64 dk) := (Same.cells s4 _ _ lbcw2).trans bcw25
        have bcw46 : w4.cell? ⟨w.heap.size + 1, 6, none⟩ = some (.int .i64 dn) := (Same.cells s4 _ _ lbcw2).trans bcw26
        have bcw47 : w4.cell? ⟨w.heap.size + 1, 7, none⟩ = some (.string ds) := (Same.cells s4 _ _ lbcw2).trans bcw27
        clear S_w_w2 lbsw2 bsw20 lbcw2 bcw20 bcw21 bcw22 bcw23 bcw24 bcw25 bcw26 bcw27
        clear s4
        clear lxw2
        have hnl1 : nn < ts1.length := by have := HLE.out; omega
        obtain ⟨b2, off2, hB, blt2, hc2⟩ := (TA1.out.1).2.2 nn hnl1
        have hB' : A1 = some ⟨b2, off2, none⟩ := hB
        have HTY := Lib.hid (TA1.out.2 _ (List.getElem_mem hnl1))
        have hnS1 : nn < (applyS (ts.map RT.tb) ⟨k, t, aa, n, to_, ⟨dk, dn, ds⟩⟩).length := by rw [applyS_len]; exact hnS
        have HSY : Hid ((applyS (ts.map RT.tb) ⟨k, t, aa, n, to_, ⟨dk, dn, ds⟩⟩)[nn] = ts1[nn].tb) := by
          have e : (ts1.map RT.tb)[nn]? = some ts1[nn].tb := by simp [hnl1]
          rw [HM1.out, List.getElem?_eq_getElem hnS1] at e
          exact Option.some.inj e
        obtain ⟨y, hy⟩ : ∃ y, y = ts1[nn] := ⟨_, rfl⟩
        rw [← hy] at hc2 HTY HSY
        clear hy hB
        obtain ⟨n2, ⟨A5, m5, c5⟩, ra2, ⟨B5, p5, d5⟩, key2⟩ := y
        have y0 : w4.cell? ⟨b2, off2 + nn * 3, none⟩ = some (.string n2) := hc2 0 _ rfl
        have y1 : w4.cell? ⟨b2, off2 + nn * 3 + 1, none⟩ = some (.slice A5 m5 c5) := hc2 1 _ rfl
        have y2 : w4.cell? ⟨b2, off2 + nn * 3 + 2, none⟩ = some (.slice B5 p5 d5) := hc2 2 _ rfl
        subst hB'
        clear hc2
        go_wp2_with (fail)
        obtain ⟨W5, hW5⟩ : ∃ W5, W5 = w4.alloc (.cells #[.slice (some ⟨b2, off2, none⟩) ts.length c1] 24) := ⟨_, rfl⟩
        have sW5 : Same w4 W5 := by rw [hW5]; exact (Same.refl w4).alloc _
        have Bba : Blk W5 w4.heap.size 24 #[.slice (some ⟨b2, off2, none⟩) ts.length c1] := by rw [hW5]; exact Blk.new w4 _ _
        rw [← hW5]
        clear hW5
        have S_w_W5 : Hid (Same w W5) := S_w_w4.out.trans sW5
        have S_w4_W5 : Hid (Same w4 W5) := sW5
        have lbsW5 : w.heap.size < W5.heap.size := Nat.lt_of_lt_of_le lbsw4 (Same.size sW5)
        have bsW50 : W5.cell? ⟨w.heap.size, 0, none⟩ = some (.slice (some ⟨b, off, none⟩) ts.length cc) := (Same.cells sW5 _ _ lbsw4).trans bsw40
        have lbcW5 : w.heap.size + 1 < W5.heap.size := Nat.lt_of_lt_of_le lbcw4 (Same.size sW5)
        have bcW50 : W5.cell? ⟨w.heap.size + 1, 0, none⟩ = some (.int .i64 k) := (Same.cells sW5 _ _ lbcw4).trans bcw40
        have bcW51 : W5.cell? ⟨w.heap.size + 1, 1, none⟩ = some (.string t) := (Same.cells sW5 _ _ lbcw4).trans bcw41
        have bcW52 : W5.cell? ⟨w.heap.size + 1, 2, none⟩ = some (.string aa) := (Same.cells sW5 _ _ lbcw4).trans bcw42
        have bcW53 : W5.cell? ⟨w.heap.size + 1, 3, none⟩ = some (.string n) := (Same.cells sW5 _ _ lbcw4).trans bcw43
        have bcW54 : W5.cell? ⟨w.heap.size + 1, 4, none⟩ = some (.int .i64 to_) := (Same.cells sW5 _ _ lbcw4).trans bcw44
        have bcW55 : W5.cell? ⟨w.heap.size + 1, 5, none⟩ = some (.int .i64 dk) := (Same.cells sW5 _ _ lbcw4).trans bcw45
        have bcW56 : W5.cell? ⟨w.heap.size + 1, 6, none⟩ = some (.int .i64 dn) := (Same.cells sW5 _ _ lbcw4).trans bcw46
        have bcW57 : W5.cell? ⟨w.heap.size + 1, 7, none⟩ = some (.string ds) := (Same.cells sW5 _ _ lbcw4).trans bcw47
        clear S_w_w4 lbsw4 bsw40 lbcw4 bcw40 bcw41 bcw42 bcw43 bcw44 bcw45 bcw46 bcw47
        have lbaW5 := Bba.lt
        have baW50 : W5.cell? ⟨w4.heap.size, 0, none⟩ = some (.slice (some ⟨b2, off2, none⟩) ts.length c1) := Bba.cell 0
        clear Bba sW5
        cases hfb : fitsB (ts.map RT.tb)[nn] row with
        | false =>
          have HFT : Hid (∀ W, Same w W → Calls Tryz.prog 21 #[.agg #[.string n1, .slice A4 m4 c4, .slice B4 p4 d4], .slice Ar row.length rc] W fun e w' => e = .returned (.bool false) ∧ Same W w') := by rw [← hfb]; exact HFIT
          have HC1 : Hid (∀ W, Same w W → Calls Tryz.prog 13 #[.agg #[.slice (some ⟨b, off, none⟩) ts.length cc], .agg #[.int .i64 k, .string t, .string aa, .string n, .int .i64 to_, .int .i64 dk, .int .i64 dn, .string ds], .int .i64 (nn : Int), .slice Ar row.length rc] W fun e w' => ∃ (A3 : Option Addr) (c3 : Nat), e = .returned (.tuple #[.slice A3 0 c3, .int .i64 1]) ∧ Same W w') := fun W s => by
            refine (HCNV.out W s).mono ?_
            rintro e w' ⟨A3, m3, c3, he, r3, s3⟩
            rw [rows_unfit HE1.out nn hnS hfb] at he r3
            obtain rfl : m3 = 0 := r3.1.1.symm
            exact ⟨A3, c3, he, s3⟩
          clear hfb y0 y1 y2
          rw [HMOD.out]
          refine (HC1.out _ S_w_W5.out).mono ?_
          rintro e w6 ⟨A3, c3, rfl, s6⟩
          have S_w_w6 : Hid (Same w w6) := S_w_W5.out.trans s6
          have S_w4_w6 : Hid (Same w4 w6) := S_w4_W5.out.trans s6
          have lbsw6 : w.heap.size < w6.heap.size := Nat.lt_of_lt_of_le lbsW5 (Same.size s6)
          have bsw60 : w6.cell? ⟨w.heap.size, 0, none⟩ = some (.slice (some ⟨b, off, none⟩) ts.length cc) := (Same.cells s6 _ _ lbsW5).trans bsW50
          have lbcw6 : w.heap.size + 1 < w6.heap.size := Nat.lt_of_lt_of_le lbcW5 (Same.size s6)
          have bcw60 : w6.cell? ⟨w.heap.size + 1, 0, none⟩ = some (.int .i64 k) := (Same.cells s6 _ _ lbcW5).trans bcW50
          have bcw61 : w6.cell? ⟨w.heap.size + 1, 1, none⟩ = some (.string t) := (Same.cells s6 _ _ lbcW5).trans bcW51
          have bcw62 : w6.cell? ⟨w.heap.size + 1, 2, none⟩ = some (.string aa) := (Same.cells s6 _ _ lbcW5).trans bcW52
          have bcw63 : w6.cell? ⟨w.heap.size + 1, 3, none⟩ = some (.string n) := (Same.cells s6 _ _ lbcW5).trans bcW53
          have bcw64 : w6.cell? ⟨w.heap.size + 1, 4, none⟩ = some (.int .i64 to_) := (Same.cells s6 _ _ lbcW5).trans bcW54
          have bcw65 : w6.cell? ⟨w.heap.size + 1, 5, none⟩ = some (.int .i64 dk) := (Same.cells s6 _ _ lbcW5).trans bcW55
          have bcw66 : w6.cell? ⟨w.heap.size + 1, 6, none⟩ = some (.int .i64 dn) := (Same.cells s6 _ _ lbcW5).trans bcW56
          have bcw67 : w6.cell? ⟨w.heap.size + 1, 7, none⟩ = some (.string ds) := (Same.cells s6 _ _ lbcW5).trans bcW57
          have lbaw6 : w4.heap.size < w6.heap.size := Nat.lt_of_lt_of_le lbaW5 (Same.size s6)
          have baw60 : w6.cell? ⟨w4.heap.size, 0, none⟩ = some (.slice (some ⟨b2, off2, none⟩) ts.length c1) := (Same.cells s6 _ _ lbaW5).trans baW50
          clear S_w_W5 S_w4_W5 lbsW5 bsW50 lbcW5 bcW50 bcW51 bcW52 bcW53 bcW54 bcW55 bcW56 bcW57 lbaW5 baW50
          clear s6
          have x0w6 := (S_w_w6.out.cells _ _ blt).trans x0
          have x1w6 := (S_w_w6.out.cells _ _ blt).trans x1
          have x2w6 := (S_w_w6.out.cells _ _ blt).trans x2
          clear x0 x1 x2
          go_wp2_with (fail)
          refine (HFT.out _ S_w_w6.out).mono ?_
          rintro e w7 ⟨rfl, s7⟩
          clear x0w6 x1w6 x2w6
          have S_w_w7 : Hid (Same w w7) := S_w_w6.out.trans s7
          have S_w4_w7 : Hid (Same w4 w7) := S_w4_w6.out.trans s7
          have lbsw7 : w.heap.size < w7.heap.size := Nat.lt_of_lt_of_le lbsw6 (Same.size s7)
          have bsw70 : w7.cell? ⟨w.heap.size, 0, none⟩ = some (.slice (some ⟨b, off, none⟩) ts.length cc) := (Same.cells s7 _ _ lbsw6).trans bsw60
          have lbcw7 : w.heap.size + 1 < w7.heap.size := Nat.lt_of_lt_of_le lbcw6 (Same.size s7)
          have bcw70 : w7.cell? ⟨w.heap.size + 1, 0, none⟩ = some (.int .i64 k) := (Same.cells s7 _ _ lbcw6).trans bcw60
          have bcw71 : w7.cell? ⟨w.heap.size + 1, 1, none⟩ = some (.string t) := (Same.cells s7 _ _ lbcw6).trans bcw61
          have bcw72 : w7.cell? ⟨w.heap.size + 1, 2, none⟩ = some (.string aa) := (Same.cells s7 _ _ lbcw6).trans bcw62
          have bcw73 : w7.cell? ⟨w.heap.size + 1, 3, none⟩ = some (.string n) := (Same.cells s7 _ _ lbcw6).trans bcw63
          have bcw74 : w7.cell? ⟨w.heap.size + 1, 4, none⟩ = some (.int .i64 to_) := (Same.cells s7 _ _ lbcw6).trans bcw64
          have bcw75 : w7.cell? ⟨w.heap.size + 1, 5, none⟩ = some (.int .i64 dk) := (Same.cells s7 _ _ lbcw6).trans bcw65
          have bcw76 : w7.cell? ⟨w.heap.size + 1, 6, none⟩ = some (.int .i64 dn) := (Same.cells s7 _ _ lbcw6).trans bcw66
          have bcw77 : w7.cell? ⟨w.heap.size + 1, 7, none⟩ = some (.string ds) := (Same.cells s7 _ _ lbcw6).trans bcw67
          have lbaw7 : w4.heap.size < w7.heap.size := Nat.lt_of_lt_of_le lbaw6 (Same.size s7)
          have baw70 : w7.cell? ⟨w4.heap.size, 0, none⟩ = some (.slice (some ⟨b2, off2, none⟩) ts.length c1) := (Same.cells s7 _ _ lbaw6).trans baw60
          clear S_w_w6 S_w4_w6 lbsw6 bsw60 lbcw6 bcw60 bcw61 bcw62 bcw63 bcw64 bcw65 bcw66 bcw67 lbaw6 baw60
          clear s7
          go_wp2_with (fail)
          go_ret
          exact ⟨rfl, S_w_w7.out⟩
        | true =>
          have HFT : Hid (∀ W, Same w W → Calls Tryz.prog 21 #[.agg #[.string n1, .slice A4 m4 c4, .slice B4 p4 d4], .slice Ar row.length rc] W fun e w' => e = .returned (.bool true) ∧ Same W w') := by rw [← hfb]; exact HFIT
          have HFB := Lib.hid hfb
          clear hfb HFIT
          by_cases hz : (convS (ts.map RT.tb) ⟨k, t, aa, n, to_, ⟨dk, dn, ds⟩⟩ (nn : Int) row).2 = 0
          case neg =>
            obtain ⟨hcv, hk4, hnm, i, hi, hci, hcast⟩ := rows_cast HE1.out nn hnS HFB.out hz
            have HC1 : Hid (∀ W, Same w W → Calls Tryz.prog 13 #[.agg #[.slice (some ⟨b, off, none⟩) ts.length cc], .agg #[.int .i64 k, .string t, .string aa, .string n, .int .i64 to_, .int .i64 dk, .int .i64 dn, .string ds], .int .i64 (nn : Int), .slice Ar row.length rc] W fun e w' => ∃ (A3 : Option Addr) (c3 : Nat), e = .returned (.tuple #[.slice A3 0 c3, .int .i64 15]) ∧ Same W w') := fun W s => by
              refine (HCNV.out W s).mono ?_
              rintro e w' ⟨A3, m3, c3, he, r3, s3⟩
              rw [hcv] at he r3
              obtain rfl : m3 = 0 := r3.1.1.symm
              exact ⟨A3, c3, he, s3⟩
            have HC2 : Hid (∀ W, Same w W → Calls Tryz.prog 23 #[.agg #[.string n1, .slice A4 m4 c4, .slice B4 p4 d4], .string aa] W fun e w' => e = .returned (.int .i64 (i : Int)) ∧ Same W w') := by
              have h := HCOL
              rw [show colA (ts.map RT.tb)[nn].attrs aa = (i : Int) from hci] at h
              exact h
            have hk' : k = 4 := hk4
            have hn' : n1 = t := HNM.out.symm.trans hnm
            subst hk'
            subst hn'
            have HCAST : Hid ((castP row[i] to_).2 ≠ 0) := hcast
            clear hcv hk4 hnm hci hcast hz HCOL HCNV y0 y1 y2
            rw [HMOD.out]
            refine (HC1.out _ S_w_W5.out).mono ?_
            rintro e w6 ⟨A3, c3, rfl, s6⟩
            have S_w_w6 : Hid (Same w w6) := S_w_W5.out.trans s6
            have S_w4_w6 : Hid (Same w4 w6) := S_w4_W5.out.trans s6
            have lbsw6 : w.heap.size < w6.heap.size := Nat.lt_of_lt_of_le lbsW5 (Same.size s6)
            have bsw60 : w6.cell? ⟨w.heap.size, 0, none⟩ = some (.slice (some ⟨b, off, none⟩) ts.length cc) := (Same.cells s6 _ _ lbsW5).trans bsW50
            have lbcw6 : w.heap.size + 1 < w6.heap.size := Nat.lt_of_lt_of_le lbcW5 (Same.size s6)
            have bcw60 : w6.cell? ⟨w.heap.size + 1, 0, none⟩ = some (.int .i64 4) := (Same.cells s6 _ _ lbcW5).trans bcW50
            have bcw61 : w6.cell? ⟨w.heap.size + 1, 1, none⟩ = some (.string n1) := (Same.cells s6 _ _ lbcW5).trans bcW51
            have bcw62 : w6.cell? ⟨w.heap.size + 1, 2, none⟩ = some (.string aa) := (Same.cells s6 _ _ lbcW5).trans bcW52
            have bcw63 : w6.cell? ⟨w.heap.size + 1, 3, none⟩ = some (.string n) := (Same.cells s6 _ _ lbcW5).trans bcW53
            have bcw64 : w6.cell? ⟨w.heap.size + 1, 4, none⟩ = some (.int .i64 to_) := (Same.cells s6 _ _ lbcW5).trans bcW54
            have bcw65 : w6.cell? ⟨w.heap.size + 1, 5, none⟩ = some (.int .i64 dk) := (Same.cells s6 _ _ lbcW5).trans bcW55
            have bcw66 : w6.cell? ⟨w.heap.size + 1, 6, none⟩ = some (.int .i64 dn) := (Same.cells s6 _ _ lbcW5).trans bcW56
            have bcw67 : w6.cell? ⟨w.heap.size + 1, 7, none⟩ = some (.string ds) := (Same.cells s6 _ _ lbcW5).trans bcW57
            have lbaw6 : w4.heap.size < w6.heap.size := Nat.lt_of_lt_of_le lbaW5 (Same.size s6)
            have baw60 : w6.cell? ⟨w4.heap.size, 0, none⟩ = some (.slice (some ⟨b2, off2, none⟩) ts.length c1) := (Same.cells s6 _ _ lbaW5).trans baW50
            clear S_w_W5 S_w4_W5 lbsW5 bsW50 lbcW5 bcW50 bcW51 bcW52 bcW53 bcW54 bcW55 bcW56 bcW57 lbaW5 baW50
            clear s6
            have x0w6 := (S_w_w6.out.cells _ _ blt).trans x0
            have x1w6 := (S_w_w6.out.cells _ _ blt).trans x1
            have x2w6 := (S_w_w6.out.cells _ _ blt).trans x2
            go_wp2_with (fail)
            refine (HFT.out _ S_w_w6.out).mono ?_
            rintro e w7 ⟨rfl, s7⟩
            clear x0w6 x1w6 x2w6
            have S_w_w7 : Hid (Same w w7) := S_w_w6.out.trans s7
            have S_w4_w7 : Hid (Same w4 w7) := S_w4_w6.out.trans s7
            have lbsw7 : w.heap.size < w7.heap.size := Nat.lt_of_lt_of_le lbsw6 (Same.size s7)
            have bsw70 : w7.cell? ⟨w.heap.size, 0, none⟩ = some (.slice (some ⟨b, off, none⟩) ts.length cc) := (Same.cells s7 _ _ lbsw6).trans bsw60
            have lbcw7 : w.heap.size + 1 < w7.heap.size := Nat.lt_of_lt_of_le lbcw6 (Same.size s7)
            have bcw70 : w7.cell? ⟨w.heap.size + 1, 0, none⟩ = some (.int .i64 4) := (Same.cells s7 _ _ lbcw6).trans bcw60
            have bcw71 : w7.cell? ⟨w.heap.size + 1, 1, none⟩ = some (.string n1) := (Same.cells s7 _ _ lbcw6).trans bcw61
            have bcw72 : w7.cell? ⟨w.heap.size + 1, 2, none⟩ = some (.string aa) := (Same.cells s7 _ _ lbcw6).trans bcw62
            have bcw73 : w7.cell? ⟨w.heap.size + 1, 3, none⟩ = some (.string n) := (Same.cells s7 _ _ lbcw6).trans bcw63
            have bcw74 : w7.cell? ⟨w.heap.size + 1, 4, none⟩ = some (.int .i64 to_) := (Same.cells s7 _ _ lbcw6).trans bcw64
            have bcw75 : w7.cell? ⟨w.heap.size + 1, 5, none⟩ = some (.int .i64 dk) := (Same.cells s7 _ _ lbcw6).trans bcw65
            have bcw76 : w7.cell? ⟨w.heap.size + 1, 6, none⟩ = some (.int .i64 dn) := (Same.cells s7 _ _ lbcw6).trans bcw66
            have bcw77 : w7.cell? ⟨w.heap.size + 1, 7, none⟩ = some (.string ds) := (Same.cells s7 _ _ lbcw6).trans bcw67
            have lbaw7 : w4.heap.size < w7.heap.size := Nat.lt_of_lt_of_le lbaw6 (Same.size s7)
            have baw70 : w7.cell? ⟨w4.heap.size, 0, none⟩ = some (.slice (some ⟨b2, off2, none⟩) ts.length c1) := (Same.cells s7 _ _ lbaw6).trans baw60
            clear S_w_w6 S_w4_w6 lbsw6 bsw60 lbcw6 bcw60 bcw61 bcw62 bcw63 bcw64 bcw65 bcw66 bcw67 lbaw6 baw60
            clear s7
            have x0w7 := (S_w_w7.out.cells _ _ blt).trans x0
            have x1w7 := (S_w_w7.out.cells _ _ blt).trans x1
            have x2w7 := (S_w_w7.out.cells _ _ blt).trans x2
            have cC := regr (w := w7) (fun W s => HC2.out W (S_w_w7.out.trans s))
            have kx0 := cellr x0w7
            have kx1 := cellr x1w7
            have kx2 := cellr x2w7
            have kbs0 := cellr bsw70
            have kbc2 := cellr bcw72
            clear x0w7 x1w7 x2w7
            go_wp2_with (fail)
            refine wp_region_quiet_below (by kernel_rfl) (by kernel_rfl) ?_
            repeat (go_big_quiet_step (first | (go_at_call 23; exact cC _ _)))
            refine wpQuiet_nil ?_
            intro _ hw'
            obtain ⟨⟨dq, osq⟩, hw''⟩ := hw'
            subst hw''
            have sw8 := Same.reg w7 dq osq
            generalize Sort.grow (redrawn w7 dq) osq = w8 at sw8 ⊢
            clear kx0 kx1 kx2 kbs0 kbc2 cC
            have S_w_w8 : Hid (Same w w8) := S_w_w7.out.trans sw8
            have S_w4_w8 : Hid (Same w4 w8) := S_w4_w7.out.trans sw8
            have lbsw8 : w.heap.size < w8.heap.size := Nat.lt_of_lt_of_le lbsw7 (Same.size sw8)
            have bsw80 : w8.cell? ⟨w.heap.size, 0, none⟩ = some (.slice (some ⟨b, off, none⟩) ts.length cc) := (Same.cells sw8 _ _ lbsw7).trans bsw70
            have lbcw8 : w.heap.size + 1 < w8.heap.size := Nat.lt_of_lt_of_le lbcw7 (Same.size sw8)
            have bcw80 : w8.cell? ⟨w.heap.size + 1, 0, none⟩ = some (.int .i64 4) := (Same.cells sw8 _ _ lbcw7).trans bcw70
            have bcw81 : w8.cell? ⟨w.heap.size + 1, 1, none⟩ = some (.string n1) := (Same.cells sw8 _ _ lbcw7).trans bcw71
            have bcw82 : w8.cell? ⟨w.heap.size + 1, 2, none⟩ = some (.string aa) := (Same.cells sw8 _ _ lbcw7).trans bcw72
            have bcw83 : w8.cell? ⟨w.heap.size + 1, 3, none⟩ = some (.string n) := (Same.cells sw8 _ _ lbcw7).trans bcw73
            have bcw84 : w8.cell? ⟨w.heap.size + 1, 4, none⟩ = some (.int .i64 to_) := (Same.cells sw8 _ _ lbcw7).trans bcw74
            have bcw85 : w8.cell? ⟨w.heap.size + 1, 5, none⟩ = some (.int .i64 dk) := (Same.cells sw8 _ _ lbcw7).trans bcw75
            have bcw86 : w8.cell? ⟨w.heap.size + 1, 6, none⟩ = some (.int .i64 dn) := (Same.cells sw8 _ _ lbcw7).trans bcw76
            have bcw87 : w8.cell? ⟨w.heap.size + 1, 7, none⟩ = some (.string ds) := (Same.cells sw8 _ _ lbcw7).trans bcw77
            have lbaw8 : w4.heap.size < w8.heap.size := Nat.lt_of_lt_of_le lbaw7 (Same.size sw8)
            have baw80 : w8.cell? ⟨w4.heap.size, 0, none⟩ = some (.slice (some ⟨b2, off2, none⟩) ts.length c1) := (Same.cells sw8 _ _ lbaw7).trans baw70
            clear S_w_w7 S_w4_w7 lbsw7 bsw70 lbcw7 bcw70 bcw71 bcw72 bcw73 bcw74 bcw75 bcw76 bcw77 lbaw7 baw70
            clear sw8
            have x0w8 := (S_w_w8.out.cells _ _ blt).trans x0
            have x1w8 := (S_w_w8.out.cells _ _ blt).trans x1
            have x2w8 := (S_w_w8.out.cells _ _ blt).trans x2
            have kx0 := cellr x0w8
            have kbs0 := cellr bsw80
            have kbc0 := cellr bcw80
            have kbc1 := cellr bcw81
            have tn : (n1.toList == n1.toList) = true := by simp
            have hi0 : (0 : Int) ≤ (i : Int) := by omega
            have hi1 : decide ((i : Int) < 0) = false := decide_eq_false (by omega)
            clear x0w8 x1w8 x2w8
            go_wp2_with (fail)
            refine wp_region_quiet_below (by kernel_rfl) (by kernel_rfl) ?_
            repeat (go_big_quiet_step (fail))
            refine wpQuiet_nil ?_
            intro _ hw'
            obtain ⟨⟨dq, osq⟩, hw''⟩ := hw'
            subst hw''
            have sw9 := Same.reg w8 dq osq
            generalize Sort.grow (redrawn w8 dq) osq = w9 at sw9 ⊢
            clear kx0 kbs0 kbc0 kbc1 tn
            have S_w_w9 : Hid (Same w w9) := S_w_w8.out.trans sw9
            have S_w4_w9 : Hid (Same w4 w9) := S_w4_w8.out.trans sw9
            have lbsw9 : w.heap.size < w9.heap.size := Nat.lt_of_lt_of_le lbsw8 (Same.size sw9)
            have bsw90 : w9.cell? ⟨w.heap.size, 0, none⟩ = some (.slice (some ⟨b, off, none⟩) ts.length cc) := (Same.cells sw9 _ _ lbsw8).trans bsw80
            have lbcw9 : w.heap.size + 1 < w9.heap.size := Nat.lt_of_lt_of_le lbcw8 (Same.size sw9)
            have bcw90 : w9.cell? ⟨w.heap.size + 1, 0, none⟩ = some (.int .i64 4) := (Same.cells sw9 _ _ lbcw8).trans bcw80
            have bcw91 : w9.cell? ⟨w.heap.size + 1, 1, none⟩ = some (.string n1) := (Same.cells sw9 _ _ lbcw8).trans bcw81
            have bcw92 : w9.cell? ⟨w.heap.size + 1, 2, none⟩ = some (.string aa) := (Same.cells sw9 _ _ lbcw8).trans bcw82
            have bcw93 : w9.cell? ⟨w.heap.size + 1, 3, none⟩ = some (.string n) := (Same.cells sw9 _ _ lbcw8).trans bcw83
            have bcw94 : w9.cell? ⟨w.heap.size + 1, 4, none⟩ = some (.int .i64 to_) := (Same.cells sw9 _ _ lbcw8).trans bcw84
            have bcw95 : w9.cell? ⟨w.heap.size + 1, 5, none⟩ = some (.int .i64 dk) := (Same.cells sw9 _ _ lbcw8).trans bcw85
            have bcw96 : w9.cell? ⟨w.heap.size + 1, 6, none⟩ = some (.int .i64 dn) := (Same.cells sw9 _ _ lbcw8).trans bcw86
            have bcw97 : w9.cell? ⟨w.heap.size + 1, 7, none⟩ = some (.string ds) := (Same.cells sw9 _ _ lbcw8).trans bcw87
            have lbaw9 : w4.heap.size < w9.heap.size := Nat.lt_of_lt_of_le lbaw8 (Same.size sw9)
            have baw90 : w9.cell? ⟨w4.heap.size, 0, none⟩ = some (.slice (some ⟨b2, off2, none⟩) ts.length c1) := (Same.cells sw9 _ _ lbaw8).trans baw80
            clear S_w_w8 S_w4_w8 lbsw8 bsw80 lbcw8 bcw80 bcw81 bcw82 bcw83 bcw84 bcw85 bcw86 bcw87 lbaw8 baw80
            clear sw9
            have hil : (i : Int) < (row.length : Int) := by omega
            obtain ⟨br, offr, hAr, bltr, hcr⟩ := (HR.out.1).2.2 i hi
            have hAr' : Ar = some ⟨br, offr, none⟩ := hAr
            have HC := Lib.hid (fun W (s : Same w9 W) => cast_ok row[i] to_ W (HL.out.same (S_w_w9.out.trans s)))
            obtain ⟨⟨cv, ce⟩, hcv⟩ : ∃ p, p = castP row[i] to_ := ⟨_, rfl⟩
            rw [← hcv] at HC HCAST
            have tce : (ce != 0) = true := by simp; exact HCAST.out
            obtain ⟨⟨v0, v1, v2⟩, hv⟩ : ∃ v, v = row[i] := ⟨_, rfl⟩
            rw [← hv] at hcr HC
            obtain ⟨q0, q1, q2⟩ := cv
            have d0 : w.cell? ⟨br, offr + i * 3, none⟩ = some (.int .i64 v0) := hcr 0 _ rfl
            have d1 : w.cell? ⟨br, offr + i * 3 + 1, none⟩ = some (.int .i64 v1) := hcr 1 _ rfl
            have d2 : w.cell? ⟨br, offr + i * 3 + 2, none⟩ = some (.string v2) := hcr 2 _ rfl
            have e0 := (S_w_w9.out.cells _ _ bltr).trans d0
            have e1 := (S_w_w9.out.cells _ _ bltr).trans d1
            have e2 := (S_w_w9.out.cells _ _ bltr).trans d2
            have blr9 : br < w9.heap.size := Nat.lt_of_lt_of_le bltr S_w_w9.out.size
            have HC' : Hid (∀ W, Same w9 W → Calls Tryz.prog 27 #[.agg #[.int .i64 v0, .int .i64 v1, .string v2], .int .i64 to_] W fun e w' => e = .returned (.tuple #[.agg #[.int .i64 q0, .int .i64 q1, .string q2], .int .i64 ce]) ∧ Same W w') := HC
            subst hAr'
            clear hAr hcr hv hcv HC d0 d1 d2
            have zr : br ≠ w9.heap.size := by omega
            have zc : w.heap.size + 1 ≠ w9.heap.size := by omega
            go_wp2_with (fail)
            go_region_held3 (fun w' => w'.cell? ⟨br, offr + i * 3, none⟩ = some (.int .i64 v0) ∧ w'.cell? ⟨br, offr + i * 3 + 1, none⟩ = some (.int .i64 v1) ∧ w'.cell? ⟨br, offr + i * 3 + 2, none⟩ = some (.string v2) ∧ w'.cell? ⟨w.heap.size + 1, 4, none⟩ = some (.int .i64 to_)) (first | (simp [*]; done) | (simp [*, cell_drew, cell_far, cell_new', cell_old]; done) | ((repeat' apply And.intro) <;> (first | (simp [*]; done) | (simp [*, cell_drew, cell_far, cell_new', cell_old]; done) | go_keep)))
              (first
              | (go_at_call 27; refine (HC'.out _ ?_).mono ?_; exact ((Same.refl w9).alloc _).drew; rintro e wz ⟨rfl, sz⟩; have SZ : Hid (Same w9 wz) := Same.trans (((Same.refl w9).alloc _).drew) sz; have hz1 : w9.heap.size < wz.heap.size := Nat.lt_of_lt_of_le (by simp [heap_drew] <;> omega) sz.size; have u0 : wz.cell? ⟨br, offr + i * 3, none⟩ = some (.int .i64 v0) := (SZ.out.cells _ _ blr9).trans e0; have u1 : wz.cell? ⟨br, offr + i * 3 + 1, none⟩ = some (.int .i64 v1) := (SZ.out.cells _ _ blr9).trans e1; have u2 : wz.cell? ⟨br, offr + i * 3 + 2, none⟩ = some (.string v2) := (SZ.out.cells _ _ blr9).trans e2; have u3 : wz.cell? ⟨w.heap.size + 1, 4, none⟩ = some (.int .i64 to_) := (SZ.out.cells _ _ lbcw9).trans bcw94; have m0 : wz.cell? ⟨w9.heap.size, 0, none⟩ = some (.int .i64 0) := (sz.cells _ _ (by simp [heap_drew] <;> omega)).trans (by simp [cell_drew]); have f0 : wz.frozen? ⟨w9.heap.size, 0, none⟩ = false := (sz.frees _ _ (by simp [heap_drew] <;> omega)).trans (by simp); have m1 : wz.cell? ⟨w9.heap.size, 1, none⟩ = some (.int .i64 0) := (sz.cells _ _ (by simp [heap_drew] <;> omega)).trans (by simp [cell_drew]); have f1 : wz.frozen? ⟨w9.heap.size, 1, none⟩ = false := (sz.frees _ _ (by simp [heap_drew] <;> omega)).trans (by simp); have m2 : wz.cell? ⟨w9.heap.size, 2, none⟩ = some (.string ⟨#[]⟩) := (sz.cells _ _ (by simp [heap_drew] <;> omega)).trans (by simp [cell_drew]); have f2 : wz.frozen? ⟨w9.heap.size, 2, none⟩ = false := (sz.frees _ _ (by simp [heap_drew] <;> omega)).trans (by simp); clear sz)
              | (go_at_call 27; refine (HC'.out _ ?_).mono ?_; exact (Same.refl w9).drew; rintro e wz ⟨rfl, sz⟩; have SZ : Hid (Same w9 wz) := Same.trans ((Same.refl w9).drew) sz; have hz1 : w9.heap.size ≤ wz.heap.size := SZ.out.size; have u0 : wz.cell? ⟨br, offr + i * 3, none⟩ = some (.int .i64 v0) := (SZ.out.cells _ _ blr9).trans e0; have u1 : wz.cell? ⟨br, offr + i * 3 + 1, none⟩ = some (.int .i64 v1) := (SZ.out.cells _ _ blr9).trans e1; have u2 : wz.cell? ⟨br, offr + i * 3 + 2, none⟩ = some (.string v2) := (SZ.out.cells _ _ blr9).trans e2; have u3 : wz.cell? ⟨w.heap.size + 1, 4, none⟩ = some (.int .i64 to_) := (SZ.out.cells _ _ lbcw9).trans bcw94; clear sz))
            all_goals
              go_wp2_with (fail)
              go_ret
              refine ⟨rfl, S_w_w9.out.trans ?_⟩
              first
                | exact SZ.out
                | exact SZ.out.alloc _
                | exact ((SZ.out.setCell (p := ⟨w9.heap.size, 0, none⟩) (Nat.le_refl _) _).setCell (p := ⟨w9.heap.size, 1, none⟩) (Nat.le_refl _) _).setCell (p := ⟨w9.heap.size, 2, none⟩) (Nat.le_refl _) _
          case pos =>
            have HZ := Lib.hid hz
            clear hz
            have HC1 : Hid (∀ W, Same w W → Calls Tryz.prog 13 #[.agg #[.slice (some ⟨b, off, none⟩) ts.length cc], .agg #[.int .i64 k, .string t, .string aa, .string n, .int .i64 to_, .int .i64 dk, .int .i64 dn, .string ds], .int .i64 (nn : Int), .slice Ar row.length rc] W fun e w' => ∃ (A3 : Option Addr) (c3 : Nat), e = .returned (.tuple #[.slice A3 (convS (ts.map RT.tb) ⟨k, t, aa, n, to_, ⟨dk, dn, ds⟩⟩ (nn : Int) row).1.length c3, .int .i64 0]) ∧ RowAt w' ⟨A3, (convS (ts.map RT.tb) ⟨k, t, aa, n, to_, ⟨dk, dn, ds⟩⟩ (nn : Int) row).1.length, c3⟩ (convS (ts.map RT.tb) ⟨k, t, aa, n, to_, ⟨dk, dn, ds⟩⟩ (nn : Int) row).1 ∧ Same W w') := fun W s => by
              refine (HCNV.out W s).mono ?_
              rintro e w' ⟨A3, m3, c3, he, r3, s3⟩
              obtain rfl : (convS (ts.map RT.tb) ⟨k, t, aa, n, to_, ⟨dk, dn, ds⟩⟩ (nn : Int) row).1.length = m3 := r3.1.1
              rw [HZ.out] at he
              exact ⟨A3, c3, he, r3, s3⟩
            have HFN : Hid (fitsB ((⟨n2, ⟨A5, m5, c5⟩, ra2, ⟨B5, p5, d5⟩, key2⟩ : RT).tb) (convS (ts.map RT.tb) ⟨k, t, aa, n, to_, ⟨dk, dn, ds⟩⟩ (nn : Int) row).1 = true) := by
              show _ = _
              rw [← HSY.out]; exact rows_fitn HE1.out nn hnS HZ.out hnS1
            have HGD : Hid (∀ (i : Nat) (hi : i < row.length), 0 ≤ toI (ts.map RT.tb) ⟨k, t, aa, n, to_, ⟨dk, dn, ds⟩⟩ nn i → toI (ts.map RT.tb) ⟨k, t, aa, n, to_, ⟨dk, dn, ds⟩⟩ nn i < (convS (ts.map RT.tb) ⟨k, t, aa, n, to_, ⟨dk, dn, ds⟩⟩ (nn : Int) row).1.length ∧ ((convS (ts.map RT.tb) ⟨k, t, aa, n, to_, ⟨dk, dn, ds⟩⟩ (nn : Int) row).1[(toI (ts.map RT.tb) ⟨k, t, aa, n, to_, ⟨dk, dn, ds⟩⟩ nn i).toNat]? = some row[i] ∨ (k = 4 ∧ (i : Int) = colA (ts.map RT.tb)[nn].attrs aa ∧ (ts.map RT.tb)[nn].name = t))) := fun i hi h0 => rows_good2 HE1.out nn hnS HZ.out i hi h0
            have HTI : Hid (∀ i : Int, toI (ts.map RT.tb) ⟨k, t, aa, n, to_, ⟨dk, dn, ds⟩⟩ nn i = if n1 = t then movedI (ts.map RT.tb)[nn] ⟨k, t, aa, n, to_, ⟨dk, dn, ds⟩⟩ i else i) := fun i => by
              unfold toI
              rw [List.getElem?_eq_getElem hnS]
              simp only [HNM.out]
            obtain ⟨X, hX⟩ : ∃ X, X = (convS (ts.map RT.tb) ⟨k, t, aa, n, to_, ⟨dk, dn, ds⟩⟩ (nn : Int) row).1 := ⟨_, rfl⟩
            rw [← hX] at HC1 HFN HGD
            obtain ⟨cv, hcv⟩ : ∃ cv, cv = colA (ts.map RT.tb)[nn].attrs aa := ⟨_, rfl⟩
            rw [← hcv] at HCOL HGD
            obtain ⟨tof, htof⟩ : ∃ tof : Int → Int, ∀ i, tof i = toI (ts.map RT.tb) ⟨k, t, aa, n, to_, ⟨dk, dn, ds⟩⟩ nn i := ⟨_, fun _ => rfl⟩
            have HTI' : Hid (∀ i : Int, tof i = if n1 = t then movedI (ts.map RT.tb)[nn] ⟨k, t, aa, n, to_, ⟨dk, dn, ds⟩⟩ i else i) := fun i => (htof i).trans (HTI.out i)
            have HGD' : Hid (∀ (i : Nat) (hi : i < row.length), 0 ≤ tof i → tof i < X.length ∧ (X[(tof i).toNat]? = some row[i] ∨ (k = 4 ∧ (i : Int) = cv ∧ n1 = t))) := fun i hi => by
              rw [htof, ← HNM.out]; exact HGD.out i hi
            clear hX hcv htof HGD HTI HCNV
            rw [HMOD.out]
            refine (HC1.out _ S_w_W5.out).mono ?_
            rintro e w6 ⟨A3, c3, rfl, r3, s6⟩
            have HX := Lib.hid r3
            clear r3
            have S_w_w6 : Hid (Same w w6) := S_w_W5.out.trans s6
            have S_w4_w6 : Hid (Same w4 w6) := S_w4_W5.out.trans s6
            have lbsw6 : w.heap.size < w6.heap.size := Nat.lt_of_lt_of_le lbsW5 (Same.size s6)
            have bsw60 : w6.cell? ⟨w.heap.size, 0, none⟩ = some (.slice (some ⟨b, off, none⟩) ts.length cc) := (Same.cells s6 _ _ lbsW5).trans bsW50
            have lbcw6 : w.heap.size + 1 < w6.heap.size := Nat.lt_of_lt_of_le lbcW5 (Same.size s6)
            have bcw60 : w6.cell? ⟨w.heap.size + 1, 0, none⟩ = some (.int .i64 k) := (Same.cells s6 _ _ lbcW5).trans bcW50
            have bcw61 : w6.cell? ⟨w.heap.size + 1, 1, none⟩ = some (.string t) := (Same.cells s6 _ _ lbcW5).trans bcW51
            have bcw62 : w6.cell? ⟨w.heap.size + 1, 2, none⟩ = some (.string aa) := (Same.cells s6 _ _ lbcW5).trans bcW52
            have bcw63 : w6.cell? ⟨w.heap.size + 1, 3, none⟩ = some (.string n) := (Same.cells s6 _ _ lbcW5).trans bcW53
            have bcw64 : w6.cell? ⟨w.heap.size + 1, 4, none⟩ = some (.int .i64 to_) := (Same.cells s6 _ _ lbcW5).trans bcW54
            have bcw65 : w6.cell? ⟨w.heap.size + 1, 5, none⟩ = some (.int .i64 dk) := (Same.cells s6 _ _ lbcW5).trans bcW55
            have bcw66 : w6.cell? ⟨w.heap.size + 1, 6, none⟩ = some (.int .i64 dn) := (Same.cells s6 _ _ lbcW5).trans bcW56
            have bcw67 : w6.cell? ⟨w.heap.size + 1, 7, none⟩ = some (.string ds) := (Same.cells s6 _ _ lbcW5).trans bcW57
            have lbaw6 : w4.heap.size < w6.heap.size := Nat.lt_of_lt_of_le lbaW5 (Same.size s6)
            have baw60 : w6.cell? ⟨w4.heap.size, 0, none⟩ = some (.slice (some ⟨b2, off2, none⟩) ts.length c1) := (Same.cells s6 _ _ lbaW5).trans baW50
            clear S_w_W5 S_w4_W5 lbsW5 bsW50 lbcW5 bcW50 bcW51 bcW52 bcW53 bcW54 bcW55 bcW56 bcW57 lbaW5 baW50
            clear s6
            have x0w6 := (S_w_w6.out.cells _ _ blt).trans x0
            have x1w6 := (S_w_w6.out.cells _ _ blt).trans x1
            have x2w6 := (S_w_w6.out.cells _ _ blt).trans x2
            go_wp2_with (fail)
            refine (HFT.out _ S_w_w6.out).mono ?_
            rintro e w7 ⟨rfl, s7⟩
            clear x0w6 x1w6 x2w6
            have S_w_w7 : Hid (Same w w7) := S_w_w6.out.trans s7
            have S_w4_w7 : Hid (Same w4 w7) := S_w4_w6.out.trans s7
            have S_w6_w7 : Hid (Same w6 w7) := s7
            have lbsw7 : w.heap.size < w7.heap.size := Nat.lt_of_lt_of_le lbsw6 (Same.size s7)
            have bsw70 : w7.cell? ⟨w.heap.size, 0, none⟩ = some (.slice (some ⟨b, off, none⟩) ts.length cc) := (Same.cells s7 _ _ lbsw6).trans bsw60
            have lbcw7 : w.heap.size + 1 < w7.heap.size := Nat.lt_of_lt_of_le lbcw6 (Same.size s7)
            have bcw70 : w7.cell? ⟨w.heap.size + 1, 0, none⟩ = some (.int .i64 k) := (Same.cells s7 _ _ lbcw6).trans bcw60
            have bcw71 : w7.cell? ⟨w.heap.size + 1, 1, none⟩ = some (.string t) := (Same.cells s7 _ _ lbcw6).trans bcw61
            have bcw72 : w7.cell? ⟨w.heap.size + 1, 2, none⟩ = some (.string aa) := (Same.cells s7 _ _ lbcw6).trans bcw62
            have bcw73 : w7.cell? ⟨w.heap.size + 1, 3, none⟩ = some (.string n) := (Same.cells s7 _ _ lbcw6).trans bcw63
            have bcw74 : w7.cell? ⟨w.heap.size + 1, 4, none⟩ = some (.int .i64 to_) := (Same.cells s7 _ _ lbcw6).trans bcw64
            have bcw75 : w7.cell? ⟨w.heap.size + 1, 5, none⟩ = some (.int .i64 dk) := (Same.cells s7 _ _ lbcw6).trans bcw65
            have bcw76 : w7.cell? ⟨w.heap.size + 1, 6, none⟩ = some (.int .i64 dn) := (Same.cells s7 _ _ lbcw6).trans bcw66
            have bcw77 : w7.cell? ⟨w.heap.size + 1, 7, none⟩ = some (.string ds) := (Same.cells s7 _ _ lbcw6).trans bcw67
            have lbaw7 : w4.heap.size < w7.heap.size := Nat.lt_of_lt_of_le lbaw6 (Same.size s7)
            have baw70 : w7.cell? ⟨w4.heap.size, 0, none⟩ = some (.slice (some ⟨b2, off2, none⟩) ts.length c1) := (Same.cells s7 _ _ lbaw6).trans baw60
            clear S_w_w6 S_w4_w6 lbsw6 bsw60 lbcw6 bcw60 bcw61 bcw62 bcw63 bcw64 bcw65 bcw66 bcw67 lbaw6 baw60
            clear s7
            have HFY : Hid (∀ W, Same w7 W → Calls Tryz.prog 21 #[.agg #[.string n2, .slice A5 m5 c5, .slice B5 p5 d5], .slice A3 X.length c3] W fun e w' => e = .returned (.bool true) ∧ Same W w') := fun W s => by
              have h := fitsE (HTY.out.same (S_w4_w7.out.trans s)) (HX.out.same (S_w6_w7.out.trans s))
              rw [HFN.out] at h
              exact h
            have y0w7 := (S_w4_w7.out.cells _ _ blt2).trans y0
            have y1w7 := (S_w4_w7.out.cells _ _ blt2).trans y1
            have y2w7 := (S_w4_w7.out.cells _ _ blt2).trans y2
            go_wp2_with (fail)
            refine (HFY.out _ (Same.refl w7)).mono ?_
            rintro e w8 ⟨rfl, s8⟩
            clear y0w7 y1w7 y2w7
            have S_w_w8 : Hid (Same w w8) := S_w_w7.out.trans s8
            have S_w4_w8 : Hid (Same w4 w8) := S_w4_w7.out.trans s8
            have S_w6_w8 : Hid (Same w6 w8) := S_w6_w7.out.trans s8
            have lbsw8 : w.heap.size < w8.heap.size := Nat.lt_of_lt_of_le lbsw7 (Same.size s8)
            have bsw80 : w8.cell? ⟨w.heap.size, 0, none⟩ = some (.slice (some ⟨b, off, none⟩) ts.length cc) := (Same.cells s8 _ _ lbsw7).trans bsw70
            have lbcw8 : w.heap.size + 1 < w8.heap.size := Nat.lt_of_lt_of_le lbcw7 (Same.size s8)
            have bcw80 : w8.cell? ⟨w.heap.size + 1, 0, none⟩ = some (.int .i64 k) := (Same.cells s8 _ _ lbcw7).trans bcw70
            have bcw81 : w8.cell? ⟨w.heap.size + 1, 1, none⟩ = some (.string t) := (Same.cells s8 _ _ lbcw7).trans bcw71
            have bcw82 : w8.cell? ⟨w.heap.size + 1, 2, none⟩ = some (.string aa) := (Same.cells s8 _ _ lbcw7).trans bcw72
            have bcw83 : w8.cell? ⟨w.heap.size + 1, 3, none⟩ = some (.string n) := (Same.cells s8 _ _ lbcw7).trans bcw73
            have bcw84 : w8.cell? ⟨w.heap.size + 1, 4, none⟩ = some (.int .i64 to_) := (Same.cells s8 _ _ lbcw7).trans bcw74
            have bcw85 : w8.cell? ⟨w.heap.size + 1, 5, none⟩ = some (.int .i64 dk) := (Same.cells s8 _ _ lbcw7).trans bcw75
            have bcw86 : w8.cell? ⟨w.heap.size + 1, 6, none⟩ = some (.int .i64 dn) := (Same.cells s8 _ _ lbcw7).trans bcw76
            have bcw87 : w8.cell? ⟨w.heap.size + 1, 7, none⟩ = some (.string ds) := (Same.cells s8 _ _ lbcw7).trans bcw77
            have lbaw8 : w4.heap.size < w8.heap.size := Nat.lt_of_lt_of_le lbaw7 (Same.size s8)
            have baw80 : w8.cell? ⟨w4.heap.size, 0, none⟩ = some (.slice (some ⟨b2, off2, none⟩) ts.length c1) := (Same.cells s8 _ _ lbaw7).trans baw70
            clear S_w_w7 S_w4_w7 S_w6_w7 lbsw7 bsw70 lbcw7 bcw70 bcw71 bcw72 bcw73 bcw74 bcw75 bcw76 bcw77 lbaw7 baw70
            clear s8
            have x0w8 := (S_w_w8.out.cells _ _ blt).trans x0
            have x1w8 := (S_w_w8.out.cells _ _ blt).trans x1
            have x2w8 := (S_w_w8.out.cells _ _ blt).trans x2
            have cC := regr (w := w8) (fun W s => HCOL.out W (S_w_w8.out.trans s))
            have kx0 := cellr x0w8
            have kx1 := cellr x1w8
            have kx2 := cellr x2w8
            have kbs0 := cellr bsw80
            have kbc2 := cellr bcw82
            clear x0w8 x1w8 x2w8
            go_wp2_with (fail)
            refine wp_region_quiet_below (by kernel_rfl) (by kernel_rfl) ?_
            repeat (go_big_quiet_step (first | (go_at_call 23; exact cC _ _)))
            refine wpQuiet_nil ?_
            intro _ hw'
            obtain ⟨⟨dq, osq⟩, hw''⟩ := hw'
            subst hw''
            have sw9 := Same.reg w8 dq osq
            generalize Sort.grow (redrawn w8 dq) osq = w9 at sw9 ⊢
            clear kx0 kx1 kx2 kbs0 kbc2 cC
            have S_w_w9 : Hid (Same w w9) := S_w_w8.out.trans sw9
            have S_w4_w9 : Hid (Same w4 w9) := S_w4_w8.out.trans sw9
            have S_w6_w9 : Hid (Same w6 w9) := S_w6_w8.out.trans sw9
            have lbsw9 : w.heap.size < w9.heap.size := Nat.lt_of_lt_of_le lbsw8 (Same.size sw9)
            have bsw90 : w9.cell? ⟨w.heap.size, 0, none⟩ = some (.slice (some ⟨b, off, none⟩) ts.length cc) := (Same.cells sw9 _ _ lbsw8).trans bsw80
            have lbcw9 : w.heap.size + 1 < w9.heap.size := Nat.lt_of_lt_of_le lbcw8 (Same.size sw9)
            have bcw90 : w9.cell? ⟨w.heap.size + 1, 0, none⟩ = some (.int .i64 k) := (Same.cells sw9 _ _ lbcw8).trans bcw80
            have bcw91 : w9.cell? ⟨w.heap.size + 1, 1, none⟩ = some (.string t) := (Same.cells sw9 _ _ lbcw8).trans bcw81
            have bcw92 : w9.cell? ⟨w.heap.size + 1, 2, none⟩ = some (.string aa) := (Same.cells sw9 _ _ lbcw8).trans bcw82
            have bcw93 : w9.cell? ⟨w.heap.size + 1, 3, none⟩ = some (.string n) := (Same.cells sw9 _ _ lbcw8).trans bcw83
            have bcw94 : w9.cell? ⟨w.heap.size + 1, 4, none⟩ = some (.int .i64 to_) := (Same.cells sw9 _ _ lbcw8).trans bcw84
            have bcw95 : w9.cell? ⟨w.heap.size + 1, 5, none⟩ = some (.int .i64 dk) := (Same.cells sw9 _ _ lbcw8).trans bcw85
            have bcw96 : w9.cell? ⟨w.heap.size + 1, 6, none⟩ = some (.int .i64 dn) := (Same.cells sw9 _ _ lbcw8).trans bcw86
            have bcw97 : w9.cell? ⟨w.heap.size + 1, 7, none⟩ = some (.string ds) := (Same.cells sw9 _ _ lbcw8).trans bcw87
            have lbaw9 : w4.heap.size < w9.heap.size := Nat.lt_of_lt_of_le lbaw8 (Same.size sw9)
            have baw90 : w9.cell? ⟨w4.heap.size, 0, none⟩ = some (.slice (some ⟨b2, off2, none⟩) ts.length c1) := (Same.cells sw9 _ _ lbaw8).trans baw80
            clear S_w_w8 S_w4_w8 S_w6_w8 lbsw8 bsw80 lbcw8 bcw80 bcw81 bcw82 bcw83 bcw84 bcw85 bcw86 bcw87 lbaw8 baw80
            clear sw9
            go_wp2_with (fail)
            go_loopw [19] (fun i wr => ∃ k' : Nat, k' ≤ row.length ∧ i = .int .i64 k' ∧ Hid (Same w9 wr)) (fun i _ => row.length - (intOf i).toNat)
            case atStart => exact ⟨0, Nat.zero_le _, rfl, Same.refl w9⟩
            case round =>
              obtain ⟨k', hk', rfl, S⟩ := hrel
              by_cases hlt : k' < row.length
              case neg =>
                go_wp2_with (fail)
                go_ret
                exact ⟨rfl, S_w_w9.out.trans S.out⟩
              have SW : Hid (Same w wr) := S_w_w9.out.trans S.out
              have kx0 := cellr ((SW.out.cells _ _ blt).trans x0)
              have kbs0 := cellr ((S.out.cells _ _ lbsw9).trans bsw90)
              have kbc1 := cellr ((S.out.cells _ _ lbcw9).trans bcw91)
              have HGK := Lib.hid (HGD'.out k' hlt)
              have HTK := Lib.hid (HTI'.out (k' : Int))
              by_cases hnt : n1 = t
              · have tt : (n1.toList == t.toList) = true := by rw [beqB]; simp [hnt]
                rw [if_pos hnt] at HTK
                obtain ⟨tv, htv⟩ : ∃ tv, tv = tof (k' : Int) := ⟨_, rfl⟩
                rw [← htv] at HGK HTK
                have HM1 : Hid (∀ W, Same w W → Calls Tryz.prog 26 #[.agg #[.string n1, .slice A4 m4 c4, .slice B4 p4 d4], .agg #[.int .i64 k, .string t, .string aa, .string n, .int .i64 to_, .int .i64 dk, .int .i64 dn, .string ds], .int .i64 (k' : Int)] W fun e w' => e = .returned (.int .i64 tv) ∧ Same W w') := fun W s => by
                  have h := HMOV.out W s (k' : Int) (by omega) (by have := HRL.out; omega)
                  rw [← HTK.out] at h
                  exact h
                clear htv hnt
                go_wp2_with (fail)
                refine wp_region_quiet_below (by kernel_rfl) (by kernel_rfl) ?_
                repeat (go_big_quiet_step (fail))
                refine wpQuiet_nil ?_
                intro _ hw'
                obtain ⟨⟨dq, osq⟩, hw''⟩ := hw'
                subst hw''
                have SA := Lib.hid (S.out.trans (Same.reg wr dq osq))
                generalize Sort.grow (redrawn wr dq) osq = wa at SA ⊢
                clear kx0 kbs0 kbc1 tt
                have SW2 : Hid (Same w wa) := S_w_w9.out.trans SA.out
                have kx0 := cellr ((SW2.out.cells _ _ blt).trans x0)
                have kx1 := cellr ((SW2.out.cells _ _ blt).trans x1)
                have kx2 := cellr ((SW2.out.cells _ _ blt).trans x2)
                have kbs0 := cellr ((SA.out.cells _ _ lbsw9).trans bsw90)
                have kc0 := cellr ((SA.out.cells _ _ lbcw9).trans bcw90)
                have kc1 := cellr ((SA.out.cells _ _ lbcw9).trans bcw91)
                have kc2 := cellr ((SA.out.cells _ _ lbcw9).trans bcw92)
                have kc3 := cellr ((SA.out.cells _ _ lbcw9).trans bcw93)
                have kc4 := cellr ((SA.out.cells _ _ lbcw9).trans bcw94)
                have kc5 := cellr ((SA.out.cells _ _ lbcw9).trans bcw95)
                have kc6 := cellr ((SA.out.cells _ _ lbcw9).trans bcw96)
                have kc7 := cellr ((SA.out.cells _ _ lbcw9).trans bcw97)
                have cM := regr (w := wa) (fun W s => HM1.out W (SW2.out.trans s))
                go_wp2_with (fail)
                refine wp_region_quiet_below (by kernel_rfl) (by kernel_rfl) ?_
                repeat (go_big_quiet_step (first | (go_at_call 26; exact cM _ _)))
                refine wpQuiet_nil ?_
                intro _ hw'
                obtain ⟨⟨dq, osq⟩, hw''⟩ := hw'
                subst hw''
                have SB := Lib.hid (SA.out.trans (Same.reg wa dq osq))
                generalize Sort.grow (redrawn wa dq) osq = wb at SB ⊢
                clear kx0 kx1 kx2 kbs0 cM kc0 kc1 kc2 kc3 kc4 kc5 kc6 kc7
                have kc0 := cellr ((SB.out.cells _ _ lbcw9).trans bcw90)
                by_cases hneg : tv < 0
                · have g0 : decide ((0 : Int) ≤ tv) = false := by simp; omega
                  go_wp2_with (fail)
                  refine wp_region_quiet_below (by kernel_rfl) (by kernel_rfl) ?_
                  repeat (go_big_quiet_step (fail))
                  refine wpQuiet_nil ?_
                  intro _ hw'
                  obtain ⟨⟨dq, osq⟩, hw''⟩ := hw'
                  subst hw''
                  have S9 := Lib.hid (SB.out.trans (Same.reg wb dq osq))
                  generalize Sort.grow (redrawn wb dq) osq = wj at S9 ⊢
                  clear g0 kc0
                  go_wp2
                  go_roundw
                  case rel => exact ⟨k' + 1, by omega, by go_num, S9.out⟩
                  case measure => simp [intOf]; omega
                · obtain ⟨tn, htn⟩ : ∃ tn : Nat, tv = tn := ⟨tv.toNat, by omega⟩
                  subst htn
                  have htl : tn < X.length := by have := (HGK.out (by omega)).1; omega
                  have EQ : Hid (X[tn] = row[k'] ∨ (k = 4 ∧ (k' : Int) = cv ∧ n1 = t)) := by
                    rcases (HGK.out (by omega)).2 with h | h
                    · rw [Int.toNat_natCast, List.getElem?_eq_getElem htl] at h
                      exact Lib.hid (.inl (Option.some.inj h))
                    · exact Lib.hid (.inr h)
                  obtain ⟨bq, offq, hAq, bltq, hcq⟩ := (HX.out.1.same (S_w6_w9.out.trans SB.out)).2.2 tn htl
                  have hAq' : A3 = some ⟨bq, offq, none⟩ := hAq
                  obtain ⟨br, offr, hAr, bltr, hcr⟩ := (HR.out.1.same (S_w_w9.out.trans SB.out)).2.2 k' hlt
                  have hAr' : Ar = some ⟨br, offr, none⟩ := hAr
                  obtain ⟨u, hu⟩ : ∃ u, u = X[tn] := ⟨_, rfl⟩
                  obtain ⟨v, hv⟩ : ∃ v, v = row[k'] := ⟨_, rfl⟩
                  rw [← hu] at hcq EQ
                  rw [← hv] at hcr EQ
                  clear hu hv hAq hAr
                  obtain ⟨u0, u1, u2⟩ := u
                  obtain ⟨v0, v1, v2⟩ := v
                  have ku0 := cellr (hcq 0 (.int .i64 u0) rfl)
                  have ku1 := cellr (hcq 1 (.int .i64 u1) rfl)
                  have ku2 := cellr (hcq 2 (.string u2) rfl)
                  have kv0 := cellr (hcr 0 (.int .i64 v0) rfl)
                  have kv1 := cellr (hcr 1 (.int .i64 v1) rfl)
                  have kv2 := cellr (hcr 2 (.string v2) rfl)
                  simp only [Nat.add_zero] at ku0 kv0
                  subst hAq' hAr'
                  clear hcq hcr
                  have hk0 : (0 : Int) ≤ (k' : Int) := by omega
                  have hkl : (k' : Int) < (row.length : Int) := by omega
                  have ht0 : (0 : Int) ≤ (tn : Int) := by omega
                  have htI : (tn : Int) < (X.length : Int) := by omega
                  by_cases q1 : u0 = v0
                  case neg =>
                    have t2 : (u0 == v0) = false := by simp; exact q1
                    obtain ⟨k4, kcv, -⟩ := EQ.out.resolve_left (fun h => q1 (by injection h))
                    subst k4 kcv
                    clear q1
                    have z4 : ((k' : Int) != (k' : Int)) = false := by simp
                    go_wp2_with (fail)
                    refine wp_region_quiet_below (by kernel_rfl) (by kernel_rfl) ?_
                    repeat (go_big_quiet_step (fail))
                    refine wpQuiet_nil ?_
                    intro _ hw'
                    obtain ⟨⟨dq, osq⟩, hw''⟩ := hw'
                    subst hw''
                    have S9 := Lib.hid (SB.out.trans (Same.reg wb dq osq))
                    generalize Sort.grow (redrawn wb dq) osq = wj at S9 ⊢
                    clear ku0 ku1 ku2 kv0 kv1 kv2 kc0 z4 t2
                    go_wp2
                    go_roundw
                    case rel => exact ⟨k' + 1, by omega, by go_num, S9.out⟩
                    case measure => simp [intOf]; omega
                  have t2 : (u0 == v0) = true := by simp; exact q1
                  by_cases q2 : u1 = v1
                  case neg =>
                    have t3 : (u1 == v1) = false := by simp; exact q2
                    obtain ⟨k4, kcv, -⟩ := EQ.out.resolve_left (fun h => q2 (by injection h))
                    subst k4 kcv
                    clear q1 q2
                    have z4 : ((k' : Int) != (k' : Int)) = false := by simp
                    go_wp2_with (fail)
                    refine wp_region_quiet_below (by kernel_rfl) (by kernel_rfl) ?_
                    repeat (go_big_quiet_step (fail))
                    refine wpQuiet_nil ?_
                    intro _ hw'
                    obtain ⟨⟨dq, osq⟩, hw''⟩ := hw'
                    subst hw''
                    have S9 := Lib.hid (SB.out.trans (Same.reg wb dq osq))
                    generalize Sort.grow (redrawn wb dq) osq = wj at S9 ⊢
                    clear ku0 ku1 ku2 kv0 kv1 kv2 kc0 z4 t2 t3
                    go_wp2
                    go_roundw
                    case rel => exact ⟨k' + 1, by omega, by go_num, S9.out⟩
                    case measure => simp [intOf]; omega
                  have t3 : (u1 == v1) = true := by simp; exact q2
                  by_cases q3 : u2 = v2
                  case neg =>
                    have t4 : (u2.toList == v2.toList) = false := by rw [beqB]; simp; exact q3
                    obtain ⟨k4, kcv, -⟩ := EQ.out.resolve_left (fun h => q3 (by injection h))
                    subst k4 kcv
                    clear q1 q2 q3
                    have z4 : ((k' : Int) != (k' : Int)) = false := by simp
                    go_wp2_with (fail)
                    refine wp_region_quiet_below (by kernel_rfl) (by kernel_rfl) ?_
                    repeat (go_big_quiet_step (fail))
                    refine wpQuiet_nil ?_
                    intro _ hw'
                    obtain ⟨⟨dq, osq⟩, hw''⟩ := hw'
                    subst hw''
                    have S9 := Lib.hid (SB.out.trans (Same.reg wb dq osq))
                    generalize Sort.grow (redrawn wb dq) osq = wj at S9 ⊢
                    clear ku0 ku1 ku2 kv0 kv1 kv2 kc0 z4 t2 t3 t4
                    go_wp2
                    go_roundw
                    case rel => exact ⟨k' + 1, by omega, by go_num, S9.out⟩
                    case measure => simp [intOf]; omega
                  have t4 : (u2.toList == v2.toList) = true := by rw [beqB]; simp; exact q3
                  clear q1 q2 q3
                  go_wp2_with (fail)
                  refine wp_region_quiet_below (by kernel_rfl) (by kernel_rfl) ?_
                  repeat (go_big_quiet_step (fail))
                  refine wpQuiet_nil ?_
                  intro _ hw'
                  obtain ⟨⟨dq, osq⟩, hw''⟩ := hw'
                  subst hw''
                  have S9 := Lib.hid (SB.out.trans (Same.reg wb dq osq))
                  generalize Sort.grow (redrawn wb dq) osq = wj at S9 ⊢
                  clear ku0 ku1 ku2 kv0 kv1 kv2 kc0 t2 t3 t4
                  go_wp2
                  go_roundw
                  case rel => exact ⟨k' + 1, by omega, by go_num, S9.out⟩
                  case measure => simp [intOf]; omega
              · have tt : (n1.toList == t.toList) = false := by rw [beqB]; simp [hnt]
                rw [if_neg hnt] at HTK
                have htl : k' < X.length := by have := (HGK.out (by rw [HTK.out]; omega)).1; rw [HTK.out] at this; omega
                have EQ : Hid (X[k'] = row[k']) := by
                  have h := (HGK.out (by rw [HTK.out]; omega)).2
                  rw [HTK.out] at h
                  rcases h with h | h
                  · rw [Int.toNat_natCast, List.getElem?_eq_getElem htl] at h
                    exact Lib.hid (Option.some.inj h)
                  · exact absurd h.2.2 hnt
                clear hnt
                go_wp2_with (fail)
                refine wp_region_quiet_below (by kernel_rfl) (by kernel_rfl) ?_
                repeat (go_big_quiet_step (fail))
                refine wpQuiet_nil ?_
                intro _ hw'
                obtain ⟨⟨dq, osq⟩, hw''⟩ := hw'
                subst hw''
                have SB := Lib.hid (S.out.trans (Same.reg wr dq osq))
                generalize Sort.grow (redrawn wr dq) osq = wb at SB ⊢
                clear kx0 kbs0 kbc1 tt
                obtain ⟨bq, offq, hAq, bltq, hcq⟩ := (HX.out.1.same (S_w6_w9.out.trans SB.out)).2.2 k' htl
                have hAq' : A3 = some ⟨bq, offq, none⟩ := hAq
                obtain ⟨br, offr, hAr, bltr, hcr⟩ := (HR.out.1.same (S_w_w9.out.trans SB.out)).2.2 k' hlt
                have hAr' : Ar = some ⟨br, offr, none⟩ := hAr
                obtain ⟨u, hu⟩ : ∃ u, u = X[k'] := ⟨_, rfl⟩
                obtain ⟨v, hv⟩ : ∃ v, v = row[k'] := ⟨_, rfl⟩
                rw [← hu] at hcq EQ
                rw [← hv] at hcr EQ
                clear hu hv hAq hAr
                obtain ⟨u0, u1, u2⟩ := u
                obtain ⟨v0, v1, v2⟩ := v
                have ku0 := cellr (hcq 0 (.int .i64 u0) rfl)
                have ku1 := cellr (hcq 1 (.int .i64 u1) rfl)
                have ku2 := cellr (hcq 2 (.string u2) rfl)
                have kv0 := cellr (hcr 0 (.int .i64 v0) rfl)
                have kv1 := cellr (hcr 1 (.int .i64 v1) rfl)
                have kv2 := cellr (hcr 2 (.string v2) rfl)
                simp only [Nat.add_zero] at ku0 kv0
                subst hAq' hAr'
                clear hcq hcr
                have hk0 : (0 : Int) ≤ (k' : Int) := by omega
                have hkl : (k' : Int) < (row.length : Int) := by omega
                have ht0 : (0 : Int) ≤ (k' : Int) := by omega
                have htI : (k' : Int) < (X.length : Int) := by omega
                have ev : (⟨u0, u1, u2⟩ : V) = ⟨v0, v1, v2⟩ := EQ.out
                injection ev with e0 e1 e2
                subst e0 e1 e2
                have t2 : (u0 == u0) = true := by simp
                have t3 : (u1 == u1) = true := by simp
                have t4 : (u2.toList == u2.toList) = true := by simp
                go_wp2_with (fail)
                refine wp_region_quiet_below (by kernel_rfl) (by kernel_rfl) ?_
                repeat (go_big_quiet_step (fail))
                refine wpQuiet_nil ?_
                intro _ hw'
                obtain ⟨⟨dq, osq⟩, hw''⟩ := hw'
                subst hw''
                have S9 := Lib.hid (SB.out.trans (Same.reg wb dq osq))
                generalize Sort.grow (redrawn wb dq) osq = wj at S9 ⊢
                clear ku0 ku1 ku2 kv0 kv1 kv2 t2 t3 t4
                go_wp2
                go_roundw
                case rel => exact ⟨k' + 1, by omega, by go_num, S9.out⟩
                case measure => simp [intOf]; omega
end Go.Proofs.YtalpbodjplnjcaaGreatDoor

/- SchemaMatchesReference: the walk. Conditions: Laid. -/
import Derived.Test.YtfifnemnihcijaaGreatDoorKOa
import Derived.Test.YtfifnemnihcijaaGreatDoorKZg
import Derived.Test.YtfifnemnihcijaaGreatDoorKYf
set_option linter.unusedSimpArgs false
set_option linter.unusedVariables false
namespace Go.Proofs.YtfifnemnihcijaaGreatDoor
open Go.RowKit

/-- What Apply hands back, in one form: the changed schema, or none. -/
def applyR (S : List Tb) (c : Cg) : List Tb := if errOf S c = 0 then applyS S c else []
theorem tabs_none (w : World) : TabsAt w ⟨none, 0, 0⟩ [] := ⟨⟨rfl, by show (0 : Nat) ≤ _; omega, fun k hk => by simp at hk⟩, fun t ht => by simp at ht⟩
theorem applyOut_one {S : List Tb} {c : Cg} {w' : World} {e : Ending} (h : ApplyOut (applyS S c) (errOf S c) w' e) : ∃ (A1 : Option Addr) (m1 c1 : Nat) (ts1 : List RT), e = .returned (.tuple #[.agg #[.slice A1 m1 c1], .int .i64 (errOf S c)]) ∧ TabsAt w' ⟨A1, m1, c1⟩ ts1 ∧ ts1.map RT.tb = applyR S c := by
  rcases h with ⟨hne, he⟩ | ⟨hz, ⟨A1, m1, c1⟩, ts1, he, ta, hm⟩
  · exact ⟨none, 0, 0, [], he, tabs_none _, by unfold applyR; rw [if_neg hne]; rfl⟩
  · refine ⟨A1, m1, c1, ts1, by rw [hz]; exact he, ta, ?_⟩
    unfold applyR; rw [if_pos hz]; exact hm
section
variable {A : Option Addr} {m cc : Nat} {ts : List RT} {k to_ dk dn : Int} {t aa n ds : ByteArray} {w : World}
theorem applyOne (a : TabsAt w ⟨A, m, cc⟩ ts) (few : Few ts) (hn : okS n) (hd : okS ds) :
    Calls Tryz.prog 7 #[.agg #[.slice A m cc], .agg #[.int .i64 k, .string t, .string aa, .string n, .int .i64 to_, .int .i64 dk, .int .i64 dn, .string ds]] w fun e w' => (∃ (A1 : Option Addr) (m1 c1 : Nat) (ts1 : List RT), e = .returned (.tuple #[.agg #[.slice A1 m1 c1], .int .i64 (errOf (ts.map RT.tb) ⟨k, t, aa, n, to_, ⟨dk, dn, ds⟩⟩)]) ∧ TabsAt w' ⟨A1, m1, c1⟩ ts1 ∧ ts1.map RT.tb = applyR (ts.map RT.tb) ⟨k, t, aa, n, to_, ⟨dk, dn, ds⟩⟩) ∧ Same w w' :=
  (apply_ok ⟨A, m, cc⟩ ts ⟨k, t, aa, n, to_, ⟨dk, dn, ds⟩⟩ w a few hn hd).mono fun _ _ h => ⟨applyOut_one h.1, h.2⟩
theorem rapplyOne (a : TabsAt w ⟨A, m, cc⟩ ts) (few : Few ts) (hn : okS n) (hd : okS ds) :
    Calls Tryz.prog 8 #[.agg #[.slice A m cc], .agg #[.int .i64 k, .string t, .string aa, .string n, .int .i64 to_, .int .i64 dk, .int .i64 dn, .string ds]] w fun e w' => (∃ (A1 : Option Addr) (m1 c1 : Nat) (ts1 : List RT), e = .returned (.tuple #[.agg #[.slice A1 m1 c1], .int .i64 (errOf (ts.map RT.tb) ⟨k, t, aa, n, to_, ⟨dk, dn, ds⟩⟩)]) ∧ TabsAt w' ⟨A1, m1, c1⟩ ts1 ∧ ts1.map RT.tb = applyR (ts.map RT.tb) ⟨k, t, aa, n, to_, ⟨dk, dn, ds⟩⟩) ∧ Same w w' :=
  (rapply_ok ⟨A, m, cc⟩ ts ⟨k, t, aa, n, to_, ⟨dk, dn, ds⟩⟩ w a few hn hd).mono fun _ _ h => ⟨applyOut_one h.1, h.2⟩
theorem rconvertE (tb : Int) {Ar : Option Addr} {rm rc : Nat} {row : List V} (a : TabsAt w ⟨A, m, cc⟩ ts) (few : Few ts) (hn : okS n) (hd : okS ds) (r : RowAt w ⟨Ar, rm, rc⟩ row) (hrl : row.length ≤ 1000000) (hm : ts.length ≤ 1000000) :
    Calls Tryz.prog 10 #[.agg #[.slice A m cc], .agg #[.int .i64 k, .string t, .string aa, .string n, .int .i64 to_, .int .i64 dk, .int .i64 dn, .string ds], .int .i64 tb, .slice Ar rm rc] w fun e w' => ∃ (A1 : Option Addr) (m1 c1 : Nat), e = .returned (.tuple #[.slice A1 m1 c1, .int .i64 (convS (ts.map RT.tb) ⟨k, t, aa, n, to_, ⟨dk, dn, ds⟩⟩ tb row).2]) ∧ RowAt w' ⟨A1, m1, c1⟩ (convS (ts.map RT.tb) ⟨k, t, aa, n, to_, ⟨dk, dn, ds⟩⟩ tb row).1 ∧ Same w w' := by
  refine (rconvert_ok ⟨A, m, cc⟩ ts ⟨k, t, aa, n, to_, ⟨dk, dn, ds⟩⟩ tb ⟨Ar, rm, rc⟩ row w a few hn hd r hrl hm).mono ?_
  rintro e w' ⟨⟨⟨A1, m1, c1⟩, he, hr', _⟩, s⟩
  exact ⟨A1, m1, c1, he, hr', s⟩
end

set_option maxHeartbeats 8000000 in
set_option maxRecDepth 100000 in
theorem match_walk (h : Hd) (ts : List RT) (c : Cg) (nm : ByteArray) (tb : Int) (hr : Hd) (row : List V) (w : World) (l : Laid w) (a : TabsAt w h ts) (r : RowAt w hr row) (hn : okS c.name) (hd : okS c.dflt.s) (hnm : nm.size ≤ 9223372036854775807) :
    Calls Tryz.prog 3 #[.agg #[h.val], c.val, .string nm, .int .i64 tb, hr.val] w fun e w' => e = .returned (.bool true) ∧ Same w w' := by
  have HH := Lib.hid (fun W (s : Same w W) => head_ok W (l.same s))
  have HS := Lib.hid (fun W (s : Same w W) => small_ok h ts c hr.a hr.n hr.c W (a.same s) hn hd r.1.2.1)
  have HL := Lib.hid l
  have HA := Lib.hid a
  have HR := Lib.hid r
  have hml : ts.length = h.n := a.1.1
  have hmb : h.n ≤ 9223372036854775807 := a.1.2.1
  obtain ⟨A, m, cc⟩ := h
  obtain ⟨Ar, rm, rc⟩ := hr
  obtain ⟨k, t, aa, n, to_, ⟨dk, dn, ds⟩⟩ := c
  have hml' : ts.length = m := hml
  have hmb' : m ≤ 9223372036854775807 := hmb
  subst hml'
  have HN : Hid (okS n) := hn
  have HD : Hid (okS ds) := hd
  clear hml hmb a r l hn hd
  show Calls Tryz.prog 3 #[.agg #[.slice A ts.length cc], .agg #[.int .i64 k, .string t, .string aa, .string n, .int .i64 to_, .int .i64 dk, .int .i64 dn, .string ds], .string nm, .int .i64 tb, .slice Ar rm rc] w _
  obtain ⟨q, hq⟩ : ∃ q, q = smallL (ts.map RT.tb) ⟨k, t, aa, n, to_, ⟨dk, dn, ds⟩⟩ rm := ⟨_, rfl⟩
  have HS' : Hid (∀ W, Same w W → Calls Tryz.prog 6 #[.agg #[.slice A ts.length cc], .agg #[.int .i64 k, .string t, .string aa, .string n, .int .i64 to_, .int .i64 dk, .int .i64 dn, .string ds], .slice Ar rm rc] W fun e w' => e = .returned (.bool q) ∧ Same W w') := by rw [hq]; exact HS
  have HQ := Lib.hid hq
  clear HS hq
  go_enter Tryz.func3, Tryz.ntmps3
  go_wp2_with (fail)
  obtain ⟨W0, hW0⟩ : ∃ W0, W0 = (w.alloc (.cells #[.slice A ts.length cc] 24)).alloc (.cells #[.int .i64 k, .string t, .string aa, .string n, .int .i64 to_, .int .i64 dk, .int .i64 dn, .string ds] 28) := ⟨_, rfl⟩
  have S_w_W0 : Hid (Same w W0) := by rw [hW0]; exact ((Same.refl w).alloc _).alloc _
  have Bbs : Blk W0 (w.heap.size) 24 #[.slice A ts.length cc] := by rw [hW0]; exact ((Blk.new w _ _).alloc _)
  have Bbc : Blk W0 (w.heap.size + 1) 28 #[.int .i64 k, .string t, .string aa, .string n, .int .i64 to_, .int .i64 dk, .int .i64 dn, .string ds] := by
    have e : w.heap.size + 1 = (w.alloc (.cells #[.slice A ts.length cc] 24)).heap.size := by simp
    rw [hW0, e]; exact (Blk.new _ _ _)
  rw [← hW0]
  clear hW0
  have lbsW0 := Bbs.lt
  have bsW00 : W0.cell? ⟨w.heap.size, 0, none⟩ = some (.slice A ts.length cc) := Bbs.cell 0
  clear Bbs
  have lbcW0 := Bbc.lt
  have bcW00 : W0.cell? ⟨w.heap.size + 1, 0, none⟩ = some (.int .i64 k) := Bbc.cell 0
  have bcW01 : W0.cell? ⟨w.heap.size + 1, 1, none⟩ = some (.string t) := Bbc.cell 1
  have bcW02 : W0.cell? ⟨w.heap.size + 1, 2, none⟩ = some (.string aa) := Bbc.cell 2
  have bcW03 : W0.cell? ⟨w.heap.size + 1, 3, none⟩ = some (.string n) := Bbc.cell 3
  have bcW04 : W0.cell? ⟨w.heap.size + 1, 4, none⟩ = some (.int .i64 to_) := Bbc.cell 4
  have bcW05 : W0.cell? ⟨w.heap.size + 1, 5, none⟩ = some (.int .i64 dk) := Bbc.cell 5
  have bcW06 : W0.cell? ⟨w.heap.size + 1, 6, none⟩ = some (.int .i64 dn) := Bbc.cell 6
  have bcW07 : W0.cell? ⟨w.heap.size + 1, 7, none⟩ = some (.string ds) := Bbc.cell 7
  clear Bbc
  refine (HH.out _ S_w_W0.out).mono ?_
  rintro e w1 ⟨rfl, s1⟩
  have S_w_w1 : Hid (Same w w1) := S_w_W0.out.trans s1
  have lbsw1 : w.heap.size < w1.heap.size := Nat.lt_of_lt_of_le lbsW0 (Same.size s1)
  have bsw10 : w1.cell? ⟨w.heap.size, 0, none⟩ = some (.slice A ts.length cc) := (Same.cells s1 _ _ lbsW0).trans bsW00
  have lbcw1 : w.heap.size + 1 < w1.heap.size := Nat.lt_of_lt_of_le lbcW0 (Same.size s1)
  have bcw10 : w1.cell? ⟨w.heap.size + 1, 0, none⟩ = some (.int .i64 k) := (Same.cells s1 _ _ lbcW0).trans bcW00
  have bcw11 : w1.cell? ⟨w.heap.size + 1, 1, none⟩ = some (.string t) := (Same.cells s1 _ _ lbcW0).trans bcW01
  have bcw12 : w1.cell? ⟨w.heap.size + 1, 2, none⟩ = some (.string aa) := (Same.cells s1 _ _ lbcW0).trans bcW02
  have bcw13 : w1.cell? ⟨w.heap.size + 1, 3, none⟩ = some (.string n) := (Same.cells s1 _ _ lbcW0).trans bcW03
  have bcw14 : w1.cell? ⟨w.heap.size + 1, 4, none⟩ = some (.int .i64 to_) := (Same.cells s1 _ _ lbcW0).trans bcW04
  have bcw15 : w1.cell? ⟨w.heap.size + 1, 5, none⟩ = some (.int .i64 dk) := (Same.cells s1 _ _ lbcW0).trans bcW05
  have bcw16 : w1.cell? ⟨w.heap.size + 1, 6, none⟩ = some (.int .i64 dn) := (Same.cells s1 _ _ lbcW0).trans bcW06
  have bcw17 : w1.cell? ⟨w.heap.size + 1, 7, none⟩ = some (.string ds) := (Same.cells s1 _ _ lbcW0).trans bcW07
  clear S_w_W0 lbsW0 bsW00 lbcW0 bcW00 bcW01 bcW02 bcW03 bcW04 bcW05 bcW06 bcW07
  clear s1
  clear HH
  go_wp2_with (fail)
  refine (HS'.out _ S_w_w1.out).mono ?_
  rintro e w2 ⟨rfl, s2⟩
  have S_w_w2 : Hid (Same w w2) := S_w_w1.out.trans s2
  have lbsw2 : w.heap.size < w2.heap.size := Nat.lt_of_lt_of_le lbsw1 (Same.size s2)
  have bsw20 : w2.cell? ⟨w.heap.size, 0, none⟩ = some (.slice A ts.length cc) := (Same.cells s2 _ _ lbsw1).trans bsw10
  have lbcw2 : w.heap.size + 1 < w2.heap.size := Nat.lt_of_lt_of_le lbcw1 (Same.size s2)
  have bcw20 : w2.cell? ⟨w.heap.size + 1, 0, none⟩ = some (.int .i64 k) := (Same.cells s2 _ _ lbcw1).trans bcw10
  have bcw21 : w2.cell? ⟨w.heap.size + 1, 1, none⟩ = some (.string t) := (Same.cells s2 _ _ lbcw1).trans bcw11
  have bcw22 : w2.cell? ⟨w.heap.size + 1, 2, none⟩ = some (.string aa) := (Same.cells s2 _ _ lbcw1).trans bcw12
  have bcw23 : w2.cell? ⟨w.heap.size + 1, 3, none⟩ = some (.string n) := (Same.cells s2 _ _ lbcw1).trans bcw13
  have bcw24 : w2.cell? ⟨w.heap.size + 1, 4, none⟩ = some (.int .i64 to_) := (Same.cells s2 _ _ lbcw1).trans bcw14
  have bcw25 : w2.cell? ⟨w.heap.size + 1, 5, none⟩ = some (.int .i64 dk) := (Same.cells s2 _ _ lbcw1).trans bcw15
  have bcw26 : w2.cell? ⟨w.heap.size + 1, 6, none⟩ = some (.int .i64 dn) := (Same.cells s2 _ _ lbcw1).trans bcw16
  have bcw27 : w2.cell? ⟨w.heap.size + 1, 7, none⟩ = some (.string ds) := (Same.cells s2 _ _ lbcw1).trans bcw17
  clear S_w_w1 lbsw1 bsw10 lbcw1 bcw10 bcw11 bcw12 bcw13 bcw14 bcw15 bcw16 bcw17
  clear s2
  clear HS'
  cases q with
  | false =>
    go_wp2_with (fail)
    go_ret
    first | exact ⟨rfl, S_w_w2.out⟩ | exact ⟨rfl, S_w_w2.out.alloc _⟩ | exact ⟨rfl, (S_w_w2.out.alloc _).alloc _⟩
  | true =>
    by_cases h100 : 100 < nm.size
    · have t1 : decide (100 < nm.size) = true := decide_eq_true h100
      go_wp2_with (fail)
      go_ret
      first | exact ⟨rfl, S_w_w2.out⟩ | exact ⟨rfl, S_w_w2.out.alloc _⟩ | exact ⟨rfl, (S_w_w2.out.alloc _).alloc _⟩
    · have t1 : decide (100 < nm.size) = false := decide_eq_false h100
      have HP : Hid (smallS (ts.map RT.tb) = true ∧ n.size ≤ 100 ∧ ds.size ≤ 300 ∧ rm ≤ 20) := small_parts HQ.out.symm
      have HF : Hid (Few ts) := Lib.hid (few_of_small HP.out.1).1
      have HTL : Hid (ts.length ≤ 1000000) := Lib.hid (by have := (few_of_small HP.out.1).2; omega)
      have HRL : Hid (row.length ≤ 1000000) := by have e : row.length = rm := HR.out.1.1; have := HP.out.2.2.2; exact Lib.hid (by omega)
      obtain ⟨E, hE⟩ : ∃ E, E = errOf (ts.map RT.tb) ⟨k, t, aa, n, to_, ⟨dk, dn, ds⟩⟩ := ⟨_, rfl⟩
      obtain ⟨SR, hSR⟩ : ∃ SR, SR = applyR (ts.map RT.tb) ⟨k, t, aa, n, to_, ⟨dk, dn, ds⟩⟩ := ⟨_, rfl⟩
      obtain ⟨⟨CR, G⟩, hC⟩ : ∃ p, p = convS (ts.map RT.tb) ⟨k, t, aa, n, to_, ⟨dk, dn, ds⟩⟩ tb row := ⟨_, rfl⟩
      have HA1 : Hid (∀ W, Same w W → Calls Tryz.prog 7 #[.agg #[.slice A ts.length cc], .agg #[.int .i64 k, .string t, .string aa, .string n, .int .i64 to_, .int .i64 dk, .int .i64 dn, .string ds]] W fun e w' => (∃ (A1 : Option Addr) (m1 c1 : Nat) (ts1 : List RT), e = .returned (.tuple #[.agg #[.slice A1 m1 c1], .int .i64 E]) ∧ TabsAt w' ⟨A1, m1, c1⟩ ts1 ∧ ts1.map RT.tb = SR) ∧ Same W w') := by
        rw [hE, hSR]; exact fun W s => applyOne (HA.out.same s) HF.out HN.out HD.out
      have HA2 : Hid (∀ W, Same w W → Calls Tryz.prog 8 #[.agg #[.slice A ts.length cc], .agg #[.int .i64 k, .string t, .string aa, .string n, .int .i64 to_, .int .i64 dk, .int .i64 dn, .string ds]] W fun e w' => (∃ (A1 : Option Addr) (m1 c1 : Nat) (ts1 : List RT), e = .returned (.tuple #[.agg #[.slice A1 m1 c1], .int .i64 E]) ∧ TabsAt w' ⟨A1, m1, c1⟩ ts1 ∧ ts1.map RT.tb = SR) ∧ Same W w') := by
        rw [hE, hSR]; exact fun W s => rapplyOne (HA.out.same s) HF.out HN.out HD.out
      have HC1 : Hid (∀ W, Same w W → Calls Tryz.prog 9 #[.agg #[.slice A ts.length cc], .agg #[.int .i64 k, .string t, .string aa, .string n, .int .i64 to_, .int .i64 dk, .int .i64 dn, .string ds], .int .i64 tb, .slice Ar rm rc] W fun e w' => ∃ (A1 : Option Addr) (m1 c1 : Nat), e = .returned (.tuple #[.slice A1 m1 c1, .int .i64 G]) ∧ RowAt w' ⟨A1, m1, c1⟩ CR ∧ Same W w') := fun W s => by
        have h := convertE (k := k) (to_ := to_) (dk := dk) (dn := dn) (t := t) (aa := aa) (n := n) (ds := ds) tb (HL.out.same s) (HA.out.same s) HF.out HN.out HD.out (HR.out.same s) HRL.out HTL.out
        rw [← hC] at h
        exact h
      have HC2 : Hid (∀ W, Same w W → Calls Tryz.prog 10 #[.agg #[.slice A ts.length cc], .agg #[.int .i64 k, .string t, .string aa, .string n, .int .i64 to_, .int .i64 dk, .int .i64 dn, .string ds], .int .i64 tb, .slice Ar rm rc] W fun e w' => ∃ (A1 : Option Addr) (m1 c1 : Nat), e = .returned (.tuple #[.slice A1 m1 c1, .int .i64 G]) ∧ RowAt w' ⟨A1, m1, c1⟩ CR ∧ Same W w') := fun W s => by
        have h := rconvertE (k := k) (to_ := to_) (dk := dk) (dn := dn) (t := t) (aa := aa) (n := n) (ds := ds) tb (HA.out.same s) HF.out HN.out HD.out (HR.out.same s) HRL.out HTL.out
        rw [← hC] at h
        exact h
      clear hE hSR hC
      go_wp2_with (fail)
      refine (HA1.out _ S_w_w2.out).mono ?_
      rintro e w4 ⟨⟨A1, m1, c1, ts1, rfl, ta1, hm1⟩, s4⟩
      have TA1 := Lib.hid ta1
      have HM1 := Lib.hid hm1
      clear ta1 hm1
      have S_w_w4 : Hid (Same w w4) := S_w_w2.out.trans s4
      have lbsw4 : w.heap.size < w4.heap.size := Nat.lt_of_lt_of_le lbsw2 (Same.size s4)
      have bsw40 : w4.cell? ⟨w.heap.size, 0, none⟩ = some (.slice A ts.length cc) := (Same.cells s4 _ _ lbsw2).trans bsw20
      have lbcw4 : w.heap.size + 1 < w4.heap.size := Nat.lt_of_lt_of_le lbcw2 (Same.size s4)
      have bcw40 : w4.cell? ⟨w.heap.size + 1, 0, none⟩ = some (.int .i64 k) := (Same.cells s4 _ _ lbcw2).trans bcw20
      have bcw41 : w4.cell? ⟨w.heap.size + 1, 1, none⟩ = some (.string t) := (Same.cells s4 _ _ lbcw2).trans bcw21
      have bcw42 : w4.cell? ⟨w.heap.size + 1, 2, none⟩ = some (.string aa) := (Same.cells s4 _ _ lbcw2).trans bcw22
      have bcw43 : w4.cell? ⟨w.heap.size + 1, 3, none⟩ = some (.string n) := (Same.cells s4 _ _ lbcw2).trans bcw23
      have bcw44 : w4.cell? ⟨w.heap.size + 1, 4, none⟩ = some (.int .i64 to_) := (Same.cells s4 _ _ lbcw2).trans bcw24
      have bcw45 : w4.cell? ⟨w.heap.size + 1, 5, none⟩ = some (.int .i64 dk) := (Same.cells s4 _ _ lbcw2).trans bcw25
      have bcw46 : w4.cell? ⟨w.heap.size + 1, 6, none⟩ = some (.int .i64 dn) := (Same.cells s4 _ _ lbcw2).trans bcw26
      have bcw47 : w4.cell? ⟨w.heap.size + 1, 7, none⟩ = some (.string ds) := (Same.cells s4 _ _ lbcw2).trans bcw27
      clear S_w_w2 lbsw2 bsw20 lbcw2 bcw20 bcw21 bcw22 bcw23 bcw24 bcw25 bcw26 bcw27
      clear s4
      clear HA1
      go_wp2_with (fail)
      obtain ⟨W5, hW5⟩ : ∃ W5, W5 = w4.alloc (.cells #[.slice A1 m1 c1] 24) := ⟨_, rfl⟩
      have sW5 : Same w4 W5 := by rw [hW5]; exact (Same.refl w4).alloc _
      have Bba : Blk W5 w4.heap.size 24 #[.slice A1 m1 c1] := by rw [hW5]; exact Blk.new w4 _ _
      rw [← hW5]
      clear hW5
      have S_w_W5 : Hid (Same w W5) := S_w_w4.out.trans sW5
      have S_w4_W5 : Hid (Same w4 W5) := sW5
      have lbsW5 : w.heap.size < W5.heap.size := Nat.lt_of_lt_of_le lbsw4 (Same.size sW5)
      have bsW50 : W5.cell? ⟨w.heap.size, 0, none⟩ = some (.slice A ts.length cc) := (Same.cells sW5 _ _ lbsw4).trans bsw40
      have lbcW5 : w.heap.size + 1 < W5.heap.size := Nat.lt_of_lt_of_le lbcw4 (Same.size sW5)
      have bcW50 : W5.cell? ⟨w.heap.size + 1, 0, none⟩ = some (.int .i64 k) := (Same.cells sW5 _ _ lbcw4).trans bcw40
      have bcW51 : W5.cell? ⟨w.heap.size + 1, 1, none⟩ = some (.string t) := (Same.cells sW5 _ _ lbcw4).trans bcw41
      have bcW52 : W5.cell? ⟨w.heap.size + 1, 2, none⟩ = some (.string aa) := (Same.cells sW5 _ _ lbcw4).trans bcw42
      have bcW53 : W5.cell? ⟨w.heap.size + 1, 3, none⟩ = some (.string n) := (Same.cells sW5 _ _ lbcw4).trans bcw43
      have bcW54 : W5.cell? ⟨w.heap.size + 1, 4, none⟩ = some (.int .i64 to_) := (Same.cells sW5 _ _ lbcw4).trans bcw44
      have bcW55 : W5.cell? ⟨w.heap.size + 1, 5, none⟩ = some (.int .i64 dk) := (Same.cells sW5 _ _ lbcw4).trans bcw45
      have bcW56 : W5.cell? ⟨w.heap.size + 1, 6, none⟩ = some (.int .i64 dn) := (Same.cells sW5 _ _ lbcw4).trans bcw46
      have bcW57 : W5.cell? ⟨w.heap.size + 1, 7, none⟩ = some (.string ds) := (Same.cells sW5 _ _ lbcw4).trans bcw47
      clear S_w_w4 lbsw4 bsw40 lbcw4 bcw40 bcw41 bcw42 bcw43 bcw44 bcw45 bcw46 bcw47
      have lbaW5 := Bba.lt
      have baW50 : W5.cell? ⟨w4.heap.size, 0, none⟩ = some (.slice A1 m1 c1) := Bba.cell 0
      clear Bba sW5
      refine (HA2.out _ S_w_W5.out).mono ?_
      rintro e w6 ⟨⟨A2, m2, c2, ts2, rfl, ta2, hm2⟩, s6⟩
      have TA2 := Lib.hid ta2
      have HM2 := Lib.hid hm2
      clear ta2 hm2
      have S_w_w6 : Hid (Same w w6) := S_w_W5.out.trans s6
      have S_w4_w6 : Hid (Same w4 w6) := S_w4_W5.out.trans s6
      have lbsw6 : w.heap.size < w6.heap.size := Nat.lt_of_lt_of_le lbsW5 (Same.size s6)
      have bsw60 : w6.cell? ⟨w.heap.size, 0, none⟩ = some (.slice A ts.length cc) := (Same.cells s6 _ _ lbsW5).trans bsW50
      have lbcw6 : w.heap.size + 1 < w6.heap.size := Nat.lt_of_lt_of_le lbcW5 (Same.size s6)
      have bcw60 : w6.cell? ⟨w.heap.size + 1, 0, none⟩ = some (.int .i64 k) := (Same.cells s6 _ _ lbcW5).trans bcW50
      have bcw61 : w6.cell? ⟨w.heap.size + 1, 1, none⟩ = some (.string t) := (Same.cells s6 _ _ lbcW5).trans bcW51
      have bcw62 : w6.cell? ⟨w.heap.size + 1, 2, none⟩ = some (.string aa) := (Same.cells s6 _ _ lbcW5).trans bcW52
      have bcw63 : w6.cell? ⟨w.heap.size + 1, 3, none⟩ = some (.string n) := (Same.cells s6 _ _ lbcW5).trans bcW53
      have bcw64 : w6.cell? ⟨w.heap.size + 1, 4, none⟩ = some (.int .i64 to_) := (Same.cells s6 _ _ lbcW5).trans bcW54
      have bcw65 : w6.cell? ⟨w.heap.size + 1, 5, none⟩ = some (.int .i64 dk) := (Same.cells s6 _ _ lbcW5).trans bcW55
      have bcw66 : w6.cell? ⟨w.heap.size + 1, 6, none⟩ = some (.int .i64 dn) := (Same.cells s6 _ _ lbcW5).trans bcW56
      have bcw67 : w6.cell? ⟨w.heap.size + 1, 7, none⟩ = some (.string ds) := (Same.cells s6 _ _ lbcW5).trans bcW57
      have lbaw6 : w4.heap.size < w6.heap.size := Nat.lt_of_lt_of_le lbaW5 (Same.size s6)
      have baw60 : w6.cell? ⟨w4.heap.size, 0, none⟩ = some (.slice A1 m1 c1) := (Same.cells s6 _ _ lbaW5).trans baW50
      clear S_w_W5 S_w4_W5 lbsW5 bsW50 lbcW5 bcW50 bcW51 bcW52 bcW53 bcW54 bcW55 bcW56 bcW57 lbaW5 baW50
      clear s6
      clear HA2
      go_wp2_with (fail)
      obtain ⟨W7, hW7⟩ : ∃ W7, W7 = w6.alloc (.cells #[.slice A2 m2 c2] 24) := ⟨_, rfl⟩
      have sW7 : Same w6 W7 := by rw [hW7]; exact (Same.refl w6).alloc _
      have Bbb : Blk W7 w6.heap.size 24 #[.slice A2 m2 c2] := by rw [hW7]; exact Blk.new w6 _ _
      rw [← hW7]
      clear hW7
      have S_w_W7 : Hid (Same w W7) := S_w_w6.out.trans sW7
      have S_w4_W7 : Hid (Same w4 W7) := S_w4_w6.out.trans sW7
      have S_w6_W7 : Hid (Same w6 W7) := sW7
      have lbsW7 : w.heap.size < W7.heap.size := Nat.lt_of_lt_of_le lbsw6 (Same.size sW7)
      have bsW70 : W7.cell? ⟨w.heap.size, 0, none⟩ = some (.slice A ts.length cc) := (Same.cells sW7 _ _ lbsw6).trans bsw60
      have lbcW7 : w.heap.size + 1 < W7.heap.size := Nat.lt_of_lt_of_le lbcw6 (Same.size sW7)
      have bcW70 : W7.cell? ⟨w.heap.size + 1, 0, none⟩ = some (.int .i64 k) := (Same.cells sW7 _ _ lbcw6).trans bcw60
      have bcW71 : W7.cell? ⟨w.heap.size + 1, 1, none⟩ = some (.string t) := (Same.cells sW7 _ _ lbcw6).trans bcw61
      have bcW72 : W7.cell? ⟨w.heap.size + 1, 2, none⟩ = some (.string aa) := (Same.cells sW7 _ _ lbcw6).trans bcw62
      have bcW73 : W7.cell? ⟨w.heap.size + 1, 3, none⟩ = some (.string n) := (Same.cells sW7 _ _ lbcw6).trans bcw63
      have bcW74 : W7.cell? ⟨w.heap.size + 1, 4, none⟩ = some (.int .i64 to_) := (Same.cells sW7 _ _ lbcw6).trans bcw64
      have bcW75 : W7.cell? ⟨w.heap.size + 1, 5, none⟩ = some (.int .i64 dk) := (Same.cells sW7 _ _ lbcw6).trans bcw65
      have bcW76 : W7.cell? ⟨w.heap.size + 1, 6, none⟩ = some (.int .i64 dn) := (Same.cells sW7 _ _ lbcw6).trans bcw66
      have bcW77 : W7.cell? ⟨w.heap.size + 1, 7, none⟩ = some (.string ds) := (Same.cells sW7 _ _ lbcw6).trans bcw67
      have lbaW7 : w4.heap.size < W7.heap.size := Nat.lt_of_lt_of_le lbaw6 (Same.size sW7)
      have baW70 : W7.cell? ⟨w4.heap.size, 0, none⟩ = some (.slice A1 m1 c1) := (Same.cells sW7 _ _ lbaw6).trans baw60
      clear S_w_w6 S_w4_w6 lbsw6 bsw60 lbcw6 bcw60 bcw61 bcw62 bcw63 bcw64 bcw65 bcw66 bcw67 lbaw6 baw60
      have lbbW7 := Bbb.lt
      have bbW70 : W7.cell? ⟨w6.heap.size, 0, none⟩ = some (.slice A2 m2 c2) := Bbb.cell 0
      clear Bbb sW7
      refine (HC1.out _ S_w_W7.out).mono ?_
      rintro e w8 ⟨A3, m3, c3, rfl, r3, s8⟩
      have R3 := Lib.hid r3
      clear r3
      have S_w_w8 : Hid (Same w w8) := S_w_W7.out.trans s8
      have S_w4_w8 : Hid (Same w4 w8) := S_w4_W7.out.trans s8
      have S_w6_w8 : Hid (Same w6 w8) := S_w6_W7.out.trans s8
      have lbsw8 : w.heap.size < w8.heap.size := Nat.lt_of_lt_of_le lbsW7 (Same.size s8)
      have bsw80 : w8.cell? ⟨w.heap.size, 0, none⟩ = some (.slice A ts.length cc) := (Same.cells s8 _ _ lbsW7).trans bsW70
      have lbcw8 : w.heap.size + 1 < w8.heap.size := Nat.lt_of_lt_of_le lbcW7 (Same.size s8)
      have bcw80 : w8.cell? ⟨w.heap.size + 1, 0, none⟩ = some (.int .i64 k) := (Same.cells s8 _ _ lbcW7).trans bcW70
      have bcw81 : w8.cell? ⟨w.heap.size + 1, 1, none⟩ = some (.string t) := (Same.cells s8 _ _ lbcW7).trans bcW71
      have bcw82 : w8.cell? ⟨w.heap.size + 1, 2, none⟩ = some (.string aa) := (Same.cells s8 _ _ lbcW7).trans bcW72
      have bcw83 : w8.cell? ⟨w.heap.size + 1, 3, none⟩ = some (.string n) := (Same.cells s8 _ _ lbcW7).trans bcW73
      have bcw84 : w8.cell? ⟨w.heap.size + 1, 4, none⟩ = some (.int .i64 to_) := (Same.cells s8 _ _ lbcW7).trans bcW74
      have bcw85 : w8.cell? ⟨w.heap.size + 1, 5, none⟩ = some (.int .i64 dk) := (Same.cells s8 _ _ lbcW7).trans bcW75
      have bcw86 : w8.cell? ⟨w.heap.size + 1, 6, none⟩ = some (.int .i64 dn) := (Same.cells s8 _ _ lbcW7).trans bcW76
      have bcw87 : w8.cell? ⟨w.heap.size + 1, 7, none⟩ = some (.string ds) := (Same.cells s8 _ _ lbcW7).trans bcW77
      have lbaw8 : w4.heap.size < w8.heap.size := Nat.lt_of_lt_of_le lbaW7 (Same.size s8)
      have baw80 : w8.cell? ⟨w4.heap.size, 0, none⟩ = some (.slice A1 m1 c1) := (Same.cells s8 _ _ lbaW7).trans baW70
      have lbbw8 : w6.heap.size < w8.heap.size := Nat.lt_of_lt_of_le lbbW7 (Same.size s8)
      have bbw80 : w8.cell? ⟨w6.heap.size, 0, none⟩ = some (.slice A2 m2 c2) := (Same.cells s8 _ _ lbbW7).trans bbW70
      clear S_w_W7 S_w4_W7 S_w6_W7 lbsW7 bsW70 lbcW7 bcW70 bcW71 bcW72 bcW73 bcW74 bcW75 bcW76 bcW77 lbaW7 baW70 lbbW7 bbW70
      clear s8
      clear HC1
      go_wp2_with (fail)
      refine (HC2.out _ S_w_w8.out).mono ?_
      rintro e w9 ⟨A4, m4, c4, rfl, r4, s9⟩
      have R4 := Lib.hid r4
      clear r4
      have S_w_w9 : Hid (Same w w9) := S_w_w8.out.trans s9
      have S_w4_w9 : Hid (Same w4 w9) := S_w4_w8.out.trans s9
      have S_w6_w9 : Hid (Same w6 w9) := S_w6_w8.out.trans s9
      have S_w8_w9 : Hid (Same w8 w9) := s9
      have lbsw9 : w.heap.size < w9.heap.size := Nat.lt_of_lt_of_le lbsw8 (Same.size s9)
      have bsw90 : w9.cell? ⟨w.heap.size, 0, none⟩ = some (.slice A ts.length cc) := (Same.cells s9 _ _ lbsw8).trans bsw80
      have lbcw9 : w.heap.size + 1 < w9.heap.size := Nat.lt_of_lt_of_le lbcw8 (Same.size s9)
      have bcw90 : w9.cell? ⟨w.heap.size + 1, 0, none⟩ = some (.int .i64 k) := (Same.cells s9 _ _ lbcw8).trans bcw80
      have bcw91 : w9.cell? ⟨w.heap.size + 1, 1, none⟩ = some (.string t) := (Same.cells s9 _ _ lbcw8).trans bcw81
      have bcw92 : w9.cell? ⟨w.heap.size + 1, 2, none⟩ = some (.string aa) := (Same.cells s9 _ _ lbcw8).trans bcw82
      have bcw93 : w9.cell? ⟨w.heap.size + 1, 3, none⟩ = some (.string n) := (Same.cells s9 _ _ lbcw8).trans bcw83
      have bcw94 : w9.cell? ⟨w.heap.size + 1, 4, none⟩ = some (.int .i64 to_) := (Same.cells s9 _ _ lbcw8).trans bcw84
      have bcw95 : w9.cell? ⟨w.heap.size + 1, 5, none⟩ = some (.int .i64 dk) := (Same.cells s9 _ _ lbcw8).trans bcw85
      have bcw96 : w9.cell? ⟨w.heap.size + 1, 6, none⟩ = some (.int .i64 dn) := (Same.cells s9 _ _ lbcw8).trans bcw86
      have bcw97 : w9.cell? ⟨w.heap.size + 1, 7, none⟩ = some (.string ds) := (Same.cells s9 _ _ lbcw8).trans bcw87
      have lbaw9 : w4.heap.size < w9.heap.size := Nat.lt_of_lt_of_le lbaw8 (Same.size s9)
      have baw90 : w9.cell? ⟨w4.heap.size, 0, none⟩ = some (.slice A1 m1 c1) := (Same.cells s9 _ _ lbaw8).trans baw80
      have lbbw9 : w6.heap.size < w9.heap.size := Nat.lt_of_lt_of_le lbbw8 (Same.size s9)
      have bbw90 : w9.cell? ⟨w6.heap.size, 0, none⟩ = some (.slice A2 m2 c2) := (Same.cells s9 _ _ lbbw8).trans bbw80
      clear S_w_w8 S_w4_w8 S_w6_w8 lbsw8 bsw80 lbcw8 bcw80 bcw81 bcw82 bcw83 bcw84 bcw85 bcw86 bcw87 lbaw8 baw80 lbbw8 bbw80
      clear s9
      clear HC2
      obtain ⟨vb, hvb⟩ : ∃ vb, vb = validB (ts.map RT.tb) := ⟨_, rfl⟩
      obtain ⟨fi, hfi⟩ : ∃ fi, fi = findT (ts.map RT.tb) nm := ⟨_, rfl⟩
      have K1 : Hid (∀ W, Same w9 W → Calls Tryz.prog 11 #[.agg #[.slice A1 m1 c1], .agg #[.slice A2 m2 c2]] W fun e w' => e = .returned (.bool true) ∧ Same W w') := fun W s =>
        sameE (TA1.out.same (S_w4_w9.out.trans s)) (TA2.out.same (S_w6_w9.out.trans s)) (HM1.out.trans HM2.out.symm)
      have K2 : Hid (∀ W, Same w9 W → Calls Tryz.prog 12 #[.slice A3 m3 c3, .slice A4 m4 c4] W fun e w' => e = .returned (.bool true) ∧ Same W w') := fun W s =>
        rowsE (R3.out.same (S_w8_w9.out.trans s)) (R4.out.same s) rfl
      have K3 : Hid (∀ W, Same w9 W → Calls Tryz.prog 13 #[.agg #[.slice A ts.length cc]] W fun e w' => e = .returned (.bool vb) ∧ Same W w') := fun W s => by
        rw [hvb]; exact valid_s_ok ⟨A, ts.length, cc⟩ ts W (HA.out.same (S_w_w9.out.trans s)) HF.out
      have K4 : Hid (∀ W, Same w9 W → Calls Tryz.prog 14 #[.agg #[.slice A ts.length cc]] W fun e w' => e = .returned (.bool vb) ∧ Same W w') := fun W s => by
        rw [hvb]; exact rvalid_s_ok ⟨A, ts.length, cc⟩ ts W (HA.out.same (S_w_w9.out.trans s)) HF.out
      have K5 : Hid (∀ W, Same w9 W → Calls Tryz.prog 15 #[.agg #[.slice A ts.length cc], .string nm] W fun e w' => e = .returned (.int .i64 fi) ∧ Same W w') := fun W s => by
        rw [hfi]; exact find_ok ⟨A, ts.length, cc⟩ ts nm W (HA.out.same (S_w_w9.out.trans s))
      have K6 : Hid (∀ W, Same w9 W → Calls Tryz.prog 16 #[.agg #[.slice A ts.length cc], .string nm] W fun e w' => e = .returned (.int .i64 fi) ∧ Same W w') := fun W s => by
        rw [hfi]; exact rfind_ok ⟨A, ts.length, cc⟩ ts nm W (HA.out.same (S_w_w9.out.trans s))
      clear hvb hfi
      have cK1 := regr (w := w9) (fun W s => K1.out W s)
      have cK2 := regr (w := w9) (fun W s => K2.out W s)
      have cK3 := regr (w := w9) (fun W s => K3.out W s)
      have cK4 := regr (w := w9) (fun W s => K4.out W s)
      have cK5 := regr (w := w9) (fun W s => K5.out W s)
      have cK6 := regr (w := w9) (fun W s => K6.out W s)
      have kbs0 := cellr bsw90
      have kba0 := cellr baw90
      have kbb0 := cellr bbw90
      have tE : (E != E) = false := by simp
      have tG : (G != G) = false := by simp
      have tv : (vb != vb) = false := by simp
      have tf : (fi != fi) = false := by simp
      go_wp2_with (fail)
      refine wp_region_quiet_below (by kernel_rfl) (by kernel_rfl) ?_
      repeat (go_big_quiet_step (first | (go_at_call 11; exact cK1 _ _) | (go_at_call 12; exact cK2 _ _) | (go_at_call 13; exact cK3 _ _) | (go_at_call 14; exact cK4 _ _) | (go_at_call 15; exact cK5 _ _) | (go_at_call 16; exact cK6 _ _)))
      refine wpQuiet_nil ?_
      intro _ hw'
      obtain ⟨⟨dq, osq⟩, hw''⟩ := hw'
      subst hw''
      have sw10 := Same.reg w9 dq osq
      generalize Sort.grow (redrawn w9 dq) osq = w10 at sw10 ⊢
      clear cK1 cK2 cK3 cK4 cK5 cK6 kbs0 kba0 kbb0 K1 K2 K3 K4 K5 K6
      have S_w_w10 : Hid (Same w w10) := S_w_w9.out.trans sw10
      have S_w4_w10 : Hid (Same w4 w10) := S_w4_w9.out.trans sw10
      have S_w6_w10 : Hid (Same w6 w10) := S_w6_w9.out.trans sw10
      have S_w8_w10 : Hid (Same w8 w10) := S_w8_w9.out.trans sw10
      have S_w9_w10 : Hid (Same w9 w10) := sw10
      have lbsw10 : w.heap.size < w10.heap.size := Nat.lt_of_lt_of_le lbsw9 (Same.size sw10)
      have bsw100 : w10.cell? ⟨w.heap.size, 0, none⟩ = some (.slice A ts.length cc) := (Same.cells sw10 _ _ lbsw9).trans bsw90
      have lbcw10 : w.heap.size + 1 < w10.heap.size := Nat.lt_of_lt_of_le lbcw9 (Same.size sw10)
      have bcw100 : w10.cell? ⟨w.heap.size + 1, 0, none⟩ = some (.int .i64 k) := (Same.cells sw10 _ _ lbcw9).trans bcw90
      have bcw101 : w10.cell? ⟨w.heap.size + 1, 1, none⟩ = some (.string t) := (Same.cells sw10 _ _ lbcw9).trans bcw91
      have bcw102 : w10.cell? ⟨w.heap.size + 1, 2, none⟩ = some (.string aa) := (Same.cells sw10 _ _ lbcw9).trans bcw92
      have bcw103 : w10.cell? ⟨w.heap.size + 1, 3, none⟩ = some (.string n) := (Same.cells sw10 _ _ lbcw9).trans bcw93
      have bcw104 : w10.cell? ⟨w.heap.size + 1, 4, none⟩ = some (.int .i64 to_) := (Same.cells sw10 _ _ lbcw9).trans bcw94
      have bcw105 : w10.cell? ⟨w.heap.size + 1, 5, none⟩ = some (.int .i64 dk) := (Same.cells sw10 _ _ lbcw9).trans bcw95
      have bcw106 : w10.cell? ⟨w.heap.size + 1, 6, none⟩ = some (.int .i64 dn) := (Same.cells sw10 _ _ lbcw9).trans bcw96
      have bcw107 : w10.cell? ⟨w.heap.size + 1, 7, none⟩ = some (.string ds) := (Same.cells sw10 _ _ lbcw9).trans bcw97
      have lbaw10 : w4.heap.size < w10.heap.size := Nat.lt_of_lt_of_le lbaw9 (Same.size sw10)
      have baw100 : w10.cell? ⟨w4.heap.size, 0, none⟩ = some (.slice A1 m1 c1) := (Same.cells sw10 _ _ lbaw9).trans baw90
      have lbbw10 : w6.heap.size < w10.heap.size := Nat.lt_of_lt_of_le lbbw9 (Same.size sw10)
      have bbw100 : w10.cell? ⟨w6.heap.size, 0, none⟩ = some (.slice A2 m2 c2) := (Same.cells sw10 _ _ lbbw9).trans bbw90
      clear S_w_w9 S_w4_w9 S_w6_w9 S_w8_w9 lbsw9 bsw90 lbcw9 bcw90 bcw91 bcw92 bcw93 bcw94 bcw95 bcw96 bcw97 lbaw9 baw90 lbbw9 bbw90
      clear sw10
      go_wp2_with (fail)
      go_loopw [20] (fun i wr => ∃ k : Nat, k ≤ ts.length ∧ i = .int .i64 k ∧ Hid (Same w10 wr)) (fun i _ => ts.length - (intOf i).toNat)
      case atStart => exact ⟨0, Nat.zero_le _, rfl, Same.refl w10⟩
      case round =>
        obtain ⟨k, hk, rfl, S⟩ := hrel
        have c0 := (S.out.cells _ _ lbsw10).trans bsw100
        have zr0 : w.heap.size < wr.heap.size := Nat.lt_of_lt_of_le lbsw10 S.out.size
        have SW : Hid (Same w wr) := S_w_w10.out.trans S.out
        by_cases hlt : k < ts.length
        · obtain ⟨b, off, hA, blt, hc⟩ := HA.out.1.2.2 k hlt
          have hA' : A = some ⟨b, off, none⟩ := hA
          obtain ⟨fb, hfb⟩ : ∃ fb, fb = fitsB ts[k].tb row := ⟨_, rfl⟩
          obtain ⟨ci, hci⟩ : ∃ ci, ci = colA ts[k].tb.attrs nm := ⟨_, rfl⟩
          have J1 := Lib.hid (fun W (s : Same w W) => fits_ok ts[k] ⟨Ar, rm, rc⟩ row W ((HA.out.2 _ (List.getElem_mem hlt)).same s) (HR.out.same s))
          have J2 := Lib.hid (fun W (s : Same w W) => rfits_ok ts[k] ⟨Ar, rm, rc⟩ row W ((HA.out.2 _ (List.getElem_mem hlt)).same s) (HR.out.same s))
          have J3 := Lib.hid (fun W (s : Same w W) => column_ok ts[k] nm W ((HA.out.2 _ (List.getElem_mem hlt)).same s))
          have J4 := Lib.hid (fun W (s : Same w W) => rcolumn_ok ts[k] nm W ((HA.out.2 _ (List.getElem_mem hlt)).same s))
          rw [← hfb] at J1 J2
          rw [← hci] at J3 J4
          obtain ⟨x, hx⟩ : ∃ x, x = ts[k] := ⟨_, rfl⟩
          rw [← hx] at hc J1 J2 J3 J4
          clear hx hA hfb hci
          obtain ⟨n1, ⟨A5, m5, c5⟩, ra1, ⟨B5, p5, d5⟩, key1⟩ := x
          have J1' : Hid (∀ W, Same w W → Calls Tryz.prog 17 #[.agg #[.string n1, .slice A5 m5 c5, .slice B5 p5 d5], .slice Ar rm rc] W fun e w' => e = .returned (.bool fb) ∧ Same W w') := J1
          have J2' : Hid (∀ W, Same w W → Calls Tryz.prog 18 #[.agg #[.string n1, .slice A5 m5 c5, .slice B5 p5 d5], .slice Ar rm rc] W fun e w' => e = .returned (.bool fb) ∧ Same W w') := J2
          have J3' : Hid (∀ W, Same w W → Calls Tryz.prog 19 #[.agg #[.string n1, .slice A5 m5 c5, .slice B5 p5 d5], .string nm] W fun e w' => e = .returned (.int .i64 ci) ∧ Same W w') := J3
          have J4' : Hid (∀ W, Same w W → Calls Tryz.prog 20 #[.agg #[.string n1, .slice A5 m5 c5, .slice B5 p5 d5], .string nm] W fun e w' => e = .returned (.int .i64 ci) ∧ Same W w') := J4
          have x0 := (SW.out.cells _ _ blt).trans (hc 0 (.string n1) rfl)
          have x1 := (SW.out.cells _ _ blt).trans (hc 1 (.slice A5 m5 c5) rfl)
          have x2 := (SW.out.cells _ _ blt).trans (hc 2 (.slice B5 p5 d5) rfl)
          simp only [Nat.add_zero] at x0
          subst hA'
          have hbr : b < wr.heap.size := Nat.lt_of_lt_of_le blt SW.out.size
          clear hc J1 J2 J3 J4
          go_wp2_with (fail)
          obtain ⟨wa, hwa⟩ : ∃ wa, wa = wr.alloc (.cells #[.string n1, .slice A5 m5 c5, .slice B5 p5 d5] 44) := ⟨_, rfl⟩
          have sa : Same wr wa := by rw [hwa]; exact (Same.refl wr).alloc _
          have BT : Blk wa wr.heap.size 44 #[.string n1, .slice A5 m5 c5, .slice B5 p5 d5] := by rw [hwa]; exact Blk.new wr _ _
          rw [← hwa]
          have SA : Hid (Same w wa) := SW.out.trans sa
          have SA10 : Hid (Same w10 wa) := S.out.trans sa
          have kx0 := cellr (BT.cell 0)
          have kx1 := cellr (BT.cell 1)
          have kx2 := cellr (BT.cell 2)
          clear hwa sa BT x0 x1 x2 c0 zr0 hbr
          have cJ1 := regr (w := wa) (fun W s => J1'.out W (SA.out.trans s))
          have cJ2 := regr (w := wa) (fun W s => J2'.out W (SA.out.trans s))
          have cJ3 := regr (w := wa) (fun W s => J3'.out W (SA.out.trans s))
          have cJ4 := regr (w := wa) (fun W s => J4'.out W (SA.out.trans s))
          have tb1 : (fb != fb) = false := by simp
          have tc1 : (ci != ci) = false := by simp
          refine wp_region_quiet_below (by kernel_rfl) (by kernel_rfl) ?_
          repeat (go_big_quiet_step (first | (go_at_call 17; exact cJ1 _ _) | (go_at_call 18; exact cJ2 _ _) | (go_at_call 19; exact cJ3 _ _) | (go_at_call 20; exact cJ4 _ _)))
          refine wpQuiet_nil ?_
          intro _ hw'
          obtain ⟨⟨dq, osq⟩, hw''⟩ := hw'
          subst hw''
          have S1 := Lib.hid (SA10.out.trans (Same.reg wa dq osq))
          generalize Sort.grow (redrawn wa dq) osq = wb at S1 ⊢
          clear kx0 kx1 kx2 cJ1 cJ2 cJ3 cJ4
          go_wp2
          go_roundw
          case rel => exact ⟨k + 1, by omega, by go_num, S1.out⟩
          case measure => simp [intOf]; omega
        · go_wp2_with (fail)
          go_ret
          exact ⟨rfl, SW.out⟩
end Go.Proofs.YtfifnemnihcijaaGreatDoor

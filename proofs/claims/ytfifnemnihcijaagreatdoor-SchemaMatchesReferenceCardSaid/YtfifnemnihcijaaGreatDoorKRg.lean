/- The law's head: contract. Conditions: strconv's three variables hold what its initialisers lay. -/
import Derived.Test.YtfifnemnihcijaaGreatDoorKRd
import Derived.Deep.RegionHeld3
set_option linter.unusedSimpArgs false
set_option linter.unusedVariables false
namespace Go.Proofs.YtfifnemnihcijaaGreatDoor
open Go.RowKit

theorem sample' (w : World) : Calls Tryz.prog 34 #[] w fun e w' => ∃ A c, e = .returned (.agg #[.slice A 1 c]) ∧ OneTab w' A 1 c sampleTb ∧ Same w w' := by
  refine (sample_ok w).mono ?_
  rintro e w' ⟨⟨A, n, c⟩, t, he, T, ht, s⟩
  obtain rfl : n = 1 := T.1.1.symm
  exact ⟨A, c, he, ⟨t, T, ht⟩, s⟩
theorem row' (w : World) : Calls Tryz.prog 35 #[] w fun e w' => ∃ A c, e = .returned (.slice A 2 c) ∧ RowAt w' ⟨A, 2, c⟩ rowL ∧ Same w w' := by
  refine (row_ok w).mono ?_
  rintro e w' ⟨⟨A, n, c⟩, he, r, s⟩
  obtain rfl : n = 2 := r.1.1.symm
  exact ⟨A, c, he, r, s⟩
set_option maxHeartbeats 8000000 in
set_option maxRecDepth 100000 in
theorem head_ok (w : World) (l : Laid w) : Calls Tryz.prog 5 #[] w fun e w' => e = .returned (.bool true) ∧ Same w w' := by
  have HL := Lib.hid l
  have hs0 : okS ⟨#[]⟩ := okS_of (by decide)
  have HS0 := Lib.hid hs0
  clear l hs0
  go_enter Tryz.func5, Tryz.ntmps5
  go_wp2_with (fail)
  refine (sample' _).mono ?_
  rintro e w1 ⟨As, cs, rfl, o1, s1⟩
  have O1 := Lib.hid o1
  have S1 := Lib.hid s1
  clear o1 s1
  have HA : Hid (∀ W, Same w1 W → Calls Tryz.prog 7 #[.agg #[.slice As 1 cs], .agg #[.int .i64 1, .string ⟨#[116]⟩, .string ⟨#[]⟩, .string ⟨#[98, 111, 114, 110]⟩, .int .i64 3, .int .i64 0, .int .i64 0, .string ⟨#[]⟩]] W fun e w' => ∃ A' c', e = .returned (.tuple #[.agg #[.slice A' 1 c'], .int .i64 0]) ∧ OneTab w' A' 1 c' tbA ∧ Same W w') := fun W s => (O1.out.same s).apply_yes few_sample cgA (okS_of (by decide)) HS0.out factA.1 factA.2.1
  have HB : Hid (∀ W, Same w1 W → ∀ A0 rm rc, RowAt W ⟨A0, rm, rc⟩ rowL → Calls Tryz.prog 9 #[.agg #[.slice As 1 cs], .agg #[.int .i64 4, .string ⟨#[116]⟩, .string ⟨#[97, 103, 101]⟩, .string ⟨#[]⟩, .int .i64 1, .int .i64 0, .int .i64 0, .string ⟨#[]⟩], .int .i64 0, .slice A0 rm rc] W fun e w' => ∃ A' c', e = .returned (.tuple #[.slice A' 2 c', .int .i64 0]) ∧ RowAt w' ⟨A', 2, c'⟩ [⟨1, 0, ⟨#[97, 110, 110]⟩⟩, ⟨1, 0, ⟨#[55]⟩⟩] ∧ Same W w') := fun W s A0 rm rc r => (O1.out.same s).convert few_sample (HL.out.same (S1.out.trans s)) cgB HS0.out HS0.out A0 rm rc rowL r (by decide) _ factB
  have HG : Hid (∀ W, Same w1 W → Calls Tryz.prog 7 #[.agg #[.slice As 1 cs], .agg #[.int .i64 2, .string ⟨#[116]⟩, .string ⟨#[110, 97, 109, 101]⟩, .string ⟨#[]⟩, .int .i64 0, .int .i64 0, .int .i64 0, .string ⟨#[]⟩]] W fun e w' => e = .returned (.tuple #[.agg #[.slice none 0 0], .int .i64 1]) ∧ Same W w') := fun W s => (O1.out.same s).apply_no few_sample cgG HS0.out HS0.out 1 factG (by decide)
  have HH : Hid (∀ W, Same w1 W → Calls Tryz.prog 7 #[.agg #[.slice As 1 cs], .agg #[.int .i64 3, .string ⟨#[116]⟩, .string ⟨#[97, 103, 101]⟩, .string ⟨#[121, 101, 97, 114, 115]⟩, .int .i64 0, .int .i64 0, .int .i64 0, .string ⟨#[]⟩]] W fun e w' => e = .returned (.tuple #[.agg #[.slice none 0 0], .int .i64 9]) ∧ Same W w') := fun W s => (O1.out.same s).apply_no few_sample cgH (okS_of (by decide)) HS0.out 9 factH (by decide)
  have HI : Hid (∀ W, Same w1 W → ∀ A0 rm rc, RowAt W ⟨A0, rm, rc⟩ rowL → Calls Tryz.prog 9 #[.agg #[.slice As 1 cs], .agg #[.int .i64 4, .string ⟨#[116]⟩, .string ⟨#[110, 97, 109, 101]⟩, .string ⟨#[]⟩, .int .i64 2, .int .i64 0, .int .i64 0, .string ⟨#[]⟩], .int .i64 0, .slice A0 rm rc] W fun e w' => ∃ A' c', e = .returned (.tuple #[.slice A' 0 c', .int .i64 15]) ∧ RowAt w' ⟨A', 0, c'⟩ [] ∧ Same W w') := fun W s A0 rm rc r => (O1.out.same s).convert few_sample (HL.out.same (S1.out.trans s)) cgI HS0.out HS0.out A0 rm rc rowL r (by decide) _ factI
  have HD : Hid (∀ W, Same w1 W → Calls Tryz.prog 7 #[.agg #[.slice As 1 cs], .agg #[.int .i64 2, .string ⟨#[116]⟩, .string ⟨#[121, 101, 97, 114, 115]⟩, .string ⟨#[]⟩, .int .i64 0, .int .i64 0, .int .i64 0, .string ⟨#[]⟩]] W fun e w' => ∃ A' c', e = .returned (.tuple #[.agg #[.slice A' 1 c'], .int .i64 0]) ∧ OneTab w' A' 1 c' tbD ∧ Same W w') := fun W s => (O1.out.same s).apply_yes few_sample cgD HS0.out HS0.out factD.1 factD.2.1
  -- a, e := Apply(s, add)
  go_wp2_with (fail)
  refine (HA.out _ ?_).mono ?_
  · exact (Same.refl w1).alloc _
  rintro e w2 ⟨Aa, ca, rfl, oa, s2⟩
  have OA := Lib.hid oa
  have S2 : Hid (Same w1 w2) := ((Same.refl w1).alloc _).trans s2
  have bs : w2.cell? ⟨w1.heap.size, 0, none⟩ = some (.slice As 1 cs) := (s2.cells _ _ (by simp)).trans (by simp)
  have z2 : w1.heap.size < w2.heap.size := Nat.lt_of_lt_of_le (by simp) s2.size
  clear oa s2
  go_wp2_with (fail)
  obtain ⟨w3, hw3⟩ : ∃ w3, w3 = w2.alloc (.cells #[.slice Aa 1 ca] 24) := ⟨_, rfl⟩
  have s23 : Same w2 w3 := by rw [hw3]; exact (Same.refl w2).alloc _
  have S3 : Hid (Same w1 w3) := S2.out.trans s23
  have bs3 : w3.cell? ⟨w1.heap.size, 0, none⟩ = some (.slice As 1 cs) := (s23.cells _ _ z2).trans bs
  have ba3 : w3.cell? ⟨w2.heap.size, 0, none⟩ = some (.slice Aa 1 ca) := by rw [hw3]; simp
  have z3 : w2.heap.size < w3.heap.size := by rw [hw3]; simp
  have OA3 : Hid (OneTab w3 Aa 1 ca tbA) := OA.out.same s23
  rw [← hw3]
  clear hw3 s23 bs OA
  -- b, f := Convert(s, cast, 0, row())
  go_region_held3 (fun w' => w'.cell? ⟨w1.heap.size, 0, none⟩ = some (.slice As 1 cs)) (first | (simp [*]; done) | go_keep)
    (first
      | (go_at_call 35; refine (row' _).mono ?_; rintro e w4 ⟨A4, c4, rfl, r4, s4⟩; have R4 := Lib.hid r4; have S4 : Hid (Same w3 w4) := Same.trans (Same.refl w3).drew s4; have bs4 : w4.cell? ⟨w1.heap.size, 0, none⟩ = some (.slice As 1 cs) := (S4.out.cells _ _ (by omega)).trans bs3; clear r4 s4)
      | (go_at_call 9; refine (HB.out _ (S3.out.trans S4.out) _ _ _ R4.out).mono ?_; rintro e w5 ⟨Ab, cb, rfl, rb, s5⟩; have RB := Lib.hid rb; have S5 : Hid (Same w3 w5) := S4.out.trans s5; have bs5 : w5.cell? ⟨w1.heap.size, 0, none⟩ = some (.slice As 1 cs) := (S5.out.cells _ _ (by omega)).trans bs3; have ba5 : w5.cell? ⟨w2.heap.size, 0, none⟩ = some (.slice Aa 1 ca) := (S5.out.cells _ _ z3).trans ba3; clear rb s5))
  have OA5 : Hid (OneTab w5 Aa 1 ca tbA) := OA3.out.same S5.out
  have S5' : Hid (Same w1 w5) := S3.out.trans S5.out
  have z5 : w2.heap.size < w5.heap.size := Nat.lt_of_lt_of_le z3 S5.out.size
  clear bs3 ba3 OA3 S5 S4 R4 bs4 S3 z3
  -- _, g := Apply(s, drop name)
  go_wp2_with (fail)
  refine (HG.out _ S5'.out).mono ?_
  rintro e w6 ⟨rfl, s6⟩
  have S6 : Hid (Same w5 w6) := s6
  have bs6 : w6.cell? ⟨w1.heap.size, 0, none⟩ = some (.slice As 1 cs) := (S6.out.cells _ _ (by omega)).trans bs5
  have z6 : w1.heap.size < w6.heap.size := Nat.lt_of_lt_of_le (by omega) S6.out.size
  clear s6
  -- _, h := Apply(s, rename)
  go_wp2_with (fail)
  refine (HH.out _ ((S5'.out.trans S6.out).alloc _)).mono ?_
  rintro e w7 ⟨rfl, s7⟩
  have S7 : Hid (Same w5 w7) := (S6.out.alloc _).trans s7
  have bs7 : w7.cell? ⟨w1.heap.size, 0, none⟩ = some (.slice As 1 cs) := (S7.out.cells _ _ (by omega)).trans bs5
  have z7 : w1.heap.size < w7.heap.size := Nat.lt_of_lt_of_le (by omega) S7.out.size
  clear s7 bs6 z6 S6
  -- _, i := Convert(s, cast name, 0, row())
  go_wp2_with (fail)
  obtain ⟨w8, hw8⟩ : ∃ w8, w8 = w7.alloc (.cells #[.slice none 0 0] 24) := ⟨_, rfl⟩
  have s78 : Same w7 w8 := by rw [hw8]; exact (Same.refl w7).alloc _
  have S8 : Hid (Same w5 w8) := S7.out.trans s78
  have bs8 : w8.cell? ⟨w1.heap.size, 0, none⟩ = some (.slice As 1 cs) := (s78.cells _ _ z7).trans bs7
  have z8 : w1.heap.size < w8.heap.size := Nat.lt_of_lt_of_le z7 s78.size
  rw [← hw8]
  clear hw8 s78 bs7 z7 S7
  go_region_held3 (fun w' => w'.cell? ⟨w1.heap.size, 0, none⟩ = some (.slice As 1 cs)) (first | (simp [*]; done) | go_keep)
    (first
      | (go_at_call 35; refine (row' _).mono ?_; rintro e w4 ⟨A4, c4, rfl, r4, s4⟩; have R4 := Lib.hid r4; have S4 : Hid (Same w8 w4) := Same.trans (Same.refl w8).drew s4; have bs4 : w4.cell? ⟨w1.heap.size, 0, none⟩ = some (.slice As 1 cs) := (S4.out.cells _ _ z8).trans bs8; clear r4 s4)
      | (go_at_call 9; refine (HI.out _ (S5'.out.trans (S8.out.trans S4.out)) _ _ _ R4.out).mono ?_; rintro e w9 ⟨Ai, ci, rfl, ri, s9⟩; have S9 : Hid (Same w8 w9) := S4.out.trans s9; have bs9 : w9.cell? ⟨w1.heap.size, 0, none⟩ = some (.slice As 1 cs) := (S9.out.cells _ _ z8).trans bs8; clear ri s9))
  have S9' : Hid (Same w5 w9) := S8.out.trans S9.out
  have z9 : w1.heap.size < w9.heap.size := Nat.lt_of_lt_of_le z8 S9.out.size
  clear bs8 S9 S8 S4 R4 bs4 z8
  -- d, k := Apply(s, drop years)
  go_wp2_with (fail)
  refine (HD.out _ (S5'.out.trans S9'.out)).mono ?_
  rintro e w10 ⟨Ad, cd, rfl, od, s10⟩
  have OD := Lib.hid od
  have S10 : Hid (Same w5 w10) := S9'.out.trans s10
  have bs10 : w10.cell? ⟨w1.heap.size, 0, none⟩ = some (.slice As 1 cs) := (S10.out.cells _ _ (by omega)).trans bs5
  have ba10 : w10.cell? ⟨w2.heap.size, 0, none⟩ = some (.slice Aa 1 ca) := (S10.out.cells _ _ z5).trans ba5
  have z10 : w2.heap.size < w10.heap.size := Nat.lt_of_lt_of_le z5 S10.out.size
  have z10b : w1.heap.size < w10.heap.size := by omega
  -- the tables
  obtain ⟨ba, offa, Aa1, ca1, Aa2, ca2, hAa, hba, -, xa1, -, -, -⟩ := OA5.out.cells
  obtain ⟨bd, offd, Ad1, cd1, Ad2, cd2, hAd, hbd, -, xd1, -, -, -⟩ := OD.out.cells
  obtain ⟨bt, offt, At1, ct1, At2, ct2, hAt, hbt, xt0, xt1, xt2, FF, CC⟩ := O1.out.cells
  rw [factA.2.2] at xa1
  rw [factD.2.2] at xd1
  obtain ⟨bb, offb, hAb, hbb, hcb⟩ := RB.out.1.2.2 1 (by decide)
  have xb0 := hcb 0 (.int .i64 1) rfl
  have xb1 := hcb 1 (.int .i64 0) rfl
  have xb2 := hcb 2 (.string ⟨#[55]⟩) rfl
  have ya1 : w10.cell? ⟨ba, offa + 1, none⟩ = some (.slice Aa1 3 ca1) := (S10.out.cells _ _ hba).trans xa1
  have yb0 : w10.cell? ⟨bb, offb + 3, none⟩ = some (.int .i64 1) := (S10.out.cells _ _ hbb).trans xb0
  have yb1 : w10.cell? ⟨bb, offb + 3 + 1, none⟩ = some (.int .i64 0) := (S10.out.cells _ _ hbb).trans xb1
  have yb2 : w10.cell? ⟨bb, offb + 3 + 2, none⟩ = some (.string ⟨#[55]⟩) := (S10.out.cells _ _ hbb).trans xb2
  have S1w : Hid (Same w1 w10) := S5'.out.trans S10.out
  have yt0 : w10.cell? ⟨bt, offt, none⟩ = some (.string sampleTb.name) := (S1w.out.cells _ _ hbt).trans xt0
  have yt1 : w10.cell? ⟨bt, offt + 1, none⟩ = some (.slice At1 sampleTb.attrs.length ct1) := (S1w.out.cells _ _ hbt).trans xt1
  have yt2 : w10.cell? ⟨bt, offt + 2, none⟩ = some (.slice At2 sampleTb.key.length ct2) := (S1w.out.cells _ _ hbt).trans xt2
  have lba : ba < w10.heap.size := Nat.lt_of_lt_of_le hba S10.out.size
  have lbb : bb < w10.heap.size := Nat.lt_of_lt_of_le hbb S10.out.size
  have lbt : bt < w10.heap.size := Nat.lt_of_lt_of_le hbt S1w.out.size
  clear xa1 xb0 xb1 xb2 hcb xt0 xt1 xt2 hba hbb hbt s10 od bs5 ba5 bs9 z9 z5
  have hAa' : Aa = some ⟨ba, offa, none⟩ := hAa
  have hAb' : Ab = some ⟨bb, offb, none⟩ := hAb
  have hAd' : Ad = some ⟨bd, offd, none⟩ := hAd
  have hAt' : As = some ⟨bt, offt, none⟩ := hAt
  clear hAa hAb hAd hAt
  subst hAa' hAb' hAd' hAt'
  go_wp2_with (fail)
  obtain ⟨Wd, hWd⟩ : ∃ Wd, Wd = w10.alloc (.cells #[.slice (some ⟨bd, offd, none⟩) 1 cd] 24) := ⟨_, rfl⟩
  have s10d : Same w10 Wd := by rw [hWd]; exact (Same.refl w10).alloc _
  have SWD : Hid (Same w1 Wd) := S1w.out.trans s10d
  have gd : Wd.cell? ⟨w10.heap.size, 0, none⟩ = some (.slice (some ⟨bd, offd, none⟩) 1 cd) := by rw [hWd]; simp
  have lz : w10.heap.size < Wd.heap.size := by rw [hWd]; simp
  rw [← hWd]
  have gh : Wd.cell? ⟨bd, offd + 1, none⟩ = some (.slice Ad1 1 cd1) := (s10d.cells _ _ hbd).trans xd1
  have lbd : bd < Wd.heap.size := by omega
  have gs : Wd.cell? ⟨w1.heap.size, 0, none⟩ = some (.slice (some ⟨bt, offt, none⟩) 1 cs) := (s10d.cells _ _ z10b).trans bs10
  have lz1 : w1.heap.size < Wd.heap.size := by omega
  have g0 := (s10d.cells _ _ lbt).trans yt0
  have g1 := (s10d.cells _ _ lbt).trans yt1
  have g2 := (s10d.cells _ _ lbt).trans yt2
  have lbt : bt < Wd.heap.size := by omega
  have HV : Hid (∀ W, Same w1 W → Calls Tryz.prog 13 #[.agg #[.slice (some ⟨bt, offt, none⟩) 1 cs]] W fun e w' => e = .returned (.bool true) ∧ Same W w') := fun W s => by
    have := (O1.out.same s).valid few_sample
    rw [factV.1] at this
    exact this
  have HF : Hid (∀ W, Same w1 W → ∀ A0 rc, RowAt W ⟨A0, 2, rc⟩ rowL → Calls Tryz.prog 17 #[.agg #[.string sampleTb.name, .slice At1 sampleTb.attrs.length ct1, .slice At2 sampleTb.key.length ct2], .slice A0 2 rc] W fun e w' => e = .returned (.bool true) ∧ Same W w') := fun W s A0 rc r => by
    have := FF W s ⟨A0, 2, rc⟩ rowL r
    rw [factV.2.1] at this
    exact this
  have HCC : Hid (∀ W, Same w1 W → Calls Tryz.prog 19 #[.agg #[.string sampleTb.name, .slice At1 sampleTb.attrs.length ct1, .slice At2 sampleTb.key.length ct2], .string ⟨#[121, 101, 97, 114, 115]⟩] W fun e w' => e = .returned (.int .i64 1) ∧ Same W w') := fun W s => by
    have := CC W s sYears
    rw [factV.2.2] at this
    exact this
  clear hWd s10d yt0 yt1 yt2 xd1 hbd ya1 yb0 yb1 yb2 lba lbb bs10 ba10 z10 z10b FF CC
  generalize sampleTb.attrs.length = sal at *
  generalize sampleTb.key.length = skl at *
  generalize sampleTb.name = snm at *
  go_region_held3 (fun w' => w'.cell? ⟨w10.heap.size, 0, none⟩ = some (.slice (some ⟨bd, offd, none⟩) 1 cd) ∧ w'.cell? ⟨bd, offd + 1, none⟩ = some (.slice Ad1 1 cd1) ∧ w'.cell? ⟨w1.heap.size, 0, none⟩ = some (.slice (some ⟨bt, offt, none⟩) 1 cs) ∧ w'.cell? ⟨bt, offt, none⟩ = some (.string snm) ∧ w'.cell? ⟨bt, offt + 1, none⟩ = some (.slice At1 sal ct1) ∧ w'.cell? ⟨bt, offt + 2, none⟩ = some (.slice At2 skl ct2)) (first | (simp [*]; done) | go_keep)
    (first
      | (go_at_call 13; refine (HV.out _ SWD.out.drew).mono ?_; rintro e v1 ⟨rfl, sv⟩; have SV1 : Hid (Same Wd v1) := Same.trans (Same.refl Wd).drew sv; have gd1 : v1.cell? ⟨w10.heap.size, 0, none⟩ = some (.slice (some ⟨bd, offd, none⟩) 1 cd) := (SV1.out.cells _ _ lz).trans gd; have gh1 : v1.cell? ⟨bd, offd + 1, none⟩ = some (.slice Ad1 1 cd1) := (SV1.out.cells _ _ lbd).trans gh; have gs1 : v1.cell? ⟨w1.heap.size, 0, none⟩ = some (.slice (some ⟨bt, offt, none⟩) 1 cs) := (SV1.out.cells _ _ lz1).trans gs; have g01 : v1.cell? ⟨bt, offt, none⟩ = some (.string snm) := (SV1.out.cells _ _ lbt).trans g0; have g11 : v1.cell? ⟨bt, offt + 1, none⟩ = some (.slice At1 sal ct1) := (SV1.out.cells _ _ lbt).trans g1; have g21 : v1.cell? ⟨bt, offt + 2, none⟩ = some (.slice At2 skl ct2) := (SV1.out.cells _ _ lbt).trans g2; clear sv)
      | (go_at_call 35; refine (row' _).mono ?_; rintro e v2 ⟨A4, c4, rfl, r4, sv⟩; have R4 := Lib.hid r4; have SV2 : Hid (Same Wd v2) := SV1.out.trans sv; have gd2 : v2.cell? ⟨w10.heap.size, 0, none⟩ = some (.slice (some ⟨bd, offd, none⟩) 1 cd) := (SV2.out.cells _ _ lz).trans gd; have gh2 : v2.cell? ⟨bd, offd + 1, none⟩ = some (.slice Ad1 1 cd1) := (SV2.out.cells _ _ lbd).trans gh; have gs2 : v2.cell? ⟨w1.heap.size, 0, none⟩ = some (.slice (some ⟨bt, offt, none⟩) 1 cs) := (SV2.out.cells _ _ lz1).trans gs; have g02 : v2.cell? ⟨bt, offt, none⟩ = some (.string snm) := (SV2.out.cells _ _ lbt).trans g0; have g12 : v2.cell? ⟨bt, offt + 1, none⟩ = some (.slice At1 sal ct1) := (SV2.out.cells _ _ lbt).trans g1; have g22 : v2.cell? ⟨bt, offt + 2, none⟩ = some (.slice At2 skl ct2) := (SV2.out.cells _ _ lbt).trans g2; clear r4 sv)
      | (go_at_call 17; refine (HF.out _ (SWD.out.trans SV2.out) _ _ R4.out).mono ?_; rintro e v3 ⟨rfl, sv⟩; have SV3 : Hid (Same Wd v3) := SV2.out.trans sv; have gd3 : v3.cell? ⟨w10.heap.size, 0, none⟩ = some (.slice (some ⟨bd, offd, none⟩) 1 cd) := (SV3.out.cells _ _ lz).trans gd; have gh3 : v3.cell? ⟨bd, offd + 1, none⟩ = some (.slice Ad1 1 cd1) := (SV3.out.cells _ _ lbd).trans gh; have gs3 : v3.cell? ⟨w1.heap.size, 0, none⟩ = some (.slice (some ⟨bt, offt, none⟩) 1 cs) := (SV3.out.cells _ _ lz1).trans gs; have g03 : v3.cell? ⟨bt, offt, none⟩ = some (.string snm) := (SV3.out.cells _ _ lbt).trans g0; have g13 : v3.cell? ⟨bt, offt + 1, none⟩ = some (.slice At1 sal ct1) := (SV3.out.cells _ _ lbt).trans g1; have g23 : v3.cell? ⟨bt, offt + 2, none⟩ = some (.slice At2 skl ct2) := (SV3.out.cells _ _ lbt).trans g2; clear sv)
      | (go_at_call 19; refine (HCC.out _ (SWD.out.trans SV3.out)).mono ?_; rintro e v4 ⟨rfl, sv⟩; have SV4 : Hid (Same Wd v4) := SV3.out.trans sv; have gd4 : v4.cell? ⟨w10.heap.size, 0, none⟩ = some (.slice (some ⟨bd, offd, none⟩) 1 cd) := (SV4.out.cells _ _ lz).trans gd; have gh4 : v4.cell? ⟨bd, offd + 1, none⟩ = some (.slice Ad1 1 cd1) := (SV4.out.cells _ _ lbd).trans gh; have gs4 : v4.cell? ⟨w1.heap.size, 0, none⟩ = some (.slice (some ⟨bt, offt, none⟩) 1 cs) := (SV4.out.cells _ _ lz1).trans gs; have g04 : v4.cell? ⟨bt, offt, none⟩ = some (.string snm) := (SV4.out.cells _ _ lbt).trans g0; have g14 : v4.cell? ⟨bt, offt + 1, none⟩ = some (.slice At1 sal ct1) := (SV4.out.cells _ _ lbt).trans g1; have g24 : v4.cell? ⟨bt, offt + 2, none⟩ = some (.slice At2 skl ct2) := (SV4.out.cells _ _ lbt).trans g2; clear sv))
  all_goals
    go_wp2_with (fail)
    go_ret
    exact ⟨rfl, S1.out.trans (SWD.out.trans SV4.out)⟩
end Go.Proofs.YtfifnemnihcijaaGreatDoor

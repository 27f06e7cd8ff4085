/- migrate.Start: contract. Conditions: strconv's three variables hold what its initialisers lay. | migrate.Start: contract. Conditions: strconv's three variables hold what its initialisers lay. -/
import Derived.Test.YtpakimhhpeaefaaGreatDoorKGn
import Derived.Test.YtpakimhhpeaefaaGreatDoorKGf
import Derived.Test.YtpakimhhpeaefaaGreatDoorKSp
set_option linter.unusedSimpArgs false
set_option linter.unusedVariables false
namespace Go.Proofs.YtpakimhhpeaefaaGreatDoor
open Go.RowKit

theorem OwnT.chgT {S : Nat → Prop} {w w' : World} {B : Nat} {ho : Hd} {tb : List Tbl} (o : OwnT w B ho tb) (c : Chg S w w') {g : Nat} {t : TypeId} {cs : Array Value} (hb : Blk w g t cs) (h1 : t ≠ 55) (h2 : t ≠ 40) (hS : ∀ k, S k → k = g) : OwnT w' B ho tb := by
  refine ⟨own_chg o.oo c fun k hk hs => ?_, o.oh, fun t' ht => ⟨own_chg (o.oi t' ht).1 c fun k hk hs => ?_, (o.oi t' ht).2⟩, o.ai⟩
  · obtain ⟨_, cs', hb'⟩ := row_ty o.oo hk
    rw [hS k hs] at hb'
    exact Blk.ne_ hb hb' h1 rfl
  · obtain ⟨_, cs', hb'⟩ := row_ty (o.oi t' ht).1 hk
    rw [hS k hs] at hb'
    exact Blk.ne_ hb hb' h2 rfl
theorem start_bad1 (A At_ : Option Addr) (n c tm tc : Nat) (k to_ dk dn : Int) (t aa nm ds : ByteArray) (w : World)
    (HV : Hid (∀ W, Same w W → Calls Tryz.prog 28 #[.agg #[.slice A n c]] W fun e w' => e = .returned (.bool false) ∧ Same W w')) :
    Calls Tryz.prog 12 #[.agg #[.slice A n c], .agg #[.int .i64 k, .string t, .string aa, .string nm, .int .i64 to_, .int .i64 dk, .int .i64 dn, .string ds], .slice At_ tm tc] w fun e w' => e = .returned (.tuple #[.pointer none, .int .i64 1]) ∧ Same w w' := by
  go_enter Tryz.func12, Tryz.ntmps12
  go_wp2_with (fail)
  refine (HV.out _ (((Same.refl w).alloc _).alloc _)).mono ?_
  rintro e w1 ⟨rfl, s1⟩
  have S1 : Hid (Same w w1) := (((Same.refl w).alloc _).alloc _).trans s1
  clear s1
  go_wp2_with (fail)
  go_ret2
  exact ⟨rfl, S1.out⟩
theorem start_bad2 (A At_ : Option Addr) (n c tm tc : Nat) (k to_ dk dn : Int) (t aa nm ds : ByteArray) (w : World)
    (HV : Hid (∀ W, Same w W → Calls Tryz.prog 28 #[.agg #[.slice A n c]] W fun e w' => e = .returned (.bool true) ∧ Same W w'))
    (HFI : Hid (∀ W, Same w W → Calls Tryz.prog 45 #[.agg #[.slice A n c], .slice At_ tm tc] W fun e w' => e = .returned (.bool false) ∧ Same W w')) :
    Calls Tryz.prog 12 #[.agg #[.slice A n c], .agg #[.int .i64 k, .string t, .string aa, .string nm, .int .i64 to_, .int .i64 dk, .int .i64 dn, .string ds], .slice At_ tm tc] w fun e w' => e = .returned (.tuple #[.pointer none, .int .i64 1]) ∧ Same w w' := by
  go_enter Tryz.func12, Tryz.ntmps12
  go_wp2_with (fail)
  obtain ⟨W0, hW0⟩ : ∃ W0, W0 = (w.alloc (.cells #[.slice A n c] 24)).alloc (.cells #[.int .i64 k, .string t, .string aa, .string nm, .int .i64 to_, .int .i64 dk, .int .i64 dn, .string ds] 28) := ⟨_, rfl⟩
  have S0 : Hid (Same w W0) := by rw [hW0]; exact Lib.hid (((Same.refl w).alloc _).alloc _)
  have Bs : Hid (Blk W0 w.heap.size 24 #[.slice A n c]) := by rw [hW0]; exact Lib.hid ((Blk.new w _ _).alloc _)
  rw [← hW0]
  clear hW0
  have bs0 := Bs.out.cell 0
  refine (HV.out _ S0.out).mono ?_
  rintro e w1 ⟨rfl, s1⟩
  have S1 : Hid (Same w w1) := S0.out.trans s1
  have Bs1 : Hid (Blk w1 w.heap.size 24 #[.slice A n c]) := Bs.out.below s1 Bs.out.lt
  clear s1 bs0 Bs S0
  have bs0 := Bs1.out.cell 0
  go_wp2_with (fail)
  refine (HFI.out _ S1.out).mono ?_
  rintro e w2 ⟨rfl, s2⟩
  have S2 : Hid (Same w w2) := S1.out.trans s2
  clear s2 bs0
  go_wp2_with (fail)
  go_ret2
  exact ⟨rfl, S2.out⟩
theorem start_bad3 (A At_ : Option Addr) (n c tm tc : Nat) (k to_ dk dn E : Int) (t aa nm ds : ByteArray) (w : World) (hE : E ≠ 0)
    (HV : Hid (∀ W, Same w W → Calls Tryz.prog 28 #[.agg #[.slice A n c]] W fun e w' => e = .returned (.bool true) ∧ Same W w'))
    (HFI : Hid (∀ W, Same w W → Calls Tryz.prog 45 #[.agg #[.slice A n c], .slice At_ tm tc] W fun e w' => e = .returned (.bool true) ∧ Same W w'))
    (HAP : Hid (∀ W, Same w W → Calls Tryz.prog 27 #[.agg #[.slice A n c], .agg #[.int .i64 k, .string t, .string aa, .string nm, .int .i64 to_, .int .i64 dk, .int .i64 dn, .string ds]] W fun e w' => e = .returned (.tuple #[.agg #[.slice none 0 0], .int .i64 E]) ∧ Same W w')) :
    Calls Tryz.prog 12 #[.agg #[.slice A n c], .agg #[.int .i64 k, .string t, .string aa, .string nm, .int .i64 to_, .int .i64 dk, .int .i64 dn, .string ds], .slice At_ tm tc] w fun e w' => e = .returned (.tuple #[.pointer none, .int .i64 E]) ∧ Same w w' := by
  have tE : (E != 0) = true := by simp [hE]
  clear hE
  go_enter Tryz.func12, Tryz.ntmps12
  go_wp2_with (fail)
  obtain ⟨W0, hW0⟩ : ∃ W0, W0 = (w.alloc (.cells #[.slice A n c] 24)).alloc (.cells #[.int .i64 k, .string t, .string aa, .string nm, .int .i64 to_, .int .i64 dk, .int .i64 dn, .string ds] 28) := ⟨_, rfl⟩
  have S0 : Hid (Same w W0) := by rw [hW0]; exact Lib.hid (((Same.refl w).alloc _).alloc _)
  have Bs : Hid (Blk W0 w.heap.size 24 #[.slice A n c]) := by rw [hW0]; exact Lib.hid ((Blk.new w _ _).alloc _)
  have Bc : Hid (Blk W0 (w.heap.size + 1) 28 #[.int .i64 k, .string t, .string aa, .string nm, .int .i64 to_, .int .i64 dk, .int .i64 dn, .string ds]) := by
    have e : w.heap.size + 1 = (w.alloc (.cells #[.slice A n c] 24)).heap.size := by simp
    rw [hW0, e]; exact Lib.hid (Blk.new _ _ _)
  rw [← hW0]
  clear hW0
  have bs0 := Bs.out.cell 0
  refine (HV.out _ S0.out).mono ?_
  rintro e w1 ⟨rfl, s1⟩
  have S1 : Hid (Same w w1) := S0.out.trans s1
  have Bs1 : Hid (Blk w1 w.heap.size 24 #[.slice A n c]) := Bs.out.below s1 Bs.out.lt
  have Bc1 : Hid (Blk w1 (w.heap.size + 1) 28 #[.int .i64 k, .string t, .string aa, .string nm, .int .i64 to_, .int .i64 dk, .int .i64 dn, .string ds]) := Bc.out.below s1 Bc.out.lt
  clear s1 bs0 Bs Bc S0
  have bs0 := Bs1.out.cell 0
  go_wp2_with (fail)
  refine (HFI.out _ S1.out).mono ?_
  rintro e w2 ⟨rfl, s2⟩
  have S2 : Hid (Same w w2) := S1.out.trans s2
  have Bs2 : Hid (Blk w2 w.heap.size 24 #[.slice A n c]) := Bs1.out.below s2 Bs1.out.lt
  have Bc2 : Hid (Blk w2 (w.heap.size + 1) 28 #[.int .i64 k, .string t, .string aa, .string nm, .int .i64 to_, .int .i64 dk, .int .i64 dn, .string ds]) := Bc1.out.below s2 Bc1.out.lt
  clear s2 bs0 Bs1 Bc1 S1
  have bs0 := Bs2.out.cell 0
  have bc0 := Bc2.out.cell 0
  have bc1 := Bc2.out.cell 1
  have bc2 := Bc2.out.cell 2
  have bc3 := Bc2.out.cell 3
  have bc4 := Bc2.out.cell 4
  have bc5 := Bc2.out.cell 5
  have bc6 := Bc2.out.cell 6
  have bc7 := Bc2.out.cell 7
  go_wp2_with (fail)
  refine (HAP.out _ S2.out).mono ?_
  rintro e w3 ⟨rfl, s3⟩
  have S3 : Hid (Same w w3) := S2.out.trans s3
  clear s3 bs0 bc0 bc1 bc2 bc3 bc4 bc5 bc6 bc7
  go_wp2_with (fail)
  go_ret2
  exact ⟨rfl, S3.out.alloc _⟩
set_option maxHeartbeats 4000000 in
set_option maxRecDepth 100000 in
theorem start_walk (A At_ : Option Addr) (n c tm tc : Nat) (k to_ dk dn fi : Int) (t aa nm ds : ByteArray) (tbs : List Tbl) (w : World) (R : Option Addr → Nat → Nat → World → Prop) (POST : Ending → World → Prop)
    (HV : Hid (∀ W, Same w W → Calls Tryz.prog 28 #[.agg #[.slice A n c]] W fun e w' => e = .returned (.bool true) ∧ Same W w'))
    (HFI : Hid (∀ W, Same w W → Calls Tryz.prog 45 #[.agg #[.slice A n c], .slice At_ tm tc] W fun e w' => e = .returned (.bool true) ∧ Same W w'))
    (HAP : Hid (∀ W, Same w W → Calls Tryz.prog 27 #[.agg #[.slice A n c], .agg #[.int .i64 k, .string t, .string aa, .string nm, .int .i64 to_, .int .i64 dk, .int .i64 dn, .string ds]] W fun e w' => (∃ (A1 : Option Addr) (m1 c1 : Nat), e = .returned (.tuple #[.agg #[.slice A1 m1 c1], .int .i64 0]) ∧ R A1 m1 c1 w') ∧ Same W w'))
    (HFD : Hid (∀ W, Same w W → Calls Tryz.prog 25 #[.agg #[.slice A n c], .string t] W fun e w' => e = .returned (.int .i64 fi) ∧ Same W w'))
    (HCL : Hid (∀ W, Same w W → Calls Tryz.prog 46 #[.slice At_ tm tc] W fun e w' => ∃ (Ao : Option Addr) (no co : Nat) (ts2 : List Tbl), e = .returned (.slice Ao no co) ∧ (OwnT w' W.heap.size ⟨Ao, no, co⟩ ts2 ∧ ts2.map Tbl.rs = tbs.map Tbl.rs) ∧ Same W w'))
    (HR : ∀ A1 m1 c1 W W', R A1 m1 c1 W → Same W W' → R A1 m1 c1 W')
    (HP0 : Hid (∀ (A1 : Option Addr) (m1 c1 : Nat) (W4 wy : World) (gM gm : Nat) (Ao : Option Addr) (no co : Nat) (ts2 : List Tbl), Same w W4 → R A1 m1 c1 W4 → Blk W4 w.heap.size 24 #[.slice A n c] → Blk W4 (w.heap.size + 1) 28 #[.int .i64 k, .string t, .string aa, .string nm, .int .i64 to_, .int .i64 dk, .int .i64 dn, .string ds] → W4.heap.size ≤ gM → W4.heap.size ≤ gm →
      Blk wy gM 84 #[.slice A n c, .slice A1 m1 c1, .int .i64 fi, .slice Ao no co, .slice none 0 0, .nilFunc, .bool false, .bool false] → Blk wy gm 33 #[.pointer (some ⟨gM, 0, none⟩)] → Same W4 wy → OwnT wy W4.heap.size ⟨Ao, no, co⟩ ts2 → ts2.map Tbl.rs = tbs.map Tbl.rs →
      POST (.returned (.tuple #[.pointer (some ⟨gM, 0, none⟩), .int .i64 0])) (wy.setCell ⟨gM, 5, none⟩ (.func (.func 47) #[] #[.pointer (some ⟨w.heap.size, 0, none⟩), .pointer (some ⟨w.heap.size + 1, 0, none⟩), .pointer (some ⟨gm, 0, none⟩)])))) :
    Calls Tryz.prog 12 #[.agg #[.slice A n c], .agg #[.int .i64 k, .string t, .string aa, .string nm, .int .i64 to_, .int .i64 dk, .int .i64 dn, .string ds], .slice At_ tm tc] w POST := by
  go_enter Tryz.func12, Tryz.ntmps12
  go_wp2_with (fail)
  obtain ⟨W0, hW0⟩ : ∃ W0, W0 = (w.alloc (.cells #[.slice A n c] 24)).alloc (.cells #[.int .i64 k, .string t, .string aa, .string nm, .int .i64 to_, .int .i64 dk, .int .i64 dn, .string ds] 28) := ⟨_, rfl⟩
  have S0 : Hid (Same w W0) := by rw [hW0]; exact Lib.hid (((Same.refl w).alloc _).alloc _)
  have Bs : Hid (Blk W0 w.heap.size 24 #[.slice A n c]) := by rw [hW0]; exact Lib.hid ((Blk.new w _ _).alloc _)
  have Bc : Hid (Blk W0 (w.heap.size + 1) 28 #[.int .i64 k, .string t, .string aa, .string nm, .int .i64 to_, .int .i64 dk, .int .i64 dn, .string ds]) := by
    have e : w.heap.size + 1 = (w.alloc (.cells #[.slice A n c] 24)).heap.size := by simp
    rw [hW0, e]; exact Lib.hid (Blk.new _ _ _)
  rw [← hW0]
  clear hW0
  have bs0 := Bs.out.cell 0
  refine (HV.out _ S0.out).mono ?_
  rintro e w1 ⟨rfl, s1⟩
  have S1 : Hid (Same w w1) := S0.out.trans s1
  have Bs1 : Hid (Blk w1 w.heap.size 24 #[.slice A n c]) := Bs.out.below s1 Bs.out.lt
  have Bc1 : Hid (Blk w1 (w.heap.size + 1) 28 #[.int .i64 k, .string t, .string aa, .string nm, .int .i64 to_, .int .i64 dk, .int .i64 dn, .string ds]) := Bc.out.below s1 Bc.out.lt
  clear s1 bs0 Bs Bc S0
  have bs0 := Bs1.out.cell 0
  go_wp2_with (fail)
  refine (HFI.out _ S1.out).mono ?_
  rintro e w2 ⟨rfl, s2⟩
  have S2 : Hid (Same w w2) := S1.out.trans s2
  have Bs2 : Hid (Blk w2 w.heap.size 24 #[.slice A n c]) := Bs1.out.below s2 Bs1.out.lt
  have Bc2 : Hid (Blk w2 (w.heap.size + 1) 28 #[.int .i64 k, .string t, .string aa, .string nm, .int .i64 to_, .int .i64 dk, .int .i64 dn, .string ds]) := Bc1.out.below s2 Bc1.out.lt
  clear s2 bs0 Bs1 Bc1 S1
  have bs0 := Bs2.out.cell 0
  have bc0 := Bc2.out.cell 0
  have bc1 := Bc2.out.cell 1
  have bc2 := Bc2.out.cell 2
  have bc3 := Bc2.out.cell 3
  have bc4 := Bc2.out.cell 4
  have bc5 := Bc2.out.cell 5
  have bc6 := Bc2.out.cell 6
  have bc7 := Bc2.out.cell 7
  go_wp2_with (fail)
  refine (HAP.out _ S2.out).mono ?_
  rintro e w3 ⟨⟨A1, m1, c1, rfl, hR⟩, s3⟩
  have S3 : Hid (Same w w3) := S2.out.trans s3
  have Bs3 : Hid (Blk w3 w.heap.size 24 #[.slice A n c]) := Bs2.out.below s3 Bs2.out.lt
  have Bc3 : Hid (Blk w3 (w.heap.size + 1) 28 #[.int .i64 k, .string t, .string aa, .string nm, .int .i64 to_, .int .i64 dk, .int .i64 dn, .string ds]) := Bc2.out.below s3 Bc2.out.lt
  have RR := Lib.hid hR
  clear s3 hR bs0 bc0 bc1 bc2 bc3 bc4 bc5 bc6 bc7 Bs2 Bc2 S2
  go_wp2_with (fail)
  obtain ⟨W4, hW4⟩ : ∃ W4, W4 = w3.alloc (.cells #[.slice A1 m1 c1] 24) := ⟨_, rfl⟩
  have s34 : Same w3 W4 := by rw [hW4]; exact (Same.refl w3).alloc _
  have BN : Blk W4 w3.heap.size 24 #[.slice A1 m1 c1] := by rw [hW4]; exact Blk.new w3 _ _
  obtain ⟨nb, hnb⟩ : ∃ nb, nb = w3.heap.size := ⟨_, rfl⟩
  rw [← hW4]
  try rw [← hnb]
  rw [← hnb] at BN
  have S4 : Hid (Same w W4) := S3.out.trans s34
  have Bs4 : Hid (Blk W4 w.heap.size 24 #[.slice A n c]) := Bs3.out.below s34 Bs3.out.lt
  have Bc4 : Hid (Blk W4 (w.heap.size + 1) 28 #[.int .i64 k, .string t, .string aa, .string nm, .int .i64 to_, .int .i64 dk, .int .i64 dn, .string ds]) := Bc3.out.below s34 Bc3.out.lt
  have HFD4 : Hid (∀ W, Same W4 W → Calls Tryz.prog 25 #[.agg #[.slice A n c], .string t] W fun e w' => e = .returned (.int .i64 fi) ∧ Same W w') := Lib.hid fun W s => HFD.out W (S4.out.trans s)
  have HCL4 : Hid (∀ W, Same W4 W → Calls Tryz.prog 46 #[.slice At_ tm tc] W fun e w' => ∃ (Ao : Option Addr) (no co : Nat) (ts2 : List Tbl), e = .returned (.slice Ao no co) ∧ (OwnT w' W.heap.size ⟨Ao, no, co⟩ ts2 ∧ ts2.map Tbl.rs = tbs.map Tbl.rs) ∧ Same W w') := Lib.hid fun W s => HCL.out W (S4.out.trans s)
  have HP := Lib.hid (fun wy gM gm Ao no co ts2 => HP0.out A1 m1 c1 W4 wy gM gm Ao no co ts2 S4.out (HR _ _ _ _ _ RR.out s34) Bs4.out Bc4.out)
  have lS := Bs4.out.lt
  have lC := Bc4.out.lt
  have lN := BN.lt
  have kS_W4 : W4.cell? ⟨w.heap.size, 0, none⟩ = some (.slice A n c) := Bs4.out.cell 0
  have kN_W4 : W4.cell? ⟨nb, 0, none⟩ = some (.slice A1 m1 c1) := BN.cell 0
  have kC_W4 : W4.cell? ⟨w.heap.size + 1, 1, none⟩ = some (.string t) := Bc4.out.cell 1
  clear hW4 hnb s34 BN HP0 HR RR Bs3 Bc3 S3 HV HFI HAP HFD HCL
  refine wp_region_last (opsP := ?opsP) (S := (fun w' => w'.cell? ⟨w.heap.size, 0, none⟩ = some (.slice A n c) ∧ w'.cell? ⟨nb, 0, none⟩ = some (.slice A1 m1 c1) ∧ w'.cell? ⟨w.heap.size + 1, 1, none⟩ = some (.string t))) (n := 11) (by kernel_rfl) (lastOk_of (by kernel_rfl)) ?hp ?wk
  case hp => simp only [List.pop_toArray, List.dropLast_cons_cons, List.dropLast_singleton]; rfl
  obtain ⟨V, hV⟩ : ∃ V, V = W4.drew := ⟨_, rfl⟩
  have S_V : Hid (Same W4 V) := by rw [hV]; exact Lib.hid (Same.refl W4).drew
  rw [← hV]
  clear hV
  have kS_V := (S_V.out.cells _ 0 lS).trans kS_W4
  have kN_V := (S_V.out.cells _ 0 lN).trans kN_W4
  have kC_V := (S_V.out.cells _ 1 lC).trans kC_W4
  have hHeld : (fun w' => w'.cell? ⟨w.heap.size, 0, none⟩ = some (.slice A n c) ∧ w'.cell? ⟨nb, 0, none⟩ = some (.slice A1 m1 c1) ∧ w'.cell? ⟨w.heap.size + 1, 1, none⟩ = some (.string t)) V := ⟨kS_V, kN_V, kC_V⟩
  refine wpAnyH_take (i := 0) (oi := ?oi1) (v := ?v1) ?hi1 (by kernel_rfl) (by kernel_rfl) (by kernel_rfl) ?hQ1 (Or.inl ⟨?hw1, ?hy1⟩) hHeld ?rest1
  case hi1 => simp only [List.getElem?_toArray, List.getElem?_cons_succ, List.getElem?_cons_zero]; rfl
  case hQ1 => exact fun _ _ _ h => h
  case hw1 => rfl
  case hy1 =>
    intro w' hSw
    obtain ⟨y1, y2, y3⟩ := hSw
    go_simp
    try with_reducible rfl
  try simp only [Act.put, List.setIfInBounds_toArray, List.set_cons_zero, List.set_cons_succ]
  refine wpAnyH_take (i := 1) (oi := ?oi2) (v := ?v2) ?hi2 (by kernel_rfl) (by kernel_rfl) (by kernel_rfl) ?hQ2 (Or.inl ⟨?hw2, ?hy2⟩) hHeld ?rest2
  case hi2 => simp only [List.getElem?_toArray, List.getElem?_cons_succ, List.getElem?_cons_zero]; rfl
  case hQ2 => exact fun _ _ _ h => h
  case hw2 => rfl
  case hy2 =>
    intro w' hSw
    obtain ⟨y1, y2, y3⟩ := hSw
    go_simp
    try with_reducible rfl
  try simp only [Act.put, List.setIfInBounds_toArray, List.set_cons_zero, List.set_cons_succ]
  refine wpAnyH_take (i := 2) (oi := ?oi3) (v := ?v3) ?hi3 (by kernel_rfl) (by kernel_rfl) (by kernel_rfl) ?hQ3 (Or.inl ⟨?hw3, ?hy3⟩) hHeld ?rest3
  case hi3 => simp only [List.getElem?_toArray, List.getElem?_cons_succ, List.getElem?_cons_zero]; rfl
  case hQ3 => exact fun _ _ _ h => h
  case hw3 => rfl
  case hy3 =>
    intro w' hSw
    obtain ⟨y1, y2, y3⟩ := hSw
    go_simp
    try with_reducible rfl
  try simp only [Act.put, List.setIfInBounds_toArray, List.set_cons_zero, List.set_cons_succ]
  refine wpAnyH_take (i := 3) (oi := ?oi4) (v := ?v4) ?hi4 (by kernel_rfl) (by kernel_rfl) (by kernel_rfl) ?hQ4 (Or.inl ⟨?hw4, ?hy4⟩) hHeld ?rest4
  case hi4 => simp only [List.getElem?_toArray, List.getElem?_cons_succ, List.getElem?_cons_zero]; rfl
  case hQ4 => exact fun _ _ _ h => h
  case hw4 => rfl
  case hy4 =>
    intro w' hSw
    obtain ⟨y1, y2, y3⟩ := hSw
    go_simp
    try with_reducible rfl
  try simp only [Act.put, List.setIfInBounds_toArray, List.set_cons_zero, List.set_cons_succ]
  refine wpAnyH_take (i := 4) (oi := ?oi5) (v := ?v5) ?hi5 (by kernel_rfl) (by kernel_rfl) (by kernel_rfl) ?hQ5 (Or.inl ⟨?hw5, ?hy5⟩) hHeld ?rest5
  case hi5 => simp only [List.getElem?_toArray, List.getElem?_cons_succ, List.getElem?_cons_zero]; rfl
  case hQ5 => exact fun _ _ _ h => h
  case hw5 => rfl
  case hy5 =>
    intro w' hSw
    obtain ⟨y1, y2, y3⟩ := hSw
    go_simp
    try with_reducible rfl
  try simp only [Act.put, List.setIfInBounds_toArray, List.set_cons_zero, List.set_cons_succ]
  refine wpAnyH_take (i := 6) (oi := ?oi6) (v := ?v6) ?hi6 (by kernel_rfl) (by kernel_rfl) (by kernel_rfl) ?hQ6 (Or.inl ⟨?hw6, ?hy6⟩) hHeld ?rest6
  case hi6 => simp only [List.getElem?_toArray, List.getElem?_cons_succ, List.getElem?_cons_zero]; rfl
  case hQ6 => exact fun _ _ _ h => h
  case hw6 => rfl
  case hy6 =>
    intro w' hSw
    obtain ⟨y1, y2, y3⟩ := hSw
    go_simp
    try with_reducible rfl
  try simp only [Act.put, List.setIfInBounds_toArray, List.set_cons_zero, List.set_cons_succ]
  refine wpAnyH_ready (rs := [5, 10]) (by kernel_rfl) (by simp) ?_
  refine AllReadyH.cons (o := ?oo7) ?ho7 (fun K hK => ?st7) ?more7
  case ho7 => simp only [List.getElem?_toArray, List.getElem?_cons_succ, List.getElem?_cons_zero]; rfl
  case st7 =>
    rw [if_pos (by rfl)]
    go_simp
    go_at_call 25
    refine (HFD4.out _ S_V.out).mono ?_
    rintro e wf ⟨rfl, sf⟩
    have sm_wf : Hid (Same V wf) := sf
    have S_wf : Hid (Same W4 wf) := S_V.out.trans sf
    have kS_wf := (S_wf.out.cells _ 0 lS).trans kS_W4
    have kN_wf := (S_wf.out.cells _ 0 lN).trans kN_W4
    have kC_wf := (S_wf.out.cells _ 1 lC).trans kC_W4
    clear sf
    try go_simp
    refine hK.out _ _ ?_ (fun hHeld => ?_)
    · exact ⟨kS_wf, kN_wf, kC_wf⟩
    clear hK K
    try simp only [Act.put, List.setIfInBounds_toArray, List.set_cons_zero, List.set_cons_succ]
    refine wpAnyH_ready (rs := [7, 10]) (by kernel_rfl) (by simp) ?_
    refine AllReadyH.cons (o := ?oo8) ?ho8 (fun K hK => ?st8) ?more8
    case ho8 => simp only [List.getElem?_toArray, List.getElem?_cons_succ, List.getElem?_cons_zero]; rfl
    case st8 =>
      rw [if_pos (by rfl)]
      go_simp
      go_at_call 46
      refine (HCL4.out _ S_wf.out).mono ?_
      rintro e wc ⟨Ao, no, co, ts2, rfl, oc, sc⟩
      have OC : Hid (OwnT wc W4.heap.size ⟨Ao, no, co⟩ ts2 ∧ ts2.map Tbl.rs = tbs.map Tbl.rs) := ⟨oc.1.base S_wf.out.size, oc.2⟩
      clear oc
      have sm_wc : Hid (Same wf wc) := sc
      have S_wc : Hid (Same W4 wc) := S_wf.out.trans sc
      have kS_wc := (S_wc.out.cells _ 0 lS).trans kS_W4
      have kN_wc := (S_wc.out.cells _ 0 lN).trans kN_W4
      have kC_wc := (S_wc.out.cells _ 1 lC).trans kC_W4
      clear sc
      try go_simp
      refine hK.out _ _ ?_ (fun hHeld => ?_)
      · exact ⟨kS_wc, kN_wc, kC_wc⟩
      clear hK K
      try simp only [Act.put, List.setIfInBounds_toArray, List.set_cons_zero, List.set_cons_succ]
      refine wpAnyH_take (i := 8) (oi := ?oi9) (v := ?v9) ?hi9 (by kernel_rfl) (by kernel_rfl) (by kernel_rfl) ?hQ9 (Or.inl ⟨?hw9, ?hy9⟩) hHeld ?rest9
      case hi9 => simp only [List.getElem?_toArray, List.getElem?_cons_succ, List.getElem?_cons_zero]; rfl
      case hQ9 => exact fun _ _ _ h => h
      case hw9 => rfl
      case hy9 =>
        intro w' hSw
        obtain ⟨y1, y2, y3⟩ := hSw
        go_simp
        try with_reducible rfl
      try simp only [Act.put, List.setIfInBounds_toArray, List.set_cons_zero, List.set_cons_succ]
      refine wpAnyH_ready (rs := [9, 10]) (by kernel_rfl) (by simp) ?_
      refine AllReadyH.cons (o := ?oo10) ?ho10 (fun K hK => ?st10) ?more10
      case ho10 => simp only [List.getElem?_toArray, List.getElem?_cons_succ, List.getElem?_cons_zero]; rfl
      case st10 =>
        rw [if_pos (by rfl)]
        go_simp
        obtain ⟨wb, hwb⟩ : ∃ wb, wb = wc.alloc (.cells #[.slice A n c, .slice A1 m1 c1, .int .i64 fi, .slice Ao no co, .slice none 0 0, .nilFunc, .bool false, .bool false] 84) := ⟨_, rfl⟩
        have sb : Same wc wb := by rw [hwb]; exact (Same.refl _).alloc _
        have BM : Hid (Blk wb wc.heap.size 84 #[.slice A n c, .slice A1 m1 c1, .int .i64 fi, .slice Ao no co, .slice none 0 0, .nilFunc, .bool false, .bool false]) := by rw [hwb]; exact Lib.hid (Blk.new _ _ _)
        obtain ⟨gM, hgM⟩ : ∃ gM, gM = wc.heap.size := ⟨_, rfl⟩
        have hgM0 : W4.heap.size ≤ gM := by rw [hgM]; exact S_wc.out.size
        rw [← hwb, ← hgM]
        rw [← hgM] at BM
        have sm_wb : Hid (Same wc wb) := sb
        have S_wb : Hid (Same W4 wb) := S_wc.out.trans sb
        have kS_wb := (S_wb.out.cells _ 0 lS).trans kS_W4
        have kN_wb := (S_wb.out.cells _ 0 lN).trans kN_W4
        have kC_wb := (S_wb.out.cells _ 1 lC).trans kC_W4
        clear sb
        have hgME := Lib.hid hgM
        have hwbE := Lib.hid hwb
        clear hgM hwb
        refine hK.out _ _ ?_ (fun hHeld => ?_)
        · exact ⟨kS_wb, kN_wb, kC_wb⟩
        clear hK K
        try simp only [Act.put, List.setIfInBounds_toArray, List.set_cons_zero, List.set_cons_succ]
        refine wpAnyH_ready (rs := [10]) (by kernel_rfl) (by simp) ?_
        refine AllReadyH.cons (o := ?oo11) ?ho11 (fun K hK => ?st11) ?more11
        case ho11 => simp only [List.getElem?_toArray, List.getElem?_cons_succ, List.getElem?_cons_zero]; rfl
        case more11 => exact AllReadyH.nil
        case st11 =>
          rw [if_pos (by rfl)]
          go_simp
          obtain ⟨wa, hwa⟩ : ∃ wa, wa = wb.alloc (.cells #[.pointer none] 33) := ⟨_, rfl⟩
          have sa : Same wb wa := by rw [hwa]; exact (Same.refl _).alloc _
          have BA : Hid (Blk wa wb.heap.size 33 #[.pointer none]) := by rw [hwa]; exact Lib.hid (Blk.new _ _ _)
          obtain ⟨gm, hgm⟩ : ∃ gm, gm = wb.heap.size := ⟨_, rfl⟩
          have hgm0 : W4.heap.size ≤ gm := by rw [hgm]; exact S_wb.out.size
          rw [← hwa, ← hgm]
          rw [← hgm] at BA
          have sm_wa : Hid (Same wb wa) := sa
          have S_wa : Hid (Same W4 wa) := S_wb.out.trans sa
          have kS_wa := (S_wa.out.cells _ 0 lS).trans kS_W4
          have kN_wa := (S_wa.out.cells _ 0 lN).trans kN_W4
          have kC_wa := (S_wa.out.cells _ 1 lC).trans kC_W4
          clear sa
          have hgmE := Lib.hid hgm
          have hwaE := Lib.hid hwa
          clear hgm hwa
          refine hK.out _ _ ?_ (fun hHeld => ?_)
          · exact ⟨kS_wa, kN_wa, kC_wa⟩
          clear hK K
          try simp only [Act.put, List.setIfInBounds_toArray, List.set_cons_zero, List.set_cons_succ]
          have BAz := BA
          have BMz : Hid (Blk wa gM 84 #[.slice A n c, .slice A1 m1 c1, .int .i64 fi, .slice Ao no co, .slice none 0 0, .nilFunc, .bool false, .bool false]) := (BM.out.below sm_wa.out BM.out.lt)
          have OCz : Hid (OwnT wa W4.heap.size ⟨Ao, no, co⟩ ts2 ∧ ts2.map Tbl.rs = tbs.map Tbl.rs) := ⟨OC.out.1.same (sm_wb.out.trans sm_wa.out), OC.out.2⟩
          have gm_ne : gm ≠ gM := by
            have h1 := BAz.out
            have h2 := BMz.out
            exact Blk.ne_ h1 h2 (by decide)
          have qm := BAz.out.cell 0
          have qmf := BAz.out.frozen 0
          obtain ⟨wz, hwz⟩ : ∃ wz : World, wz = wa := ⟨_, rfl⟩
          rw [← hwz] at BAz BMz OCz qm qmf S_wa
          rw [← hwz]
          clear hwz
          have SZ := S_wa
          refine wpAnyH_done (by kernel_rfl) ?_ _
          refine lastQ_of (o := ?oz12) ?hz12 ?gz12 ?sz12
          case hz12 => simp only [List.getElem?_toArray, List.getElem?_cons_succ, List.getElem?_cons_zero]; rfl
          case gz12 => rfl
          intro K hK
          go_simp
          refine hK.out _ _ ?_
          clear hK K
          try simp only [Act.put, List.setIfInBounds_toArray, List.set_cons_zero, List.set_cons_succ]
          have BM1 : Blk (wz.setCell ⟨gm, 0, none⟩ (.pointer (some ⟨gM, 0, none⟩))) gM 84 #[.slice A n c, .slice A1 m1 c1, .int .i64 fi, .slice Ao no co, .slice none 0 0, .nilFunc, .bool false, .bool false] := BMz.out.far (p := ⟨gm, 0, none⟩) (Ne.symm gm_ne) _
          have BA1 : Blk (wz.setCell ⟨gm, 0, none⟩ (.pointer (some ⟨gM, 0, none⟩))) gm 33 #[.pointer (some ⟨gM, 0, none⟩)] := BAz.out.set_ 0 _
          have SZ1 : Same W4 (wz.setCell ⟨gm, 0, none⟩ (.pointer (some ⟨gM, 0, none⟩))) := SZ.out.setCell (p := ⟨gm, 0, none⟩) hgm0 _
          have OZ1 : OwnT (wz.setCell ⟨gm, 0, none⟩ (.pointer (some ⟨gM, 0, none⟩))) W4.heap.size ⟨Ao, no, co⟩ ts2 := OCz.out.1.chgT (S := fun k => k = gm) ((Chg.refl _ _).setCell _ _ (fun _ => rfl)) BAz.out (by decide) (by decide) (fun k hk => hk)
          obtain ⟨wy, hwy⟩ : ∃ wy, wy = wz.setCell ⟨gm, 0, none⟩ (.pointer (some ⟨gM, 0, none⟩)) := ⟨_, rfl⟩
          rw [← hwy] at BM1 BA1 SZ1 OZ1
          rw [← hwy]
          have y0 := BA1.cell 0
          have y5 := BM1.cell 5
          have f5 := BM1.frozen 5
          have ZZ := Lib.hid (And.intro BM1 (And.intro BA1 (And.intro SZ1 OZ1)))
          have ZO := Lib.hid OCz.out.2
          clear hwy BM1 BA1 SZ1 OZ1 qm qmf
          go_wp2_with (fail)
          show POST (.returned (.tuple #[.pointer (some ⟨gM, 0, none⟩), .int .i64 0])) (wy.setCell ⟨gM, 5, none⟩ (.func (.func 47) #[] #[.pointer (some ⟨w.heap.size, 0, none⟩), .pointer (some ⟨w.heap.size + 1, 0, none⟩), .pointer (some ⟨gm, 0, none⟩)]))
          exact HP.out wy gM gm Ao no co ts2 hgM0 hgm0 ZZ.out.1 ZZ.out.2.1 ZZ.out.2.2.1 ZZ.out.2.2.2 ZO.out
      refine AllReadyH.cons (o := ?oo13) ?ho13 (fun K hK => ?st13) ?more13
      case ho13 => simp only [List.getElem?_toArray, List.getElem?_cons_succ, List.getElem?_cons_zero]; rfl
      case more13 => exact AllReadyH.nil
      case st13 =>
        rw [if_pos (by rfl)]
        go_simp
        obtain ⟨wa, hwa⟩ : ∃ wa, wa = wc.alloc (.cells #[.pointer none] 33) := ⟨_, rfl⟩
        have sa : Same wc wa := by rw [hwa]; exact (Same.refl _).alloc _
        have BA : Hid (Blk wa wc.heap.size 33 #[.pointer none]) := by rw [hwa]; exact Lib.hid (Blk.new _ _ _)
        obtain ⟨gm, hgm⟩ : ∃ gm, gm = wc.heap.size := ⟨_, rfl⟩
        have hgm0 : W4.heap.size ≤ gm := by rw [hgm]; exact S_wc.out.size
        rw [← hwa, ← hgm]
        rw [← hgm] at BA
        have sm_wa : Hid (Same wc wa) := sa
        have S_wa : Hid (Same W4 wa) := S_wc.out.trans sa
        have kS_wa := (S_wa.out.cells _ 0 lS).trans kS_W4
        have kN_wa := (S_wa.out.cells _ 0 lN).trans kN_W4
        have kC_wa := (S_wa.out.cells _ 1 lC).trans kC_W4
        clear sa
        have hgmE := Lib.hid hgm
        have hwaE := Lib.hid hwa
        clear hgm hwa
        refine hK.out _ _ ?_ (fun hHeld => ?_)
        · exact ⟨kS_wa, kN_wa, kC_wa⟩
        clear hK K
        try simp only [Act.put, List.setIfInBounds_toArray, List.set_cons_zero, List.set_cons_succ]
        refine wpAnyH_ready (rs := [9]) (by kernel_rfl) (by simp) ?_
        refine AllReadyH.cons (o := ?oo14) ?ho14 (fun K hK => ?st14) ?more14
        case ho14 => simp only [List.getElem?_toArray, List.getElem?_cons_succ, List.getElem?_cons_zero]; rfl
        case more14 => exact AllReadyH.nil
        case st14 =>
          rw [if_pos (by rfl)]
          go_simp
          obtain ⟨wb, hwb⟩ : ∃ wb, wb = wa.alloc (.cells #[.slice A n c, .slice A1 m1 c1, .int .i64 fi, .slice Ao no co, .slice none 0 0, .nilFunc, .bool false, .bool false] 84) := ⟨_, rfl⟩
          have sb : Same wa wb := by rw [hwb]; exact (Same.refl _).alloc _
          have BM : Hid (Blk wb wa.heap.size 84 #[.slice A n c, .slice A1 m1 c1, .int .i64 fi, .slice Ao no co, .slice none 0 0, .nilFunc, .bool false, .bool false]) := by rw [hwb]; exact Lib.hid (Blk.new _ _ _)
          obtain ⟨gM, hgM⟩ : ∃ gM, gM = wa.heap.size := ⟨_, rfl⟩
          have hgM0 : W4.heap.size ≤ gM := by rw [hgM]; exact S_wa.out.size
          rw [← hwb, ← hgM]
          rw [← hgM] at BM
          have sm_wb : Hid (Same wa wb) := sb
          have S_wb : Hid (Same W4 wb) := S_wa.out.trans sb
          have kS_wb := (S_wb.out.cells _ 0 lS).trans kS_W4
          have kN_wb := (S_wb.out.cells _ 0 lN).trans kN_W4
          have kC_wb := (S_wb.out.cells _ 1 lC).trans kC_W4
          clear sb
          have hgME := Lib.hid hgM
          have hwbE := Lib.hid hwb
          clear hgM hwb
          refine hK.out _ _ ?_ (fun hHeld => ?_)
          · exact ⟨kS_wb, kN_wb, kC_wb⟩
          clear hK K
          try simp only [Act.put, List.setIfInBounds_toArray, List.set_cons_zero, List.set_cons_succ]
          have BAz : Hid (Blk wb gm 33 #[.pointer none]) := (BA.out.below sm_wb.out BA.out.lt)
          have BMz := BM
          have OCz : Hid (OwnT wb W4.heap.size ⟨Ao, no, co⟩ ts2 ∧ ts2.map Tbl.rs = tbs.map Tbl.rs) := ⟨OC.out.1.same (sm_wa.out.trans sm_wb.out), OC.out.2⟩
          have gm_ne : gm ≠ gM := by
            have h1 := BAz.out
            have h2 := BMz.out
            exact Blk.ne_ h1 h2 (by decide)
          have qm := BAz.out.cell 0
          have qmf := BAz.out.frozen 0
          obtain ⟨wz, hwz⟩ : ∃ wz : World, wz = wb := ⟨_, rfl⟩
          rw [← hwz] at BAz BMz OCz qm qmf S_wb
          rw [← hwz]
          clear hwz
          have SZ := S_wb
          refine wpAnyH_done (by kernel_rfl) ?_ _
          refine lastQ_of (o := ?oz15) ?hz15 ?gz15 ?sz15
          case hz15 => simp only [List.getElem?_toArray, List.getElem?_cons_succ, List.getElem?_cons_zero]; rfl
          case gz15 => rfl
          intro K hK
          go_simp
          refine hK.out _ _ ?_
          clear hK K
          try simp only [Act.put, List.setIfInBounds_toArray, List.set_cons_zero, List.set_cons_succ]
          have BM1 : Blk (wz.setCell ⟨gm, 0, none⟩ (.pointer (some ⟨gM, 0, none⟩))) gM 84 #[.slice A n c, .slice A1 m1 c1, .int .i64 fi, .slice Ao no co, .slice none 0 0, .nilFunc, .bool false, .bool false] := BMz.out.far (p := ⟨gm, 0, none⟩) (Ne.symm gm_ne) _
          have BA1 : Blk (wz.setCell ⟨gm, 0, none⟩ (.pointer (some ⟨gM, 0, none⟩))) gm 33 #[.pointer (some ⟨gM, 0, none⟩)] := BAz.out.set_ 0 _
          have SZ1 : Same W4 (wz.setCell ⟨gm, 0, none⟩ (.pointer (some ⟨gM, 0, none⟩))) := SZ.out.setCell (p := ⟨gm, 0, none⟩) hgm0 _
          have OZ1 : OwnT (wz.setCell ⟨gm, 0, none⟩ (.pointer (some ⟨gM, 0, none⟩))) W4.heap.size ⟨Ao, no, co⟩ ts2 := OCz.out.1.chgT (S := fun k => k = gm) ((Chg.refl _ _).setCell _ _ (fun _ => rfl)) BAz.out (by decide) (by decide) (fun k hk => hk)
          obtain ⟨wy, hwy⟩ : ∃ wy, wy = wz.setCell ⟨gm, 0, none⟩ (.pointer (some ⟨gM, 0, none⟩)) := ⟨_, rfl⟩
          rw [← hwy] at BM1 BA1 SZ1 OZ1
          rw [← hwy]
          have y0 := BA1.cell 0
          have y5 := BM1.cell 5
          have f5 := BM1.frozen 5
          have ZZ := Lib.hid (And.intro BM1 (And.intro BA1 (And.intro SZ1 OZ1)))
          have ZO := Lib.hid OCz.out.2
          clear hwy BM1 BA1 SZ1 OZ1 qm qmf
          go_wp2_with (fail)
          show POST (.returned (.tuple #[.pointer (some ⟨gM, 0, none⟩), .int .i64 0])) (wy.setCell ⟨gM, 5, none⟩ (.func (.func 47) #[] #[.pointer (some ⟨w.heap.size, 0, none⟩), .pointer (some ⟨w.heap.size + 1, 0, none⟩), .pointer (some ⟨gm, 0, none⟩)]))
          exact HP.out wy gM gm Ao no co ts2 hgM0 hgm0 ZZ.out.1 ZZ.out.2.1 ZZ.out.2.2.1 ZZ.out.2.2.2 ZO.out
    refine AllReadyH.cons (o := ?oo16) ?ho16 (fun K hK => ?st16) ?more16
    case ho16 => simp only [List.getElem?_toArray, List.getElem?_cons_succ, List.getElem?_cons_zero]; rfl
    case more16 => exact AllReadyH.nil
    case st16 =>
      rw [if_pos (by rfl)]
      go_simp
      obtain ⟨wa, hwa⟩ : ∃ wa, wa = wf.alloc (.cells #[.pointer none] 33) := ⟨_, rfl⟩
      have sa : Same wf wa := by rw [hwa]; exact (Same.refl _).alloc _
      have BA : Hid (Blk wa wf.heap.size 33 #[.pointer none]) := by rw [hwa]; exact Lib.hid (Blk.new _ _ _)
      obtain ⟨gm, hgm⟩ : ∃ gm, gm = wf.heap.size := ⟨_, rfl⟩
      have hgm0 : W4.heap.size ≤ gm := by rw [hgm]; exact S_wf.out.size
      rw [← hwa, ← hgm]
      rw [← hgm] at BA
      have sm_wa : Hid (Same wf wa) := sa
      have S_wa : Hid (Same W4 wa) := S_wf.out.trans sa
      have kS_wa := (S_wa.out.cells _ 0 lS).trans kS_W4
      have kN_wa := (S_wa.out.cells _ 0 lN).trans kN_W4
      have kC_wa := (S_wa.out.cells _ 1 lC).trans kC_W4
      clear sa
      have hgmE := Lib.hid hgm
      have hwaE := Lib.hid hwa
      clear hgm hwa
      refine hK.out _ _ ?_ (fun hHeld => ?_)
      · exact ⟨kS_wa, kN_wa, kC_wa⟩
      clear hK K
      try simp only [Act.put, List.setIfInBounds_toArray, List.set_cons_zero, List.set_cons_succ]
      refine wpAnyH_ready (rs := [7]) (by kernel_rfl) (by simp) ?_
      refine AllReadyH.cons (o := ?oo17) ?ho17 (fun K hK => ?st17) ?more17
      case ho17 => simp only [List.getElem?_toArray, List.getElem?_cons_succ, List.getElem?_cons_zero]; rfl
      case more17 => exact AllReadyH.nil
      case st17 =>
        rw [if_pos (by rfl)]
        go_simp
        go_at_call 46
        refine (HCL4.out _ S_wa.out).mono ?_
        rintro e wc ⟨Ao, no, co, ts2, rfl, oc, sc⟩
        have OC : Hid (OwnT wc W4.heap.size ⟨Ao, no, co⟩ ts2 ∧ ts2.map Tbl.rs = tbs.map Tbl.rs) := ⟨oc.1.base S_wa.out.size, oc.2⟩
        clear oc
        have sm_wc : Hid (Same wa wc) := sc
        have S_wc : Hid (Same W4 wc) := S_wa.out.trans sc
        have kS_wc := (S_wc.out.cells _ 0 lS).trans kS_W4
        have kN_wc := (S_wc.out.cells _ 0 lN).trans kN_W4
        have kC_wc := (S_wc.out.cells _ 1 lC).trans kC_W4
        clear sc
        try go_simp
        refine hK.out _ _ ?_ (fun hHeld => ?_)
        · exact ⟨kS_wc, kN_wc, kC_wc⟩
        clear hK K
        try simp only [Act.put, List.setIfInBounds_toArray, List.set_cons_zero, List.set_cons_succ]
        refine wpAnyH_take (i := 8) (oi := ?oi18) (v := ?v18) ?hi18 (by kernel_rfl) (by kernel_rfl) (by kernel_rfl) ?hQ18 (Or.inl ⟨?hw18, ?hy18⟩) hHeld ?rest18
        case hi18 => simp only [List.getElem?_toArray, List.getElem?_cons_succ, List.getElem?_cons_zero]; rfl
        case hQ18 => exact fun _ _ _ h => h
        case hw18 => rfl
        case hy18 =>
          intro w' hSw
          obtain ⟨y1, y2, y3⟩ := hSw
          go_simp
          try with_reducible rfl
        try simp only [Act.put, List.setIfInBounds_toArray, List.set_cons_zero, List.set_cons_succ]
        refine wpAnyH_ready (rs := [9]) (by kernel_rfl) (by simp) ?_
        refine AllReadyH.cons (o := ?oo19) ?ho19 (fun K hK => ?st19) ?more19
        case ho19 => simp only [List.getElem?_toArray, List.getElem?_cons_succ, List.getElem?_cons_zero]; rfl
        case more19 => exact AllReadyH.nil
        case st19 =>
          rw [if_pos (by rfl)]
          go_simp
          obtain ⟨wb, hwb⟩ : ∃ wb, wb = wc.alloc (.cells #[.slice A n c, .slice A1 m1 c1, .int .i64 fi, .slice Ao no co, .slice none 0 0, .nilFunc, .bool false, .bool false] 84) := ⟨_, rfl⟩
          have sb : Same wc wb := by rw [hwb]; exact (Same.refl _).alloc _
          have BM : Hid (Blk wb wc.heap.size 84 #[.slice A n c, .slice A1 m1 c1, .int .i64 fi, .slice Ao no co, .slice none 0 0, .nilFunc, .bool false, .bool false]) := by rw [hwb]; exact Lib.hid (Blk.new _ _ _)
          obtain ⟨gM, hgM⟩ : ∃ gM, gM = wc.heap.size := ⟨_, rfl⟩
          have hgM0 : W4.heap.size ≤ gM := by rw [hgM]; exact S_wc.out.size
          rw [← hwb, ← hgM]
          rw [← hgM] at BM
          have sm_wb : Hid (Same wc wb) := sb
          have S_wb : Hid (Same W4 wb) := S_wc.out.trans sb
          have kS_wb := (S_wb.out.cells _ 0 lS).trans kS_W4
          have kN_wb := (S_wb.out.cells _ 0 lN).trans kN_W4
          have kC_wb := (S_wb.out.cells _ 1 lC).trans kC_W4
          clear sb
          have hgME := Lib.hid hgM
          have hwbE := Lib.hid hwb
          clear hgM hwb
          refine hK.out _ _ ?_ (fun hHeld => ?_)
          · exact ⟨kS_wb, kN_wb, kC_wb⟩
          clear hK K
          try simp only [Act.put, List.setIfInBounds_toArray, List.set_cons_zero, List.set_cons_succ]
          have BAz : Hid (Blk wb gm 33 #[.pointer none]) := (BA.out.below (sm_wc.out.trans sm_wb.out) BA.out.lt)
          have BMz := BM
          have OCz : Hid (OwnT wb W4.heap.size ⟨Ao, no, co⟩ ts2 ∧ ts2.map Tbl.rs = tbs.map Tbl.rs) := ⟨OC.out.1.same sm_wb.out, OC.out.2⟩
          have gm_ne : gm ≠ gM := by
            have h1 := BAz.out
            have h2 := BMz.out
            exact Blk.ne_ h1 h2 (by decide)
          have qm := BAz.out.cell 0
          have qmf := BAz.out.frozen 0
          obtain ⟨wz, hwz⟩ : ∃ wz : World, wz = wb := ⟨_, rfl⟩
          rw [← hwz] at BAz BMz OCz qm qmf S_wb
          rw [← hwz]
          clear hwz
          have SZ := S_wb
          refine wpAnyH_done (by kernel_rfl) ?_ _
          refine lastQ_of (o := ?oz20) ?hz20 ?gz20 ?sz20
          case hz20 => simp only [List.getElem?_toArray, List.getElem?_cons_succ, List.getElem?_cons_zero]; rfl
          case gz20 => rfl
          intro K hK
          go_simp
          refine hK.out _ _ ?_
          clear hK K
          try simp only [Act.put, List.setIfInBounds_toArray, List.set_cons_zero, List.set_cons_succ]
          have BM1 : Blk (wz.setCell ⟨gm, 0, none⟩ (.pointer (some ⟨gM, 0, none⟩))) gM 84 #[.slice A n c, .slice A1 m1 c1, .int .i64 fi, .slice Ao no co, .slice none 0 0, .nilFunc, .bool false, .bool false] := BMz.out.far (p := ⟨gm, 0, none⟩) (Ne.symm gm_ne) _
          have BA1 : Blk (wz.setCell ⟨gm, 0, none⟩ (.pointer (some ⟨gM, 0, none⟩))) gm 33 #[.pointer (some ⟨gM, 0, none⟩)] := BAz.out.set_ 0 _
          have SZ1 : Same W4 (wz.setCell ⟨gm, 0, none⟩ (.pointer (some ⟨gM, 0, none⟩))) := SZ.out.setCell (p := ⟨gm, 0, none⟩) hgm0 _
          have OZ1 : OwnT (wz.setCell ⟨gm, 0, none⟩ (.pointer (some ⟨gM, 0, none⟩))) W4.heap.size ⟨Ao, no, co⟩ ts2 := OCz.out.1.chgT (S := fun k => k = gm) ((Chg.refl _ _).setCell _ _ (fun _ => rfl)) BAz.out (by decide) (by decide) (fun k hk => hk)
          obtain ⟨wy, hwy⟩ : ∃ wy, wy = wz.setCell ⟨gm, 0, none⟩ (.pointer (some ⟨gM, 0, none⟩)) := ⟨_, rfl⟩
          rw [← hwy] at BM1 BA1 SZ1 OZ1
          rw [← hwy]
          have y0 := BA1.cell 0
          have y5 := BM1.cell 5
          have f5 := BM1.frozen 5
          have ZZ := Lib.hid (And.intro BM1 (And.intro BA1 (And.intro SZ1 OZ1)))
          have ZO := Lib.hid OCz.out.2
          clear hwy BM1 BA1 SZ1 OZ1 qm qmf
          go_wp2_with (fail)
          show POST (.returned (.tuple #[.pointer (some ⟨gM, 0, none⟩), .int .i64 0])) (wy.setCell ⟨gM, 5, none⟩ (.func (.func 47) #[] #[.pointer (some ⟨w.heap.size, 0, none⟩), .pointer (some ⟨w.heap.size + 1, 0, none⟩), .pointer (some ⟨gm, 0, none⟩)]))
          exact HP.out wy gM gm Ao no co ts2 hgM0 hgm0 ZZ.out.1 ZZ.out.2.1 ZZ.out.2.2.1 ZZ.out.2.2.2 ZO.out
  refine AllReadyH.cons (o := ?oo21) ?ho21 (fun K hK => ?st21) ?more21
  case ho21 => simp only [List.getElem?_toArray, List.getElem?_cons_succ, List.getElem?_cons_zero]; rfl
  case more21 => exact AllReadyH.nil
  case st21 =>
    rw [if_pos (by rfl)]
    go_simp
    obtain ⟨wa, hwa⟩ : ∃ wa, wa = V.alloc (.cells #[.pointer none] 33) := ⟨_, rfl⟩
    have sa : Same V wa := by rw [hwa]; exact (Same.refl _).alloc _
    have BA : Hid (Blk wa V.heap.size 33 #[.pointer none]) := by rw [hwa]; exact Lib.hid (Blk.new _ _ _)
    obtain ⟨gm, hgm⟩ : ∃ gm, gm = V.heap.size := ⟨_, rfl⟩
    have hgm0 : W4.heap.size ≤ gm := by rw [hgm]; exact S_V.out.size
    rw [← hwa, ← hgm]
    rw [← hgm] at BA
    have sm_wa : Hid (Same V wa) := sa
    have S_wa : Hid (Same W4 wa) := S_V.out.trans sa
    have kS_wa := (S_wa.out.cells _ 0 lS).trans kS_W4
    have kN_wa := (S_wa.out.cells _ 0 lN).trans kN_W4
    have kC_wa := (S_wa.out.cells _ 1 lC).trans kC_W4
    clear sa
    have hgmE := Lib.hid hgm
    have hwaE := Lib.hid hwa
    clear hgm hwa
    refine hK.out _ _ ?_ (fun hHeld => ?_)
    · exact ⟨kS_wa, kN_wa, kC_wa⟩
    clear hK K
    try simp only [Act.put, List.setIfInBounds_toArray, List.set_cons_zero, List.set_cons_succ]
    refine wpAnyH_ready (rs := [5]) (by kernel_rfl) (by simp) ?_
    refine AllReadyH.cons (o := ?oo22) ?ho22 (fun K hK => ?st22) ?more22
    case ho22 => simp only [List.getElem?_toArray, List.getElem?_cons_succ, List.getElem?_cons_zero]; rfl
    case more22 => exact AllReadyH.nil
    case st22 =>
      rw [if_pos (by rfl)]
      go_simp
      go_at_call 25
      refine (HFD4.out _ S_wa.out).mono ?_
      rintro e wf ⟨rfl, sf⟩
      have sm_wf : Hid (Same wa wf) := sf
      have S_wf : Hid (Same W4 wf) := S_wa.out.trans sf
      have kS_wf := (S_wf.out.cells _ 0 lS).trans kS_W4
      have kN_wf := (S_wf.out.cells _ 0 lN).trans kN_W4
      have kC_wf := (S_wf.out.cells _ 1 lC).trans kC_W4
      clear sf
      try go_simp
      refine hK.out _ _ ?_ (fun hHeld => ?_)
      · exact ⟨kS_wf, kN_wf, kC_wf⟩
      clear hK K
      try simp only [Act.put, List.setIfInBounds_toArray, List.set_cons_zero, List.set_cons_succ]
      refine wpAnyH_ready (rs := [7]) (by kernel_rfl) (by simp) ?_
      refine AllReadyH.cons (o := ?oo23) ?ho23 (fun K hK => ?st23) ?more23
      case ho23 => simp only [List.getElem?_toArray, List.getElem?_cons_succ, List.getElem?_cons_zero]; rfl
      case more23 => exact AllReadyH.nil
      case st23 =>
        rw [if_pos (by rfl)]
        go_simp
        go_at_call 46
        refine (HCL4.out _ S_wf.out).mono ?_
        rintro e wc ⟨Ao, no, co, ts2, rfl, oc, sc⟩
        have OC : Hid (OwnT wc W4.heap.size ⟨Ao, no, co⟩ ts2 ∧ ts2.map Tbl.rs = tbs.map Tbl.rs) := ⟨oc.1.base S_wf.out.size, oc.2⟩
        clear oc
        have sm_wc : Hid (Same wf wc) := sc
        have S_wc : Hid (Same W4 wc) := S_wf.out.trans sc
        have kS_wc := (S_wc.out.cells _ 0 lS).trans kS_W4
        have kN_wc := (S_wc.out.cells _ 0 lN).trans kN_W4
        have kC_wc := (S_wc.out.cells _ 1 lC).trans kC_W4
        clear sc
        try go_simp
        refine hK.out _ _ ?_ (fun hHeld => ?_)
        · exact ⟨kS_wc, kN_wc, kC_wc⟩
        clear hK K
        try simp only [Act.put, List.setIfInBounds_toArray, List.set_cons_zero, List.set_cons_succ]
        refine wpAnyH_take (i := 8) (oi := ?oi24) (v := ?v24) ?hi24 (by kernel_rfl) (by kernel_rfl) (by kernel_rfl) ?hQ24 (Or.inl ⟨?hw24, ?hy24⟩) hHeld ?rest24
        case hi24 => simp only [List.getElem?_toArray, List.getElem?_cons_succ, List.getElem?_cons_zero]; rfl
        case hQ24 => exact fun _ _ _ h => h
        case hw24 => rfl
        case hy24 =>
          intro w' hSw
          obtain ⟨y1, y2, y3⟩ := hSw
          go_simp
          try with_reducible rfl
        try simp only [Act.put, List.setIfInBounds_toArray, List.set_cons_zero, List.set_cons_succ]
        refine wpAnyH_ready (rs := [9]) (by kernel_rfl) (by simp) ?_
        refine AllReadyH.cons (o := ?oo25) ?ho25 (fun K hK => ?st25) ?more25
        case ho25 => simp only [List.getElem?_toArray, List.getElem?_cons_succ, List.getElem?_cons_zero]; rfl
        case more25 => exact AllReadyH.nil
        case st25 =>
          rw [if_pos (by rfl)]
          go_simp
          obtain ⟨wb, hwb⟩ : ∃ wb, wb = wc.alloc (.cells #[.slice A n c, .slice A1 m1 c1, .int .i64 fi, .slice Ao no co, .slice none 0 0, .nilFunc, .bool false, .bool false] 84) := ⟨_, rfl⟩
          have sb : Same wc wb := by rw [hwb]; exact (Same.refl _).alloc _
          have BM : Hid (Blk wb wc.heap.size 84 #[.slice A n c, .slice A1 m1 c1, .int .i64 fi, .slice Ao no co, .slice none 0 0, .nilFunc, .bool false, .bool false]) := by rw [hwb]; exact Lib.hid (Blk.new _ _ _)
          obtain ⟨gM, hgM⟩ : ∃ gM, gM = wc.heap.size := ⟨_, rfl⟩
          have hgM0 : W4.heap.size ≤ gM := by rw [hgM]; exact S_wc.out.size
          rw [← hwb, ← hgM]
          rw [← hgM] at BM
          have sm_wb : Hid (Same wc wb) := sb
          have S_wb : Hid (Same W4 wb) := S_wc.out.trans sb
          have kS_wb := (S_wb.out.cells _ 0 lS).trans kS_W4
          have kN_wb := (S_wb.out.cells _ 0 lN).trans kN_W4
          have kC_wb := (S_wb.out.cells _ 1 lC).trans kC_W4
          clear sb
          have hgME := Lib.hid hgM
          have hwbE := Lib.hid hwb
          clear hgM hwb
          refine hK.out _ _ ?_ (fun hHeld => ?_)
          · exact ⟨kS_wb, kN_wb, kC_wb⟩
          clear hK K
          try simp only [Act.put, List.setIfInBounds_toArray, List.set_cons_zero, List.set_cons_succ]
          have BAz : Hid (Blk wb gm 33 #[.pointer none]) := (BA.out.below ((sm_wf.out.trans sm_wc.out).trans sm_wb.out) BA.out.lt)
          have BMz := BM
          have OCz : Hid (OwnT wb W4.heap.size ⟨Ao, no, co⟩ ts2 ∧ ts2.map Tbl.rs = tbs.map Tbl.rs) := ⟨OC.out.1.same sm_wb.out, OC.out.2⟩
          have gm_ne : gm ≠ gM := by
            have h1 := BAz.out
            have h2 := BMz.out
            exact Blk.ne_ h1 h2 (by decide)
          have qm := BAz.out.cell 0
          have qmf := BAz.out.frozen 0
          obtain ⟨wz, hwz⟩ : ∃ wz : World, wz = wb := ⟨_, rfl⟩
          rw [← hwz] at BAz BMz OCz qm qmf S_wb
          rw [← hwz]
          clear hwz
          have SZ := S_wb
          refine wpAnyH_done (by kernel_rfl) ?_ _
          refine lastQ_of (o := ?oz26) ?hz26 ?gz26 ?sz26
          case hz26 => simp only [List.getElem?_toArray, List.getElem?_cons_succ, List.getElem?_cons_zero]; rfl
          case gz26 => rfl
          intro K hK
          go_simp
          refine hK.out _ _ ?_
          clear hK K
          try simp only [Act.put, List.setIfInBounds_toArray, List.set_cons_zero, List.set_cons_succ]
          have BM1 : Blk (wz.setCell ⟨gm, 0, none⟩ (.pointer (some ⟨gM, 0, none⟩))) gM 84 #[.slice A n c, .slice A1 m1 c1, .int .i64 fi, .slice Ao no co, .slice none 0 0, .nilFunc, .bool false, .bool false] := BMz.out.far (p := ⟨gm, 0, none⟩) (Ne.symm gm_ne) _
          have BA1 : Blk (wz.setCell ⟨gm, 0, none⟩ (.pointer (some ⟨gM, 0, none⟩))) gm 33 #[.pointer (some ⟨gM, 0, none⟩)] := BAz.out.set_ 0 _
          have SZ1 : Same W4 (wz.setCell ⟨gm, 0, none⟩ (.pointer (some ⟨gM, 0, none⟩))) := SZ.out.setCell (p := ⟨gm, 0, none⟩) hgm0 _
          have OZ1 : OwnT (wz.setCell ⟨gm, 0, none⟩ (.pointer (some ⟨gM, 0, none⟩))) W4.heap.size ⟨Ao, no, co⟩ ts2 := OCz.out.1.chgT (S := fun k => k = gm) ((Chg.refl _ _).setCell _ _ (fun _ => rfl)) BAz.out (by decide) (by decide) (fun k hk => hk)
          obtain ⟨wy, hwy⟩ : ∃ wy, wy = wz.setCell ⟨gm, 0, none⟩ (.pointer (some ⟨gM, 0, none⟩)) := ⟨_, rfl⟩
          rw [← hwy] at BM1 BA1 SZ1 OZ1
          rw [← hwy]
          have y0 := BA1.cell 0
          have y5 := BM1.cell 5
          have f5 := BM1.frozen 5
          have ZZ := Lib.hid (And.intro BM1 (And.intro BA1 (And.intro SZ1 OZ1)))
          have ZO := Lib.hid OCz.out.2
          clear hwy BM1 BA1 SZ1 OZ1 qm qmf
          go_wp2_with (fail)
          show POST (.returned (.tuple #[.pointer (some ⟨gM, 0, none⟩), .int .i64 0])) (wy.setCell ⟨gM, 5, none⟩ (.func (.func 47) #[] #[.pointer (some ⟨w.heap.size, 0, none⟩), .pointer (some ⟨w.heap.size + 1, 0, none⟩), .pointer (some ⟨gm, 0, none⟩)]))
          exact HP.out wy gM gm Ao no co ts2 hgM0 hgm0 ZZ.out.1 ZZ.out.2.1 ZZ.out.2.2.1 ZZ.out.2.2.2 ZO.out
end Go.Proofs.YtpakimhhpeaefaaGreatDoor
namespace Go.Proofs.YtpakimhhpeaefaaGreatDoor
open Go.RowKit

def WasL (S : List Tb) (n : Nat) : Prop := ∀ t ∈ S, ∀ a ∈ t.attrs, a.was.length ≤ n
theorem WasL.apply {S : List Tb} {c : Cg} {n : Nat} (w : WasL S n) (h : errOf S c = 0) : WasL (applyS S c) (n + 1) := by
  obtain ⟨hf, hv, j, hj, hfj, hnm, hc, hch⟩ := errOf_zero h
  intro t ht a ha
  obtain ⟨i, hi, rfl⟩ := List.mem_iff_getElem.1 ht
  have hi' : i < S.length := by rw [applyS_len] at hi; exact hi
  rw [applyS_get hj hfj i hi'] at ha
  by_cases e : j = i
  · rw [if_pos e] at ha
    subst e
    have wj := w _ (List.getElem_mem hi')
    have hc' : c.kind ≠ 1 → 0 ≤ colA S[j].attrs c.attr := fun hk => by have := hc hk; omega
    rcases new_attrs hf hc' with ⟨_, hA⟩ | ⟨A, x, B, hA, _, hh⟩
    · rw [hA] at ha
      simp only [List.mem_append, List.mem_singleton] at ha
      rcases ha with ha | rfl
      · have := wj a ha; omega
      · simp
    · rw [hA] at wj
      have wx := wj x (by simp)
      have wA := fun y (hy : y ∈ A) => wj y (by simp [hy])
      have wB := fun y (hy : y ∈ B) => wj y (by simp [hy])
      rcases hh with ⟨_, hA2⟩ | ⟨_, hA2⟩ | ⟨_, hA2⟩
      · rw [hA2] at ha
        simp only [List.mem_append] at ha
        rcases ha with ha | ha
        · have := wA a ha; omega
        · have := wB a ha; omega
      · rw [hA2] at ha
        simp only [List.mem_append, List.mem_cons] at ha
        rcases ha with ha | rfl | ha
        · have := wA a ha; omega
        · simp; omega
        · have := wB a ha; omega
      · rw [hA2] at ha
        simp only [List.mem_append, List.mem_cons] at ha
        rcases ha with ha | rfl | ha
        · have := wA a ha; omega
        · simp; omega
        · have := wB a ha; omega
  · rw [if_neg e] at ha
    have := w _ (List.getElem_mem hi') a ha
    omega
theorem few_was {ts : List RT} {S : List Tb} {n : Nat} (e : ts.map RT.tb = S) (w : WasL S n) (hn : n ≤ 1000000) : Few ts := by
  intro t ht r hr
  have := w t.tb (by rw [← e]; exact List.mem_map_of_mem ht) r.at_ (List.mem_map_of_mem hr)
  omega
/-- A migration that has been born. -/
theorem start_born (h : Hd) (ts : List RT) (c : Cg) (tbs : List Tbl) (w W4 : World) (l : Laid w) (a : TabsAt w h ts) (few : Few ts) (tsl : ts.length ≤ 1000000) (hn : okS c.name) (hd : okS c.dflt.s) {K : Nat → Prop} {ht : Hd} (tt : TablesAt w K ht tbs) (_fr : FewR (rowsOf tbs))
    (hfine : (start (ts.map RT.tb) c (rowsOf tbs)).Fine) (_hE : errOf (ts.map RT.tb) c = 0) {nw : Nat} (hwn : WasL (applyS (ts.map RT.tb) c) (nw + 1)) (hnw : nw + 1 ≤ 1000000) (hfi : findT (ts.map RT.tb) c.table = ((findT (ts.map RT.tb) c.table).toNat : Int))
    (s4 : Same w W4) (A1 : Option Addr) (m1 c1 : Nat) (ts1 : List RT) (t1 : TabsAt W4 ⟨A1, m1, c1⟩ ts1) (e1 : ts1.map RT.tb = applyS (ts.map RT.tb) c) (wy : World) (gM gm : Nat) (Ao : Option Addr) (no co : Nat) (ts2 : List Tbl)
    (bs : Blk W4 w.heap.size 24 #[h.val]) (bc : Blk W4 (w.heap.size + 1) 28 c.arr) (h1 : W4.heap.size ≤ gM) (_h2 : W4.heap.size ≤ gm)
    (bM : Blk wy gM 84 #[h.val, .slice A1 m1 c1, .int .i64 (findT (ts.map RT.tb) c.table), .slice Ao no co, .slice none 0 0, .nilFunc, .bool false, .bool false]) (bm : Blk wy gm 33 #[.pointer (some ⟨gM, 0, none⟩)]) (sy : Same W4 wy) (o : OwnT wy W4.heap.size ⟨Ao, no, co⟩ ts2) (hm : ts2.map Tbl.rs = tbs.map Tbl.rs) :
    ∃ p : MH, p.g = gM ∧ MgAt (wy.setCell ⟨gM, 5, none⟩ (.func (.func 47) #[] #[.pointer (some ⟨w.heap.size, 0, none⟩), .pointer (some ⟨w.heap.size + 1, 0, none⟩), .pointer (some ⟨gm, 0, none⟩)])) p (start (ts.map RT.tb) c (rowsOf tbs)) ∧
      Same w (wy.setCell ⟨gM, 5, none⟩ (.func (.func 47) #[] #[.pointer (some ⟨w.heap.size, 0, none⟩), .pointer (some ⟨w.heap.size + 1, 0, none⟩), .pointer (some ⟨gm, 0, none⟩)])) ∧ w.heap.size ≤ p.B ∧ p.lo = w.heap.size ∧ p.dr = [] := by
  obtain ⟨fv, hfv⟩ : ∃ fv, fv = Value.func (.func 47) #[] #[.pointer (some ⟨w.heap.size, 0, none⟩), .pointer (some ⟨w.heap.size + 1, 0, none⟩), .pointer (some ⟨gm, 0, none⟩)] := ⟨_, rfl⟩
  rw [← hfv]
  have hs5 : Same W4 (wy.setCell ⟨gM, 5, none⟩ fv) := sy.setCell (p := ⟨gM, 5, none⟩) h1 _
  have hne : gm ≠ gM := Blk.ne_ bm bM (by decide)
  have o5 : OwnT (wy.setCell ⟨gM, 5, none⟩ fv) W4.heap.size ⟨Ao, no, co⟩ ts2 := o.chgT (S := fun k => k = gM) ((Chg.refl _ _).setCell _ _ (fun _ => rfl)) bM (by decide) (by decide) (fun k hk => hk)
  have hrow : ∀ t ∈ ts2, ∀ r ∈ t.rs, RowAt w r.h r.v := by
    intro t ht' r hr
    obtain ⟨t', ht2, e⟩ := mem_rs hm ht'
    rw [← e] at hr
    exact ((tt.2.2 t' ht2).2.2 r hr).1
  have hown : ∀ k, MH.own { W0 := W4, B := W4.heap.size, g := gM, gs := w.heap.size, gc := w.heap.size + 1, gm := gm, hs := h, ts := ts, hn := ⟨A1, m1, c1⟩, tn := ts1, ho := ⟨Ao, no, co⟩, tb := ts2, hd := ⟨none, 0, 0⟩, dr := [], lo := w.heap.size, hi := W4.heap.size } k → W4.heap.size ≤ k := by
    intro k hk
    rcases hk with hk | hk | ⟨t, ht', hk⟩ | hk
    · have : k = gM := hk
      omega
    · exact (row_ty o5.oo hk).1
    · exact (row_ty (o5.oi t ht').1 hk).1
    · cases hk
  refine ⟨{ W0 := W4, B := W4.heap.size, g := gM, gs := w.heap.size, gc := w.heap.size + 1, gm := gm, hs := h, ts := ts, hn := ⟨A1, m1, c1⟩, tn := ts1, ho := ⟨Ao, no, co⟩, tb := ts2, hd := ⟨none, 0, 0⟩, dr := [], lo := w.heap.size, hi := W4.heap.size }, rfl, ?_, s4.trans hs5, s4.size, rfl, rfl⟩
  exact {
    st := ⟨a.same s4, rfl, few, tsl, t1, e1, few_was e1 hwn hnw, hn, hd, l.same s4, Nat.le_refl _, h1⟩
    same := hs5
    blk := by
      have := bM.set_ 5 fv
      rw [hfi, hfv] at this
      rw [hfv]
      exact this
    bs := bs.below hs5 bs.lt
    bc := bc.below hs5 bc.lt
    bm := bm.far (p := ⟨gM, 5, none⟩) hne _
    oo := o5.oo
    oh := o5.oh
    oi := o5.oi
    tr := rows_same hm
    od := World.ownsRow_nil _ _ _ _
    dh := rfl
    dr := rfl
    rr := fun t ht' r hr => ⟨(hrow t ht' r hr).same (s4.trans hs5), (hrow t ht' r hr).in_.mono fun k hk hk' => by have := hown k hk'; have := s4.size; omega⟩
    rd := fun r hr => by cases hr
    ai := o5.ai
    ad := fun t _ k _ h => by cases h
    fine := hfine
    rl := fun t ht' r hr => (hrow t ht' r hr).in_
    rh := fun r hr => by cases hr
    hw := hs5.size }
theorem start_err (h : Hd) (ts : List RT) (c : Cg) (ht : Hd) (tbs : List Tbl) (w : World) (a : TabsAt w h ts) (few : Few ts) (hn : okS c.name) (hd : okS c.dflt.s) {K : Nat → Prop} (tt : TablesAt w K ht tbs) (hE : startE (ts.map RT.tb) c (rowsOf tbs) ≠ 0) :
    Calls Tryz.prog 12 #[.agg #[h.val], c.val, ht.val] w fun e w' => e = .returned (.tuple #[.pointer none, .int .i64 (startE (ts.map RT.tb) c (rowsOf tbs))]) ∧ Same w w' := by
  have hV := fun W (s : Same w W) => valid_s_ok h ts W (a.same s) few
  have hF := fun W (s : Same w W) => fit_ok' h ht ts tbs W (a.same s) (tt.same s)
  have hA := fun W (s : Same w W) => apply_ok h ts c W (a.same s) few hn hd
  unfold startE at hE ⊢
  obtain ⟨A, n, cc⟩ := h
  obtain ⟨At_, tm, tc⟩ := ht
  obtain ⟨k, t, aa, nm, to_, ⟨dk, dn, ds⟩⟩ := c
  cases hv : validB (ts.map RT.tb) with
  | false =>
    rw [hv] at hV
    simp only [Bool.false_and]
    exact start_bad1 A At_ n cc tm tc k to_ dk dn t aa nm ds w (Lib.hid hV)
  | true =>
    rw [hv] at hV hE
    cases hf : fitsT (ts.map RT.tb) (rowsOf tbs) with
    | false =>
      rw [hf] at hF
      simp only [Bool.and_false]
      exact start_bad2 A At_ n cc tm tc k to_ dk dn t aa nm ds w (Lib.hid hV) (Lib.hid hF)
    | true =>
      rw [hf] at hF hE
      simp only [Bool.and_self, if_true] at hE ⊢
      refine start_bad3 A At_ n cc tm tc k to_ dk dn _ t aa nm ds w hE (Lib.hid hV) (Lib.hid hF) (Lib.hid fun W s => ?_)
      refine (hA W s).mono ?_
      rintro e w' ⟨ho, s'⟩
      rcases ho with ⟨_, he⟩ | ⟨hz, _⟩
      · exact ⟨he, s'⟩
      · exact absurd hz hE
theorem start_ok (h : Hd) (ts : List RT) (c : Cg) (ht : Hd) (tbs : List Tbl) (w : World) (l : Laid w) (a : TabsAt w h ts) {nw : Nat} (hw : WasL (ts.map RT.tb) nw) (hnw : nw + 1 ≤ 1000000) (tsl : ts.length ≤ 1000000) (hn : okS c.name) (hd : okS c.dflt.s) {K : Nat → Prop} (tt : TablesAt w K ht tbs) (fr : FewR (rowsOf tbs)) (hE : startE (ts.map RT.tb) c (rowsOf tbs) = 0) :
    Calls Tryz.prog 12 #[.agg #[h.val], c.val, ht.val] w fun e w' => ∃ p : MH, e = .returned (.tuple #[.pointer (some ⟨p.g, 0, none⟩), .int .i64 0]) ∧ MgAt w' p (start (ts.map RT.tb) c (rowsOf tbs)) ∧ Same w w' ∧ w.heap.size ≤ p.B ∧ p.lo = w.heap.size ∧ p.dr = [] := by
  have few : Few ts := few_was rfl hw (by omega)
  have hV := fun W (s : Same w W) => valid_s_ok h ts W (a.same s) few
  have hF := fun W (s : Same w W) => fit_ok' h ht ts tbs W (a.same s) (tt.same s)
  have hA := fun W (s : Same w W) => apply_ok h ts c W (a.same s) few hn hd
  have hFd := fun W (s : Same w W) => find_ok h ts c.table W (a.same s)
  have hfine := start_fine hE
  have hE0 := hE
  unfold startE at hE
  cases hv : validB (ts.map RT.tb) with
  | false => rw [hv] at hE; simp at hE
  | true =>
  cases hf : fitsT (ts.map RT.tb) (rowsOf tbs) with
  | false => rw [hv, hf] at hE; simp at hE
  | true =>
  rw [hv, hf] at hE
  simp only [Bool.and_self, if_true] at hE
  rw [hv] at hV
  rw [hf] at hF
  have hwn : WasL (applyS (ts.map RT.tb) c) (nw + 1) := hw.apply hE
  have hlen : tbs.length ≤ 1000000 := by have := fr.1; simpa [rowsOf] using this
  have hrl : ∀ t ∈ tbs, t.rs.length ≤ 1000000000 := by
    intro t ht'
    have := fr.2 _ (List.mem_map_of_mem (f := Tbl.rows) ht')
    simp only [Tbl.rows, List.length_map] at this
    omega
  have hCl := fun W (s : Same w W) => clone_ok ht tbs W (tt.same s) hlen hrl
  have hfi : findT (ts.map RT.tb) c.table = ((findT (ts.map RT.tb) c.table).toNat : Int) := hfine.at_
  have harr : ∀ x, x = c → x.arr = c.arr := fun x e => by rw [e]
  have hst := fun (W4 : World) (s4 : Same w W4) (A1 : Option Addr) (m1 c1 : Nat) (ts1 : List RT) (t1 : TabsAt W4 ⟨A1, m1, c1⟩ ts1) (e1 : ts1.map RT.tb = applyS (ts.map RT.tb) c) (wy : World) (gM gm : Nat) (Ao : Option Addr) (no co : Nat) (ts2 : List Tbl)
      (bs : Blk W4 w.heap.size 24 #[h.val]) (bc : Blk W4 (w.heap.size + 1) 28 c.arr) (h1 : W4.heap.size ≤ gM) (h2 : W4.heap.size ≤ gm)
      (bM : Blk wy gM 84 #[h.val, .slice A1 m1 c1, .int .i64 (findT (ts.map RT.tb) c.table), .slice Ao no co, .slice none 0 0, .nilFunc, .bool false, .bool false]) (bm : Blk wy gm 33 #[.pointer (some ⟨gM, 0, none⟩)]) (sy : Same W4 wy) (o : OwnT wy W4.heap.size ⟨Ao, no, co⟩ ts2) (hm : ts2.map Tbl.rs = tbs.map Tbl.rs) =>
    start_born h ts c tbs w W4 l a few tsl hn hd tt fr hfine hE hwn hnw hfi s4 A1 m1 c1 ts1 t1 e1 wy gM gm Ao no co ts2 bs bc h1 h2 bM bm sy o hm
  obtain ⟨A, n, cc⟩ := h
  obtain ⟨At_, tm, tc⟩ := ht
  obtain ⟨k, t, aa, nm, to_, ⟨dk, dn, ds⟩⟩ := c
  refine start_walk A At_ n cc tm tc k to_ dk dn (findT (ts.map RT.tb) t) t aa nm ds tbs w (fun A1 m1 c1 W => ∃ ts1, TabsAt W ⟨A1, m1, c1⟩ ts1 ∧ ts1.map RT.tb = applyS (ts.map RT.tb) ⟨k, t, aa, nm, to_, ⟨dk, dn, ds⟩⟩) _ (Lib.hid hV) (Lib.hid hF) (Lib.hid fun W s => ?_) (Lib.hid hFd) (Lib.hid fun W s => ?_) (fun A1 m1 c1 W W' ⟨ts1, t1, e1⟩ s => ⟨ts1, t1.same s, e1⟩) (Lib.hid ?_)
  · refine (hA W s).mono ?_
    rintro e w' ⟨ho, s'⟩
    rcases ho with ⟨hne, _⟩ | ⟨_, ⟨A1, m1, c1⟩, ts1, he, t1, e1⟩
    · exact absurd hE hne
    · exact ⟨⟨A1, m1, c1, he, ts1, t1, e1⟩, s'⟩
  · refine (hCl W s).mono ?_
    rintro e w' ⟨⟨Ao, no, co⟩, ts2, he, o, s', hm⟩
    exact ⟨Ao, no, co, ts2, he, ⟨o, hm⟩, s'⟩
  · intro A1 m1 c1 W4 wy gM gm Ao no co ts2 s4 ⟨ts1, t1, e1⟩ bs bc h1 h2 bM bm sy o hm
    obtain ⟨p, hg, d, s, hB, hlo, hdr⟩ := hst W4 s4 A1 m1 c1 ts1 t1 e1 wy gM gm Ao no co ts2 bs bc h1 h2 bM bm sy o hm
    exact ⟨p, by rw [hg], d, s, hB, hlo, hdr⟩
end Go.Proofs.YtpakimhhpeaefaaGreatDoor

/- MigrateAtOnce: the walk. Conditions: Laid. -/
import Derived.Test.YtpakimhhpeaefaaGreatDoorKHp
import Derived.Test.YtpakimhhpeaefaaGreatDoorKHw
import Derived.Test.YtpakimhhpeaefaaGreatDoorKHv
set_option linter.unusedSimpArgs false
set_option linter.unusedVariables false
namespace Go.Proofs.YtpakimhhpeaefaaGreatDoor
open Go.RowKit
theorem LiveX.row_len {W w : World} {g : Nat} {m : Mg} {lo hi : Nat} {X : Nat → Prop} (l : LiveX W w g m lo hi X) {row : Row} (hr : row ∈ m.rows) : row.length ≤ 12 := by
  obtain ⟨p, d, _⟩ := l
  exact d.row_len hr
theorem all_succ {v : Nat → Row × Int} {k : Nat} {b : Bool} (h : b = decide (∀ j < k, (v j).2 = 0)) : (b && (v k).2 == 0) = decide (∀ j < k + 1, (v j).2 = 0) := by
  rw [h, Bool.eq_iff_iff]
  simp only [Bool.and_eq_true, decide_eq_true_eq, beq_iff_eq]
  constructor
  · rintro ⟨h1, h2⟩ j hj
    by_cases e : j = k
    · rw [e]; exact h2
    · exact h1 j (by omega)
  · exact fun h => ⟨fun j hj => h j (by omega), h k (by omega)⟩
set_option maxHeartbeats 8000000 in
set_option maxRecDepth 100000 in
theorem once_walk (h : Hd) (ts : List RT) (c : Cg)  (ht : Hd) (tbs : List Tbl) (ho : Hd) (ops : List Opn) (w : World) (l : Laid w) (a : TabsAt w h ts) (hn : okS c.name) (hd : okS c.dflt.s)  (tt : TablesAt w (fun k => k < w.heap.size) ht tbs) (oo : OpsAt w (fun k => k < w.heap.size) ho ops) :
    Calls Tryz.prog 4 #[.agg #[h.val], c.val, ht.val, ho.val] w fun e w' => e = .returned (.bool true) ∧ Same w w' := by
  have HL := Lib.hid l
  have HTA := Lib.hid a
  have HH := Lib.hid (fun W (s : Same w W) => head43_ok W (l.same s))
  have HS := Lib.hid (fun W (s : Same w W) => smallM_ok h ht ho ts tbs ops W (a.same s) (tt.same s) (oo.same s))
  have HER := Lib.hid (fun (few : Few ts) (hE : startE (ts.map RT.tb) c (rowsOf tbs) ≠ 0) W (s : Same w W) => start_err h ts c ht tbs W (a.same s) few hn hd (tt.same s) hE)
  have HOK := Lib.hid (fun (hw : WasL (ts.map RT.tb) 10) (tsl : ts.length ≤ 1000000) (fr : FewR (rowsOf tbs)) (hE : startE (ts.map RT.tb) c (rowsOf tbs) = 0) W (s : Same w W) => start_liveX h ts c ht tbs W (l.same s) (a.same s) hw (by decide) tsl hn hd (tt.same s) fr hE)
  have HPL := Lib.hid (fun (hf : fewB (rowsOf tbs) = true) (h20 : ops.length ≤ 20) (w2 w3 : World) (g : Nat) (s : Same w w2) (L : LiveX w2 w3 g (start (ts.map RT.tb) c (rowsOf tbs)) w2.heap.size w3.heap.size (fun _ => False)) => play_live (K := fun _ => True) ht tbs ho ops w s tt oo hf h20 L)
  have HON := Lib.hid hn
  have HOD := Lib.hid hd
  have HFI := Lib.hid (fun W (s : Same w W) => find_ok h ts c.table W (a.same s))
  have htl : tbs.length = ht.n := tt.1.1
  have htb : ht.n ≤ 9223372036854775807 := tt.1.2.1
  have hol : ops.length = ho.n := oo.1.1
  have hob : ho.n ≤ 9223372036854775807 := oo.1.2.1
  obtain ⟨A, m, cc⟩ := h
  obtain ⟨At_, tm, tc⟩ := ht
  obtain ⟨Ao, om, oc⟩ := ho
  obtain ⟨k, t, aa, n, to_, ⟨dk, dn, ds⟩⟩ := c
  have htl' : tbs.length = tm := htl
  have htb' : tm ≤ 9223372036854775807 := htb
  have hol' : ops.length = om := hol
  have hob' : om ≤ 9223372036854775807 := hob
  subst htl' hol'
  clear htl htb hol hob a l hn hd tt oo
  show Calls Tryz.prog 4 #[.agg #[.slice A m cc], .agg #[.int .i64 k, .string t, .string aa, .string n, .int .i64 to_, .int .i64 dk, .int .i64 dn, .string ds], .slice At_ tbs.length tc, .slice Ao ops.length oc] w _
  obtain ⟨q, hq⟩ : ∃ q, q = smallM (ts.map RT.tb) (rowsOf tbs) ops := ⟨_, rfl⟩
  have HS' : Hid (∀ W, Same w W → Calls Tryz.prog 11 #[.agg #[.slice A m cc], .slice At_ tbs.length tc, .slice Ao ops.length oc] W fun e w' => e = .returned (.bool q) ∧ Same W w') := by rw [hq]; exact HS
  have HQ := Lib.hid hq
  clear HS hq
  go_enter Tryz.func4, Tryz.ntmps4
  go_wp2_with (fail)
  obtain ⟨W0, hW0⟩ : ∃ W0, W0 = (w.alloc (.cells #[.slice A m cc] 24)).alloc (.cells #[.int .i64 k, .string t, .string aa, .string n, .int .i64 to_, .int .i64 dk, .int .i64 dn, .string ds] 28) := ⟨_, rfl⟩
  have S_w_W0 : Hid (Same w W0) := by rw [hW0]; exact ((Same.refl w).alloc _).alloc _
  have Bbs : Blk W0 (w.heap.size) 24 #[.slice A m cc] := by rw [hW0]; exact ((Blk.new w _ _).alloc _)
  have Bbc : Blk W0 (w.heap.size + 1) 28 #[.int .i64 k, .string t, .string aa, .string n, .int .i64 to_, .int .i64 dk, .int .i64 dn, .string ds] := by
    have e : w.heap.size + 1 = (w.alloc (.cells #[.slice A m cc] 24)).heap.size := by simp
    rw [hW0, e]; exact (Blk.new _ _ _)
  rw [← hW0]
  clear hW0
  have lbsW0 := Bbs.lt
  have bsW00 : W0.cell? ⟨w.heap.size, 0, none⟩ = some (.slice A m cc) := Bbs.cell 0
  clear Bbs
  have lbcW0 := Bbc.lt
  have bcW00 : W0.cell? ⟨w.heap.size + 1, 0, none⟩ = some (.int .i64 k) := Bbc.cell 0
  have bcW01 : W0.cell? ⟨w.heap.size + 1, 1, none⟩ = some (.string t) := Bbc.cell 1
  have bcW02 : W0.cell? ⟨w.heap.size + 1, 2, none⟩ = some (.string aa) := Bbc.cell 2
  have bcW03 : W0.cell? ⟨w.heap.size + 1, 3, none⟩ = some (.string n) := Bbc.cell 3
  have bcW04 : W0.cell? ⟨w.heap.size + 1, 4, none⟩ = some (.int .i64 to_) := Bbc.cell 4
  have bcW05 : W0.cell? ⟨w.heap.size + 1, 5, none⟩ = some (.int .i64 dk) := Bbc.cell 5
  have bcW06 : W0.cell? ⟨w.heap.size + 1, 6, none⟩ = some (.int .i64 dn) := Bbc.cell 6
  have bcW07 : W0.cell? ⟨w.heap.size + 1, 7, none⟩ = some (.string ds) := Bbc.cell 7
  clear Bbc
  refine (HH.out _ S_w_W0.out).mono ?_
  rintro e w1 ⟨rfl, s1⟩
  have S_w_w1 : Hid (Same w w1) := S_w_W0.out.trans s1
  have lbsw1 : w.heap.size < w1.heap.size := Nat.lt_of_lt_of_le lbsW0 (Same.size s1)
  have bsw10 : w1.cell? ⟨w.heap.size, 0, none⟩ = some (.slice A m cc) := (Same.cells s1 _ _ lbsW0).trans bsW00
  have lbcw1 : w.heap.size + 1 < w1.heap.size := Nat.lt_of_lt_of_le lbcW0 (Same.size s1)
  have bcw10 : w1.cell? ⟨w.heap.size + 1, 0, none⟩ = some (.int .i64 k) := (Same.cells s1 _ _ lbcW0).trans bcW00
  have bcw11 : w1.cell? ⟨w.heap.size + 1, 1, none⟩ = some (.string t) := (Same.cells s1 _ _ lbcW0).trans bcW01
  have bcw12 : w1.cell? ⟨w.heap.size + 1, 2, none⟩ = some (.string aa) := (Same.cells s1 _ _ lbcW0).trans bcW02
  have bcw13 : w1.cell? ⟨w.heap.size + 1, 3, none⟩ = some (.string n) := (Same.cells s1 _ _ lbcW0).trans bcW03
  have bcw14 : w1.cell? ⟨w.heap.size + 1, 4, none⟩ = some (.int .i64 to_) := (Same.cells s1 _ _ lbcW0).trans bcW04
  have bcw15 : w1.cell? ⟨w.heap.size + 1, 5, none⟩ = some (.int .i64 dk) := (Same.cells s1 _ _ lbcW0).trans bcW05
  have bcw16 : w1.cell? ⟨w.heap.size + 1, 6, none⟩ = some (.int .i64 dn) := (Same.cells s1 _ _ lbcW0).trans bcW06
  have bcw17 : w1.cell? ⟨w.heap.size + 1, 7, none⟩ = some (.string ds) := (Same.cells s1 _ _ lbcW0).trans bcW07
  clear S_w_W0 lbsW0 bsW00 lbcW0 bcW00 bcW01 bcW02 bcW03 bcW04 bcW05 bcW06 bcW07
  clear s1
  clear HH
  go_wp2_with (fail)
  refine (HS'.out _ S_w_w1.out).mono ?_
  rintro e w2 ⟨rfl, s2⟩
  have S_w_w2 : Hid (Same w w2) := S_w_w1.out.trans s2
  have lbsw2 : w.heap.size < w2.heap.size := Nat.lt_of_lt_of_le lbsw1 (Same.size s2)
  have bsw20 : w2.cell? ⟨w.heap.size, 0, none⟩ = some (.slice A m cc) := (Same.cells s2 _ _ lbsw1).trans bsw10
  have lbcw2 : w.heap.size + 1 < w2.heap.size := Nat.lt_of_lt_of_le lbcw1 (Same.size s2)
  have bcw20 : w2.cell? ⟨w.heap.size + 1, 0, none⟩ = some (.int .i64 k) := (Same.cells s2 _ _ lbcw1).trans bcw10
  have bcw21 : w2.cell? ⟨w.heap.size + 1, 1, none⟩ = some (.string t) := (Same.cells s2 _ _ lbcw1).trans bcw11
  have bcw22 : w2.cell? ⟨w.heap.size + 1, 2, none⟩ = some (.string aa) := (Same.cells s2 _ _ lbcw1).trans bcw12
  have bcw23 : w2.cell? ⟨w.heap.size + 1, 3, none⟩ = some (.string n) := (Same.cells s2 _ _ lbcw1).trans bcw13
  have bcw24 : w2.cell? ⟨w.heap.size + 1, 4, none⟩ = some (.int .i64 to_) := (Same.cells s2 _ _ lbcw1).trans bcw14
  have bcw25 : w2.cell? ⟨w.heap.size + 1, 5, none⟩ = some (.int .i64 dk) := (Same.cells s2 _ _ lbcw1).trans bcw15
  have bcw26 : w2.cell? ⟨w.heap.size + 1, 6, none⟩ = some (.int .i64 dn) := (Same.cells s2 _ _ lbcw1).trans bcw16
  have bcw27 : w2.cell? ⟨w.heap.size + 1, 7, none⟩ = some (.string ds) := (Same.cells s2 _ _ lbcw1).trans bcw17
  clear S_w_w1 lbsw1 bsw10 lbcw1 bcw10 bcw11 bcw12 bcw13 bcw14 bcw15 bcw16 bcw17
  clear s2
  have SW2 : Hid (Same w w2) := S_w_w2
  clear HS'
  cases q with
  | false =>
    go_wp2_with (fail)
    go_ret
    first | exact ⟨rfl, S_w_w2.out⟩ | exact ⟨rfl, S_w_w2.out.alloc _⟩ | exact ⟨rfl, (S_w_w2.out.alloc _).alloc _⟩
  | true =>
    have HP := Lib.hid (smallM_parts HQ.out.symm)
    have HW : Hid (WasL (ts.map RT.tb) 10) := wasL_small HP.out.1
    have HTL : Hid (ts.length ≤ 1000000) := by have := len_small HP.out.1; rw [List.length_map] at this; exact this
    have HFR := Lib.hid (fewR_of HP.out.2.1)
    have HT6 : Hid (tbs.length ≤ 6) := tabs_le6 HP.out.2.1
    by_cases hE : startE (ts.map RT.tb) ⟨k, t, aa, n, to_, ⟨dk, dn, ds⟩⟩ (rowsOf tbs) = 0
    case neg =>
      obtain ⟨E1, hE1⟩ : ∃ E1, E1 = startE (ts.map RT.tb) ⟨k, t, aa, n, to_, ⟨dk, dn, ds⟩⟩ (rowsOf tbs) := ⟨_, rfl⟩
      have HX : Hid (∀ W, Same w W → Calls Tryz.prog 12 #[.agg #[.slice A m cc], .agg #[.int .i64 k, .string t, .string aa, .string n, .int .i64 to_, .int .i64 dk, .int .i64 dn, .string ds], .slice At_ tbs.length tc] W fun e w' => e = .returned (.tuple #[.pointer none, .int .i64 E1]) ∧ Same W w') := by rw [hE1]; exact HER.out (few_was rfl HW.out (by decide)) hE
      rw [← hE1] at hE
      have e1 : (E1 != 0) = true := by simp [hE]
      clear hE1 hE HPL HOK
      go_wp2_with (fail)
      refine (HX.out _ S_w_w2.out).mono ?_
      rintro e w4 ⟨rfl, s4⟩
      have S_w_w4 : Hid (Same w w4) := S_w_w2.out.trans s4
      have lbsw4 : w.heap.size < w4.heap.size := Nat.lt_of_lt_of_le lbsw2 (Same.size s4)
      have bsw40 : w4.cell? ⟨w.heap.size, 0, none⟩ = some (.slice A m cc) := (Same.cells s4 _ _ lbsw2).trans bsw20
      have lbcw4 : w.heap.size + 1 < w4.heap.size := Nat.lt_of_lt_of_le lbcw2 (Same.size s4)
      have bcw40 : w4.cell? ⟨w.heap.size + 1, 0, none⟩ = some (.int .i64 k) := (Same.cells s4 _ _ lbcw2).trans bcw20
      have bcw41 : w4.cell? ⟨w.heap.size + 1, 1, none⟩ = some (.string t) := (Same.cells s4 _ _ lbcw2).trans bcw21
      have bcw42 : w4.cell? ⟨w.heap.size + 1, 2, none⟩ = some (.string aa) := (Same.cells s4 _ _ lbcw2).trans bcw22
      have bcw43 : w4.cell? ⟨w.heap.size + 1, 3, none⟩ = some (.string n) := (Same.cells s4 _ _ lbcw2).trans bcw23
      have bcw44 : w4.cell? ⟨w.heap.size + 1, 4, none⟩ = some (.int .i64 to_) := (Same.cells s4 _ _ lbcw2).trans bcw24
      have bcw45 : w4.cell? ⟨w.heap.size + 1, 5, none⟩ = some (.int .i64 dk) := (Same.cells s4 _ _ lbcw2).trans bcw25
      have bcw46 : w4.cell? ⟨w.heap.size + 1, 6, none⟩ = some (.int .i64 dn) := (Same.cells s4 _ _ lbcw2).trans bcw26
      have bcw47 : w4.cell? ⟨w.heap.size + 1, 7, none⟩ = some (.string ds) := (Same.cells s4 _ _ lbcw2).trans bcw27
      clear S_w_w2 lbsw2 bsw20 lbcw2 bcw20 bcw21 bcw22 bcw23 bcw24 bcw25 bcw26 bcw27
      clear s4
      go_wp2_with (fail)
      go_ret
      exact ⟨rfl, S_w_w4.out⟩
    case pos =>
      have HX := Lib.hid (HOK.out HW.out HTL.out HFR.out.1 hE)
      have HY := Lib.hid (HPL.out HP.out.2.1 HP.out.2.2.1)
      have HM1 : Hid ((start (ts.map RT.tb) ⟨k, t, aa, n, to_, ⟨dk, dn, ds⟩⟩ (rowsOf tbs)).Fine ∧ errOf (ts.map RT.tb) ⟨k, t, aa, n, to_, ⟨dk, dn, ds⟩⟩ = 0) := ⟨start_fine hE, (start_fine hE).err⟩
      obtain ⟨M0, hM0⟩ : ∃ M0, M0 = start (ts.map RT.tb) ⟨k, t, aa, n, to_, ⟨dk, dn, ds⟩⟩ (rowsOf tbs) := ⟨_, rfl⟩
      have HM0 : Hid (M0.Fine ∧ M0.s = (ts.map RT.tb) ∧ M0.c = ⟨k, t, aa, n, to_, ⟨dk, dn, ds⟩⟩ ∧ M0.tabs = rowsOf tbs) := by rw [hM0]; exact Lib.hid ⟨start_fine hE, rfl, rfl, rfl⟩
      rw [← hM0] at HX HY
      clear hM0 hE HER HOK HPL
      go_wp2_with (fail)
      refine (HX.out _ SW2.out).mono ?_
      rintro e w3 ⟨g, rfl, lv⟩
      have LV := Lib.hid lv
      have HG3 := Lib.hid lv.g_lt
      have hw23 : Hid (w2.heap.size ≤ w3.heap.size) := lv.same.size
      clear lv HX
      go_wp2_with (fail)
      refine (HY.out _ _ _ SW2.out LV.out).mono ?_
      rintro e w4 ⟨Ap, cp, M, hi, tb, rfl, D⟩
      have DD := Lib.hid D
      have HFEW : Hid (FewR M.tabs) := D.fewR (show tbs.length ≤ 1000000 by have := HT6.out; omega) (by decide)
      have HRW : Hid (M.rows.length ≤ 40) := rows_le D.few
      clear D HY LV
      go_wp2_with (fail)
      have HTB : Hid (tb.length = tbs.length) := Lib.hid DD.out.own.oh.symm
      have HTI0 : Hid (M.ti < tb.length) := by
        have f := DD.out.live.fine
        have h1 := congrArg List.length DD.out.rows
        have h2 := f.til
        have h3 := f.len
        rw [show (rowsOf tb).length = tb.length from by simp [rowsOf]] at h1
        exact Lib.hid (by omega)
      obtain ⟨go, cq, hho, hgB, hglt, hfz⟩ := DD.out.own.head (by have := HTI0.out; omega)
      injection hho with hh1 hh2 hh3
      subst hh1
      subst hh3
      clear hh2
      have OWN4 : Hid (OwnT w4 w3.heap.size ⟨some ⟨go, 0, none⟩, tb.length, cp⟩ tb) := by
        have h := DD.out.own
        rw [← HTB.out] at h
        exact h
      have HLOW := Lib.hid DD.out.low
      have HFC : Hid (M.Fine ∧ M.closed = false) := ⟨DD.out.live.fine, DD.out.closed⟩
      have HROWL : Hid (∀ row ∈ M.rows, row.length ≤ 12) := Lib.hid fun row hr => DD.out.live.row_len hr
      have HRT : Hid (rowsOf tb = M.tabs) := DD.out.rows
      have HSC : Hid (M.s = (ts.map RT.tb) ∧ M.c = ⟨k, t, aa, n, to_, ⟨dk, dn, ds⟩⟩) := Lib.hid ⟨DD.out.s.trans HM0.out.2.1, DD.out.c.trans HM0.out.2.2.1⟩
      refine (DD.out.live.step 1000 (by have := HRW.out; omega) (by decide) (by decide)).mono ?_
      rintro e w5 ⟨rfl, lv5, cc5⟩
      have OWN5 : Hid (OwnT w5 w3.heap.size ⟨some ⟨go, 0, none⟩, tb.length, cp⟩ tb) := OWN4.out.chgX cc5 (fun k hk hn => hn (by rw [HTB.out] at hk; exact hk))
      have HST := Lib.hid (step_still HFC.out.2 1000)
      have HOR := Lib.hid (once_or HFC.out.1 HFC.out.2 1000 (by have h1 := HRW.out; unfold Mg.left; omega))
      obtain ⟨M1, hM1⟩ : ∃ M1, M1 = M.step 1000 := ⟨_, rfl⟩
      rw [← hM1] at lv5 HST HOR
      have LV5 := Lib.hid lv5
      have HF1 : Hid (FewR M1.tabs) := by rw [HST.out.1]; exact HFEW
      have HD1 : Hid (M1.done.length ≤ 1000000) := by
        have h1 := lv5.fine.dl
        rw [HST.out.2.2.1] at h1
        have h2 := HRW.out
        exact Lib.hid (by omega)
      have hgo5_ : go < w5.heap.size := (OWN5.out.lt (k := go) (.inl rfl)).2
      have h25 : w2.heap.size ≤ w5.heap.size := lv5.same.size
      obtain ⟨F, hF⟩ : ∃ F, F = M1.finE := ⟨_, rfl⟩
      rw [← hF] at HOR
      have HFN : Hid (Calls Tryz.prog 18 #[.pointer (some ⟨g, 0, none⟩)] w5 fun e w6 => ∃ (A1 : Option Addr) (m1 c1 : Nat) (Ao6 : Option Addr) (n6 c6 : Nat), e = .returned (.tuple #[.agg #[.slice A1 m1 c1], .slice Ao6 n6 c6, .int .i64 F]) ∧ (Same w2 w6 ∧ OwnT w6 w3.heap.size ⟨some ⟨go, 0, none⟩, tb.length, cp⟩ tb ∧ (F = 15 → n6 = 0) ∧ (F = 0 → ∃ (W0 : World) (tn : List RT) (ts6 : List Tbl), W0.heap.size ≤ g ∧ TabsAt W0 ⟨A1, m1, c1⟩ tn ∧ Same W0 w6 ∧ tn.map RT.tb = applyS M1.s M1.c ∧ (∃ lo6 hi6, OutAt w6 w5.heap.size lo6 hi6 ⟨Ao6, n6, c6⟩ ts6 M1.out)))) := by
        by_cases hz : M1.finE = 0
        · refine Lib.hid ((LV5.out.finish2 HF1.out HD1.out hz).mono ?_)
          rintro e w' ⟨A1, m1, c1, go', n', c', he, ⟨W0, tn, ts6, h1, h2, h3, h4, h5⟩, lv, cc⟩
          exact ⟨A1, m1, c1, some ⟨go', 0, none⟩, n', c', by rw [hF, hz]; exact he, lv.same, OWN5.out.chgX cc (fun k hk hn => hn (by rw [HTB.out] at hk; exact hk)), (fun h => by rw [hF, hz] at h; cases h), fun _ => ⟨W0, tn, ts6, h1, h2, h3, h4, _, _, h5⟩⟩
        · refine Lib.hid ((LV5.out.finishE hz).mono ?_)
          rintro e w' ⟨he, lv, s⟩
          exact ⟨none, 0, 0, none, 0, 0, by rw [hF]; exact he, lv.same, OWN5.out.same s, (fun _ => rfl), fun h => absurd (hF ▸ h) hz⟩
      have HWH : Hid (F = 0 → M1.done = M1.rows.map (fun row => (convS M1.s M1.c M1.ti row).1)) := Lib.hid fun h => by
        have hl := fin_left (hF ▸ h)
        exact (LV5.out.fine.whole hl).1
      clear lv5 cc5 hM1 hF DD LV5 HD1 HF1 OWN5 OWN4 HFEW hfz hglt
      go_wp2_with (fail)
      refine HFN.out.mono ?_
      rintro e w6 ⟨A1, m1, c1, Ao6, n6, c6, rfl, hp⟩
      have HP6 := Lib.hid hp
      have s26 : Same w2 w6 := hp.1
      have S26 : Hid (Same w2 w6) := s26
      clear hp HFN
      obtain ⟨ti, hti⟩ : ∃ ti, ti = M1.ti := ⟨_, rfl⟩
      have HTI := Lib.hid hti
      have htl : ti < tb.length := by rw [hti, HST.out.2.2.2.2.2]; exact HTI0.out
      have HFIN : Hid (∀ W, Same w W → Calls Tryz.prog 25 #[.agg #[.slice A m cc], .string t] W fun e w' => e = .returned (.int .i64 (ti : Int)) ∧ Same W w') := by
        have h : findT (ts.map RT.tb) t = (ti : Int) := by
          have := HFC.out.1.at_
          rw [HSC.out.1, HSC.out.2] at this
          rw [hti, HST.out.2.2.2.2.2]
          exact this
        rw [← h]; exact HFI
      clear hti HFI
      have lbsw2_ := Lib.hid lbsw2
      have lbcw2_ := Lib.hid lbcw2
      have hgo5 : Hid (go < w5.heap.size) := Lib.hid hgo5_
      have S_w_w6 : Hid (Same w w6) := S_w_w2.out.trans s26
      have S_w2_w6 : Hid (Same w2 w6) := s26
      have lbsw6 : w.heap.size < w6.heap.size := Nat.lt_of_lt_of_le lbsw2 (Same.size s26)
      have bsw60 : w6.cell? ⟨w.heap.size, 0, none⟩ = some (.slice A m cc) := (Same.cells s26 _ _ lbsw2).trans bsw20
      have lbcw6 : w.heap.size + 1 < w6.heap.size := Nat.lt_of_lt_of_le lbcw2 (Same.size s26)
      have bcw60 : w6.cell? ⟨w.heap.size + 1, 0, none⟩ = some (.int .i64 k) := (Same.cells s26 _ _ lbcw2).trans bcw20
      have bcw61 : w6.cell? ⟨w.heap.size + 1, 1, none⟩ = some (.string t) := (Same.cells s26 _ _ lbcw2).trans bcw21
      have bcw62 : w6.cell? ⟨w.heap.size + 1, 2, none⟩ = some (.string aa) := (Same.cells s26 _ _ lbcw2).trans bcw22
      have bcw63 : w6.cell? ⟨w.heap.size + 1, 3, none⟩ = some (.string n) := (Same.cells s26 _ _ lbcw2).trans bcw23
      have bcw64 : w6.cell? ⟨w.heap.size + 1, 4, none⟩ = some (.int .i64 to_) := (Same.cells s26 _ _ lbcw2).trans bcw24
      have bcw65 : w6.cell? ⟨w.heap.size + 1, 5, none⟩ = some (.int .i64 dk) := (Same.cells s26 _ _ lbcw2).trans bcw25
      have bcw66 : w6.cell? ⟨w.heap.size + 1, 6, none⟩ = some (.int .i64 dn) := (Same.cells s26 _ _ lbcw2).trans bcw26
      have bcw67 : w6.cell? ⟨w.heap.size + 1, 7, none⟩ = some (.string ds) := (Same.cells s26 _ _ lbcw2).trans bcw27
      clear S_w_w2 lbsw2 bsw20 lbcw2 bcw20 bcw21 bcw22 bcw23 bcw24 bcw25 bcw26 bcw27
      clear s26
      go_wp2_with (fail)
      obtain ⟨W7, hW7⟩ : ∃ W7, W7 = w6.alloc (.cells #[.slice A1 m1 c1] 24) := ⟨_, rfl⟩
      have sW7 : Same w6 W7 := by rw [hW7]; exact (Same.refl w6).alloc _
      have Bbn : Blk W7 w6.heap.size 24 #[.slice A1 m1 c1] := by rw [hW7]; exact Blk.new w6 _ _
      rw [← hW7]
      clear hW7
      have S_w_W7 : Hid (Same w W7) := S_w_w6.out.trans sW7
      have S_w2_W7 : Hid (Same w2 W7) := S_w2_w6.out.trans sW7
      have S_w6_W7 : Hid (Same w6 W7) := sW7
      have lbsW7 : w.heap.size < W7.heap.size := Nat.lt_of_lt_of_le lbsw6 (Same.size sW7)
      have bsW70 : W7.cell? ⟨w.heap.size, 0, none⟩ = some (.slice A m cc) := (Same.cells sW7 _ _ lbsw6).trans bsw60
      have lbcW7 : w.heap.size + 1 < W7.heap.size := Nat.lt_of_lt_of_le lbcw6 (Same.size sW7)
      have bcW70 : W7.cell? ⟨w.heap.size + 1, 0, none⟩ = some (.int .i64 k) := (Same.cells sW7 _ _ lbcw6).trans bcw60
      have bcW71 : W7.cell? ⟨w.heap.size + 1, 1, none⟩ = some (.string t) := (Same.cells sW7 _ _ lbcw6).trans bcw61
      have bcW72 : W7.cell? ⟨w.heap.size + 1, 2, none⟩ = some (.string aa) := (Same.cells sW7 _ _ lbcw6).trans bcw62
      have bcW73 : W7.cell? ⟨w.heap.size + 1, 3, none⟩ = some (.string n) := (Same.cells sW7 _ _ lbcw6).trans bcw63
      have bcW74 : W7.cell? ⟨w.heap.size + 1, 4, none⟩ = some (.int .i64 to_) := (Same.cells sW7 _ _ lbcw6).trans bcw64
      have bcW75 : W7.cell? ⟨w.heap.size + 1, 5, none⟩ = some (.int .i64 dk) := (Same.cells sW7 _ _ lbcw6).trans bcw65
      have bcW76 : W7.cell? ⟨w.heap.size + 1, 6, none⟩ = some (.int .i64 dn) := (Same.cells sW7 _ _ lbcw6).trans bcw66
      have bcW77 : W7.cell? ⟨w.heap.size + 1, 7, none⟩ = some (.string ds) := (Same.cells sW7 _ _ lbcw6).trans bcw67
      clear S_w_w6 S_w2_w6 lbsw6 bsw60 lbcw6 bcw60 bcw61 bcw62 bcw63 bcw64 bcw65 bcw66 bcw67
      have lbnW7 := Bbn.lt
      have bnW70 : W7.cell? ⟨w6.heap.size, 0, none⟩ = some (.slice A1 m1 c1) := Bbn.cell 0
      clear Bbn sW7
      refine (HFIN.out _ S_w_W7.out).mono ?_
      rintro e w8 ⟨rfl, s8⟩
      have S_w_w8 : Hid (Same w w8) := S_w_W7.out.trans s8
      have S_w2_w8 : Hid (Same w2 w8) := S_w2_W7.out.trans s8
      have S_w6_w8 : Hid (Same w6 w8) := S_w6_W7.out.trans s8
      have lbsw8 : w.heap.size < w8.heap.size := Nat.lt_of_lt_of_le lbsW7 (Same.size s8)
      have bsw80 : w8.cell? ⟨w.heap.size, 0, none⟩ = some (.slice A m cc) := (Same.cells s8 _ _ lbsW7).trans bsW70
      have lbcw8 : w.heap.size + 1 < w8.heap.size := Nat.lt_of_lt_of_le lbcW7 (Same.size s8)
      have bcw80 : w8.cell? ⟨w.heap.size + 1, 0, none⟩ = some (.int .i64 k) := (Same.cells s8 _ _ lbcW7).trans bcW70
      have bcw81 : w8.cell? ⟨w.heap.size + 1, 1, none⟩ = some (.string t) := (Same.cells s8 _ _ lbcW7).trans bcW71
      have bcw82 : w8.cell? ⟨w.heap.size + 1, 2, none⟩ = some (.string aa) := (Same.cells s8 _ _ lbcW7).trans bcW72
      have bcw83 : w8.cell? ⟨w.heap.size + 1, 3, none⟩ = some (.string n) := (Same.cells s8 _ _ lbcW7).trans bcW73
      have bcw84 : w8.cell? ⟨w.heap.size + 1, 4, none⟩ = some (.int .i64 to_) := (Same.cells s8 _ _ lbcW7).trans bcW74
      have bcw85 : w8.cell? ⟨w.heap.size + 1, 5, none⟩ = some (.int .i64 dk) := (Same.cells s8 _ _ lbcW7).trans bcW75
      have bcw86 : w8.cell? ⟨w.heap.size + 1, 6, none⟩ = some (.int .i64 dn) := (Same.cells s8 _ _ lbcW7).trans bcW76
      have bcw87 : w8.cell? ⟨w.heap.size + 1, 7, none⟩ = some (.string ds) := (Same.cells s8 _ _ lbcW7).trans bcW77
      have lbnw8 : w6.heap.size < w8.heap.size := Nat.lt_of_lt_of_le lbnW7 (Same.size s8)
      have bnw80 : w8.cell? ⟨w6.heap.size, 0, none⟩ = some (.slice A1 m1 c1) := (Same.cells s8 _ _ lbnW7).trans bnW70
      clear S_w_W7 S_w2_W7 S_w6_W7 lbsW7 bsW70 lbcW7 bcW70 bcW71 bcW72 bcW73 bcW74 bcW75 bcW76 bcW77 lbnW7 bnW70
      clear s8
      have htbs : ti < tbs.length := by have := HTB.out; omega
      have g1 : decide ((ti : Int) < 0) = false := decide_eq_false (by omega)
      have g2 : decide ((ti : Int) ≥ (tbs.length : Int)) = false := decide_eq_false (by omega)
      have g2' : decide ((tbs.length : Int) ≤ (ti : Int)) = false := g2
      have g2n : decide (tbs.length ≤ ti) = false := decide_eq_false (by omega)
      have g3 : (0 : Int) ≤ (ti : Int) := by omega
      have g4 : (ti : Int) < (tbs.length : Int) := by omega
      have HG : Hid (w3.heap.size ≤ go ∧ go < w6.heap.size ∧ w2.heap.size ≤ w3.heap.size) := Lib.hid ⟨hgB, (HP6.out.2.1.lt (k := go) (.inl rfl)).2, by have := HG3.out; exact hw23.out⟩
      obtain ⟨i0, hi0, hiz0, hiz1, hiz2⟩ := info_parts Tryz.infoVals
      have OWN8 : Hid (OwnT w8 w3.heap.size ⟨some ⟨go, 0, none⟩, tb.length, cp⟩ tb) := HP6.out.2.1.same S_w6_w8.out
      have l8g : go < w8.heap.size := (OWN8.out.lt (k := go) (.inl rfl)).2
      have HLN := Lib.hid (OWN8.out.lies.2.2 ti htl)
      have HIN := Lib.hid (OWN8.out.inner (List.getElem_mem htl))
      have HRL : Hid (tb[ti].rs.map Rw.v = M.rows) := by
        have h1 : (rowsOf tb)[ti]? = some (tb[ti].rs.map Rw.v) := by simp [rowsOf, htl, Tbl.rows]
        rw [HRT.out] at h1
        have h2 : M.ti = ti := by rw [HTI.out]; exact HST.out.2.2.2.2.2.symm
        unfold Mg.rows
        rw [h2, List.getD_eq_getElem?_getD, h1]; rfl
      have HLR : Hid (∀ r ∈ tb[ti].rs, RowAt w2 r.h r.v) := Lib.hid fun r hr => (HLOW.out _ (List.getElem_mem htl) r hr).1
      obtain ⟨y, hy⟩ : ∃ y, y = tb[ti] := ⟨_, rfl⟩
      rw [← hy] at HLN HIN HRL HLR
      obtain ⟨⟨Ai, ni, ic⟩, rs0⟩ := y
      have hni : rs0.length = ni := HIN.out.1
      subst hni
      have k7 : w8.cell? ⟨go, ti, none⟩ = some (.slice Ai rs0.length ic) := by
        obtain ⟨b, off, ha, hb, hc⟩ := HLN.out
        have ha' : some (⟨go, 0, none⟩ : Addr) = some ⟨b, off, none⟩ := ha
        injection ha' with ha'
        injection ha' with e1 e2
        subst e1
        subst e2
        simpa [Hd.val] using hc 0 _ rfl
      have hrb : rs0.length ≤ 40 := by
        have h1 := HRW.out
        rw [← HRL.out] at h1
        simpa using h1
      clear HLN hgB hy
      obtain ⟨v, hv⟩ : ∃ v : Nat → Row × Int, v = fun j => convS (ts.map RT.tb) ⟨k, t, aa, n, to_, ⟨dk, dn, ds⟩⟩ (ti : Int) (M.rows.getD j []) := ⟨_, rfl⟩
      have HV := Lib.hid hv
      clear hv
      have HVR : Hid (∀ (j : Nat) (hj : j < rs0.length), v j = convS (ts.map RT.tb) ⟨k, t, aa, n, to_, ⟨dk, dn, ds⟩⟩ (ti : Int) rs0[j].v) := Lib.hid fun j hj => by
        rw [HV.out]
        show convS _ _ _ (M.rows.getD j []) = _
        rw [← HRL.out]
        simp [List.getD_eq_getElem?_getD, hj]
      have HRK : Hid (∀ r ∈ rs0, r.v.length ≤ 12) := Lib.hid fun r hr => HROWL.out _ (by rw [← HRL.out]; exact List.mem_map_of_mem hr)
      have HFEWT : Hid (Few ts) := few_was rfl HW.out (by decide)
      go_wp2_with (fail)
      go_loopw [17, 18, 19] (fun rv fv iv wr => ∃ (q : Nat) (Ac : Option Addr) (cc2 : Nat) (b : Bool), q ≤ rs0.length ∧ rv = .slice Ac q cc2 ∧ fv = .bool b ∧ iv = .int .i64 q ∧ Hid (RowsC w8 wr v q Ac cc2 ∧ b = decide (∀ j < q, (v j).2 = 0))) (fun _ _ iv _ => rs0.length - (intOf iv).toNat)
      case atStart => exact ⟨0, none, 0, true, Nat.zero_le _, rfl, rfl, rfl, Lib.hid ⟨rowsC_start _ _, by simp⟩⟩
      case round =>
        obtain ⟨q, Ac, cc2, b, hk, rfl, rfl, rfl, R⟩ := hrel
        have SR : Hid (Same w8 wr) := by obtain ⟨rs, _, _, s, _⟩ := R.out.1; exact Lib.hid s
        have j7 := (SR.out.cells _ ti l8g).trans k7
        by_cases hlt : q < rs0.length
        case pos =>
          obtain ⟨bq, offq, hAq, bltq, hcq⟩ := (HIN.out.same SR.out).2.2 q hlt
          have hAq' : Ai = some ⟨bq, offq, none⟩ := hAq
          have HRQ : Hid (RowAt w2 rs0[q].h rs0[q].v ∧ v q = convS (ts.map RT.tb) ⟨k, t, aa, n, to_, ⟨dk, dn, ds⟩⟩ (ti : Int) rs0[q].v ∧ rs0[q].v.length ≤ 12) := Lib.hid ⟨HLR.out _ (List.getElem_mem hlt), HVR.out q hlt, HRK.out _ (List.getElem_mem hlt)⟩
          obtain ⟨y, hy⟩ : ∃ y, y = rs0[q] := ⟨_, rfl⟩
          rw [← hy] at HRQ hcq
          clear hy hAq
          obtain ⟨⟨Ar, rn, rc⟩, rv0⟩ := y
          have j8 : wr.cell? ⟨bq, offq + q, none⟩ = some (.slice Ar rn rc) := by have := hcq 0 _ rfl; simpa [Hd.val] using this
          subst hAq'
          obtain ⟨E, hE⟩ : ∃ E, E = (v q).2 := ⟨_, rfl⟩
          have HE := Lib.hid hE
          have SRW : Hid (Same w wr) := S_w_w8.out.trans SR.out
          have S2R : Hid (Same w2 wr) := S_w2_w8.out.trans SR.out
          have HCV : Hid (∀ W, Same wr W → Calls Tryz.prog 26 #[.agg #[.slice A m cc], .agg #[.int .i64 k, .string t, .string aa, .string n, .int .i64 to_, .int .i64 dk, .int .i64 dn, .string ds], .int .i64 (ti : Int), .slice Ar rn rc] W fun e w' => ∃ A' n' c', e = .returned (.tuple #[.slice A' n' c', .int .i64 E]) ∧ (RowAt w' ⟨A', n', c'⟩ (v q).1 ∧ Fresh wr.heap.size ⟨A', n', c'⟩) ∧ Same W w') := Lib.hid fun W s => by
            refine (convert_ok ⟨A, m, cc⟩ ts ⟨k, t, aa, n, to_, ⟨dk, dn, ds⟩⟩ (ti : Int) ⟨Ar, rn, rc⟩ rv0 W (HL.out.same (SRW.out.trans s)) (HTA.out.same (SRW.out.trans s)) HFEWT.out HON.out HOD.out (HRQ.out.1.same (S2R.out.trans s)) (by have := HRQ.out.2.2; simp only at this; omega) HTL.out).mono ?_
            rintro e w' ⟨⟨⟨A', n', c'⟩, he, h1, h2⟩, h3⟩
            rw [← HRQ.out.2.1] at he h1
            exact ⟨A', n', c', by rw [hE]; exact he, ⟨h1, fun a ha => Nat.le_trans s.size (h2 a ha)⟩, h3⟩
          have bswr0 := (SR.out.cells _ 0 lbsw8).trans bsw80
          have bcwr0 := (SR.out.cells _ 0 lbcw8).trans bcw80
          have bcwr1 := (SR.out.cells _ 1 lbcw8).trans bcw81
          have bcwr2 := (SR.out.cells _ 2 lbcw8).trans bcw82
          have bcwr3 := (SR.out.cells _ 3 lbcw8).trans bcw83
          have bcwr4 := (SR.out.cells _ 4 lbcw8).trans bcw84
          have bcwr5 := (SR.out.cells _ 5 lbcw8).trans bcw85
          have bcwr6 := (SR.out.cells _ 6 lbcw8).trans bcw86
          have bcwr7 := (SR.out.cells _ 7 lbcw8).trans bcw87
          have lbswr : w.heap.size < wr.heap.size := Nat.lt_of_lt_of_le lbsw8 SR.out.size
          have lbcwr : w.heap.size + 1 < wr.heap.size := Nat.lt_of_lt_of_le lbcw8 SR.out.size
          have lgr : go < wr.heap.size := Nat.lt_of_lt_of_le l8g SR.out.size
          have q0 : (0 : Int) ≤ (q : Int) := by omega
          have qI : (q : Int) < (rs0.length : Int) := by omega
          have hkb : q ≤ 40 := by omega
          clear hcq hE bcw80 bcw81 bcw82 bcw83 bcw84 bcw85 bcw86 bcw87 bsw80 bnw80 k7
          go_wp2_with (fail)
          go_region_held3 (fun w' => w'.cell? ⟨w.heap.size, 0, none⟩ = some (.slice A m cc) ∧ w'.cell? ⟨w.heap.size + 1, 0, none⟩ = some (.int .i64 k) ∧ w'.cell? ⟨w.heap.size + 1, 1, none⟩ = some (.string t) ∧ w'.cell? ⟨w.heap.size + 1, 2, none⟩ = some (.string aa) ∧ w'.cell? ⟨w.heap.size + 1, 3, none⟩ = some (.string n) ∧ w'.cell? ⟨w.heap.size + 1, 4, none⟩ = some (.int .i64 to_) ∧ w'.cell? ⟨w.heap.size + 1, 5, none⟩ = some (.int .i64 dk) ∧ w'.cell? ⟨w.heap.size + 1, 6, none⟩ = some (.int .i64 dn) ∧ w'.cell? ⟨w.heap.size + 1, 7, none⟩ = some (.string ds) ∧ w'.cell? ⟨go, ti, none⟩ = some (.slice (some ⟨bq, offq, none⟩) rs0.length ic) ∧ w'.cell? ⟨bq, offq + q, none⟩ = some (.slice Ar rn rc)) (first | (simp [*]; done) | ((repeat' apply And.intro) <;> (first | assumption | go_keep)))
            ((go_at_call 26; refine (HCV.out _ ?_).mono ?_; exact (Same.refl wr).drew; rintro e w1 ⟨A', n', c', rfl, hR, s1⟩; have S1 : Hid (Same wr w1) := Same.trans ((Same.refl wr).drew) s1; have ubs0 := (S1.out.cells _ 0 lbswr).trans bswr0; have ubc0 := (S1.out.cells _ 0 lbcwr).trans bcwr0; have ubc1 := (S1.out.cells _ 1 lbcwr).trans bcwr1; have ubc2 := (S1.out.cells _ 2 lbcwr).trans bcwr2; have ubc3 := (S1.out.cells _ 3 lbcwr).trans bcwr3; have ubc4 := (S1.out.cells _ 4 lbcwr).trans bcwr4; have ubc5 := (S1.out.cells _ 5 lbcwr).trans bcwr5; have ubc6 := (S1.out.cells _ 6 lbcwr).trans bcwr6; have ubc7 := (S1.out.cells _ 7 lbcwr).trans bcwr7; have u7 := (S1.out.cells _ ti lgr).trans j7; have u8 := (S1.out.cells _ (offq + q) bltq).trans j8; have RR := Lib.hid hR; clear s1 hR))
          all_goals
            have OD : Hid ((w1.alloc (.cells #[.slice A' n' c'] 40)).ownsRow w8.heap.size 40 1 (.slice Ac q cc2) q (Classical.choose R.out.1 |>.flatMap Rw.cell)) := Lib.hid ((own_same S1.out (Classical.choose_spec R.out.1).2.1).alloc _)
            obtain ⟨XS, hXS⟩ : ∃ XS, XS = (Classical.choose R.out.1).flatMap Rw.cell := ⟨_, rfl⟩
            rw [← hXS] at OD
            have HXS := Lib.hid hXS
            have h81 : w8.heap.size ≤ w1.heap.size := (SR.out.trans S1.out).size
            clear hXS ubs0 ubc0 ubc1 ubc2 ubc3 ubc4 ubc5 ubc6 ubc7 u7 u8 bswr0 bcwr0 bcwr1 bcwr2 bcwr3 bcwr4 bcwr5 bcwr6 bcwr7 j7 j8
            have HFB : Hid ((b && E == 0) = decide (∀ j < q + 1, (v j).2 = 0)) := by rw [HE.out]; exact Lib.hid (all_succ R.out.2)
            obtain ⟨fb, hfb⟩ : ∃ fb, fb = (b && E == 0) := ⟨_, rfl⟩
            rw [← hfb] at HFB
            cases b
            all_goals
              simp only [Bool.false_and, Bool.true_and] at hfb
              subst hfb
              go_wp2_with (at_builtin; refine wpList_append_any _ rfl (.tmp 97) (.tmp 99) 55 rfl w8.heap.size 40 i0 _ 1 24 Tryz.underlying55 hi0 hiz0 hiz1 hiz2 rfl (by decide) (.slice Ac q cc2) q XS rfl OD.out (w1.heap.size + 1) (some ⟨w1.heap.size, 0, none⟩) 1 1 [.slice A' n' c'] rfl (reads_new w1 _ _) (by intro u hu; simp at hu; rw [hu]; rfl) (by simp only [maxLen]; omega) (by omega) (by simp; omega) ?_; intro v1 w2_ hown1 hg1 hat1; obtain ⟨A2, c2, hv⟩ := own_val hown1; subst hv; have P2 := Lib.hid (And.intro hown1 (And.intro hg1 hat1)); clear hown1 hg1 hat1)
              go_roundw
              case rel =>
                refine ⟨q + 1, A2, c2, _, by omega, rfl, rfl, by go_num, Lib.hid ⟨?_, HFB.out⟩⟩
                obtain ⟨e1, e2, e3, e4⟩ := Classical.choose_spec R.out.1
                exact rowsC_push e1 e2 e3 e4 S1.out RR.out.1 RR.out.2 P2.out.2.1 (by rw [← HXS.out]; exact P2.out.1) P2.out.2.2
              case measure => simp [intOf]; omega
        case neg =>
          have hq : q = rs0.length := by omega
          subst hq
          have HF0 : Hid (v = fun j => convS (ts.map RT.tb) ⟨k, t, aa, n, to_, ⟨dk, dn, ds⟩⟩ (ti : Int) (M.rows.getD j [])) := HV
          have HALL : Hid ((∀ j < rs0.length, (v j).2 = 0) ↔ ∀ row ∈ M.rows, (convS M.s M.c M.ti row).2 = 0) := by
            have h2 : M.ti = ti := by rw [HTI.out]; exact HST.out.2.2.2.2.2.symm
            refine Lib.hid ⟨fun h row hr => ?_, fun h j hj => ?_⟩
            · rw [← HRL.out] at hr
              obtain ⟨r, hr2, rfl⟩ := List.mem_map.1 hr
              obtain ⟨j, hj, rfl⟩ := List.mem_iff_getElem.1 hr2
              have := h j hj
              rw [HVR.out j hj] at this
              rw [HSC.out.1, HSC.out.2, h2]
              exact this
            · rw [HVR.out j hj]
              have := h rs0[j].v (by rw [← HRL.out]; exact List.mem_map_of_mem (List.getElem_mem hj))
              rw [HSC.out.1, HSC.out.2, h2] at this
              exact this
          have SRW : Hid (Same w wr) := S_w_w8.out.trans SR.out
          have S2R : Hid (Same w2 wr) := S_w2_w8.out.trans SR.out
          have S6R : Hid (Same w6 wr) := S_w6_w8.out.trans SR.out
          cases b with
          | false =>
            have hF15 : F = 15 := by
              rcases HOR.out with ⟨h1, _, h3⟩ | ⟨h1, _⟩
              · have := (HALL.out.2 (by
                  intro row hr
                  exact h3 row hr))
                have h4 := R.out.2
                rw [eq_comm, decide_eq_false_iff_not] at h4
                exact absurd this h4
              · exact h1
            subst hF15
            obtain rfl : n6 = 0 := HP6.out.2.2.1 rfl
            clear bcw80 bcw81 bcw82 bcw83 bcw84 bcw85 bcw86 bcw87 bsw80 bnw80 k7
            go_wp2_with (fail)
            go_ret
            exact ⟨rfl, SRW.out⟩
          | true =>
            have hall : ∀ j < rs0.length, (v j).2 = 0 := by
              have h4 := R.out.2
              rw [eq_comm, decide_eq_true_eq] at h4
              exact h4
            have hF0 : F = 0 := by
              rcases HOR.out with ⟨h1, _⟩ | ⟨_, row, hr, h3⟩
              · exact h1
              · exact absurd (HALL.out.1 hall row hr) h3
            have HM1 := Lib.hid (HWH.out hF0)
            subst hF0
            clear HWH HOR
            obtain ⟨W0_, tn, ts6, hW1, hW2, hW3, hW4, lo6, hi6, hOut⟩ := HP6.out.2.2.2 rfl
            have hgo0 : W0_.heap.size ≤ go := by have h1 := HG3.out; have h2 := HG.out.1; omega
            have hz26 : w2.heap.size ≤ go := by have h2 := HG.out; omega
            have lgr : go < wr.heap.size := Nat.lt_of_lt_of_le l8g SR.out.size
            have f7 : wr.frozen? ⟨go, ti, none⟩ = false := (SR.out.frees _ ti l8g).trans (by
              obtain ⟨g', c', e1, _, _, e4⟩ := OWN8.out.head (by omega)
              injection e1 with e1
              injection e1 with e1
              injection e1 with e1
              subst e1
              exact e4 ti)
            obtain ⟨rs, hrl, hrv, hT⟩ := rowsC_put (R.out.1) OWN8.out (fun t ht r hr => (HLOW.out t ht r hr).1.same S_w2_w8.out) ti htl
            obtain ⟨wp, hwp⟩ : ∃ wp, wp = wr.setCell ⟨go, ti, none⟩ (.slice Ac rs0.length cc2) := ⟨_, rfl⟩
            rw [← hwp] at hT
            have S2P : Hid (Same w2 wp) := by rw [hwp]; exact Lib.hid (S2R.out.setCell hz26 _)
            have SWP : Hid (Same w wp) := SW2.out.trans S2P.out
            have S0P : Hid (Same W0_ wp) := by rw [hwp]; exact Lib.hid ((hW3.trans S6R.out).setCell hgo0 _)
            have HT2 : Hid (TablesAt wp (fun k => k < wp.heap.size) ⟨some ⟨go, 0, none⟩, tbs.length, cp⟩ (tb.set ti ⟨⟨Ac, rs0.length, cc2⟩, rs⟩)) := by rw [← HTB.out]; exact Lib.hid hT
            have HT1 : Hid (TablesAt wp (fun k => k < wp.heap.size) ⟨Ao6, n6, c6⟩ ts6) := by
              have hlt5 : go < w5.heap.size := by
                exact hgo5.out
              rw [hwp]
              refine Lib.hid ((OwnT.off (hOut.1.same S6R.out) hlt5 ti _).tables fun t ht r hr => ?_)
              exact ((hOut.2.2 t ht r hr).1.same S6R.out).store j7 _
            have HEQ : Hid (rowsOf ts6 = rowsOf (tb.set ti ⟨⟨Ac, rs0.length, cc2⟩, rs⟩)) := by
              refine Lib.hid ?_
              rw [hOut.2.1]
              have e1 : rowsOf (tb.set ti ⟨⟨Ac, rs0.length, cc2⟩, rs⟩) = (rowsOf tb).set ti (rs.map Rw.v) := by
                simp [rowsOf, List.map_set, Tbl.rows]
              rw [e1, HRT.out]
              unfold Mg.out
              rw [HST.out.1, ← HTI.out, HM1.out, HST.out.2.2.1, ← HRL.out]
              congr 1
              have e3 : ∀ row, convS M1.s M1.c M1.ti row = convS (ts.map RT.tb) ⟨k, t, aa, n, to_, ⟨dk, dn, ds⟩⟩ (ti : Int) row := fun row => by rw [HST.out.2.2.2.1, HST.out.2.2.2.2.1, HSC.out.1, HSC.out.2, ← HTI.out]
              refine List.ext_getElem (by rw [List.length_map, List.length_map, List.length_map, hrl]) fun j h1 h2 => ?_
              have hj : j < rs0.length := by rw [List.length_map] at h2; omega
              rw [List.getElem_map, List.getElem_map, List.getElem_map, hrv j (by omega), HVR.out j hj, e3]
            have herr : errOf (ts.map RT.tb) ⟨k, t, aa, n, to_, ⟨dk, dn, ds⟩⟩ = 0 := by
              have := HFC.out.1.err
              rw [HSC.out.1, HSC.out.2] at this
              exact this
            have hW4' : tn.map RT.tb = applyS (ts.map RT.tb) ⟨k, t, aa, n, to_, ⟨dk, dn, ds⟩⟩ := by
              rw [hW4, HST.out.2.2.2.1, HST.out.2.2.2.2.1, HSC.out.1, HSC.out.2]
            have HAP : Hid (∀ W, Same w W → Calls Tryz.prog 27 #[.agg #[.slice A m cc], .agg #[.int .i64 k, .string t, .string aa, .string n, .int .i64 to_, .int .i64 dk, .int .i64 dn, .string ds]] W fun e w' => ∃ (A7 : Option Addr) (n7 c7 : Nat) (tw : List RT), e = .returned (.tuple #[.agg #[.slice A7 n7 c7], .int .i64 0]) ∧ (TabsAt w' ⟨A7, n7, c7⟩ tw ∧ tw.map RT.tb = applyS (ts.map RT.tb) ⟨k, t, aa, n, to_, ⟨dk, dn, ds⟩⟩) ∧ Same W w') := Lib.hid fun W s => by
              refine (apply_ok ⟨A, m, cc⟩ ts ⟨k, t, aa, n, to_, ⟨dk, dn, ds⟩⟩ W (HTA.out.same s) HFEWT.out HON.out HOD.out).mono ?_
              rintro e w' ⟨ho, s'⟩
              rcases ho with ⟨hz, _⟩ | ⟨_, ⟨A7, n7, c7⟩, tw, he, h1, h2⟩
              · exact absurd herr hz
              · exact ⟨A7, n7, c7, tw, he, ⟨h1, h2⟩, s'⟩
            have HTN : Hid (TabsAt wp ⟨A1, m1, c1⟩ tn) := Lib.hid (hW2.same S0P.out)
            have HTNE := Lib.hid hW4'
            have z6 : w6.heap.size < wr.heap.size := Nat.lt_of_lt_of_le lbnw8 SR.out.size
            have ngo : w6.heap.size ≠ go := by have := HG.out.2.1; omega
            have ngs : w.heap.size ≠ go := by have h1 := hz26; have h2 := lbsw2_.out; omega
            have ngc : w.heap.size + 1 ≠ go := by have h1 := hz26; have h2 := lbcw2_.out; omega
            have pbn : wp.cell? ⟨w6.heap.size, 0, none⟩ = some (.slice A1 m1 c1) := by rw [hwp]; exact (cell_far _ _ _ _ _ _ ngo).trans ((SR.out.cells _ 0 lbnw8).trans bnw80)
            have pbs : wp.cell? ⟨w.heap.size, 0, none⟩ = some (.slice A m cc) := by rw [hwp]; exact (cell_far _ _ _ _ _ _ ngs).trans ((SR.out.cells _ 0 lbsw8).trans bsw80)
            have pbc0 : wp.cell? ⟨w.heap.size + 1, 0, none⟩ = some (.int .i64 k) := by rw [hwp]; exact (cell_far _ _ _ _ _ _ ngc).trans ((SR.out.cells _ 0 lbcw8).trans bcw80)
            have pbc1 : wp.cell? ⟨w.heap.size + 1, 1, none⟩ = some (.string t) := by rw [hwp]; exact (cell_far _ _ _ _ _ _ ngc).trans ((SR.out.cells _ 1 lbcw8).trans bcw81)
            have pbc2 : wp.cell? ⟨w.heap.size + 1, 2, none⟩ = some (.string aa) := by rw [hwp]; exact (cell_far _ _ _ _ _ _ ngc).trans ((SR.out.cells _ 2 lbcw8).trans bcw82)
            have pbc3 : wp.cell? ⟨w.heap.size + 1, 3, none⟩ = some (.string n) := by rw [hwp]; exact (cell_far _ _ _ _ _ _ ngc).trans ((SR.out.cells _ 3 lbcw8).trans bcw83)
            have pbc4 : wp.cell? ⟨w.heap.size + 1, 4, none⟩ = some (.int .i64 to_) := by rw [hwp]; exact (cell_far _ _ _ _ _ _ ngc).trans ((SR.out.cells _ 4 lbcw8).trans bcw84)
            have pbc5 : wp.cell? ⟨w.heap.size + 1, 5, none⟩ = some (.int .i64 dk) := by rw [hwp]; exact (cell_far _ _ _ _ _ _ ngc).trans ((SR.out.cells _ 5 lbcw8).trans bcw85)
            have pbc6 : wp.cell? ⟨w.heap.size + 1, 6, none⟩ = some (.int .i64 dn) := by rw [hwp]; exact (cell_far _ _ _ _ _ _ ngc).trans ((SR.out.cells _ 6 lbcw8).trans bcw86)
            have pbc7 : wp.cell? ⟨w.heap.size + 1, 7, none⟩ = some (.string ds) := by rw [hwp]; exact (cell_far _ _ _ _ _ _ ngc).trans ((SR.out.cells _ 7 lbcw8).trans bcw87)
            have zp : wp.heap.size = wr.heap.size := by rw [hwp]; simp [World.setCell]
            clear bcw80 bcw81 bcw82 bcw83 bcw84 bcw85 bcw86 bcw87 bsw80 bnw80 k7 hT hW1 hW2 hW3 hW4 hW4' hOut herr hall hrl hrv ngs ngc ngo
            go_upto_region 24 with (fail)
            rw [← hwp]
            clear hwp j7 f7
            go_wp2_with (fail)
            refine (HAP.out _ SWP.out).mono ?_
            rintro e w9 ⟨A7, n7, c7, tw, rfl, hT7, s9⟩
            have HT7 := Lib.hid hT7
            have SP9 := Lib.hid s9
            have qbn := (s9.cells _ 0 (by omega)).trans pbn
            have z9 : w6.heap.size < w9.heap.size := Nat.lt_of_lt_of_le (by omega) s9.size
            clear hT7 s9 pbn pbs pbc0 pbc1 pbc2 pbc3 pbc4 pbc5 pbc6 pbc7 HAP
            have HSS : Hid (∀ W, Same w9 W → Calls Tryz.prog 20 #[.agg #[.slice A1 m1 c1], .agg #[.slice A7 n7 c7]] W fun e w' => e = .returned (.bool true) ∧ Same W w') := Lib.hid fun W s => by
              have h := same_s_ok ⟨A1, m1, c1⟩ ⟨A7, n7, c7⟩ tn tw W (HTN.out.same (SP9.out.trans s)) (HT7.out.1.same s)
              rw [decide_eq_true (HTNE.out.trans HT7.out.2.symm)] at h
              exact h
            have HS43 : Hid (∀ W, Same w9 W → Calls Tryz.prog 21 #[.slice Ao6 n6 c6, .slice (some ⟨go, 0, none⟩) tbs.length cp] W fun e w' => e = .returned (.bool true) ∧ Same W w') := Lib.hid fun W s => by
              have h := same43_ok ⟨Ao6, n6, c6⟩ ⟨some ⟨go, 0, none⟩, tbs.length, cp⟩ ts6 _ W (HT1.out.same (SP9.out.trans s)) (HT2.out.same (SP9.out.trans s))
              rw [decide_eq_true HEQ.out] at h
              exact h
            go_wp2_with (fail)
            refine (HSS.out _ ?_).mono ?_
            · (repeat (first | (with_reducible refine Same.setCell ?_ (by dsimp only; omega) _) | (with_reducible refine Same.drew ?_) | (with_reducible refine Same.alloc ?_ _)))
              exact Same.refl _
            rintro e w10 ⟨rfl, s10⟩
            have S10 : Hid (Same w9 w10) := by
              refine Same.trans ?_ s10
              (repeat (first | (with_reducible refine Same.setCell ?_ (by dsimp only; omega) _) | (with_reducible refine Same.drew ?_) | (with_reducible refine Same.alloc ?_ _)))
              exact Same.refl _
            clear s10
            go_wp2_with (fail)
            refine (HS43.out _ S10.out).mono ?_
            rintro e w11 ⟨rfl, s11⟩
            have S11 : Hid (Same w w11) := SWP.out.trans (SP9.out.trans (S10.out.trans s11))
            clear s11
            go_wp2_with (fail)
            go_ret
            exact ⟨rfl, S11.out⟩
end Go.Proofs.YtpakimhhpeaefaaGreatDoor

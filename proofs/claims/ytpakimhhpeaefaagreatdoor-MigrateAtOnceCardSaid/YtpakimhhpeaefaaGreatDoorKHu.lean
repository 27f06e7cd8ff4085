/- MigrateClosed: the walk. Conditions: Laid. -/
import Derived.Test.YtpakimhhpeaefaaGreatDoorKHp
set_option linter.unusedSimpArgs false
set_option linter.unusedVariables false
namespace Go.Proofs.YtpakimhhpeaefaaGreatDoor
open Go.RowKit
theorem fin_closed {m : Mg} (h : m.finE = 0) : m.finish.closed = true := by unfold Mg.finish; rw [if_pos h]
theorem step_still {m : Mg} (hc : m.closed = false) (n : Int) : (m.step n).tabs = m.tabs ∧ (m.step n).closed = false ∧ (m.step n).rows = m.rows ∧ (m.step n).s = m.s ∧ (m.step n).c = m.c ∧ (m.step n).ti = m.ti := by
  have e : m.step n = m.steps (m.count n) := by unfold Mg.step; rw [hc]; rfl
  obtain ⟨t1, t2, t3, t4, t5⟩ := Mg.steps_tabs (m.count n) m
  rw [e]
  exact ⟨t1, t5.trans hc, Mg.steps_rows _ m, t2, t3, t4⟩
set_option maxHeartbeats 8000000 in
set_option maxRecDepth 100000 in
theorem closed_walk (h : Hd) (ts : List RT) (c : Cg)  (ht : Hd) (tbs : List Tbl) (ho : Hd) (ops : List Opn) (w : World) (l : Laid w) (a : TabsAt w h ts) (hn : okS c.name) (hd : okS c.dflt.s) (bq : Bool) (tt : TablesAt w (fun k => k < w.heap.size) ht tbs) (oo : OpsAt w (fun k => k < w.heap.size) ho ops) :
    Calls Tryz.prog 8 #[.agg #[h.val], c.val, ht.val, ho.val, .bool bq] w fun e w' => e = .returned (.bool true) ∧ Same w w' := by
  have HL := Lib.hid l
  have HTA := Lib.hid a
  have HH := Lib.hid (fun W (s : Same w W) => head43_ok W (l.same s))
  have HS := Lib.hid (fun W (s : Same w W) => smallM_ok h ht ho ts tbs ops W (a.same s) (tt.same s) (oo.same s))
  have HER := Lib.hid (fun (few : Few ts) (hE : startE (ts.map RT.tb) c (rowsOf tbs) ≠ 0) W (s : Same w W) => start_err h ts c ht tbs W (a.same s) few hn hd (tt.same s) hE)
  have HOK := Lib.hid (fun (hw : WasL (ts.map RT.tb) 10) (tsl : ts.length ≤ 1000000) (fr : FewR (rowsOf tbs)) (hE : startE (ts.map RT.tb) c (rowsOf tbs) = 0) W (s : Same w W) => start_liveX h ts c ht tbs W (l.same s) (a.same s) hw (by decide) tsl hn hd (tt.same s) fr hE)
  have HPL := Lib.hid (fun (hf : fewB (rowsOf tbs) = true) (h20 : ops.length ≤ 20) (w2 w3 : World) (g : Nat) (s : Same w w2) (L : LiveX w2 w3 g (start (ts.map RT.tb) c (rowsOf tbs)) w2.heap.size w3.heap.size (fun _ => False)) => play_live (K := fun _ => True) ht tbs ho ops w s tt oo hf h20 L)
  have HON := Lib.hid hn
  have HOD := Lib.hid hd
  have htl : tbs.length = ht.n := tt.1.1
  have htb : ht.n ≤ 9223372036854775807 := tt.1.2.1
  have hol : ops.length = ho.n := oo.1.1
  have hob : ho.n ≤ 9223372036854775807 := oo.1.2.1
  obtain ⟨A, m, cc⟩ := h
  obtain ⟨At_, tm, tc⟩ := ht
  obtain ⟨Ao, om, oc⟩ := ho
  obtain ⟨k, t, aa, n, to_, ⟨dk, dn, ds⟩⟩ := c
  have htl' : tbs.length = tm := htl
  have htb' : tm ≤ 9223372036854775807 := htb
  have hol' : ops.length = om := hol
  have hob' : om ≤ 9223372036854775807 := hob
  subst htl' hol'
  clear htl htb hol hob a l hn hd tt oo
  show Calls Tryz.prog 8 #[.agg #[.slice A m cc], .agg #[.int .i64 k, .string t, .string aa, .string n, .int .i64 to_, .int .i64 dk, .int .i64 dn, .string ds], .slice At_ tbs.length tc, .slice Ao ops.length oc, .bool bq] w _
  obtain ⟨q, hq⟩ : ∃ q, q = smallM (ts.map RT.tb) (rowsOf tbs) ops := ⟨_, rfl⟩
  have HS' : Hid (∀ W, Same w W → Calls Tryz.prog 11 #[.agg #[.slice A m cc], .slice At_ tbs.length tc, .slice Ao ops.length oc] W fun e w' => e = .returned (.bool q) ∧ Same W w') := by rw [hq]; exact HS
  have HQ := Lib.hid hq
  clear HS hq
  go_enter Tryz.func8, Tryz.ntmps8
  go_wp2_with (fail)
  obtain ⟨W0, hW0⟩ : ∃ W0, W0 = (w.alloc (.cells #[.slice A m cc] 24)).alloc (.cells #[.int .i64 k, .string t, .string aa, .string n, .int .i64 to_, .int .i64 dk, .int .i64 dn, .string ds] 28) := ⟨_, rfl⟩
  have S_w_W0 : Hid (Same w W0) := by rw [hW0]; exact ((Same.refl w).alloc _).alloc _
  have Bbs : Blk W0 (w.heap.size) 24 #[.slice A m cc] := by rw [hW0]; exact ((Blk.new w _ _).alloc _)
  have Bbc : Blk W0 (w.heap.size + 1) 28 #[.int .i64 k, .string t, .string aa, .string n, .int .i64 to_, .int .i64 dk, .int .i64 dn, .string ds] := by
    have e : w.heap.size + 1 = (w.alloc (.cells #[.slice A m cc] 24)).heap.size := by simp
    rw [hW0, e]; exact (Blk.new _ _ _)
  rw [← hW0]
  clear hW0
  have lbsW0 := Bbs.lt
  have bsW00 : W0.cell? ⟨w.heap.size, 0, none⟩ = some (.slice A m cc) := Bbs.cell 0
  clear Bbs
  have lbcW0 := Bbc.lt
  have bcW00 : W0.cell? ⟨w.heap.size + 1, 0, none⟩ = some (.int .i64 k) := Bbc.cell 0
  have bcW01 : W0.cell? ⟨w.heap.size + 1, 1, none⟩ = some (.string t) := Bbc.cell 1
  have bcW02 : W0.cell? ⟨w.heap.size + 1, 2, none⟩ = some (.string aa) := Bbc.cell 2
  have bcW03 : W0.cell? ⟨w.heap.size + 1, 3, none⟩ = some (.string n) := Bbc.cell 3
  have bcW04 : W0.cell? ⟨w.heap.size + 1, 4, none⟩ = some (.int .i64 to_) := Bbc.cell 4
  have bcW05 : W0.cell? ⟨w.heap.size + 1, 5, none⟩ = some (.int .i64 dk) := Bbc.cell 5
  have bcW06 : W0.cell? ⟨w.heap.size + 1, 6, none⟩ = some (.int .i64 dn) := Bbc.cell 6
  have bcW07 : W0.cell? ⟨w.heap.size + 1, 7, none⟩ = some (.string ds) := Bbc.cell 7
  clear Bbc
  refine (HH.out _ S_w_W0.out).mono ?_
  rintro e w1 ⟨rfl, s1⟩
  have S_w_w1 : Hid (Same w w1) := S_w_W0.out.trans s1
  have lbsw1 : w.heap.size < w1.heap.size := Nat.lt_of_lt_of_le lbsW0 (Same.size s1)
  have bsw10 : w1.cell? ⟨w.heap.size, 0, none⟩ = some (.slice A m cc) := (Same.cells s1 _ _ lbsW0).trans bsW00
  have lbcw1 : w.heap.size + 1 < w1.heap.size := Nat.lt_of_lt_of_le lbcW0 (Same.size s1)
  have bcw10 : w1.cell? ⟨w.heap.size + 1, 0, none⟩ = some (.int .i64 k) := (Same.cells s1 _ _ lbcW0).trans bcW00
  have bcw11 : w1.cell? ⟨w.heap.size + 1, 1, none⟩ = some (.string t) := (Same.cells s1 _ _ lbcW0).trans bcW01
  have bcw12 : w1.cell? ⟨w.heap.size + 1, 2, none⟩ = some (.string aa) := (Same.cells s1 _ _ lbcW0).trans bcW02
  have bcw13 : w1.cell? ⟨w.heap.size + 1, 3, none⟩ = some (.string n) := (Same.cells s1 _ _ lbcW0).trans bcW03
  have bcw14 : w1.cell? ⟨w.heap.size + 1, 4, none⟩ = some (.int .i64 to_) := (Same.cells s1 _ _ lbcW0).trans bcW04
  have bcw15 : w1.cell? ⟨w.heap.size + 1, 5, none⟩ = some (.int .i64 dk) := (Same.cells s1 _ _ lbcW0).trans bcW05
  have bcw16 : w1.cell? ⟨w.heap.size + 1, 6, none⟩ = some (.int .i64 dn) := (Same.cells s1 _ _ lbcW0).trans bcW06
  have bcw17 : w1.cell? ⟨w.heap.size + 1, 7, none⟩ = some (.string ds) := (Same.cells s1 _ _ lbcW0).trans bcW07
  clear S_w_W0 lbsW0 bsW00 lbcW0 bcW00 bcW01 bcW02 bcW03 bcW04 bcW05 bcW06 bcW07
  clear s1
  clear HH
  go_wp2_with (fail)
  refine (HS'.out _ S_w_w1.out).mono ?_
  rintro e w2 ⟨rfl, s2⟩
  have S_w_w2 : Hid (Same w w2) := S_w_w1.out.trans s2
  have lbsw2 : w.heap.size < w2.heap.size := Nat.lt_of_lt_of_le lbsw1 (Same.size s2)
  have bsw20 : w2.cell? ⟨w.heap.size, 0, none⟩ = some (.slice A m cc) := (Same.cells s2 _ _ lbsw1).trans bsw10
  have lbcw2 : w.heap.size + 1 < w2.heap.size := Nat.lt_of_lt_of_le lbcw1 (Same.size s2)
  have bcw20 : w2.cell? ⟨w.heap.size + 1, 0, none⟩ = some (.int .i64 k) := (Same.cells s2 _ _ lbcw1).trans bcw10
  have bcw21 : w2.cell? ⟨w.heap.size + 1, 1, none⟩ = some (.string t) := (Same.cells s2 _ _ lbcw1).trans bcw11
  have bcw22 : w2.cell? ⟨w.heap.size + 1, 2, none⟩ = some (.string aa) := (Same.cells s2 _ _ lbcw1).trans bcw12
  have bcw23 : w2.cell? ⟨w.heap.size + 1, 3, none⟩ = some (.string n) := (Same.cells s2 _ _ lbcw1).trans bcw13
  have bcw24 : w2.cell? ⟨w.heap.size + 1, 4, none⟩ = some (.int .i64 to_) := (Same.cells s2 _ _ lbcw1).trans bcw14
  have bcw25 : w2.cell? ⟨w.heap.size + 1, 5, none⟩ = some (.int .i64 dk) := (Same.cells s2 _ _ lbcw1).trans bcw15
  have bcw26 : w2.cell? ⟨w.heap.size + 1, 6, none⟩ = some (.int .i64 dn) := (Same.cells s2 _ _ lbcw1).trans bcw16
  have bcw27 : w2.cell? ⟨w.heap.size + 1, 7, none⟩ = some (.string ds) := (Same.cells s2 _ _ lbcw1).trans bcw17
  clear S_w_w1 lbsw1 bsw10 lbcw1 bcw10 bcw11 bcw12 bcw13 bcw14 bcw15 bcw16 bcw17
  clear s2
  have SW2 : Hid (Same w w2) := S_w_w2
  clear HS'
  cases q with
  | false =>
    go_wp2_with (fail)
    go_ret
    first | exact ⟨rfl, S_w_w2.out⟩ | exact ⟨rfl, S_w_w2.out.alloc _⟩ | exact ⟨rfl, (S_w_w2.out.alloc _).alloc _⟩
  | true =>
    have HP := Lib.hid (smallM_parts HQ.out.symm)
    have HW : Hid (WasL (ts.map RT.tb) 10) := wasL_small HP.out.1
    have HTL : Hid (ts.length ≤ 1000000) := by have := len_small HP.out.1; rw [List.length_map] at this; exact this
    have HFR := Lib.hid (fewR_of HP.out.2.1)
    have HT6 : Hid (tbs.length ≤ 6) := tabs_le6 HP.out.2.1
    by_cases hE : startE (ts.map RT.tb) ⟨k, t, aa, n, to_, ⟨dk, dn, ds⟩⟩ (rowsOf tbs) = 0
    case neg =>
      obtain ⟨E1, hE1⟩ : ∃ E1, E1 = startE (ts.map RT.tb) ⟨k, t, aa, n, to_, ⟨dk, dn, ds⟩⟩ (rowsOf tbs) := ⟨_, rfl⟩
      have HX : Hid (∀ W, Same w W → Calls Tryz.prog 12 #[.agg #[.slice A m cc], .agg #[.int .i64 k, .string t, .string aa, .string n, .int .i64 to_, .int .i64 dk, .int .i64 dn, .string ds], .slice At_ tbs.length tc] W fun e w' => e = .returned (.tuple #[.pointer none, .int .i64 E1]) ∧ Same W w') := by rw [hE1]; exact HER.out (few_was rfl HW.out (by decide)) hE
      rw [← hE1] at hE
      have e1 : (E1 != 0) = true := by simp [hE]
      clear hE1 hE HPL HOK
      go_wp2_with (fail)
      refine (HX.out _ S_w_w2.out).mono ?_
      rintro e w4 ⟨rfl, s4⟩
      have S_w_w4 : Hid (Same w w4) := S_w_w2.out.trans s4
      have lbsw4 : w.heap.size < w4.heap.size := Nat.lt_of_lt_of_le lbsw2 (Same.size s4)
      have bsw40 : w4.cell? ⟨w.heap.size, 0, none⟩ = some (.slice A m cc) := (Same.cells s4 _ _ lbsw2).trans bsw20
      have lbcw4 : w.heap.size + 1 < w4.heap.size := Nat.lt_of_lt_of_le lbcw2 (Same.size s4)
      have bcw40 : w4.cell? ⟨w.heap.size + 1, 0, none⟩ = some (.int .i64 k) := (Same.cells s4 _ _ lbcw2).trans bcw20
      have bcw41 : w4.cell? ⟨w.heap.size + 1, 1, none⟩ = some (.string t) := (Same.cells s4 _ _ lbcw2).trans bcw21
      have bcw42 : w4.cell? ⟨w.heap.size + 1, 2, none⟩ = some (.string aa) := (Same.cells s4 _ _ lbcw2).trans bcw22
      have bcw43 : w4.cell? ⟨w.heap.size + 1, 3, none⟩ = some (.string n) := (Same.cells s4 _ _ lbcw2).trans bcw23
      have bcw44 : w4.cell? ⟨w.heap.size + 1, 4, none⟩ = some (.int .i64 to_) := (Same.cells s4 _ _ lbcw2).trans bcw24
      have bcw45 : w4.cell? ⟨w.heap.size + 1, 5, none⟩ = some (.int .i64 dk) := (Same.cells s4 _ _ lbcw2).trans bcw25
      have bcw46 : w4.cell? ⟨w.heap.size + 1, 6, none⟩ = some (.int .i64 dn) := (Same.cells s4 _ _ lbcw2).trans bcw26
      have bcw47 : w4.cell? ⟨w.heap.size + 1, 7, none⟩ = some (.string ds) := (Same.cells s4 _ _ lbcw2).trans bcw27
      clear S_w_w2 lbsw2 bsw20 lbcw2 bcw20 bcw21 bcw22 bcw23 bcw24 bcw25 bcw26 bcw27
      clear s4
      go_wp2_with (fail)
      refine (step_none _ 1).mono ?_
      rintro e w5 ⟨rfl, rfl⟩
      go_wp2_with (fail)
      refine (put_none _ 0 none 0 0).mono ?_
      rintro e w5 ⟨rfl, rfl⟩
      go_wp2_with (fail)
      refine (finish_none _).mono ?_
      rintro e w7 ⟨rfl, s7⟩
      have S7 : Hid (Same w w7) := S_w_w4.out.trans s7
      have hz7 := S7.out.size
      clear s7
      go_wp2_with (fail)
      refine (abandon_none _).mono ?_
      rintro e w8 ⟨rfl, hw8⟩
      subst hw8
      go_wp2_with (fail)
      go_ret
      refine ⟨rfl, ?_⟩
      (repeat (first | (with_reducible refine Same.setCell ?_ (by dsimp only; omega) _) | (with_reducible refine Same.drew ?_) | (with_reducible refine Same.alloc ?_ _)))
      exact S7.out
    case pos =>
      have HX := Lib.hid (HOK.out HW.out HTL.out HFR.out.1 hE)
      have HY := Lib.hid (HPL.out HP.out.2.1 HP.out.2.2.1)
      have HM1 : Hid ((start (ts.map RT.tb) ⟨k, t, aa, n, to_, ⟨dk, dn, ds⟩⟩ (rowsOf tbs)).Fine ∧ errOf (ts.map RT.tb) ⟨k, t, aa, n, to_, ⟨dk, dn, ds⟩⟩ = 0) := ⟨start_fine hE, (start_fine hE).err⟩
      obtain ⟨M0, hM0⟩ : ∃ M0, M0 = start (ts.map RT.tb) ⟨k, t, aa, n, to_, ⟨dk, dn, ds⟩⟩ (rowsOf tbs) := ⟨_, rfl⟩
      have HM0 : Hid (M0.Fine ∧ M0.s = (ts.map RT.tb) ∧ M0.c = ⟨k, t, aa, n, to_, ⟨dk, dn, ds⟩⟩ ∧ M0.tabs = rowsOf tbs) := by rw [hM0]; exact Lib.hid ⟨start_fine hE, rfl, rfl, rfl⟩
      rw [← hM0] at HX HY
      clear hM0 hE HER HOK HPL
      go_wp2_with (fail)
      refine (HX.out _ SW2.out).mono ?_
      rintro e w3 ⟨g, rfl, lv⟩
      have LV := Lib.hid lv
      clear lv HX
      go_wp2_with (fail)
      refine (HY.out _ _ _ SW2.out LV.out).mono ?_
      rintro e w4 ⟨Ap, cp, M, hi, tb, rfl, D⟩
      have DD := Lib.hid D
      have HFEW : Hid (FewR M.tabs) := D.fewR (show tbs.length ≤ 1000000 by have := HT6.out; omega) (by decide)
      have HRW : Hid (M.rows.length ≤ 40) := rows_le D.few
      clear D HY LV
      go_wp2_with (fail)
      refine (DD.out.live.step 1000 (by have := HRW.out; omega) (by decide) (by decide)).mono ?_
      rintro e w5 ⟨rfl, lv5, cc5⟩
      have HST := Lib.hid (step_still DD.out.closed 1000)
      obtain ⟨M1, hM1⟩ : ∃ M1, M1 = M.step 1000 := ⟨_, rfl⟩
      rw [← hM1] at lv5 HST
      have LV5 := Lib.hid lv5
      have HF1 : Hid (FewR M1.tabs) := by rw [HST.out.1]; exact HFEW
      have HD1 : Hid (M1.done.length ≤ 1000000) := by
        have h1 := lv5.fine.dl
        rw [HST.out.2.2.1] at h1
        have h2 := HRW.out
        exact Lib.hid (by omega)
      have HC1 : Hid (M1.closed = false) := HST.out.2.1
      have S5 : Hid (Same w w5) := SW2.out.trans lv5.same
      clear lv5 cc5 hM1
      go_wp2_with (fail)
      have TAIL : Hid (∀ (w6 : World) (M2 : Mg) (lo hi : Nat) (X : Nat → Prop), LiveX w2 w6 g M2 lo hi X → M2.closed = true → ∀ W, Same w6 W → LiveM w2 W g M2 ∧ M2.closed = true ∧ (∀ W', Same w6 W' → Calls Tryz.prog 18 #[.pointer (some ⟨g, 0, none⟩)] W' fun e w' => e = .returned (.tuple #[.agg #[.slice none 0 0], .slice none 0 0, .int .i64 22]) ∧ Same W' w')) := Lib.hid fun w6 M2 lo hi X l hc W s =>
        ⟨(l.grow s (fun k hk => .inl hk)).live, hc, fun W' s' => by
          have e : M2.finE = 22 := by unfold Mg.finE; rw [if_pos hc]
          have h := (l.grow s' (fun k hk => .inl hk)).finishE (by rw [e]; decide)
          rw [e] at h
          exact h.mono fun e w' ⟨he, _, s2⟩ => ⟨he, s2⟩⟩
      by_cases hfe : M1.finE = 0
      case pos =>
        refine (LV5.out.finish HF1.out HD1.out hfe).mono ?_
        rintro e w6 ⟨A1, m1, c1, go, n6, c6, rfl, -, lv6, cc6⟩
        have HT := Lib.hid (TAIL.out w6 _ _ _ _ lv6 (fin_closed hfe))
        have S6 : Hid (Same w w6) := SW2.out.trans lv6.same
        clear lv6 cc6 hfe TAIL LV5 HF1 HD1
        cases bq with
        | true =>
          go_wp2_with (fail)
          refine ((HT.out _ ?_).1.stepC (HT.out _ (Same.refl _)).2.1 1).mono ?_
          · (repeat (first | (with_reducible refine Same.setCell ?_ (by dsimp only; omega) _) | (with_reducible refine Same.drew ?_) | (with_reducible refine Same.alloc ?_ _)))
            exact Same.refl _
          rintro e w7 ⟨rfl, hw7⟩
          subst hw7
          go_wp2_with (fail)
          refine ((HT.out _ ?_).1.putC (HT.out _ (Same.refl _)).2.1 0 none 0 0).mono ?_
          · (repeat (first | (with_reducible refine Same.setCell ?_ (by dsimp only; omega) _) | (with_reducible refine Same.drew ?_) | (with_reducible refine Same.alloc ?_ _)))
            exact Same.refl _
          rintro e w7 ⟨rfl, hw7⟩
          subst hw7
          go_wp2_with (fail)
          refine ((HT.out _ (Same.refl _)).2.2 _ ?_).mono ?_
          · (repeat (first | (with_reducible refine Same.setCell ?_ (by dsimp only; omega) _) | (with_reducible refine Same.drew ?_) | (with_reducible refine Same.alloc ?_ _)))
            exact Same.refl _
          rintro e w7 ⟨rfl, s7⟩
          have S7 : Hid (Same w6 w7) := by
            refine Same.trans ?_ s7
            (repeat (first | (with_reducible refine Same.setCell ?_ (by dsimp only; omega) _) | (with_reducible refine Same.drew ?_) | (with_reducible refine Same.alloc ?_ _)))
            exact Same.refl _
          have hz7 := S7.out.size
          clear s7
          go_wp2_with (fail)
          refine ((HT.out _ ?_).1.abandonC (HT.out _ (Same.refl _)).2.1).mono ?_
          · (repeat (first | (with_reducible refine Same.setCell ?_ (by dsimp only; omega) _) | (with_reducible refine Same.drew ?_) | (with_reducible refine Same.alloc ?_ _)))
            exact S7.out
          rintro e w8 ⟨rfl, hw8⟩
          subst hw8
          go_wp2_with (fail)
          go_ret
          refine ⟨rfl, S6.out.trans ?_⟩
          (repeat (first | (with_reducible refine Same.setCell ?_ (by dsimp only; omega) _) | (with_reducible refine Same.drew ?_) | (with_reducible refine Same.alloc ?_ _)))
          exact S7.out
        | false =>
          go_wp2_with (fail)
          refine ((HT.out _ ?_).1.abandonC (HT.out _ (Same.refl _)).2.1).mono ?_
          · (repeat (first | (with_reducible refine Same.setCell ?_ (by dsimp only; omega) _) | (with_reducible refine Same.drew ?_) | (with_reducible refine Same.alloc ?_ _)))
            exact Same.refl _
          rintro e w9 ⟨rfl, hw9⟩
          subst hw9
          go_wp2_with (fail)
          refine ((HT.out _ ?_).1.stepC (HT.out _ (Same.refl _)).2.1 1).mono ?_
          · (repeat (first | (with_reducible refine Same.setCell ?_ (by dsimp only; omega) _) | (with_reducible refine Same.drew ?_) | (with_reducible refine Same.alloc ?_ _)))
            exact Same.refl _
          rintro e w7 ⟨rfl, hw7⟩
          subst hw7
          go_wp2_with (fail)
          refine ((HT.out _ ?_).1.putC (HT.out _ (Same.refl _)).2.1 0 none 0 0).mono ?_
          · (repeat (first | (with_reducible refine Same.setCell ?_ (by dsimp only; omega) _) | (with_reducible refine Same.drew ?_) | (with_reducible refine Same.alloc ?_ _)))
            exact Same.refl _
          rintro e w7 ⟨rfl, hw7⟩
          subst hw7
          go_wp2_with (fail)
          refine ((HT.out _ (Same.refl _)).2.2 _ ?_).mono ?_
          · (repeat (first | (with_reducible refine Same.setCell ?_ (by dsimp only; omega) _) | (with_reducible refine Same.drew ?_) | (with_reducible refine Same.alloc ?_ _)))
            exact Same.refl _
          rintro e w7 ⟨rfl, s7⟩
          have S7 : Hid (Same w6 w7) := by
            refine Same.trans ?_ s7
            (repeat (first | (with_reducible refine Same.setCell ?_ (by dsimp only; omega) _) | (with_reducible refine Same.drew ?_) | (with_reducible refine Same.alloc ?_ _)))
            exact Same.refl _
          have hz7 := S7.out.size
          clear s7
          go_wp2_with (fail)
          refine ((HT.out _ ?_).1.abandonC (HT.out _ (Same.refl _)).2.1).mono ?_
          · (repeat (first | (with_reducible refine Same.setCell ?_ (by dsimp only; omega) _) | (with_reducible refine Same.drew ?_) | (with_reducible refine Same.alloc ?_ _)))
            exact S7.out
          rintro e w8 ⟨rfl, hw8⟩
          subst hw8
          go_wp2_with (fail)
          go_ret
          refine ⟨rfl, S6.out.trans ?_⟩
          (repeat (first | (with_reducible refine Same.setCell ?_ (by dsimp only; omega) _) | (with_reducible refine Same.drew ?_) | (with_reducible refine Same.alloc ?_ _)))
          exact S7.out
      case neg =>
        obtain ⟨E6, hE6⟩ : ∃ E6, E6 = M1.finE := ⟨_, rfl⟩
        have HFE := LV5.out.finishE hfe
        rw [← hE6] at HFE hfe
        have t6 : (E6 != 0) = true := by simp; exact hfe
        clear hE6 hfe
        refine HFE.mono ?_
        rintro e w5' ⟨rfl, lv5', s5'⟩
        have HAB := Lib.hid (fun W (s : Same w5' W) => (lv5'.grow s (fun k hk => .inl hk)).abandon HF1.out HC1.out)
        clear lv5' s5' HFE LV5 HD1
        go_wp2_with (fail)
        refine (HAB.out _ ?_).mono ?_
        · (repeat (first | (with_reducible refine Same.setCell ?_ (by dsimp only; omega) _) | (with_reducible refine Same.drew ?_) | (with_reducible refine Same.alloc ?_ _)))
          exact Same.refl _
        rintro e w6 ⟨A9, n9, c9, rfl, -, lv6, -⟩
        have HT := Lib.hid (TAIL.out w6 _ _ _ _ lv6 rfl)
        have S6 : Hid (Same w w6) := SW2.out.trans lv6.same
        clear lv6 HAB TAIL
        go_wp2_with (fail)
        refine ((HT.out _ ?_).1.stepC (HT.out _ (Same.refl _)).2.1 1).mono ?_
        · (repeat (first | (with_reducible refine Same.setCell ?_ (by dsimp only; omega) _) | (with_reducible refine Same.drew ?_) | (with_reducible refine Same.alloc ?_ _)))
          exact Same.refl _
        rintro e w7 ⟨rfl, hw7⟩
        subst hw7
        go_wp2_with (fail)
        refine ((HT.out _ ?_).1.putC (HT.out _ (Same.refl _)).2.1 0 none 0 0).mono ?_
        · (repeat (first | (with_reducible refine Same.setCell ?_ (by dsimp only; omega) _) | (with_reducible refine Same.drew ?_) | (with_reducible refine Same.alloc ?_ _)))
          exact Same.refl _
        rintro e w7 ⟨rfl, hw7⟩
        subst hw7
        go_wp2_with (fail)
        refine ((HT.out _ (Same.refl _)).2.2 _ ?_).mono ?_
        · (repeat (first | (with_reducible refine Same.setCell ?_ (by dsimp only; omega) _) | (with_reducible refine Same.drew ?_) | (with_reducible refine Same.alloc ?_ _)))
          exact Same.refl _
        rintro e w7 ⟨rfl, s7⟩
        have S7 : Hid (Same w6 w7) := by
          refine Same.trans ?_ s7
          (repeat (first | (with_reducible refine Same.setCell ?_ (by dsimp only; omega) _) | (with_reducible refine Same.drew ?_) | (with_reducible refine Same.alloc ?_ _)))
          exact Same.refl _
        have hz7 := S7.out.size
        clear s7
        go_wp2_with (fail)
        refine ((HT.out _ ?_).1.abandonC (HT.out _ (Same.refl _)).2.1).mono ?_
        · (repeat (first | (with_reducible refine Same.setCell ?_ (by dsimp only; omega) _) | (with_reducible refine Same.drew ?_) | (with_reducible refine Same.alloc ?_ _)))
          exact S7.out
        rintro e w8 ⟨rfl, hw8⟩
        subst hw8
        go_wp2_with (fail)
        go_ret
        refine ⟨rfl, S6.out.trans ?_⟩
        (repeat (first | (with_reducible refine Same.setCell ?_ (by dsimp only; omega) _) | (with_reducible refine Same.drew ?_) | (with_reducible refine Same.alloc ?_ _)))
        exact S7.out
end Go.Proofs.YtpakimhhpeaefaaGreatDoor

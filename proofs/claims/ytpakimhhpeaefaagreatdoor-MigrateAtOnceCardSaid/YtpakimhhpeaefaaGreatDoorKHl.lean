/- Are tables of rows equal: cleanseref43's Same: contract. Conditions: none. -/
import Derived.Test.YtpakimhhpeaefaaGreatDoorKGa
import Derived.Test.YtpakimhhpeaefaaGreatDoorKRa
import Derived.Deep.QuietTactic
import Derived.BigQuiet
set_option linter.unusedSimpArgs false
set_option linter.unusedVariables false
namespace Go.Proofs.YtpakimhhpeaefaaGreatDoor
open Go.RowKit

theorem rowsOf_at {ts : List Tbl} {k : Nat} (h : k < ts.length) : (rowsOf ts)[k]'(by simpa [rowsOf] using h) = ts[k].rows := by simp [rowsOf]
set_option maxHeartbeats 4000000 in
set_option maxRecDepth 100000 in
theorem same43_ok {K K' : Nat → Prop} (h1 h2 : Hd) (ts us : List Tbl) (w : World) (a1 : TablesAt w K h1 ts) (a2 : TablesAt w K' h2 us) :
    Calls Tryz.prog 21 #[h1.val, h2.val] w fun e w' => e = .returned (.bool (decide (rowsOf ts = rowsOf us))) ∧ Same w w' := by
  have hn : ts.length = h1.n := a1.1.1
  have hp : us.length = h2.n := a2.1.1
  have hb : h1.n ≤ 9223372036854775807 := a1.1.2.1
  have hb2 : h2.n ≤ 9223372036854775807 := a2.1.2.1
  have H1 := Lib.hid a1
  have H2 := Lib.hid a2
  clear a1 a2
  obtain ⟨A, n, c⟩ := h1
  obtain ⟨B, p, d⟩ := h2
  simp only at hn hp hb hb2
  subst hn hp
  show Calls Tryz.prog 21 #[.slice A ts.length c, .slice B us.length d] w _
  have M1 : Hid ((rowsOf ts).length = ts.length) := List.length_map _
  have M2 : Hid ((rowsOf us).length = us.length) := List.length_map _
  by_cases hlen : ts.length = us.length
  case neg =>
    have t1 : ((ts.length : Int) != (us.length : Int)) = true := by simp; omega
    have HL := Lib.hid hlen
    clear hlen
    go_enter Tryz.func21, Tryz.ntmps21
    go_wp2
    go_ret
    exact ⟨ret_bool (unlike_len (by rw [M1.out, M2.out]; exact HL.out)).symm, Same.refl _⟩
  have t1 : ((ts.length : Int) != (us.length : Int)) = false := by simp; omega
  have HL := Lib.hid hlen
  clear hlen
  go_enter Tryz.func21, Tryz.ntmps21
  go_wp2
  clear t1
  go_loopw [5] (fun i wr => ∃ k : Nat, k ≤ ts.length ∧ i = .int .i64 k ∧ Hid (Same w wr) ∧ Hid (Alike (rowsOf ts) (rowsOf us) k)) (fun i _ => ts.length - (intOf i).toNat)
  case atStart => exact ⟨0, Nat.zero_le _, rfl, Same.refl w, alike_zero _ _⟩
  case round =>
    obtain ⟨k, hk, rfl, S, N⟩ := hrel
    by_cases hlt : k < ts.length
    · have hlt2 : k < us.length := by have := HL.out; omega
      obtain ⟨b, off, hA, blt, c0⟩ := H1.out.1.one k hlt (v := ts[k].h.val) rfl
      obtain ⟨b2, off2, hB, blt2, d0⟩ := H2.out.1.one k hlt2 (v := us[k].h.val) rfl
      have hA' : A = some ⟨b, off, none⟩ := hA
      have hB' : B = some ⟨b2, off2, none⟩ := hB
      have HX : Hid ((rowsOf ts)[k]'(by rw [M1.out]; exact hlt) = ts[k].rows) := rowsOf_at hlt
      have HY : Hid ((rowsOf us)[k]'(by rw [M2.out]; exact hlt2) = us[k].rows) := rowsOf_at hlt2
      have HR1 : Hid (RowsAt w K ts[k]) := H1.out.2.2 _ (List.getElem_mem hlt)
      have HR2 : Hid (RowsAt w K' us[k]) := H2.out.2.2 _ (List.getElem_mem hlt2)
      obtain ⟨x, hx⟩ : ∃ x, x = ts[k] := ⟨_, rfl⟩
      obtain ⟨y, hy⟩ : ∃ y, y = us[k] := ⟨_, rfl⟩
      rw [← hx] at c0 HR1 HX
      rw [← hy] at d0 HR2 HY
      clear hx hy hA hB
      obtain ⟨⟨A1, m1, c1⟩, rs⟩ := x
      obtain ⟨⟨A2, m2, c2⟩, rs2⟩ := y
      have e1 : rs.length = m1 := HR1.out.1.1
      have e2 : rs2.length = m2 := HR2.out.1.1
      have f1 : m1 ≤ 9223372036854775807 := HR1.out.1.2.1
      have f2 : m2 ≤ 9223372036854775807 := HR2.out.1.2.1
      subst e1 e2
      have HX0 : Hid (∀ W, Same w W → W.cell? ⟨b, off + k, none⟩ = some (.slice A1 rs.length c1)) := Lib.hid fun W s => (s.cells _ _ blt).trans c0
      have HY0 : Hid (∀ W, Same w W → W.cell? ⟨b2, off2 + k, none⟩ = some (.slice A2 rs2.length c2)) := Lib.hid fun W s => (s.cells _ _ blt2).trans d0
      have x0 := HX0.out _ S.out
      have y0 := HY0.out _ S.out
      clear c0 d0
      subst hA' hB'
      have L1 : Hid ((rs.map Rw.v).length = rs.length) := List.length_map _
      have L2 : Hid ((rs2.map Rw.v).length = rs2.length) := List.length_map _
      have HX' : Hid ((rowsOf ts)[k]'(by rw [M1.out]; exact hlt) = rs.map Rw.v) := HX
      have HY' : Hid ((rowsOf us)[k]'(by rw [M2.out]; exact hlt2) = rs2.map Rw.v) := HY
      by_cases hln : rs.length = rs2.length
      case neg =>
        have t2 : ((rs.length : Int) != (rs2.length : Int)) = true := by simp; omega
        have HQ : Hid (decide (rowsOf ts = rowsOf us) = false) := by
          refine unlike_at (k := k) (by rw [M1.out]; exact hlt) (by rw [M2.out]; exact hlt2) ?_
          rw [HX'.out, HY'.out]
          intro e
          exact hln (by have := congrArg List.length e; simpa using this)
        have hki : (k : Int) < (ts.length : Int) := by omega
        have hki2 : (k : Int) < (us.length : Int) := by omega
        clear hln
        go_wp2_with (fail)
        go_quiet (fail)
        go_wp2
        go_ret
        exact ⟨ret_bool HQ.out.symm, S.out.drewN _⟩
      have t2 : ((rs.length : Int) != (rs2.length : Int)) = false := by simp; omega
      have HLN := Lib.hid hln
      clear hln
      have hki : (k : Int) < (ts.length : Int) := by omega
      have hki2 : (k : Int) < (us.length : Int) := by omega
      have SK : Hid (Same w wr) := S
      go_wp2_with (fail)
      go_quiet (fail)
      go_wp2
      clear t2 x0 y0
      go_loopw [6] (fun i wr => ∃ q : Nat, q ≤ rs.length ∧ i = .int .i64 q ∧ Hid (Same w wr) ∧ Hid (Alike (rs.map Rw.v) (rs2.map Rw.v) q)) (fun i _ => rs.length - (intOf i).toNat)
      case atStart => exact ⟨0, Nat.zero_le _, rfl, SK.out.drewN _, alike_zero _ _⟩
      case round =>
        obtain ⟨q, hq, rfl, S2, N2⟩ := hrel
        have hkI : (k : Int) < (ts.length : Int) := by omega
        have x0 := HX0.out _ S2.out
        have y0 := HY0.out _ S2.out
        by_cases hlq : q < rs.length
        · have hlq2 : q < rs2.length := by have := HLN.out; omega
          obtain ⟨b3, off3, hA1, blt3, r0⟩ := HR1.out.1.one q hlq (v := rs[q].h.val) rfl
          obtain ⟨b4, off4, hA2, blt4, s0⟩ := HR2.out.1.one q hlq2 (v := rs2[q].h.val) rfl
          have hA1' : A1 = some ⟨b3, off3, none⟩ := hA1
          have hA2' : A2 = some ⟨b4, off4, none⟩ := hA2
          have HS := Lib.hid (fun W (s : Same w W) => rows_ok rs[q].h rs2[q].h rs[q].v rs2[q].v W ((HR1.out.2.2 _ (List.getElem_mem hlq)).1.same s) ((HR2.out.2.2 _ (List.getElem_mem hlq2)).1.same s))
          have HE1 : Hid ((rs.map Rw.v)[q]'(by rw [L1.out]; exact hlq) = rs[q].v) := List.getElem_map ..
          have HE2 : Hid ((rs2.map Rw.v)[q]'(by rw [L2.out]; exact hlq2) = rs2[q].v) := List.getElem_map ..
          obtain ⟨x, hx⟩ : ∃ x, x = rs[q] := ⟨_, rfl⟩
          obtain ⟨y, hy⟩ : ∃ y, y = rs2[q] := ⟨_, rfl⟩
          rw [← hx] at r0 HS HE1
          rw [← hy] at s0 HS HE2
          obtain ⟨bb, hbb⟩ : ∃ bb, bb = decide (x.v = y.v) := ⟨_, rfl⟩
          rw [← hbb] at HS
          have HBB := Lib.hid hbb
          clear hx hy hbb hA1 hA2
          obtain ⟨⟨A3, m3, c3⟩, v3⟩ := x
          obtain ⟨⟨A4, m4, c4⟩, v4⟩ := y
          have HS' : Hid (∀ W, Same w W → Calls Tryz.prog 33 #[.slice A3 m3 c3, .slice A4 m4 c4] W fun e w' => e = .returned (.bool bb) ∧ Same W w') := HS
          have r1 : w.cell? ⟨b3, off3 + q, none⟩ = some (.slice A3 m3 c3) := r0
          have s1 : w.cell? ⟨b4, off4 + q, none⟩ = some (.slice A4 m4 c4) := s0
          have cS := regr (w := wr) (fun W s => HS'.out W (S2.out.trans s))
          have kx := cellr x0
          have ky := cellr y0
          have kr := cellr ((S2.out.cells _ _ blt3).trans r1)
          have ks := cellr ((S2.out.cells _ _ blt4).trans s1)
          subst hA1' hA2'
          clear HS HS' r0 s0 r1 s1
          go_wp2_with (fail)
          refine wp_region_quiet_below (by kernel_rfl) (by kernel_rfl) ?_
          repeat (go_big_quiet_step (first | (go_at_call 33; exact cS _ _)))
          refine wpQuiet_nil ?_
          intro _ hw'
          obtain ⟨⟨dq, osq⟩, hw''⟩ := hw'
          subst hw''
          have S3 := Lib.hid (S2.out.trans (Same.reg wr dq osq))
          generalize Sort.grow (redrawn wr dq) osq = w1 at S3 ⊢
          clear kx ky kr ks cS x0 y0
          cases bb with
          | true =>
            have HQ : Hid ((rs.map Rw.v)[q]'(by rw [L1.out]; exact hlq) = (rs2.map Rw.v)[q]'(by rw [L2.out]; exact hlq2)) := by
              show _ = _
              rw [HE1.out, HE2.out]
              exact of_decide_eq_true HBB.out.symm
            go_wp2
            go_roundw
            case rel => exact ⟨q + 1, by omega, by go_num, S3, alike_step (by rw [L1.out]; exact hlq) (by rw [L2.out]; exact hlq2) N2.out HQ.out⟩
            case measure => simp [intOf]; omega
          | false =>
            have HQ : Hid (decide (rowsOf ts = rowsOf us) = false) := by
              refine unlike_at (k := k) (by rw [M1.out]; exact hlt) (by rw [M2.out]; exact hlt2) ?_
              rw [HX'.out, HY'.out]
              intro e
              have e2 := unlike_at (l := rs.map Rw.v) (m := rs2.map Rw.v) (k := q) (by rw [L1.out]; exact hlq) (by rw [L2.out]; exact hlq2) (by rw [HE1.out, HE2.out]; exact of_decide_eq_false HBB.out.symm)
              exact of_decide_eq_false e2 e
            go_wp2
            go_ret
            exact ⟨ret_bool HQ.out.symm, S3.out⟩
        · have HQ : Hid ((rowsOf ts)[k]'(by rw [M1.out]; exact hlt) = (rowsOf us)[k]'(by rw [M2.out]; exact hlt2)) := by
            show _ = _
            rw [HX'.out, HY'.out]
            refine of_decide_eq_true (alike_end (by rw [L1.out, L2.out]; exact HLN.out) (fun j hj => N2.out j (by rw [L1.out] at hj; omega)))
          go_wp2
          go_roundw
          case rel => exact ⟨k + 1, by omega, by go_num, S2, alike_step (by rw [M1.out]; exact hlt) (by rw [M2.out]; exact hlt2) N.out HQ.out⟩
          case measure => simp [intOf]; omega
    · have HQ : Hid (decide (rowsOf ts = rowsOf us) = true) := alike_end (by rw [M1.out, M2.out]; exact HL.out) (fun j hj => N.out j (by rw [M1.out] at hj; omega))
      go_wp2
      go_ret
      exact ⟨ret_bool HQ.out.symm, S.out⟩
end Go.Proofs.YtpakimhhpeaefaaGreatDoor

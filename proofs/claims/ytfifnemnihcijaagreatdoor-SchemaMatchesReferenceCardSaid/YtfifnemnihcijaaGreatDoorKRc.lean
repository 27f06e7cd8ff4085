/- cleanseref06.Small, the law's small and moved: contracts. Conditions: none. -/
import Derived.Test.YtfifnemnihcijaaGreatDoorKRb
import Derived.Test.YtfifnemnihcijaaGreatDoorKTl
set_option linter.unusedSimpArgs false
set_option linter.unusedVariables false
namespace Go.Proofs.YtfifnemnihcijaaGreatDoor
open Go.RowKit

def smallA (a : At) : Bool := decide (a.was.length ≤ 10) && decide (a.dflt.s.size ≤ 300)
def smallT (t : Tb) : Bool := (decide (t.attrs.length ≤ 20) && decide (t.key.length ≤ 20) && decide (t.name.size ≤ 100)) && t.attrs.all smallA
def smallS (s : List Tb) : Bool := decide (s.length ≤ 24) && s.all smallT
theorem smallT_bad {t : Tb} (h : ¬ (t.attrs.length ≤ 20 ∧ t.key.length ≤ 20 ∧ t.name.size ≤ 100)) : smallT t = false := by
  cases hh : smallT t with
  | false => rfl
  | true =>
    simp only [smallT, Bool.and_eq_true, decide_eq_true_eq] at hh
    exact absurd ⟨hh.1.1.1, hh.1.1.2, hh.1.2⟩ h
theorem smallT_attr {t : Tb} {j : Nat} (hj : j < t.attrs.length) (h : smallA t.attrs[j] = false) : smallT t = false := by
  unfold smallT
  rw [show t.attrs.all smallA = false from List.all_eq_false.2 ⟨_, List.getElem_mem hj, by simp [h]⟩, Bool.and_false]
theorem smallT_good {t : Tb} (h1 : t.attrs.length ≤ 20) (h2 : t.key.length ≤ 20) (h3 : t.name.size ≤ 100) (h : ∀ j (hj : j < t.attrs.length), smallA t.attrs[j] = true) : smallT t = true := by
  unfold smallT
  rw [decide_eq_true h1, decide_eq_true h2, decide_eq_true h3]
  simp only [Bool.and_self, Bool.true_and, List.all_eq_true]
  intro a ha
  obtain ⟨j, hj, rfl⟩ := List.mem_iff_getElem.1 ha
  exact h j hj
theorem smallS_bad {s : List Tb} {k : Nat} (hk : k < s.length) (h : smallT s[k] = false) : smallS s = false := by
  unfold smallS
  rw [show s.all smallT = false from List.all_eq_false.2 ⟨_, List.getElem_mem hk, by simp [h]⟩, Bool.and_false]
theorem smallS_good {s : List Tb} (h1 : s.length ≤ 24) (h : ∀ j (hj : j < s.length), smallT s[j] = true) : smallS s = true := by
  unfold smallS
  rw [decide_eq_true h1, Bool.true_and, List.all_eq_true]
  intro a ha
  obtain ⟨j, hj, rfl⟩ := List.mem_iff_getElem.1 ha
  exact h j hj
theorem few_of_small {ts : List RT} (h : smallS (ts.map RT.tb) = true) : Few ts ∧ ts.length ≤ 24 := by
  simp only [smallS, Bool.and_eq_true, decide_eq_true_eq, List.all_eq_true, List.length_map] at h
  refine ⟨fun t ht r hr => ?_, h.1⟩
  have h2 := h.2 _ (List.mem_map_of_mem ht)
  simp only [smallT, Bool.and_eq_true, List.all_eq_true] at h2
  have h3 := h2.2 r.at_ (List.mem_map_of_mem hr)
  simp only [smallA, Bool.and_eq_true, decide_eq_true_eq] at h3
  omega

set_option maxHeartbeats 4000000 in
theorem smallS_ok (h : Hd) (ts : List RT) (w : World) (a : TabsAt w h ts) :
    Calls Tryz.prog 36 #[.agg #[h.val]] w fun e w' => e = .returned (.bool (smallS (ts.map RT.tb))) ∧ Same w w' := by
  have hn : ts.length = h.n := a.1.1
  have hb : h.n ≤ 9223372036854775807 := a.1.2.1
  have H1 := Lib.hid a
  clear a
  obtain ⟨A, n, c⟩ := h
  simp only at hn hb
  subst hn
  have M1 : Hid ((ts.map RT.tb).length = ts.length) := List.length_map _
  have MG : Hid (∀ k (hk : k < ts.length), (ts.map RT.tb)[k]'(by rw [M1.out]; exact hk) = ts[k].tb) := fun k hk => List.getElem_map ..
  show Calls Tryz.prog 36 #[.agg #[.slice A ts.length c]] w _
  by_cases h24 : 24 < ts.length
  · go_enter Tryz.func36, Tryz.ntmps36
    go_wp2
    go_ret
    exact ⟨ret_bool (by unfold smallS; rw [M1.out, decide_eq_false (by omega)]; rfl), (Same.refl w).alloc _⟩
  go_enter Tryz.func36, Tryz.ntmps36
  go_wp2
  obtain ⟨W0, hW0⟩ : ∃ W0, W0 = w.alloc (.cells #[.slice A ts.length c] 24) := ⟨_, rfl⟩
  have S0 : Hid (Same w W0) := by show Same w W0; rw [hW0]; exact (Same.refl w).alloc _
  have z0 : w.heap.size + 1 ≤ W0.heap.size := by rw [hW0]; simp
  have q0 : Hid (W0.cell? ⟨w.heap.size, 0, none⟩ = some (.slice A ts.length c)) := by show _ = _; rw [hW0]; simp
  rw [← hW0]
  clear hW0
  go_loopw [3] (fun i wr => ∃ k : Nat, k ≤ ts.length ∧ i = .int .i64 k ∧ Hid (Same W0 wr) ∧ Hid (∀ j (hj : j < ts.length), j < k → smallT ts[j].tb = true)) (fun i _ => ts.length - (intOf i).toNat)
  case atStart => exact ⟨0, Nat.zero_le _, rfl, Same.refl W0, fun j _ hj => absurd hj (Nat.not_lt_zero _)⟩
  case round =>
    obtain ⟨k, hk, rfl, S, N⟩ := hrel
    have b0 := (S.out.cells _ _ (by omega)).trans q0.out
    have zr : w.heap.size + 1 ≤ wr.heap.size := Nat.le_trans z0 S.out.size
    have hne : w.heap.size ≠ wr.heap.size := by omega
    have hlz : w.heap.size < wr.heap.size := by omega
    by_cases hlt : k < ts.length
    · have sw := S0.out.trans S.out
      obtain ⟨b, off, hA, blt, hc⟩ := (H1.out.1.same sw).2.2 k hlt
      have hA' : A = some ⟨b, off, none⟩ := hA
      have ha := (H1.out.2 _ (List.getElem_mem hlt)).same sw
      have HB : Hid (smallT ts[k].tb = false → smallS (ts.map RT.tb) = false) := fun h => smallS_bad (by rw [M1.out]; exact hlt) (by rw [MG.out k hlt]; exact h)
      have HN : Hid (smallT ts[k].tb = true → ∀ j (hj : j < ts.length), j < k + 1 → smallT ts[j].tb = true) := fun h j hj h2 => by
        by_cases e : j = k
        · subst e; exact h
        · exact N.out j hj (by omega)
      obtain ⟨x, hx⟩ : ∃ x, x = ts[k] := ⟨_, rfl⟩
      rw [← hx] at hc ha HB HN
      obtain ⟨n1, ⟨A1, m1, c1⟩, ra, ⟨B1, p1, d1⟩, key⟩ := x
      have x0 := hc 0 (.string n1) rfl
      have x1 := hc 1 (.slice A1 m1 c1) rfl
      have x2 := hc 2 (.slice B1 p1 d1) rfl
      simp only [Nat.add_zero] at x0
      have hm1 : ra.length = m1 := ha.1.1.1
      have hp1 : key.length = p1 := ha.2.1.1
      have hm1b : m1 ≤ 9223372036854775807 := ha.1.1.2.1
      have hp1b : p1 ≤ 9223372036854775807 := ha.2.1.2.1
      have HLA := Lib.hid ha.1.1
      have HWAS := Lib.hid ha.1.2
      have hk63 : p1 ≤ 9223372036854775807 := hp1b
      subst hm1 hp1
      obtain ⟨T, hT⟩ : ∃ T, T = (⟨n1, ⟨A1, ra.length, c1⟩, ra, ⟨B1, key.length, d1⟩, key⟩ : RT).tb := ⟨_, rfl⟩
      rw [← hT] at HB HN
      have TA : Hid (T.attrs = ra.map RA.at_) := by show _ = _; rw [hT]; rfl
      have TK : Hid (T.key = key) := by show _ = _; rw [hT]; rfl
      have TN : Hid (T.name = n1) := by show _ = _; rw [hT]; rfl
      have hki : (k : Int) < (ts.length : Int) := by omega
      have hbne : b ≠ wr.heap.size := by omega
      have HSW := Lib.hid sw
      have hsz : Hid (n1.size ≤ 9223372036854775807) := ha.2.2
      have hszn := hsz.out
      subst hA'
      clear hc hA hx ha hT sw hsz
      by_cases g1 : 20 < ra.length
      · have HF : Hid (smallS (ts.map RT.tb) = false) := HB.out (smallT_bad (by rw [TA.out, List.length_map]; omega))
        go_wp2_with (fail)
        go_ret
        exact ⟨ret_bool HF.out.symm, (HSW.out).alloc _⟩
      by_cases g2 : 20 < key.length
      · have HF : Hid (smallS (ts.map RT.tb) = false) := HB.out (smallT_bad (by rw [TK.out]; omega))
        go_wp2_with (fail)
        go_ret
        exact ⟨ret_bool HF.out.symm, (HSW.out).alloc _⟩
      by_cases g3 : 100 < n1.size
      · have HF : Hid (smallS (ts.map RT.tb) = false) := HB.out (smallT_bad (by rw [TN.out]; omega))
        go_wp2_with (fail)
        go_ret
        exact ⟨ret_bool HF.out.symm, (HSW.out).alloc _⟩
      have G1 : Hid (T.attrs.length ≤ 20 ∧ T.key.length ≤ 20 ∧ T.name.size ≤ 100) := ⟨by rw [TA.out, List.length_map]; omega, by rw [TK.out]; omega, by rw [TN.out]; omega⟩
      have hm20 : ra.length ≤ 20 := by omega
      go_wp2_with (fail)
      obtain ⟨wo, hwo⟩ : ∃ wo : World, wo = wr.alloc (.cells #[.string n1, .slice A1 ra.length c1, .slice B1 key.length d1] 44) := ⟨_, rfl⟩
      have so : Same wr wo := by rw [hwo]; exact (Same.refl wr).alloc _
      have SO : Hid (Same W0 wo) := S.out.trans so
      have v1 : wo.cell? ⟨wr.heap.size, 1, none⟩ = some (.slice A1 ra.length c1) := by rw [hwo]; simp
      have HLO : Hid (Lies wo 6 ⟨A1, ra.length, c1⟩ RA.cells ra) := HLA.out.same so
      have HWO : Hid (∀ r ∈ ra, StrsAt wo r.h r.at_.was ∧ okS r.at_.name ∧ okS r.at_.dflt.s) := fun r hr => ⟨(HWAS.out r hr).1.same so, (HWAS.out r hr).2⟩
      have c0o : wo.cell? ⟨w.heap.size, 0, none⟩ = some (.slice (some ⟨b, off, none⟩) ts.length c) := (so.cells _ _ hlz).trans b0
      rw [← hwo]
      clear hwo so x0 x1 x2 b0 HLA HWAS
      go_loop [5] (fun q => ∃ i : Nat, i ≤ ra.length ∧ q = .int .i64 i ∧ Hid (∀ j (hj : j < ra.length), j < i → smallA ra[j].at_ = true)) (fun q => ra.length - (intOf q).toNat)
      case atStart => exact ⟨0, Nat.zero_le _, rfl, fun j _ hj => absurd hj (Nat.not_lt_zero _)⟩
      case round =>
        obtain ⟨i, hi, rfl, M⟩ := hrel
        by_cases hil : i < ra.length
        · obtain ⟨b2, off2, hA2, blt2, hc2⟩ := HLO.out.2.2 i hil
          have hA2' : A1 = some ⟨b2, off2, none⟩ := hA2
          have hw2 := HWO.out _ (List.getElem_mem hil)
          have HSA : Hid (smallA ra[i].at_ = false → smallS (ts.map RT.tb) = false) := fun h => HB.out (smallT_attr (j := i) (by rw [TA.out, List.length_map]; exact hil) (by simp only [TA.out, List.getElem_map]; exact h))
          have HNA : Hid (smallA ra[i].at_ = true → ∀ j (hj : j < ra.length), j < i + 1 → smallA ra[j].at_ = true) := fun h j hj h2 => by
            by_cases e : j = i
            · subst e; exact h
            · exact M.out j hj (by omega)
          obtain ⟨y, hy⟩ : ∃ y, y = ra[i] := ⟨_, rfl⟩
          rw [← hy] at hc2 HSA HNA hw2
          obtain ⟨⟨n2, kd, was, ⟨dk, dn, ds⟩⟩, ⟨A3, m3, c3⟩⟩ := y
          have y2 := hc2 2 (.slice A3 m3 c3) rfl
          have y5 := hc2 5 (.string ds) rfl
          have hm3 : was.length = m3 := hw2.1.1.1
          have hm3b : m3 ≤ 9223372036854775807 := hw2.1.1.2.1
          have hds : ds.size ≤ 9223372036854775807 := hw2.2.2
          subst hm3 hA2'
          have hii : (i : Int) < (ra.length : Int) := by omega
          clear hc2 hA2 hy hw2
          by_cases e1 : 10 < was.length
          · have HF : Hid (smallS (ts.map RT.tb) = false) := HSA.out (by unfold smallA; rw [decide_eq_false (by show ¬ was.length ≤ 10; omega)]; rfl)
            go_wp2_with (fail)
            go_ret
            exact ⟨ret_bool HF.out.symm, S0.out.trans SO.out⟩
          by_cases e2 : 300 < ds.size
          · have HF : Hid (smallS (ts.map RT.tb) = false) := HSA.out (by unfold smallA; rw [decide_eq_false (show ¬ ds.size ≤ 300 by omega), Bool.and_false])
            go_wp2_with (fail)
            go_ret
            exact ⟨ret_bool HF.out.symm, S0.out.trans SO.out⟩
          have HG : Hid (∀ j (hj : j < ra.length), j < i + 1 → smallA ra[j].at_ = true) := HNA.out (by unfold smallA; rw [decide_eq_true (show was.length ≤ 10 by omega), decide_eq_true (show ds.size ≤ 300 by omega)]; rfl)
          go_wp2_with (fail)
          go_round
          case rel => exact ⟨i + 1, by omega, by go_num, HG.out⟩
          case measure => simp [intOf]; omega
        · have ei : i = ra.length := by omega
          have HG : Hid (∀ j (hj : j < ts.length), j < k + 1 → smallT ts[j].tb = true) := HN.out (smallT_good G1.out.1 G1.out.2.1 G1.out.2.2 (fun j hj => by
            have hj' : j < ra.length := by rw [TA.out, List.length_map] at hj; exact hj
            simp only [TA.out, List.getElem_map]
            exact M.out j hj' (by omega)))
          clear ei
          go_wp2_with (fail)
          go_roundw
          case rel => exact ⟨k + 1, by omega, by go_num, SO.out, HG.out⟩
          case measure => simp [intOf]; omega
    · have ek : k = ts.length := by omega
      have HF : Hid (smallS (ts.map RT.tb) = true) := smallS_good (by rw [M1.out]; omega) (fun j hj => by
        have hj' : j < ts.length := by rw [M1.out] at hj; exact hj
        rw [MG.out j hj']
        exact N.out j hj' (by omega))
      clear ek
      go_wp2_with (fail)
      go_ret
      exact ⟨ret_bool HF.out.symm, S0.out.trans S.out⟩
end Go.Proofs.YtfifnemnihcijaaGreatDoor

/- The reference's Column, formed: contracts. Conditions: none. -/
import Derived.Test.YtfifnemnihcijaaGreatDoorKYa
set_option linter.unusedSimpArgs false
set_option linter.unusedVariables false
namespace Go.Proofs.YtfifnemnihcijaaGreatDoor
open Go.RowKit

set_option maxHeartbeats 2000000 in
theorem rcolumn_ok (t : RT) (nm : ByteArray) (w : World) (a : TbAt w t) :
    Calls Tryz.prog 20 #[t.val, .string nm] w fun e w' => e = .returned (.int .i64 (colA t.tb.attrs nm)) ∧ Same w w' := by
  have e1 : idxB (fun a : At => decide (a.name = nm)) (t.ra.map RA.at_) = idxB (fun r : RA => decide (r.at_.name = nm)) t.ra := idxB_map RA.at_ _ t.ra
  have e2 : idxB (fun a : At => a.was.any fun x => decide (x = nm)) (t.ra.map RA.at_) = idxB (fun r : RA => r.at_.was.any fun x => decide (x = nm)) t.ra := idxB_map RA.at_ _ t.ra
  have HE : Hid (colA t.tb.attrs nm = if 0 ≤ idxB (fun r : RA => decide (r.at_.name = nm)) t.ra then idxB (fun r : RA => decide (r.at_.name = nm)) t.ra else idxB (fun r : RA => r.at_.was.any fun x => decide (x = nm)) t.ra) := by
    show colA (t.ra.map RA.at_) nm = _
    unfold colA
    rw [e1, e2]
  generalize colA t.tb.attrs nm = r at HE ⊢
  have hl : t.ra.length = t.ha.n := a.1.1.1
  have hb : t.ha.n ≤ 9223372036854775807 := a.1.1.2.1
  have HL := Lib.hid a.1.1
  have HW := Lib.hid (fun x hx => (a.1.2 x hx).1)
  obtain ⟨n, ⟨A, m, c⟩, ra, ⟨A2, m2, c2⟩, key⟩ := t
  simp only at hl hb
  subst hl
  have HL' : Hid (Lies w 6 ⟨A, ra.length, c⟩ RA.cells ra) := HL
  have HW' : Hid (∀ x ∈ ra, StrsAt w x.h x.at_.was) := HW
  clear a e1 e2 HL HW
  show Calls Tryz.prog 20 #[.agg #[.string n, .slice A ra.length c, .slice A2 m2 c2], .string nm] w _
  go_enter Tryz.func20, Tryz.ntmps20
  go_wp2
  obtain ⟨W0, hW0⟩ : ∃ W0, W0 = w.alloc (.cells #[.string n, .slice A ra.length c, .slice A2 m2 c2] 44) := ⟨_, rfl⟩
  have S0 : Hid (Same w W0) := by show Same w W0; rw [hW0]; exact (Same.refl w).alloc _
  have x1 : W0.cell? ⟨w.heap.size, 1, none⟩ = some (.slice A ra.length c) := by rw [hW0]; simp
  rw [← hW0]
  clear hW0
  go_loop [5] (fun i => ∃ k : Nat, k ≤ ra.length ∧ i = .int .i64 k ∧ Hid (∀ j (hj : j < ra.length), j < k → decide (ra[j].at_.name = nm) = false)) (fun i => ra.length - (intOf i).toNat)
  case atStart => exact ⟨0, Nat.zero_le _, rfl, fun j _ hj => absurd hj (Nat.not_lt_zero _)⟩
  case round =>
    obtain ⟨k, hk, rfl, N⟩ := hrel
    by_cases hlt : k < ra.length
    · obtain ⟨b, off, hA, blt, hc⟩ := (HL'.out.same S0.out).2.2 k hlt
      have hA' : A = some ⟨b, off, none⟩ := hA
      clear hA
      subst hA'
      obtain ⟨y, hy⟩ : ∃ y, y = ra[k] := ⟨_, rfl⟩
      rw [← hy] at hc
      have HY := Lib.hid hy
      clear hy
      obtain ⟨⟨n1, kd, was, dd⟩, h1⟩ := y
      have c0 := hc 0 (.string n1) rfl
      simp only [Nat.add_zero] at c0
      clear hc
      by_cases hq : n1 = nm
      · have t1 : (n1.toList == nm.toList) = true := by rw [beqB]; simp [hq]
        have HQ : Hid (ra[k].at_.name = nm) := by rw [← HY.out]; exact Lib.hid hq
        clear hq
        go_wp2
        go_ret
        refine ⟨ret_int ?_, S0.out⟩
        rw [HE.out, idxB_hit (p := fun r : RA => decide (r.at_.name = nm)) k hlt (decide_eq_true HQ.out) (fun j hj => N.out j (by omega) hj), if_pos (by omega)]
      · have t1 : (n1.toList == nm.toList) = false := by rw [beqB]; simp; exact hq
        have HQ : Hid (¬ ra[k].at_.name = nm) := by rw [← HY.out]; exact Lib.hid hq
        clear hq
        go_wp2
        go_round
        case rel => exact ⟨k + 1, by omega, by go_num, not_step (p := fun r : RA => decide (r.at_.name = nm)) hlt (decide_eq_false HQ.out) N.out⟩
        case measure => simp [intOf]; omega
    · have HE2 : Hid (r = idxB (fun r : RA => r.at_.was.any fun x => decide (x = nm)) ra) := by
        show _ = _
        rw [HE.out, idxB_miss (p := fun r : RA => decide (r.at_.name = nm)) (fun j hj => N.out j hj (by omega)), if_neg (by decide)]
      clear HE N
      go_wp2
      go_loop [6] (fun i => ∃ k : Nat, k ≤ ra.length ∧ i = .int .i64 k ∧ Hid (∀ j (hj : j < ra.length), j < k → (ra[j].at_.was.any fun x => decide (x = nm)) = false)) (fun i => ra.length - (intOf i).toNat)
      case atStart => exact ⟨0, Nat.zero_le _, rfl, fun j _ hj => absurd hj (Nat.not_lt_zero _)⟩
      case round =>
        obtain ⟨k, hk, rfl, N⟩ := hrel
        by_cases hlt : k < ra.length
        · obtain ⟨b, off, hA, blt, hc⟩ := (HL'.out.same S0.out).2.2 k hlt
          have hA' : A = some ⟨b, off, none⟩ := hA
          have HWK := Lib.hid ((HW'.out _ (List.getElem_mem hlt)).1.same S0.out)
          clear hA
          subst hA'
          obtain ⟨y, hy⟩ : ∃ y, y = ra[k] := ⟨_, rfl⟩
          rw [← hy] at hc HWK
          have HY := Lib.hid hy
          clear hy
          obtain ⟨⟨n1, kd, was, dd⟩, ⟨A3, m3, c3⟩⟩ := y
          have c2' := hc 2 (.slice A3 m3 c3) rfl
          clear hc
          have e3 : was.length = m3 := HWK.out.1
          have f3 : m3 ≤ 9223372036854775807 := HWK.out.2.1
          subst e3
          have HWL : Hid (Lies W0 1 ⟨A3, was.length, c3⟩ strCell was) := HWK
          have HX : Hid ((ra[k].at_.was.any fun x => decide (x = nm)) = (was.any fun x => decide (x = nm))) := by show _ = _; rw [← HY.out]
          clear HWK
          go_wp2
          go_loop [7] (fun i => ∃ q : Nat, q ≤ was.length ∧ i = .int .i64 q ∧ Hid (∀ j (hj : j < was.length), j < q → decide (was[j] = nm) = false)) (fun i => was.length - (intOf i).toNat)
          case atStart => exact ⟨0, Nat.zero_le _, rfl, fun j _ hj => absurd hj (Nat.not_lt_zero _)⟩
          case round =>
            obtain ⟨q, hq, rfl, M⟩ := hrel
            by_cases hlq : q < was.length
            · obtain ⟨b3, off3, hA3, blt3, d0⟩ := HWL.out.one q hlq (v := .string was[q]) rfl
              have hA3' : A3 = some ⟨b3, off3, none⟩ := hA3
              clear hA3
              subst hA3'
              obtain ⟨z, hz⟩ : ∃ z, z = was[q] := ⟨_, rfl⟩
              rw [← hz] at d0
              have HZ := Lib.hid hz
              clear hz
              by_cases hq2 : z = nm
              · have t1 : (z.toList == nm.toList) = true := by rw [beqB]; simp [hq2]
                have HQ : Hid ((ra[k].at_.was.any fun x => decide (x = nm)) = true) := by
                  show _ = _
                  rw [HX.out, List.any_eq_true]
                  exact ⟨was[q], List.getElem_mem hlq, by rw [← HZ.out]; exact decide_eq_true hq2⟩
                clear hq2
                go_wp2
                go_ret
                exact ⟨ret_int (by rw [HE2.out]; exact (idxB_hit (p := fun r : RA => r.at_.was.any fun x => decide (x = nm)) k hlt HQ.out (fun j hj => N.out j (by omega) hj)).symm), S0.out⟩
              · have t1 : (z.toList == nm.toList) = false := by rw [beqB]; simp; exact hq2
                have HQ : Hid (¬ was[q] = nm) := by rw [← HZ.out]; exact Lib.hid hq2
                clear hq2
                go_wp2
                go_round
                case rel => exact ⟨q + 1, by omega, by go_num, not_step (p := fun x => decide (x = nm)) hlq (decide_eq_false HQ.out) M.out⟩
                case measure => simp [intOf]; omega
            · have HQ : Hid ((ra[k].at_.was.any fun x => decide (x = nm)) = false) := by
                show _ = _
                rw [HX.out, List.any_eq_false]
                intro x hx
                obtain ⟨j, hj, rfl⟩ := List.mem_iff_getElem.1 hx
                have := M.out j hj (by omega)
                simp [this]
              go_wp2
              go_round
              case rel => exact ⟨k + 1, by omega, by go_num, not_step (p := fun r : RA => r.at_.was.any fun x => decide (x = nm)) hlt HQ.out N.out⟩
              case measure => simp [intOf]; omega
        · go_wp2
          go_ret
          exact ⟨ret_int (by rw [HE2.out]; exact (idxB_miss (p := fun r : RA => r.at_.was.any fun x => decide (x = nm)) (fun j hj => N.out j hj (by omega))).symm), S0.out⟩
theorem empty_iff (s : ByteArray) : s = ByteArray.empty ↔ s.size = 0 := by
  constructor
  · rintro rfl; rfl
  · intro h
    apply ba_inj
    have : (ba s).length = 0 := by rw [ba_length]; exact h
    rw [List.length_eq_zero_iff.1 this]; rfl
set_option maxHeartbeats 4000000 in
set_option maxRecDepth 100000 in
theorem rformed_ok (c : Cg) (w : World) : Calls Tryz.prog 68 #[.agg #[.int .i64 c.kind, .string c.table, .string c.attr, .string c.name, .int .i64 c.to_, .int .i64 c.dflt.k, .int .i64 c.dflt.n, .string c.dflt.s]] w fun e w' => e = .returned (.bool (formedB c)) ∧ Same w w' := by
  obtain ⟨k, t, aa, n, to_, ⟨dk, dn, ds⟩⟩ := c
  have HF : Hid (formedB ⟨k, t, aa, n, to_, ⟨dk, dn, ds⟩⟩ = (if k = 1 then decide (aa.size = 0) else if k = 2 then decide (n.size = 0) && (decide (to_ = 0) && (decide (dk = 0) && (decide (dn = 0) && decide (ds.size = 0)))) else if k = 3 then decide (to_ = 0) && (decide (dk = 0) && (decide (dn = 0) && decide (ds.size = 0))) else if k = 4 then decide (n.size = 0) else false)) := by
    show _ = _
    simp only [formedB, V.same, V.zero, empty_iff]
    rfl
  show Calls Tryz.prog 68 #[.agg #[.int .i64 k, .string t, .string aa, .string n, .int .i64 to_, .int .i64 dk, .int .i64 dn, .string ds]] w _
  go_enter Tryz.func68, Tryz.ntmps68
  go_wp2
  all_goals
    go_ret
    refine ⟨ret_bool ?_, ?_⟩
    · rw [HF.out, Bool.eq_iff_iff]
      (try simp only [isE, isE_nil, decide_eq_true_eq, beq_iff_eq, beq_eq_false_iff_ne, ne_eq] at *)
      first | (simp_all; done) | (simp_all; omega)
    · first | exact (Same.refl w).alloc _ | exact ((Same.refl w).alloc _).alloc _ | exact (((Same.refl w).alloc _).alloc _).setCell (by simp) _
end Go.Proofs.YtfifnemnihcijaaGreatDoor

/- value.Valid, schema.fit, schema.name: contracts. Conditions: none. | schema.fit: contract. Conditions: none. | slices.IndexFunc at tables and attributes: contracts. Conditions: none. -/
import Derived.Test.YtfifnemnihcijaaGreatDoorKWd
import Derived.Test.YtfifnemnihcijaaGreatDoorProg
import Derived.Deep.DeepCutAuto
import Derived.Deep.QuietTactic
import Derived.BigQuiet
import Derived.Outline
import Derived.Deep.RegionHeld3
set_option linter.unusedSimpArgs false
set_option linter.unusedVariables false
namespace Go.Proofs.YtfifnemnihcijaaGreatDoor
open Go.RowKit

set_option maxHeartbeats 1000000 in
theorem valid_ok (v : V) (w : World) : Calls Tryz.prog 83 #[v.val] w fun e w' => e = .returned (.bool v.ok) ∧ Same w w' := by
  obtain ⟨k, n, s⟩ := v
  show Calls Tryz.prog 83 #[.agg #[.int .i64 k, .int .i64 n, .string s]] w _
  by_cases h1 : k = 1
  · subst h1
    go_enter Tryz.func83, Tryz.ntmps83
    go_wp2
    all_goals
      go_ret
      refine ⟨ret_bool ?_, (Same.refl _).alloc _⟩
      rw [Bool.eq_iff_iff, V.ok_iff]
      simp only [V.low, V.high, decide_eq_true_eq, isE] at *
      first | (simp at *; omega) | omega
  · go_enter Tryz.func83, Tryz.ntmps83
    go_wp2
    all_goals
      go_ret
      refine ⟨ret_bool ?_, (Same.refl _).alloc _⟩
      rw [Bool.eq_iff_iff, V.ok_iff]
      simp only [V.low, V.high, decide_eq_true_eq, isE] at *
      first | (simp at *; omega) | (simp_all; done) | (simp_all; omega)

set_option maxHeartbeats 1000000 in
theorem name_ok (s : ByteArray) (w : World) (hs : s.size ≤ 9223372036854775807) : Calls Tryz.prog 77 #[.string s] w fun e w' => e = .returned (.bool (nameB s)) ∧ w = w' := by
  go_enter Tryz.func77, Tryz.ntmps77
  go_wp2
  go_loop [7] (fun i => ∃ k : Nat, k ≤ s.size ∧ i = .int .i64 k ∧ nameL ((ba s).take k) = true) (fun i => s.size - (intOf i).toNat)
  case atStart => exact ⟨0, Nat.zero_le _, rfl, by simp [nameL]⟩
  case round =>
    obtain ⟨k, hk, rfl, hn⟩ := hrel
    by_cases hlt : k < s.size
    · have hst := nameL_step s k hlt
      have hbad := nameL_bad s (k + 1)
      rw [hn, Bool.true_and] at hst
      have HS := Lib.hid hst
      have HB := Lib.hid hbad
      have HN := Lib.hid hn
      clear hst hbad hn
      go_wp2
      all_goals
        first
          | (go_round
             case rel => exact ⟨k + 1, by omega, by go_num, HS.out.trans (chr_iff.2 (by (try simp only [beq_iff_eq] at *); omega))⟩
             case measure => simp [intOf]; omega)
          | (go_ret
             refine ⟨ret_bool ?_, rfl⟩
             rw [nameB, HB.out (HS.out.trans (Bool.eq_false_iff.2 (fun h => by have := chr_iff.1 h; (try simp only [beq_eq_false_iff_ne] at *); omega)))]
             rfl)
    · obtain rfl : k = s.size := by omega
      rw [← ba_length, List.take_length] at hn
      have HN := Lib.hid hn
      clear hn
      have HE : nameB s = (decide (s.size ≠ 0) && decide (s.size ≤ 24)) := by rw [nameB, HN.out, Bool.true_and]
      have HF := Lib.hid HE
      clear HE
      by_cases hz : s.size = 0
      · have h1 := (isE_nil s).2 hz
        have h2 : (!s.toList.isEmpty) = false := by rw [h1]; rfl
        have HZ := Lib.hid hz
        clear hz
        go_wp2
        go_ret
        exact ⟨ret_bool (by rw [HF.out, HZ.out]; rfl), rfl⟩
      · have h1 : ¬ s.toList = [] := fun h => hz ((isE_nil s).1 h)
        have h2 : (!s.toList.isEmpty) = true := by rw [isE]; simpa using hz
        have HZ := Lib.hid hz
        clear hz
        go_wp2
        go_ret
        exact ⟨ret_bool (by rw [HF.out, decide_eq_true HZ.out, Bool.true_and]; exact decide_eq_decide.2 (by omega)), rfl⟩
end Go.Proofs.YtfifnemnihcijaaGreatDoor
namespace Go.Proofs.YtfifnemnihcijaaGreatDoor
open Go.RowKit

set_option maxHeartbeats 1000000 in
theorem fit_ok (q : Int) (v : V) (w : World) : Calls Tryz.prog 49 #[.int .i64 q, v.val] w fun e w' => e = .returned (.bool (fitB q v)) ∧ Same w w' := by
  have HV := Lib.hid (valid_ok v)
  obtain ⟨k, n, s⟩ := v
  have hv : (⟨k, n, s⟩ : V).val = .agg #[.int .i64 k, .int .i64 n, .string s] := rfl
  rw [hv] at HV
  show Calls Tryz.prog 49 #[.int .i64 q, .agg #[.int .i64 k, .int .i64 n, .string s]] w _
  have HF : Hid (fitB q ⟨k, n, s⟩ = ((⟨k, n, s⟩ : V).ok && (decide (k = 0) || decide (k = q)))) := Lib.hid rfl
  generalize (⟨k, n, s⟩ : V).ok = b at HV HF
  clear hv
  go_enter Tryz.func49, Tryz.ntmps49
  go_wp2_with (first | (go_at_call 83; refine (HV.out _).mono ?_; rintro e w1 ⟨rfl, c1⟩; have C1 := Lib.hid c1; have K1 := c1.cells; have Z1 := c1.size; clear c1))
  all_goals
    go_ret
    exact ⟨ret_bool (by rw [HF.out]; by_cases e : k = 0 <;> by_cases e2 : k = q <;> simp_all), ((Same.refl w).alloc _).trans C1.out⟩
end Go.Proofs.YtfifnemnihcijaaGreatDoor
namespace Go.Proofs.YtfifnemnihcijaaGreatDoor
open Go.RowKit

/-- A function value that tells a property of each thing of a list, in every later world. -/
def Tells {α : Type} (g : Nat) (caps : Array Value) (w : World) (enc : α → Value) (p : α → Bool) (xs : List α) : Prop :=
  ∀ x ∈ xs, ∀ W, Same w W → Calls Tryz.prog g (#[enc x] ++ caps) W fun e W' => e = .returned (.bool (p x)) ∧ Same W W'

theorem not_step {α : Type} {p : α → Bool} {xs : List α} {k : Nat} (hk : k < xs.length) (hq : p xs[k] = false) (h : ∀ j (hj : j < xs.length), j < k → p xs[j] = false) : ∀ j (hj : j < xs.length), j < k + 1 → p xs[j] = false := by
  intro j hj h2
  by_cases e : j = k
  · subst e; exact hq
  · exact h j hj (by omega)

set_option maxHeartbeats 1000000 in
theorem indexT_ok {α : Type} (g : Nat) (caps : Array Value) (eg : ∀ args w, (callFunc g args).run Tryz.prog w = .ok (.enter g args) w) (h : Hd) (enc : α → List Value) (h3 : ∀ x, ∃ a b c, enc x = [a, b, c]) (p : α → Bool) (xs : List α) (w : World)
    (l : Lies w 3 h enc xs) (t : Tells g caps w (fun x => .agg (enc x).toArray) p xs) :
    Calls Tryz.prog 47 #[h.val, .func (.func g) #[] caps] w fun e w' => e = .returned (.int .i64 (idxB p xs)) ∧ Same w w' := by
  obtain ⟨A, n, c⟩ := h
  show Calls Tryz.prog 47 #[.slice A n c, .func (.func g) #[] caps] w _
  have hn : xs.length = n := l.1
  have hb : n ≤ 9223372036854775807 := l.2.1
  subst hn
  have HL := Lib.hid l
  have HT := Lib.hid t
  have H3 := Lib.hid h3
  clear l t h3
  go_enter Tryz.func47, Tryz.ntmps47
  go_wp2
  go_loopw [8] (fun i wr => ∃ k : Nat, k ≤ xs.length ∧ i = .int .i64 k ∧ Hid (Same w wr) ∧ Hid (∀ j (hj : j < xs.length), j < k → p xs[j] = false)) (fun i _ => xs.length - (intOf i).toNat)
  case atStart => exact ⟨0, Nat.zero_le _, rfl, Same.refl w, fun j _ hj => absurd hj (Nat.not_lt_zero _)⟩
  case round =>
    obtain ⟨k, hk, rfl, S, N⟩ := hrel
    by_cases hlt : k < xs.length
    · obtain ⟨b, off, hA, blt, hc⟩ := (HL.out.same S.out).2.2 k hlt
      have hA' : A = some ⟨b, off, none⟩ := hA
      obtain ⟨va, vb, vc, he⟩ := H3.out xs[k]
      have hcall : Calls Tryz.prog g (#[Value.agg (enc xs[k]).toArray] ++ caps) wr fun e W' => e = .returned (.bool (p xs[k])) ∧ Same wr W' := HT.out xs[k] (List.getElem_mem hlt) wr S.out
      rw [he] at hc hcall
      have c0 := hc 0 _ rfl
      have c1 := hc 1 _ rfl
      have c2 := hc 2 _ rfl
      simp only [Nat.add_zero] at c0
      have HC := Lib.hid hcall
      clear hcall hc he hA
      subst hA'
      cases hq : p xs[k] with
      | true =>
        rw [hq] at HC
        have HQ := Lib.hid hq
        clear hq
        go_wp2_with (fail)
        refine HC.out.mono ?_
        rintro e w' ⟨rfl, s1⟩
        have S1 := Lib.hid s1
        clear s1 c0 c1 c2
        go_wp2
        go_ret
        exact ⟨ret_int (idxB_hit k hlt HQ.out (fun j hj => N.out j (by omega) hj)).symm, S.out.trans S1.out⟩
      | false =>
        rw [hq] at HC
        have HQ := Lib.hid hq
        clear hq
        go_wp2_with (fail)
        refine HC.out.mono ?_
        rintro e w' ⟨rfl, s1⟩
        have S1 := Lib.hid s1
        clear s1 c0 c1 c2
        go_wp2
        go_roundw
        case rel => exact ⟨k + 1, by omega, by go_num, S.out.trans S1.out, not_step hlt HQ.out N.out⟩
        case measure => simp [intOf]; omega
    · go_wp2
      go_ret
      exact ⟨ret_int (idxB_miss (fun j hj => N.out j hj (by omega))).symm, S.out⟩

set_option maxHeartbeats 1000000 in
theorem indexA_ok {α : Type} (g : Nat) (caps : Array Value) (eg : ∀ args w, (callFunc g args).run Tryz.prog w = .ok (.enter g args) w) (h : Hd) (enc : α → List Value) (h3 : ∀ x, ∃ a b c d e f, enc x = [a, b, c, d, e, f]) (p : α → Bool) (xs : List α) (w : World)
    (l : Lies w 6 h enc xs) (t : Tells g caps w (fun x => .agg (enc x).toArray) p xs) :
    Calls Tryz.prog 51 #[h.val, .func (.func g) #[] caps] w fun e w' => e = .returned (.int .i64 (idxB p xs)) ∧ Same w w' := by
  obtain ⟨A, n, c⟩ := h
  show Calls Tryz.prog 51 #[.slice A n c, .func (.func g) #[] caps] w _
  have hn : xs.length = n := l.1
  have hb : n ≤ 9223372036854775807 := l.2.1
  subst hn
  have HL := Lib.hid l
  have HT := Lib.hid t
  have H3 := Lib.hid h3
  clear l t h3
  go_enter Tryz.func51, Tryz.ntmps51
  go_wp2
  go_loopw [8] (fun i wr => ∃ k : Nat, k ≤ xs.length ∧ i = .int .i64 k ∧ Hid (Same w wr) ∧ Hid (∀ j (hj : j < xs.length), j < k → p xs[j] = false)) (fun i _ => xs.length - (intOf i).toNat)
  case atStart => exact ⟨0, Nat.zero_le _, rfl, Same.refl w, fun j _ hj => absurd hj (Nat.not_lt_zero _)⟩
  case round =>
    obtain ⟨k, hk, rfl, S, N⟩ := hrel
    by_cases hlt : k < xs.length
    · obtain ⟨b, off, hA, blt, hc⟩ := (HL.out.same S.out).2.2 k hlt
      have hA' : A = some ⟨b, off, none⟩ := hA
      obtain ⟨va, vb, vc, vd, ve, vf, he⟩ := H3.out xs[k]
      have hcall : Calls Tryz.prog g (#[Value.agg (enc xs[k]).toArray] ++ caps) wr fun e W' => e = .returned (.bool (p xs[k])) ∧ Same wr W' := HT.out xs[k] (List.getElem_mem hlt) wr S.out
      rw [he] at hc hcall
      have c0 := hc 0 _ rfl
      have c1 := hc 1 _ rfl
      have c2 := hc 2 _ rfl
      have c3 := hc 3 _ rfl
      have c4 := hc 4 _ rfl
      have c5 := hc 5 _ rfl
      simp only [Nat.add_zero] at c0
      have HC := Lib.hid hcall
      clear hcall hc he hA
      subst hA'
      cases hq : p xs[k] with
      | true =>
        rw [hq] at HC
        have HQ := Lib.hid hq
        clear hq
        go_wp2_with (fail)
        refine HC.out.mono ?_
        rintro e w' ⟨rfl, s1⟩
        have S1 := Lib.hid s1
        clear s1 c0 c1 c2 c3 c4 c5
        go_wp2
        go_ret
        exact ⟨ret_int (idxB_hit k hlt HQ.out (fun j hj => N.out j (by omega) hj)).symm, S.out.trans S1.out⟩
      | false =>
        rw [hq] at HC
        have HQ := Lib.hid hq
        clear hq
        go_wp2_with (fail)
        refine HC.out.mono ?_
        rintro e w' ⟨rfl, s1⟩
        have S1 := Lib.hid s1
        clear s1 c0 c1 c2 c3 c4 c5
        go_wp2
        go_roundw
        case rel => exact ⟨k + 1, by omega, by go_num, S.out.trans S1.out, not_step hlt HQ.out N.out⟩
        case measure => simp [intOf]; omega
    · go_wp2
      go_ret
      exact ⟨ret_int (idxB_miss (fun j hj => N.out j hj (by omega))).symm, S.out⟩

end Go.Proofs.YtfifnemnihcijaaGreatDoor

/- cleanseref06.Ints, texts, Rows: contracts. Conditions: none. -/
import Derived.Test.YtfifnemnihcijaaGreatDoorKSm
import Derived.Lib.Hide
set_option linter.unusedSimpArgs false
set_option linter.unusedVariables false
namespace Go.Proofs.YtfifnemnihcijaaGreatDoor
open Go.RowKit

instance decV : DecidableEq V := fun a b => decidable_of_iff (a.k = b.k ∧ a.n = b.n ∧ a.s = b.s) ⟨fun h => V.ext' h.1 h.2.1 h.2.2, by rintro rfl; exact ⟨rfl, rfl, rfl⟩⟩
instance decAt : DecidableEq At := fun a b => decidable_of_iff (a.name = b.name ∧ a.kind = b.kind ∧ a.was = b.was ∧ a.dflt = b.dflt) ⟨fun h => by cases a; cases b; simp_all, by rintro rfl; exact ⟨rfl, rfl, rfl, rfl⟩⟩
instance decTb : DecidableEq Tb := fun a b => decidable_of_iff (a.name = b.name ∧ a.attrs = b.attrs ∧ a.key = b.key) ⟨fun h => by cases a; cases b; simp_all, by rintro rfl; exact ⟨rfl, rfl, rfl⟩⟩
section
variable {α : Type}
/-- Two lists are alike so far. -/
def Alike (l m : List α) (k : Nat) : Prop := ∀ j, j < k → l[j]? = m[j]?
theorem alike_zero (l m : List α) : Alike l m 0 := fun j hj => absurd hj (Nat.not_lt_zero _)
theorem alike_step {l m : List α} {k : Nat} (h1 : k < l.length) (h2 : k < m.length) (h : Alike l m k) (e : l[k] = m[k]) : Alike l m (k + 1) := fun j hj => by
  by_cases ej : j = k
  · subst ej; rw [List.getElem?_eq_getElem h1, List.getElem?_eq_getElem h2, e]
  · exact h j (by omega)
theorem alike_end [DecidableEq α] {l m : List α} (hl : l.length = m.length) (h : Alike l m l.length) : decide (l = m) = true := by
  apply decide_eq_true
  apply List.ext_getElem?
  intro j
  by_cases hj : j < l.length
  · exact h j hj
  · rw [List.getElem?_eq_none (by omega), List.getElem?_eq_none (by omega)]
theorem unlike_at [DecidableEq α] {l m : List α} {k : Nat} (h1 : k < l.length) (h2 : k < m.length) (e : l[k] ≠ m[k]) : decide (l = m) = false := by
  apply decide_eq_false
  rintro rfl
  exact e rfl
theorem unlike_len [DecidableEq α] {l m : List α} (h : l.length ≠ m.length) : decide (l = m) = false := by
  apply decide_eq_false
  rintro rfl
  exact h rfl
end

set_option maxHeartbeats 1000000 in
theorem ints_ok (h1 h2 : Hd) (l1 l2 : List Int) (w : World) (a1 : IntsAt w h1 l1) (a2 : IntsAt w h2 l2) :
    Calls Tryz.prog 75 #[h1.val, h2.val] w fun e w' => e = .returned (.bool (decide (l1 = l2))) ∧ Same w w' := by
  have L1 : Lies w 1 h1 intCell l1 := a1
  have L2 : Lies w 1 h2 intCell l2 := a2
  clear a1 a2
  obtain ⟨A, n, c⟩ := h1
  obtain ⟨B, p, d⟩ := h2
  show Calls Tryz.prog 75 #[.slice A n c, .slice B p d] w _
  have hn : l1.length = n := L1.1
  have hp : l2.length = p := L2.1
  have hb : n ≤ 9223372036854775807 := L1.2.1
  have hb2 : p ≤ 9223372036854775807 := L2.2.1
  subst hn hp
  have H1 := Lib.hid L1
  have H2 := Lib.hid L2
  clear L1 L2
  by_cases hlen : l1.length = l2.length
  case neg =>
    have t1 : ((l1.length : Int) != (l2.length : Int)) = true := by simp; omega
    have HL := Lib.hid hlen
    clear hlen
    go_enter Tryz.func75, Tryz.ntmps75
    go_wp2
    go_ret
    exact ⟨ret_bool (unlike_len HL.out).symm, Same.refl _⟩
  have t1 : ((l1.length : Int) != (l2.length : Int)) = false := by simp; omega
  have HL := Lib.hid hlen
  clear hlen
  go_enter Tryz.func75, Tryz.ntmps75
  go_wp2
  go_loopw [5] (fun i wr => ∃ k : Nat, k ≤ l1.length ∧ i = .int .i64 k ∧ Hid (Same w wr) ∧ Hid (Alike l1 l2 k)) (fun i _ => l1.length - (intOf i).toNat)
  case atStart => exact ⟨0, Nat.zero_le _, rfl, Same.refl w, alike_zero _ _⟩
  case round =>
    obtain ⟨k, hk, rfl, S, N⟩ := hrel
    by_cases hlt : k < l1.length
    · have hlt2 : k < l2.length := by have := HL.out; omega
      obtain ⟨b, off, hA, blt, hc⟩ := (H1.out.same S.out).2.2 k hlt
      obtain ⟨b2, off2, hB, blt2, hc2⟩ := (H2.out.same S.out).2.2 k hlt2
      have hA' : A = some ⟨b, off, none⟩ := hA
      have hB' : B = some ⟨b2, off2, none⟩ := hB
      obtain ⟨x, hx⟩ : ∃ x, x = l1[k] := ⟨_, rfl⟩
      obtain ⟨y, hy⟩ : ∃ y, y = l2[k] := ⟨_, rfl⟩
      rw [← hx] at hc
      rw [← hy] at hc2
      have HX := Lib.hid hx
      have HY := Lib.hid hy
      have c0 := hc 0 (.int .i64 x) rfl
      have c1 := hc2 0 (.int .i64 y) rfl
      simp only [Nat.mul_one, Nat.add_zero] at c0 c1
      clear hc hc2 hA hB hx hy
      subst hA' hB'
      have hki : (k : Int) < (l1.length : Int) := by omega
      have hki2 : (k : Int) < (l2.length : Int) := by omega
      by_cases hq : x = y
      · have t2 : (x != y) = false := by simp; exact hq
        have HQ := Lib.hid hq
        clear hq
        go_wp2_with (fail)
        go_quiet (fail)
        go_wp2
        go_roundw
        case rel => exact ⟨k + 1, by omega, by go_num, (S.out.drewN _), alike_step hlt hlt2 N.out (by rw [← HX.out, ← HY.out]; exact HQ.out)⟩
        case measure => simp [intOf]; omega
      · have t2 : (x != y) = true := by simp; exact hq
        have HQ := Lib.hid hq
        clear hq
        go_wp2_with (fail)
        go_quiet (fail)
        go_wp2
        go_ret
        exact ⟨ret_bool (unlike_at hlt hlt2 (by rw [← HX.out, ← HY.out]; exact HQ.out)).symm, S.out.drewN _⟩
    · have ek : k = l1.length := by omega
      have HE : Hid (Alike l1 l2 l1.length) := by rw [← ek]; exact N.out
      clear ek
      go_wp2
      go_ret
      exact ⟨ret_bool (alike_end HL.out HE.out).symm, S.out⟩

set_option maxHeartbeats 1000000 in
theorem texts_ok (h1 h2 : Hd) (l1 l2 : List ByteArray) (w : World) (a1 : StrsAt w h1 l1) (a2 : StrsAt w h2 l2) :
    Calls Tryz.prog 95 #[h1.val, h2.val] w fun e w' => e = .returned (.bool (decide (l1 = l2))) ∧ Same w w' := by
  have L1 : Lies w 1 h1 strCell l1 := a1.1
  have L2 : Lies w 1 h2 strCell l2 := a2.1
  clear a1 a2
  obtain ⟨A, n, c⟩ := h1
  obtain ⟨B, p, d⟩ := h2
  show Calls Tryz.prog 95 #[.slice A n c, .slice B p d] w _
  have hn : l1.length = n := L1.1
  have hp : l2.length = p := L2.1
  have hb : n ≤ 9223372036854775807 := L1.2.1
  have hb2 : p ≤ 9223372036854775807 := L2.2.1
  subst hn hp
  have H1 := Lib.hid L1
  have H2 := Lib.hid L2
  clear L1 L2
  by_cases hlen : l1.length = l2.length
  case neg =>
    have t1 : ((l1.length : Int) != (l2.length : Int)) = true := by simp; omega
    have HL := Lib.hid hlen
    clear hlen
    go_enter Tryz.func95, Tryz.ntmps95
    go_wp2
    go_ret
    exact ⟨ret_bool (unlike_len HL.out).symm, Same.refl _⟩
  have t1 : ((l1.length : Int) != (l2.length : Int)) = false := by simp; omega
  have HL := Lib.hid hlen
  clear hlen
  go_enter Tryz.func95, Tryz.ntmps95
  go_wp2
  go_loopw [5] (fun i wr => ∃ k : Nat, k ≤ l1.length ∧ i = .int .i64 k ∧ Hid (Same w wr) ∧ Hid (Alike l1 l2 k)) (fun i _ => l1.length - (intOf i).toNat)
  case atStart => exact ⟨0, Nat.zero_le _, rfl, Same.refl w, alike_zero _ _⟩
  case round =>
    obtain ⟨k, hk, rfl, S, N⟩ := hrel
    by_cases hlt : k < l1.length
    · have hlt2 : k < l2.length := by have := HL.out; omega
      obtain ⟨b, off, hA, blt, hc⟩ := (H1.out.same S.out).2.2 k hlt
      obtain ⟨b2, off2, hB, blt2, hc2⟩ := (H2.out.same S.out).2.2 k hlt2
      have hA' : A = some ⟨b, off, none⟩ := hA
      have hB' : B = some ⟨b2, off2, none⟩ := hB
      obtain ⟨x, hx⟩ : ∃ x, x = l1[k] := ⟨_, rfl⟩
      obtain ⟨y, hy⟩ : ∃ y, y = l2[k] := ⟨_, rfl⟩
      rw [← hx] at hc
      rw [← hy] at hc2
      have HX := Lib.hid hx
      have HY := Lib.hid hy
      have c0 := hc 0 (.string x) rfl
      have c1 := hc2 0 (.string y) rfl
      simp only [Nat.mul_one, Nat.add_zero] at c0 c1
      clear hc hc2 hA hB hx hy
      subst hA' hB'
      have hki : (k : Int) < (l1.length : Int) := by omega
      have hki2 : (k : Int) < (l2.length : Int) := by omega
      by_cases hq : x = y
      · have t2 : (x.toList == y.toList) = true := by rw [beqB]; simp [hq]
        have HQ := Lib.hid hq
        clear hq
        go_wp2_with (fail)
        go_quiet (fail)
        go_wp2
        go_roundw
        case rel => exact ⟨k + 1, by omega, by go_num, (S.out.drewN _), alike_step hlt hlt2 N.out (by rw [← HX.out, ← HY.out]; exact HQ.out)⟩
        case measure => simp [intOf]; omega
      · have t2 : (x.toList == y.toList) = false := by rw [beqB]; simp [hq]
        have HQ := Lib.hid hq
        clear hq
        go_wp2_with (fail)
        go_quiet (fail)
        go_wp2
        go_ret
        exact ⟨ret_bool (unlike_at hlt hlt2 (by rw [← HX.out, ← HY.out]; exact HQ.out)).symm, S.out.drewN _⟩
    · have ek : k = l1.length := by omega
      have HE : Hid (Alike l1 l2 l1.length) := by rw [← ek]; exact N.out
      clear ek
      go_wp2
      go_ret
      exact ⟨ret_bool (alike_end HL.out HE.out).symm, S.out⟩

set_option maxHeartbeats 1000000 in
theorem rows_ok (h1 h2 : Hd) (l1 l2 : List V) (w : World) (a1 : RowAt w h1 l1) (a2 : RowAt w h2 l2) :
    Calls Tryz.prog 12 #[h1.val, h2.val] w fun e w' => e = .returned (.bool (decide (l1 = l2))) ∧ Same w w' := by
  have L1 : Lies w 3 h1 V.cells l1 := a1.1
  have L2 : Lies w 3 h2 V.cells l2 := a2.1
  clear a1 a2
  obtain ⟨A, n, c⟩ := h1
  obtain ⟨B, p, d⟩ := h2
  show Calls Tryz.prog 12 #[.slice A n c, .slice B p d] w _
  have hn : l1.length = n := L1.1
  have hp : l2.length = p := L2.1
  have hb : n ≤ 9223372036854775807 := L1.2.1
  have hb2 : p ≤ 9223372036854775807 := L2.2.1
  subst hn hp
  have H1 := Lib.hid L1
  have H2 := Lib.hid L2
  clear L1 L2
  by_cases hlen : l1.length = l2.length
  case neg =>
    have t1 : ((l1.length : Int) != (l2.length : Int)) = true := by simp; omega
    have HL := Lib.hid hlen
    clear hlen
    go_enter Tryz.func12, Tryz.ntmps12
    go_wp2
    go_ret
    exact ⟨ret_bool (unlike_len HL.out).symm, Same.refl _⟩
  have t1 : ((l1.length : Int) != (l2.length : Int)) = false := by simp; omega
  have HL := Lib.hid hlen
  clear hlen
  go_enter Tryz.func12, Tryz.ntmps12
  go_wp2
  go_loopw [5] (fun i wr => ∃ k : Nat, k ≤ l1.length ∧ i = .int .i64 k ∧ Hid (Same w wr) ∧ Hid (Alike l1 l2 k)) (fun i _ => l1.length - (intOf i).toNat)
  case atStart => exact ⟨0, Nat.zero_le _, rfl, Same.refl w, alike_zero _ _⟩
  case round =>
    obtain ⟨k, hk, rfl, S, N⟩ := hrel
    by_cases hlt : k < l1.length
    · have hlt2 : k < l2.length := by have := HL.out; omega
      obtain ⟨b, off, hA, blt, hc⟩ := (H1.out.same S.out).2.2 k hlt
      obtain ⟨b2, off2, hB, blt2, hc2⟩ := (H2.out.same S.out).2.2 k hlt2
      have hA' : A = some ⟨b, off, none⟩ := hA
      have hB' : B = some ⟨b2, off2, none⟩ := hB
      obtain ⟨x, hx⟩ : ∃ x, x = l1[k] := ⟨_, rfl⟩
      obtain ⟨y, hy⟩ : ∃ y, y = l2[k] := ⟨_, rfl⟩
      rw [← hx] at hc
      rw [← hy] at hc2
      have HX := Lib.hid hx
      have HY := Lib.hid hy
      obtain ⟨xk, xn, xs⟩ := x
      obtain ⟨yk, yn, ys⟩ := y
      have c0 := hc 0 (.int .i64 xk) rfl
      have c1 := hc 1 (.int .i64 xn) rfl
      have c2 := hc 2 (.string xs) rfl
      have d0 := hc2 0 (.int .i64 yk) rfl
      have d1 := hc2 1 (.int .i64 yn) rfl
      have d2 := hc2 2 (.string ys) rfl
      simp only [Nat.add_zero] at c0 d0
      clear hc hc2 hA hB hx hy
      subst hA' hB'
      have hki : (k : Int) < (l1.length : Int) := by omega
      have hki2 : (k : Int) < (l2.length : Int) := by omega
      by_cases q1 : xk = yk
      case neg =>
        have t2 : (xk == yk) = false := by simp; exact q1
        have HQ : Hid (¬ (⟨xk, xn, xs⟩ : V) = ⟨yk, yn, ys⟩) := fun h => q1 (by injection h)
        clear q1
        go_wp2_with (fail)
        go_quiet (fail)
        go_wp2
        go_ret
        exact ⟨ret_bool (unlike_at hlt hlt2 (by rw [← HX.out, ← HY.out]; exact HQ.out)).symm, S.out.drewN _⟩
      have t2 : (xk == yk) = true := by simp; exact q1
      by_cases q2 : xn = yn
      case neg =>
        have t3 : (xn == yn) = false := by simp; exact q2
        have HQ : Hid (¬ (⟨xk, xn, xs⟩ : V) = ⟨yk, yn, ys⟩) := fun h => q2 (by injection h)
        clear q1 q2
        go_wp2_with (fail)
        go_quiet (fail)
        go_wp2
        go_ret
        exact ⟨ret_bool (unlike_at hlt hlt2 (by rw [← HX.out, ← HY.out]; exact HQ.out)).symm, S.out.drewN _⟩
      have t3 : (xn == yn) = true := by simp; exact q2
      by_cases q3 : xs = ys
      case neg =>
        have t4 : (xs.toList == ys.toList) = false := by rw [beqB]; simp; exact q3
        have HQ : Hid (¬ (⟨xk, xn, xs⟩ : V) = ⟨yk, yn, ys⟩) := fun h => q3 (by injection h)
        clear q1 q2 q3
        go_wp2_with (fail)
        go_quiet (fail)
        go_wp2
        go_ret
        exact ⟨ret_bool (unlike_at hlt hlt2 (by rw [← HX.out, ← HY.out]; exact HQ.out)).symm, S.out.drewN _⟩
      have t4 : (xs.toList == ys.toList) = true := by rw [beqB]; simp; exact q3
      have HQ : Hid ((⟨xk, xn, xs⟩ : V) = ⟨yk, yn, ys⟩) := V.ext' q1 q2 q3
      clear q1 q2 q3
      go_wp2_with (fail)
      go_quiet (fail)
      go_wp2
      go_roundw
      case rel => exact ⟨k + 1, by omega, by go_num, (S.out.drewN _), alike_step hlt hlt2 N.out (by rw [← HX.out, ← HY.out]; exact HQ.out)⟩
      case measure => simp [intOf]; omega
    · have ek : k = l1.length := by omega
      have HE : Hid (Alike l1 l2 l1.length) := by rw [← ek]; exact N.out
      clear ek
      go_wp2
      go_ret
      exact ⟨ret_bool (alike_end HL.out HE.out).symm, S.out⟩
end Go.Proofs.YtfifnemnihcijaaGreatDoor

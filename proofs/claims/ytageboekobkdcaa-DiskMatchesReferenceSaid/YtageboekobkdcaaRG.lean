/- The reference disk: Read. -/
import Derived.Test.YtageboekobkdcaaRF
namespace Go.Proofs.Ytageboekobkdcaa
open Go.RowKit

def outAt (D : DS) (i k : Nat) : ByteArray := (lastOf (D.q.take k) i).getD (mkB (D.st i))

set_option maxHeartbeats 2000000 in
theorem rread_good (h : RH) (D : DS) (i : Nat) (w : World) (d : RefAt w h D) (ho : D.off = false) (hin : i < D.n) (hml : D.q.length ≤ 1000) :
    Calls Try.prog 18 #[.pointer (some ⟨h.b, 0, none⟩), .int .i64 (i : Int)] w fun e w' => e = .returned (.tuple #[.string (D.peek i), .int .i64 0]) ∧ w = w' := by
  have c0 := d.c0; have c2 := d.c2; have c3 := d.c3
  rw [ho] at c3
  simp only [Bool.not_false] at c3
  have hb := d.hb
  have s0 := d.sst.cell i hin
  have tn : decide ((D.n : Int) ≤ (i : Int)) = false := by simp; omega
  obtain ⟨a, c, hq, _, hform⟩ := d.qform
  rw [hq] at c2
  have QC := Lib.hid (fun g (e : a = some ⟨g, 0, none⟩) k hk => rque_cell d (g := g) (c := c) (by rw [hq, e]) k hk)
  have Hform := Lib.hid hform
  have S0 : Hid (mkB (D.st i) = outAt D i 0) := rfl
  obtain ⟨Z, hZ⟩ : ∃ Z, Z = mkB (D.st i) := ⟨_, rfl⟩
  rw [← hZ] at s0
  have HZ := Lib.hid hZ
  clear d ho hq hform hZ
  go_enter Try.func18, Try.ntmps18
  go_wp2
  go_loop [6, 7] (fun o j => ∃ k : Nat, k ≤ D.q.length ∧ j = .int .i64 k ∧ o = .string (outAt D i k)) (fun _ j => D.q.length - (intOf j).toNat)
  case atStart => exact ⟨0, Nat.zero_le _, rfl, by rw [HZ.out, S0.out]⟩
  case round =>
    obtain ⟨k, hk, rfl, rfl⟩ := hrel
    by_cases hlt : k < D.q.length
    · obtain ⟨g, rfl⟩ : ∃ g, a = some ⟨g, 0, none⟩ := by
        rcases Hform.out with ⟨_, h0⟩ | h0
        · rw [h0] at hlt; simp at hlt
        · exact h0
      obtain ⟨q0, q1⟩ := QC.out g rfl k hlt
      obtain ⟨p, hp⟩ : ∃ p, p = D.q[k] := ⟨_, rfl⟩
      rw [← hp] at q0 q1
      have hs : outAt D i (k + 1) = if p.1 = i then p.2 else outAt D i k := by
        unfold outAt
        rw [List.take_succ_eq_append_getElem hlt, lastOf_snoc, ← hp]
        split <;> rfl
      obtain ⟨o, hoo⟩ : ∃ o, o = outAt D i k := ⟨_, rfl⟩
      rw [← hoo] at hs
      rw [← hoo]
      have HOO := Lib.hid hoo
      obtain ⟨p1, p2⟩ := p
      dsimp only at q0 q1 hs
      by_cases hpi : p1 = i
      · have t : ((p1 : Int) == (i : Int)) = true := by simp; omega
        rw [if_pos hpi] at hs
        have HS := Lib.hid hs
        clear hs hp hpi hoo
        go_wp2
        go_round
        case rel => exact ⟨k + 1, by omega, by go_num, by rw [HS.out]⟩
        case measure => simp [intOf]; omega
      · have t : ((p1 : Int) == (i : Int)) = false := by simp; omega
        rw [if_neg hpi] at hs
        have HS := Lib.hid hs
        clear hs hp hpi hoo
        go_wp2
        go_round
        case rel => exact ⟨k + 1, by omega, by go_num, by rw [HS.out]⟩
        case measure => simp [intOf]; omega
    · obtain rfl : k = D.q.length := by omega
      go_wp2
      go_ret2
      refine ⟨?_, rfl⟩
      have : D.peek i = outAt D i D.q.length := by unfold outAt DS.peek; rw [List.take_length]
      rw [this]
      rfl

set_option maxHeartbeats 2000000 in
theorem rread_ok (h : RH) (D : DS) (i : Int) (w : World) (d : RefAt w h D) (hml : D.q.length ≤ 1000) :
    Calls Try.prog 18 #[.pointer (some ⟨h.b, 0, none⟩), .int .i64 i] w fun e w' => e = .returned (.tuple #[.string (D.read i).1, .int .i64 (D.read i).2]) ∧ w = w' := by
  have c0 := d.c0; have c3 := d.c3
  have hb := d.hb
  cases ho : D.off with
  | true =>
    have e : D.read i = (ByteArray.empty, 19) := by simp [DS.read, ho]
    rw [e]
    rw [ho] at c3
    simp only [Bool.not_true] at c3
    clear d ho e
    go_enter Try.func18, Try.ntmps18
    go_wp2
    go_ret2
    exact ⟨rfl, rfl⟩
  | false =>
    rw [ho] at c3
    simp only [Bool.not_false] at c3
    by_cases h0 : i < 0
    · have t0 : decide (i < 0) = true := by simpa using h0
      have e : D.read i = (ByteArray.empty, 1) := by
        have hb : D.bad i = true := by simp [DS.bad]; omega
        simp [DS.read, ho, hb]
      rw [e]
      clear d ho e
      go_enter Try.func18, Try.ntmps18
      go_wp2
      go_ret2
      exact ⟨rfl, rfl⟩
    · have t0 : decide (i < 0) = false := by simpa using h0
      by_cases h1 : (D.n : Int) ≤ i
      · have t1 : decide ((D.n : Int) ≤ i) = true := by simpa using h1
        have e : D.read i = (ByteArray.empty, 1) := by
          have hb : D.bad i = true := by simp [DS.bad]; omega
          simp [DS.read, ho, hb]
        rw [e]
        clear d ho e
        go_enter Try.func18, Try.ntmps18
        go_wp2
        go_ret2
        exact ⟨rfl, rfl⟩
      · have hb' : D.bad i = false := by simp [DS.bad]; omega
        have e : D.read i = (D.peek i.toNat, 0) := by simp [DS.read, ho, hb']
        obtain ⟨n, rfl⟩ := Int.eq_ofNat_of_zero_le (DS.bad_false hb').1
        rw [e, Int.toNat_natCast]
        exact rread_good h D n w d ho (by omega) hml
end Go.Proofs.Ytageboekobkdcaa

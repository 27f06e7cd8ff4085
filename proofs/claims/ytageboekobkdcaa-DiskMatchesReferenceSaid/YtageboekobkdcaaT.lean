/- A write of an operation's text, for a law's walk; an armed disk beside one that is not. -/
import Derived.Test.YtageboekobkdcaaS
namespace Go.Proofs.Ytageboekobkdcaa
open Go.RowKit

section
variable {W w w1 : World} {b b2 ab off k : Nat} {D D2 : DS} {a : AC}
theorem Duo.textL (l : Duo W w b D b2 D2) (s : Hid (ActSeen W ab off k a)) (ht : a.text.size ≤ 100) (c : Chg (fun _ => False) w w1) :
    Calls Try.prog 23 #[.agg #[.int .i64 a.kind, .int .i64 a.sector, .int .i64 a.bytes, .string a.text, .bool a.odd, .int .i64 a.after]] w1 fun e w' => e = .returned (.string a.txt) ∧ ActSeen w' ab off k a ∧ Hid (Duo W w' b D b2 D2) := by
  refine (text_ok a w1 ht).mono ?_
  rintro e w' ⟨he, c'⟩
  have l' := l.kept (c.trans c' (fun _ _ h => h))
  exact ⟨he, s.out.kept l'.chg, l'⟩
theorem Duo.writeL (l : Duo W w b D b2 D2) (s : Hid (ActSeen W ab off k a)) (ht : a.text.size ≤ 100) (hml : D.q.length < 1000) :
    Calls Try.prog 22 #[.pointer (some ⟨b, 0, none⟩), .int .i64 a.sector, .string a.txt] w fun e w' => e = .returned (.int .i64 (D.write a.sector a.txt).1) ∧ ActSeen w' ab off k a ∧ Hid (Duo W w' b (D.write a.sector a.txt).2 b2 D2) := by
  refine (l.write a.sector a.txt (by have := a.txt_le ht; omega) hml).mono ?_
  rintro e w' ⟨he, l'⟩
  exact ⟨he, s.out.kept l'.chg, l'⟩
theorem Live.textL (l : Live W w b D) (s : Hid (ActSeen W ab off k a)) (ht : a.text.size ≤ 100) (c : Chg (fun _ => False) w w1) :
    Calls Try.prog 23 #[.agg #[.int .i64 a.kind, .int .i64 a.sector, .int .i64 a.bytes, .string a.text, .bool a.odd, .int .i64 a.after]] w1 fun e w' => e = .returned (.string a.txt) ∧ ActSeen w' ab off k a ∧ Hid (Live W w' b D) := by
  refine (text_ok a w1 ht).mono ?_
  rintro e w' ⟨he, c'⟩
  have l' := l.kept (c.trans c' (fun _ _ h => h))
  exact ⟨he, s.out.kept l'.chg, l'⟩
theorem Live.writeL (l : Live W w b D) (s : Hid (ActSeen W ab off k a)) (ht : a.text.size ≤ 100) (hml : D.q.length < 1000) :
    Calls Try.prog 22 #[.pointer (some ⟨b, 0, none⟩), .int .i64 a.sector, .string a.txt] w fun e w' => e = .returned (.int .i64 (D.write a.sector a.txt).1) ∧ ActSeen w' ab off k a ∧ Hid (Live W w' b (D.write a.sector a.txt).2) := by
  refine (l.write a.sector a.txt (by have := a.txt_le ht; omega) hml).mono ?_
  rintro e w' ⟨he, l'⟩
  exact ⟨he, s.out.kept l'.chg, l'⟩
end

/-! An armed disk. -/
def DS.with_ (D : DS) (z : Option (Int × Int × Int)) : DS := { D with arm := z }
theorem DS.with_set (D : DS) (z) (i : Nat) (t : List UInt8) : (D.with_ z).set i t = (D.set i t).with_ z := rfl
theorem DS.with_settle (l : List (Nat × ByteArray)) : ∀ (D : DS) (z), (D.with_ z).settle l = (D.settle l).with_ z := by
  induction l with
  | nil => intro D z; rfl
  | cons p l ih => intro D z; exact ih (D.set p.1 (ba p.2)) z
theorem DS.with_torn (D : DS) (z) (p : Option (Nat × ByteArray)) (y : Int) : (D.with_ z).torn p y = (D.torn p y).with_ z := by
  unfold DS.torn
  cases p with
  | none => rfl
  | some p => dsimp only; split <;> rfl
theorem DS.with_fail (D : DS) (z) (x y : Int) (ho : D.off = false) : (D.with_ z).fail x y = D.fail x y := by
  have ho' : (D.with_ z).off = false := ho
  unfold DS.fail
  rw [ho, ho']
  show (((D.with_ z).settle (D.q.take _)).torn _ _).down = _
  rw [DS.with_settle, DS.with_torn]
  rfl
def armOf (left x y : Int) : Option (Int × Int × Int) := if 0 ≤ left then some (left, x, y) else none
theorem DS.armed_count (D : DS) (left x y : Int) (ho : D.off = false) :
    (D.with_ (armOf left x y)).count = if left = 0 then (19, D.fail x y) else if 0 < left then (0, D.with_ (armOf (left - 1) x y)) else (0, D.with_ (armOf left x y)) := by
  unfold armOf
  by_cases h : 0 ≤ left
  · rw [if_pos h]
    by_cases h0 : left = 0
    · subst h0
      rw [if_pos rfl]
      show (if (0 : Int) < 0 then ((0 : Int), D.with_ (some (0 - 1, x, y))) else ((19 : Int), (D.with_ (some (0, x, y))).fail x y)) = _
      rw [if_neg (by omega), DS.with_fail D _ x y ho]
    · have h1 : 0 < left := by omega
      rw [if_neg h0, if_pos h1, if_pos (by omega)]
      show (if 0 < left then ((0 : Int), (D.with_ (some (left - 1, x, y)))) else _) = _
      rw [if_pos h1]
  · rw [if_neg h, if_neg (by omega), if_neg (by omega)]
    rfl
theorem DS.armed_write (D : DS) (left x y : Int) (ho : D.off = false) (i : Int) (s : ByteArray) :
    (D.with_ (armOf left x y)).write i s = if D.bad i = true ∨ s.size ≠ 64 then (1, D.with_ (armOf left x y)) else ((D.push i.toNat s).with_ (armOf left x y)).count := by
  have ho' : (D.with_ (armOf left x y)).off = false := ho
  have hb' : (D.with_ (armOf left x y)).bad i = D.bad i := rfl
  unfold DS.write
  rw [ho', hb']
  by_cases hb : D.bad i = true
  · simp [hb]
  · by_cases hs : s.size = 64
    · simp [hb, hs]; rfl
    · simp [hb, hs]
theorem DS.armed_sync (D : DS) (left x y : Int) (ho : D.off = false) :
    (D.with_ (armOf left x y)).sync = if left = 0 then (19, D.fail x y) else if 0 < left then (0, D.clean.with_ (armOf (left - 1) x y)) else (0, D.clean.with_ (armOf left x y)) := by
  have ho' : (D.with_ (armOf left x y)).off = false := ho
  have hc : ∀ z, (D.with_ z).clean = D.clean.with_ z := by
    intro z
    show { (D.with_ z).settle D.q with q := [] } = _
    rw [DS.with_settle]; rfl
  unfold DS.sync
  rw [ho', DS.armed_count D left x y ho]
  by_cases h0 : left = 0
  · simp [h0]
  · by_cases h1 : 0 < left
    · simp [h0, h1, hc]
    · simp [h0, h1, hc]
theorem DS.with_start (D : DS) (z) : (D.with_ z).start = D.start := rfl
theorem DS.toArm_eq (D : DS) (ho : D.off = false) (a x y : Int) : D.toArm a x y = D.with_ (armOf a x y) := by
  simp [DS.toArm, DS.with_, armOf, ho]
end Go.Proofs.Ytageboekobkdcaa

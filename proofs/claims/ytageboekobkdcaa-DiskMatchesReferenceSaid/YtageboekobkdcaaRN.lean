/- A disk beside a reference disk. -/
import Derived.Test.YtageboekobkdcaaRL
namespace Go.Proofs.Ytageboekobkdcaa
open Go.RowKit

def DuoR (W w : World) (b rb : Nat) (D E : DS) : Prop :=
  ∃ (h : DH) (hr : RH), DiskAt w h D ∧ RefAt w hr E ∧ h.b = b ∧ hr.b = rb ∧ (∀ k, h.own k → ¬ hr.own k) ∧ (∀ k, h.own k → W.heap.size ≤ k) ∧ (∀ k, hr.own k → W.heap.size ≤ k) ∧ Chg (fun _ => False) W w
section
variable {W w : World} {b rb : Nat} {D E : DS}
theorem DuoR.chg (l : DuoR W w b rb D E) : Chg (fun _ => False) W w := by obtain ⟨h, hr, d, dr, e1, e2, ha, o1, o2, c⟩ := l; exact c
theorem DuoR.kept {w' : World} (l : DuoR W w b rb D E) (c' : Chg (fun _ => False) w w') : DuoR W w' b rb D E := by
  obtain ⟨h, hr, d, dr, e1, e2, ha, o1, o2, c⟩ := l
  exact ⟨h, hr, d.kept c' (fun _ _ h => h), dr.kept c' (fun _ _ h => h), e1, e2, ha, o1, o2, c.trans c' (fun _ _ h => h)⟩
theorem DuoR.liftD {D' : DS} {f : Nat} {args : Array Value} {r : Value} (l : DuoR W w b rb D E)
    (hc : ∀ h : DH, DiskAt w h D → h.b = b → Calls Try.prog f args w fun e w' => e = .returned r ∧ Turn w w' h D') :
    Calls Try.prog f args w fun e w' => e = .returned r ∧ DuoR W w' b rb D' E := by
  obtain ⟨h, hr, d, dr, e1, e2, ha, o1, o2, c⟩ := l
  refine (hc h d e1).mono ?_
  rintro e w' ⟨he, h', d', hb, c', o'⟩
  refine ⟨he, h', hr, d', dr.kept c' (fun k k2 k1 => ha k k1 k2), hb.trans e1, e2, ?_, ?_, o2, c.trans c' (fun i hi hk => by have := o1 i hk; omega)⟩
  · intro k hk k2
    rcases o' k hk with h | h
    · exact ha k h k2
    · have := dr.lt k k2; omega
  · intro k hk
    rcases o' k hk with h | h
    · exact o1 k h
    · exact Nat.le_trans c.size h
theorem DuoR.liftR {E' : DS} {f : Nat} {args : Array Value} {r : Value} (l : DuoR W w b rb D E)
    (hc : ∀ h : RH, RefAt w h E → h.b = rb → Calls Try.prog f args w fun e w' => e = .returned r ∧ RTurn w w' h E') :
    Calls Try.prog f args w fun e w' => e = .returned r ∧ DuoR W w' b rb D E' := by
  obtain ⟨h, hr, d, dr, e1, e2, ha, o1, o2, c⟩ := l
  refine (hc hr dr e2).mono ?_
  rintro e w' ⟨he, h', d', hb, c', o'⟩
  refine ⟨he, h, h', d.kept c' (fun k k1 k2 => ha k k1 k2), d', e1, hb.trans e2, ?_, o1, ?_, c.trans c' (fun i hi hk => by have := o2 i hk; omega)⟩
  · intro k k1 hk
    rcases o' k hk with h | h
    · exact ha k k1 h
    · have := d.lt k k1; omega
  · intro k hk
    rcases o' k hk with h | h
    · exact o2 k h
    · exact Nat.le_trans c.size h
theorem DuoR.act (l : DuoR W w b rb D E) (a : AC) (hml : D.q.length < 1000) (ht : a.text.size ≤ 100) (hf : a.after ≤ 9223372036854775807) :
    Calls Try.prog 15 #[.pointer (some ⟨b, 0, none⟩), .agg #[.int .i64 a.kind, .int .i64 a.sector, .int .i64 a.bytes, .string a.text, .bool a.odd, .int .i64 a.after]] w fun e w' => e = .returned (.tuple #[.string (D.act a).1.1, .int .i64 (D.act a).1.2]) ∧ DuoR W w' b rb (D.act a).2 E :=
  l.liftD fun h d hb => by rw [← hb]; exact do_ok h D a w d hml ht hf
theorem DuoR.want (l : DuoR W w b rb D E) (a : AC) (hml : E.q.length < 1000) (ht : a.text.size ≤ 100) (hf : a.after ≤ 9223372036854775807) :
    Calls Try.prog 16 #[.pointer (some ⟨rb, 0, none⟩), .agg #[.int .i64 a.kind, .int .i64 a.sector, .int .i64 a.bytes, .string a.text, .bool a.odd, .int .i64 a.after]] w fun e w' => e = .returned (.tuple #[.string (E.act a).1.1, .int .i64 (E.act a).1.2]) ∧ DuoR W w' b rb D (E.act a).2 :=
  l.liftR fun h d hb => by rw [← hb]; exact want_ok h E a w d hml ht hf
theorem DuoR.read (l : DuoR W w b rb D E) (i : Int) (hml : D.q.length ≤ 1000) : Calls Try.prog 17 #[.pointer (some ⟨b, 0, none⟩), .int .i64 i] w fun e w' => e = .returned (.tuple #[.string (D.read i).1, .int .i64 (D.read i).2]) ∧ DuoR W w' b rb D E :=
  l.liftD fun h d hb => by rw [← hb]; exact (read_ok h D i w d hml).mono fun e w' ⟨he, c⟩ => ⟨he, Turn.same d c⟩
theorem DuoR.rread (l : DuoR W w b rb D E) (i : Int) (hml : E.q.length ≤ 1000) : Calls Try.prog 18 #[.pointer (some ⟨rb, 0, none⟩), .int .i64 i] w fun e w' => e = .returned (.tuple #[.string (E.read i).1, .int .i64 (E.read i).2]) ∧ DuoR W w' b rb D E :=
  l.liftR fun h d hb => by rw [← hb]; exact (rread_ok h E i w d hml).mono fun e w' ⟨he, hw⟩ => ⟨he, by subst hw; exact RTurn.same d (Chg.refl _ _)⟩
theorem Live.rnew (l : Live W w b D) (n : Nat) (h1 : 1 ≤ n) (h2 : n ≤ 4000) :
    Calls Try.prog 14 #[.int .i64 (n : Int)] w fun e w' => ∃ rb, e = .returned (.pointer (some ⟨rb, 0, none⟩)) ∧ DuoR W w' b rb D (DS.new n) := by
  obtain ⟨h, d, hb, ho, c⟩ := l
  refine (rnew_ok n w h1 h2).mono ?_
  rintro e w' ⟨hr, he, dr, c', o⟩
  exact ⟨hr.b, he, h, hr, d.kept c' (fun _ _ h => h), dr, hb, rfl, fun k k1 k2 => by have := d.lt k k1; have := o k k2; omega, ho, fun k hk => Nat.le_trans c.size (o k hk), c.trans c' (fun _ _ h => h)⟩
end
def MatRel (W : World) (n : Nat) (l : List AC) (b rb : Nat) (k : Nat) (wr : World) : Prop := DuoR W wr b rb ((DS.new n).acts (l.take k)) ((DS.new n).acts (l.take k))
/-- New, whatever the number: nil exactly where it is not valid. -/
theorem new_any (z : Int) (w : World) : Calls Try.prog 12 #[.int .i64 z] w fun e w' => ∃ p, e = .returned (.pointer p) ∧ p.isNone = (decide (z < 1) || decide (4000 < z)) ∧ Hid (Chg (fun _ => False) w w') := by
  by_cases h : z < 1 ∨ 4000 < z
  · refine (new_none z w h).mono ?_
    rintro e w' ⟨rfl, rfl⟩
    refine ⟨none, rfl, ?_, Chg.refl _ _⟩
    rcases h with h | h <;> simp [h]
  · obtain ⟨n, rfl⟩ := Int.eq_ofNat_of_zero_le (by omega : 0 ≤ z)
    refine (new_some n w (by omega) (by omega)).mono ?_
    rintro e w' ⟨hd, he, d, c, o⟩
    refine ⟨_, he, ?_, c⟩
    simp; omega
end Go.Proofs.Ytageboekobkdcaa

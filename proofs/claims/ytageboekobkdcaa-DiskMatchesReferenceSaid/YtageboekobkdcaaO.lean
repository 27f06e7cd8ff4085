/- One disk of the law's own, from the law's beginning on; two of them. -/
import Derived.Test.YtageboekobkdcaaN
namespace Go.Proofs.Ytageboekobkdcaa
open Go.RowKit

/-- A disk that the law has made: it lies in blocks made since the law began; nothing that was there has turned. -/
def Live (W w : World) (b : Nat) (D : DS) : Prop := ∃ h : DH, DiskAt w h D ∧ h.b = b ∧ (∀ k, h.own k → W.heap.size ≤ k) ∧ Chg (fun _ => False) W w
theorem Live.wf {W w : World} {b : Nat} {D : DS} (l : Live W w b D) : D.wf := by obtain ⟨h, d, _⟩ := l; exact d.wf
theorem Live.chg {W w : World} {b : Nat} {D : DS} (l : Live W w b D) : Chg (fun _ => False) W w := by obtain ⟨h, _, _, _, c⟩ := l; exact c
theorem Live.kept {W w w' : World} {b : Nat} {D : DS} (l : Live W w b D) (c : Chg (fun _ => False) w w') : Live W w' b D := by
  obtain ⟨h, d, hb, ho, c0⟩ := l
  exact ⟨h, d.kept c (fun _ _ h => h), hb, ho, c0.trans c (fun _ _ h => h)⟩
theorem Live.turn {W w w' : World} {h : DH} {D' : DS} (ho : ∀ k, h.own k → W.heap.size ≤ k) (c : Chg (fun _ => False) W w) (t : Turn w w' h D') : Live W w' h.b D' := by
  obtain ⟨h', d', hb, c', o'⟩ := t
  refine ⟨h', d', hb, ?_, c.trans c' (fun i hi hk => by have := ho i hk; omega)⟩
  intro k hk
  rcases o' k hk with h1 | h1
  · exact ho k h1
  · exact Nat.le_trans c.size h1
theorem Live.lift {W w : World} {b : Nat} {D D' : DS} {f : Nat} {args : Array Value} {r : Value} (l : Live W w b D)
    (hc : ∀ h : DH, DiskAt w h D → h.b = b → Calls Try.prog f args w fun e w' => e = .returned r ∧ Turn w w' h D') :
    Calls Try.prog f args w fun e w' => e = .returned r ∧ Live W w' b D' := by
  obtain ⟨h, d, hb, ho, c⟩ := l
  refine (hc h d hb).mono ?_
  rintro e w' ⟨he, t⟩
  exact ⟨he, by rw [← hb]; exact Live.turn ho c t⟩

section
variable {W w : World} {b : Nat} {D : DS}
theorem Live.write (l : Live W w b D) (i : Int) (s : ByteArray) (hs : s.size ≤ 9223372036854775807) (hml : D.q.length < 1000) :
    Calls Try.prog 22 #[.pointer (some ⟨b, 0, none⟩), .int .i64 i, .string s] w fun e w' => e = .returned (.int .i64 (D.write i s).1) ∧ Live W w' b (D.write i s).2 :=
  l.lift fun h d hb => by rw [← hb]; exact write_ok h D i s w d hs hml
theorem Live.sync (l : Live W w b D) (hml : D.q.length ≤ 1000) :
    Calls Try.prog 20 #[.pointer (some ⟨b, 0, none⟩)] w fun e w' => e = .returned (.int .i64 D.sync.1) ∧ Live W w' b D.sync.2 :=
  l.lift fun h d hb => by rw [← hb]; exact sync_ok h D w d hml
theorem Live.fail (l : Live W w b D) (x y : Int) (hml : D.q.length ≤ 1000) :
    Calls Try.prog 24 #[.pointer (some ⟨b, 0, none⟩), .int .i64 x, .int .i64 y] w fun e w' => e = .returned (.tuple #[]) ∧ Live W w' b (D.fail x y) :=
  l.lift fun h d hb => by rw [← hb]; exact fail_ok h D x y w d hml
theorem Live.start (l : Live W w b D) : Calls Try.prog 19 #[.pointer (some ⟨b, 0, none⟩)] w fun e w' => e = .returned (.tuple #[]) ∧ Live W w' b D.start :=
  l.lift fun h d hb => by rw [← hb]; exact start_ok h D w d
theorem Live.toArm (l : Live W w b D) (a x y : Int) (ha : a ≤ 9223372036854775807) : Calls Try.prog 28 #[.pointer (some ⟨b, 0, none⟩), .int .i64 a, .int .i64 x, .int .i64 y] w fun e w' => e = .returned (.tuple #[]) ∧ Live W w' b (D.toArm a x y) :=
  l.lift fun h d hb => by rw [← hb]; exact toArm_ok h D a x y w d ha
theorem Live.rot (l : Live W w b D) (i a m : Int) : Calls Try.prog 29 #[.pointer (some ⟨b, 0, none⟩), .int .i64 i, .int .i64 a, .int .i64 m] w fun e w' => e = .returned (.tuple #[]) ∧ Live W w' b (D.rot i a m) :=
  l.lift fun h d hb => by rw [← hb]; exact rot_ok h D i a m w d
theorem Live.stale (l : Live W w b D) (i : Int) : Calls Try.prog 30 #[.pointer (some ⟨b, 0, none⟩), .int .i64 i] w fun e w' => e = .returned (.tuple #[]) ∧ Live W w' b (D.stale i) :=
  l.lift fun h d hb => by rw [← hb]; exact stale_ok h D i w d
theorem Live.read (l : Live W w b D) (i : Int) (hml : D.q.length ≤ 1000) : Calls Try.prog 17 #[.pointer (some ⟨b, 0, none⟩), .int .i64 i] w fun e w' => e = .returned (.tuple #[.string (D.read i).1, .int .i64 (D.read i).2]) ∧ Live W w' b D :=
  l.lift fun h d hb => by rw [← hb]; exact (read_ok h D i w d hml).mono fun e w' ⟨he, c⟩ => ⟨he, Turn.same d c⟩
theorem Live.act (l : Live W w b D) (a : AC) (hml : D.q.length < 1000) (ht : a.text.size ≤ 100) (hf : a.after ≤ 9223372036854775807) :
    Calls Try.prog 15 #[.pointer (some ⟨b, 0, none⟩), .agg #[.int .i64 a.kind, .int .i64 a.sector, .int .i64 a.bytes, .string a.text, .bool a.odd, .int .i64 a.after]] w fun e w' => e = .returned (.tuple #[.string (D.act a).1.1, .int .i64 (D.act a).1.2]) ∧ Live W w' b (D.act a).2 :=
  l.lift fun h d hb => by rw [← hb]; exact do_ok h D a w d hml ht hf
end
/-- New, from a law's middle. -/
theorem live_new (W w : World) (c : Chg (fun _ => False) W w) (n : Nat) (h1 : 1 ≤ n) (h2 : n ≤ 4000) :
    Calls Try.prog 12 #[.int .i64 (n : Int)] w fun e w' => ∃ b, e = .returned (.pointer (some ⟨b, 0, none⟩)) ∧ Live W w' b (DS.new n) := by
  refine (new_some n w h1 h2).mono ?_
  rintro e w' ⟨h, he, d, c', o⟩
  exact ⟨h.b, he, h, d, rfl, fun k hk => Nat.le_trans c.size (o k hk), c.trans c' (fun _ _ h => h)⟩

/-! Two disks. -/
def Duo (W w : World) (b1 : Nat) (D1 : DS) (b2 : Nat) (D2 : DS) : Prop :=
  ∃ h1 h2 : DH, DiskAt w h1 D1 ∧ DiskAt w h2 D2 ∧ h1.b = b1 ∧ h2.b = b2 ∧ (∀ k, h1.own k → ¬ h2.own k) ∧ (∀ k, h1.own k → W.heap.size ≤ k) ∧ (∀ k, h2.own k → W.heap.size ≤ k) ∧ Chg (fun _ => False) W w
theorem Duo.symm {W w : World} {b1 b2 : Nat} {D1 D2 : DS} (l : Duo W w b1 D1 b2 D2) : Duo W w b2 D2 b1 D1 := by
  obtain ⟨h1, h2, d1, d2, e1, e2, ha, o1, o2, c⟩ := l
  exact ⟨h2, h1, d2, d1, e2, e1, fun k k2 k1 => ha k k1 k2, o2, o1, c⟩
theorem Duo.chg {W w : World} {b1 b2 : Nat} {D1 D2 : DS} (l : Duo W w b1 D1 b2 D2) : Chg (fun _ => False) W w := by
  obtain ⟨h1, h2, d1, d2, e1, e2, ha, o1, o2, c⟩ := l; exact c
theorem Duo.wf1 {W w : World} {b1 b2 : Nat} {D1 D2 : DS} (l : Duo W w b1 D1 b2 D2) : D1.wf := by obtain ⟨h1, h2, d1, _⟩ := l; exact d1.wf
theorem Duo.kept {W w w' : World} {b1 b2 : Nat} {D1 D2 : DS} (l : Duo W w b1 D1 b2 D2) (c : Chg (fun _ => False) w w') : Duo W w' b1 D1 b2 D2 := by
  obtain ⟨h1, h2, d1, d2, e1, e2, ha, o1, o2, c0⟩ := l
  exact ⟨h1, h2, d1.kept c (fun _ _ h => h), d2.kept c (fun _ _ h => h), e1, e2, ha, o1, o2, c0.trans c (fun _ _ h => h)⟩
theorem Duo.lift {W w : World} {b1 b2 : Nat} {D1 D2 D' : DS} {f : Nat} {args : Array Value} {r : Value} (l : Duo W w b1 D1 b2 D2)
    (hc : ∀ h : DH, DiskAt w h D1 → h.b = b1 → Calls Try.prog f args w fun e w' => e = .returned r ∧ Turn w w' h D') :
    Calls Try.prog f args w fun e w' => e = .returned r ∧ Duo W w' b1 D' b2 D2 := by
  obtain ⟨h1, h2, d1, d2, e1, e2, ha, o1, o2, c⟩ := l
  refine (hc h1 d1 e1).mono ?_
  rintro e w' ⟨he, h', d', hb, c', o'⟩
  refine ⟨he, h', h2, d', d2.kept c' (fun k k2 k1 => ha k k1 k2), hb.trans e1, e2, ?_, ?_, o2, c.trans c' (fun i hi hk => by have := o1 i hk; omega)⟩
  · intro k hk k2
    rcases o' k hk with h | h
    · exact ha k h k2
    · have := d2.lt k k2; omega
  · intro k hk
    rcases o' k hk with h | h
    · exact o1 k h
    · exact Nat.le_trans c.size h
theorem Duo.new {W w : World} {b1 : Nat} {D1 : DS} (l : Live W w b1 D1) (n : Nat) (h1 : 1 ≤ n) (h2 : n ≤ 4000) :
    Calls Try.prog 12 #[.int .i64 (n : Int)] w fun e w' => ∃ b, e = .returned (.pointer (some ⟨b, 0, none⟩)) ∧ Duo W w' b1 D1 b (DS.new n) := by
  obtain ⟨h, d, hb, ho, c⟩ := l
  refine (new_some n w h1 h2).mono ?_
  rintro e w' ⟨h', he, d', c', o⟩
  exact ⟨h'.b, he, h, h', d.kept c' (fun _ _ h => h), d', hb, rfl, fun k k1 k2 => by have := d.lt k k1; have := o k k2; omega, ho, fun k hk => Nat.le_trans c.size (o k hk), c.trans c' (fun _ _ h => h)⟩
theorem Live.new' {W w : World} {b1 : Nat} {D1 : DS} (l : Live W w b1 D1) (n : Nat) (h1 : 1 ≤ n) (h2 : n ≤ 4000) :
    Calls Try.prog 12 #[.int .i64 (n : Int)] w fun e w' => ∃ b, e = .returned (.pointer (some ⟨b, 0, none⟩)) ∧ Duo W w' b1 D1 b (DS.new n) := Duo.new l n h1 h2
theorem Duo.live1 {W w : World} {b1 b2 : Nat} {D1 D2 : DS} (l : Duo W w b1 D1 b2 D2) : Live W w b1 D1 := by
  obtain ⟨h1, h2, d1, d2, e1, e2, ha, o1, o2, c⟩ := l
  exact ⟨h1, d1, e1, o1, c⟩
section
variable {W w : World} {b b2 : Nat} {D D2 : DS}
theorem Duo.write (l : Duo W w b D b2 D2) (i : Int) (s : ByteArray) (hs : s.size ≤ 9223372036854775807) (hml : D.q.length < 1000) :
    Calls Try.prog 22 #[.pointer (some ⟨b, 0, none⟩), .int .i64 i, .string s] w fun e w' => e = .returned (.int .i64 (D.write i s).1) ∧ Duo W w' b (D.write i s).2 b2 D2 :=
  l.lift fun h d hb => by rw [← hb]; exact write_ok h D i s w d hs hml
theorem Duo.sync (l : Duo W w b D b2 D2) (hml : D.q.length ≤ 1000) :
    Calls Try.prog 20 #[.pointer (some ⟨b, 0, none⟩)] w fun e w' => e = .returned (.int .i64 D.sync.1) ∧ Duo W w' b D.sync.2 b2 D2 :=
  l.lift fun h d hb => by rw [← hb]; exact sync_ok h D w d hml
theorem Duo.fail (l : Duo W w b D b2 D2) (x y : Int) (hml : D.q.length ≤ 1000) :
    Calls Try.prog 24 #[.pointer (some ⟨b, 0, none⟩), .int .i64 x, .int .i64 y] w fun e w' => e = .returned (.tuple #[]) ∧ Duo W w' b (D.fail x y) b2 D2 :=
  l.lift fun h d hb => by rw [← hb]; exact fail_ok h D x y w d hml
theorem Duo.start (l : Duo W w b D b2 D2) : Calls Try.prog 19 #[.pointer (some ⟨b, 0, none⟩)] w fun e w' => e = .returned (.tuple #[]) ∧ Duo W w' b D.start b2 D2 :=
  l.lift fun h d hb => by rw [← hb]; exact start_ok h D w d
theorem Duo.toArm (l : Duo W w b D b2 D2) (a x y : Int) (ha : a ≤ 9223372036854775807) : Calls Try.prog 28 #[.pointer (some ⟨b, 0, none⟩), .int .i64 a, .int .i64 x, .int .i64 y] w fun e w' => e = .returned (.tuple #[]) ∧ Duo W w' b (D.toArm a x y) b2 D2 :=
  l.lift fun h d hb => by rw [← hb]; exact toArm_ok h D a x y w d ha
theorem Duo.act (l : Duo W w b D b2 D2) (a : AC) (hml : D.q.length < 1000) (ht : a.text.size ≤ 100) (hf : a.after ≤ 9223372036854775807) :
    Calls Try.prog 15 #[.pointer (some ⟨b, 0, none⟩), .agg #[.int .i64 a.kind, .int .i64 a.sector, .int .i64 a.bytes, .string a.text, .bool a.odd, .int .i64 a.after]] w fun e w' => e = .returned (.tuple #[.string (D.act a).1.1, .int .i64 (D.act a).1.2]) ∧ Duo W w' b (D.act a).2 b2 D2 :=
  l.lift fun h d hb => by rw [← hb]; exact do_ok h D a w d hml ht hf
end

theorem DS.len_fail (D : DS) (x y : Int) : (D.fail x y).q.length ≤ D.q.length := by
  unfold DS.fail; split
  · exact Nat.le_refl _
  · simp [DS.down]
theorem DS.len_count (D : DS) : D.count.2.q.length ≤ D.q.length := by
  unfold DS.count; split
  · exact Nat.le_refl _
  · split
    · exact Nat.le_refl _
    · exact DS.len_fail _ _ _
theorem DS.len_write (D : DS) (i : Int) (s : ByteArray) : (D.write i s).2.q.length ≤ D.q.length + 1 := by
  unfold DS.write
  repeat' split
  · exact Nat.le_succ _
  · exact Nat.le_succ _
  · exact Nat.le_succ _
  · exact Nat.le_trans (DS.len_count _) (by simp [DS.push])
theorem DS.len_sync (D : DS) : D.sync.2.q.length ≤ D.q.length := by
  unfold DS.sync
  repeat' split
  · exact Nat.le_refl _
  · exact DS.len_count _
  · simp [DS.clean]
theorem DS.len_act (D : DS) (a : AC) : (D.act a).2.q.length ≤ D.q.length + 1 := by
  unfold DS.act
  repeat' split
  · exact DS.len_write _ _ _
  · exact Nat.le_succ _
  · exact Nat.le_trans (DS.len_sync _) (Nat.le_succ _)
  · exact Nat.le_trans (DS.len_fail _ _ _) (Nat.le_succ _)
  · exact Nat.le_succ _
  · show (D.toArm _ _ _).q.length ≤ _
    unfold DS.toArm; split <;> exact Nat.le_succ _
  · show (D.rot _ _ _).q.length ≤ _
    unfold DS.rot; split <;> exact Nat.le_succ _
  · show (D.stale _).q.length ≤ _
    unfold DS.stale; split <;> exact Nat.le_succ _
  · exact Nat.le_succ _
end Go.Proofs.Ytageboekobkdcaa

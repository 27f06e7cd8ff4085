/- Lists of operations; what contents leaves, for a law's walk. -/
import Derived.Test.YtageboekobkdcaaR
namespace Go.Proofs.Ytageboekobkdcaa
open Go.RowKit

def DS.acts (D : DS) (l : List AC) : DS := l.foldl (fun D a => (D.act a).2) D
theorem DS.acts_snoc (D : DS) (l : List AC) (a : AC) : D.acts (l ++ [a]) = ((D.acts l).act a).2 := by simp [DS.acts]
theorem DS.acts_len (D : DS) (l : List AC) : (D.acts l).q.length ≤ D.q.length + l.length := by
  induction l generalizing D with
  | nil => exact Nat.le_refl _
  | cons a l ih =>
    have h1 := ih ((D.act a).2)
    have h2 := DS.len_act D a
    show ((D.act a).2.acts l).q.length ≤ _
    simp only [List.length_cons]; omega
theorem DS.n_set (D : DS) (i : Nat) (t : List UInt8) : (D.set i t).n = D.n := rfl
theorem DS.n_fail (D : DS) (x y : Int) : (D.fail x y).n = D.n := by
  unfold DS.fail; split
  · rfl
  · show ((D.settle _).torn _ _).n = _
    rw [(DS.torn_rest _ _ _).2.1, (DS.settle_rest _ _).2.1]
theorem DS.n_count (D : DS) : D.count.2.n = D.n := by
  unfold DS.count; split
  · rfl
  · split
    · rfl
    · exact DS.n_fail _ _ _
theorem DS.n_write (D : DS) (i : Int) (s : ByteArray) : (D.write i s).2.n = D.n := by
  unfold DS.write
  repeat' split
  · rfl
  · rfl
  · rfl
  · exact DS.n_count _
theorem DS.n_sync (D : DS) : D.sync.2.n = D.n := by
  unfold DS.sync
  repeat' split
  · rfl
  · exact DS.n_count _
  · show (D.count.2.settle _).n = _
    rw [(DS.settle_rest _ _).2.1, DS.n_count]
theorem DS.n_act (D : DS) (a : AC) : (D.act a).2.n = D.n := by
  unfold DS.act
  repeat' split
  · exact DS.n_write _ _ _
  · rfl
  · exact DS.n_sync _
  · exact DS.n_fail _ _ _
  · rfl
  · show (D.toArm _ _ _).n = _
    unfold DS.toArm; split <;> rfl
  · show (D.rot _ _ _).n = _
    unfold DS.rot; split <;> rfl
  · show (D.stale _).n = _
    unfold DS.stale; split <;> rfl
  · rfl
theorem DS.n_acts (D : DS) (l : List AC) : (D.acts l).n = D.n := by
  induction l generalizing D with
  | nil => rfl
  | cons a l ih => exact (ih _).trans (DS.n_act D a)

theorem take_snoc' {α : Type} (l : List α) (k : Nat) (h : k < l.length) : l.take (k + 1) = l.take k ++ [l[k]] := List.take_succ_eq_append_getElem h

/-- What contents leaves, for a walk that goes on. -/
structure Got (w w' : World) (g : Nat) (c : Nat) (l : List ByteArray) : Prop where
  own : Hid (StrsOwn w' w.heap.size (.slice (some ⟨g, 0, none⟩) l.length c) l)
  at_ : Hid (StrsAt w' (some ⟨g, 0, none⟩) l)
  lo : w.heap.size ≤ g
  hi : g < w'.heap.size
theorem Got.of {w w' : World} {v : Value} {l : List ByteArray} (h : StrsOwn w' w.heap.size v l) (hl : 0 < l.length) : ∃ g c, v = .slice (some ⟨g, 0, none⟩) l.length c ∧ Got w w' g c l := by
  obtain ⟨g, c, hv, hb, hlt⟩ := World.ownsRow.form h hl
  subst hv
  refine ⟨g, c, rfl, h, ?_, hb, hlt⟩
  intro k hk
  refine ⟨g, 0, rfl, ?_⟩
  have := World.ownsRow.cellAt h k (by omega)
  rw [Nat.zero_add, this, List.getElem?_map, List.getElem?_eq_getElem hk]
  rfl
theorem Live.contents {W w : World} {b : Nat} {D : DS} (l : Live W w b D) (ho : D.off = false) (hml : D.q.length ≤ 1000) {n : Nat} (hn : D.n = n) :
    Calls Try.prog 21 #[.pointer (some ⟨b, 0, none⟩), .int .i64 (n : Int)] w fun e w' => ∃ g c, e = .returned (.tuple #[.slice (some ⟨g, 0, none⟩) n c, .bool true]) ∧ Got w w' g c D.conts ∧ Hid (Chg (fun _ => False) w w' ∧ Live W w' b D) := by
  obtain ⟨h, d, hb, hown, c⟩ := l
  rw [← hb, ← hn]
  refine (contents_ok h D w d ho hml).mono ?_
  rintro e w' ⟨v, rfl, own, c'⟩
  obtain ⟨g, cp, rfl, got⟩ := Got.of own (by rw [DS.conts_length]; exact d.wf.n1)
  refine ⟨g, cp, ?_, got, c', h, d.kept c' (fun _ _ h => h), rfl, hown, c.trans c' (fun _ _ h => h)⟩
  rw [DS.conts_length]
theorem Duo.contents {W w : World} {b b2 : Nat} {D D2 : DS} (l : Duo W w b D b2 D2) (ho : D.off = false) (hml : D.q.length ≤ 1000) {n : Nat} (hn : D.n = n) :
    Calls Try.prog 21 #[.pointer (some ⟨b, 0, none⟩), .int .i64 (n : Int)] w fun e w' => ∃ g c, e = .returned (.tuple #[.slice (some ⟨g, 0, none⟩) n c, .bool true]) ∧ Got w w' g c D.conts ∧ Hid (Chg (fun _ => False) w w' ∧ Duo W w' b D b2 D2) := by
  obtain ⟨h1, h2, d1, d2, e1, e2, ha, o1, o2, c⟩ := l
  rw [← e1, ← hn]
  refine (contents_ok h1 D w d1 ho hml).mono ?_
  rintro e w' ⟨v, rfl, own, c'⟩
  obtain ⟨g, cp, rfl, got⟩ := Got.of own (by rw [DS.conts_length]; exact d1.wf.n1)
  refine ⟨g, cp, ?_, got, c', h1, h2, d1.kept c' (fun _ _ h => h), d2.kept c' (fun _ _ h => h), rfl, e2, ha, o1, o2, c.trans c' (fun _ _ h => h)⟩
  rw [DS.conts_length]

/-- Started: on, no alarm. -/
theorem DS.sync_started (D : DS) (ho : D.off = false) (ha : D.arm = none) : D.sync = (0, D.clean) := by
  simp [DS.sync, ho, DS.count, ha]
theorem DS.write_started (D : DS) (ho : D.off = false) (ha : D.arm = none) (i : Int) (s : ByteArray) : D.write i s = if D.bad i = true ∨ s.size ≠ 64 then (1, D) else (0, D.push i.toNat s) := by
  have hp : (D.push i.toNat s).arm = none := ha
  by_cases hb : D.bad i = true
  · simp [DS.write, ho, hb]
  · by_cases hs : s.size = 64
    · simp [DS.write, ho, hb, hs, DS.count, hp]
    · simp [DS.write, ho, hb, hs]

/-- The cells of one operation, for a walk. -/
structure ActSeen (w : World) (b off k : Nat) (a : AC) : Prop where
  c0 : w.cell? ⟨b, off + k * 6, none⟩ = some (.int .i64 a.kind)
  c1 : w.cell? ⟨b, off + k * 6 + 1, none⟩ = some (.int .i64 a.sector)
  c2 : w.cell? ⟨b, off + k * 6 + 2, none⟩ = some (.int .i64 a.bytes)
  c3 : w.cell? ⟨b, off + k * 6 + 3, none⟩ = some (.string a.text)
  c4 : w.cell? ⟨b, off + k * 6 + 4, none⟩ = some (.bool a.odd)
  c5 : w.cell? ⟨b, off + k * 6 + 5, none⟩ = some (.int .i64 a.after)
  lt : b < w.heap.size
theorem ActsAt.seen {w : World} {A : Option Addr} {l : List AC} (h : ActsAt w A l) (k : Nat) (hk : k < l.length) : ∃ b off, A = some ⟨b, off, none⟩ ∧ ActSeen w b off k l[k] := by
  obtain ⟨b, off, hA, hc⟩ := h k hk
  exact ⟨b, off, hA, hc 0 _ rfl, hc 1 _ rfl, hc 2 _ rfl, hc 3 _ rfl, hc 4 _ rfl, hc 5 _ rfl, World.block_lt_of_cell? _ _ (hc 0 _ rfl)⟩
theorem ActSeen.kept {w w' : World} {b off k : Nat} {a : AC} (h : ActSeen w b off k a) (c : Chg (fun _ => False) w w') : ActSeen w' b off k a := by
  have hb := c.block b h.lt (fun h => h)
  refine ⟨?_, ?_, ?_, ?_, ?_, ?_, Nat.lt_of_lt_of_le h.lt c.size⟩
  · exact (World.cell?_of_block hb).trans h.c0
  · exact (World.cell?_of_block hb).trans h.c1
  · exact (World.cell?_of_block hb).trans h.c2
  · exact (World.cell?_of_block hb).trans h.c3
  · exact (World.cell?_of_block hb).trans h.c4
  · exact (World.cell?_of_block hb).trans h.c5
theorem ActsAt.seen' {w : World} {b off : Nat} {l : List AC} (h : ActsAt w (some ⟨b, off, none⟩) l) (k : Nat) (hk : k < l.length) {a : AC} (ha : Hid (a = l[k])) : ActSeen w b off k a := by
  obtain ⟨b', off', hA, sn⟩ := h.seen k hk
  simp only [Option.some.injEq, Addr.mk.injEq, and_true] at hA
  obtain ⟨rfl, rfl⟩ := hA
  rw [ha.out]; exact sn
end Go.Proofs.Ytageboekobkdcaa

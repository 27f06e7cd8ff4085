/- The reference disk: how the plain machine lies in its memory. -/
import Derived.Test.YtageboekobkdcaaW
namespace Go.Proofs.Ytageboekobkdcaa
open Go.RowKit

/-- Where a reference disk lies; what its three numbers are. -/
structure RH where
  b : Nat
  bs : Nat
  be : Nat
  cs : Nat
  ce : Nat
  qv : Value
  a : Int
  x : Int
  y : Int

/-- A block whose first cells are these texts. -/
def StrRow (w : World) (g n : Nat) (f : Nat → List UInt8) : Prop := ∃ cur : Array Value, w.heap[g]? = some (.cells cur 9 (0, 0)) ∧ ∀ i : Nat, i < n → cur[i]? = some (Value.string (mkB (f i)))
theorem StrRow.lt {w : World} {g n : Nat} {f : Nat → List UInt8} (s : StrRow w g n f) : g < w.heap.size := by obtain ⟨_, h, _⟩ := s; exact lt_of_heap h
theorem StrRow.of_block {w w' : World} {g n : Nat} {f : Nat → List UInt8} (s : StrRow w g n f) (h : w'.heap[g]? = w.heap[g]?) : StrRow w' g n f := by
  obtain ⟨cur, h1, h2⟩ := s; exact ⟨cur, h.trans h1, h2⟩
theorem StrRow.cell {w : World} {g n : Nat} {f : Nat → List UInt8} (s : StrRow w g n f) (i : Nat) (hi : i < n) : w.cell? ⟨g, i, none⟩ = some (.string (mkB (f i))) := by
  obtain ⟨cur, h1, h2⟩ := s; rw [cell_of_blk h1]; exact h2 i hi
theorem StrRow.fz {w : World} {g n : Nat} {f : Nat → List UInt8} (s : StrRow w g n f) (i : Nat) : w.frozen? ⟨g, i, none⟩ = false := by
  obtain ⟨cur, h1, h2⟩ := s; exact frozen_of_blk h1 i
theorem StrRow.set {w : World} {g n : Nat} {f : Nat → List UInt8} (s : StrRow w g n f) (i : Nat) (t : List UInt8) : StrRow (w.setCell ⟨g, i, none⟩ (.string (mkB t))) g n (upd f i t) := by
  obtain ⟨cur, h1, h2⟩ := s
  refine ⟨_, setCell_blk h1 i _, fun k hk => ?_⟩
  have hl : k < cur.size := (Array.getElem?_eq_some_iff.1 (h2 k hk)).1
  rw [Array.getElem?_setIfInBounds]
  simp only [upd]
  by_cases hik : i = k
  · subst hik; simp [hl]
  · rw [if_neg hik, if_neg (Ne.symm hik)]; exact h2 k hk

def rentry (p : Nat × ByteArray) : List Value := [.int .i64 (p.1 : Int), .string p.2]
def refCells (h : RH) (D : DS) : Array Value :=
  #[.slice (some ⟨h.bs, 0, none⟩) D.n h.cs, .slice (some ⟨h.be, 0, none⟩) D.n h.ce, h.qv, .bool (!D.off), .bool D.arm.isSome, .int .i64 h.a, .int .i64 h.x, .int .i64 h.y]
structure RH.apart (h : RH) : Prop where
  s : h.b ≠ h.bs
  e : h.b ≠ h.be
  se : h.bs ≠ h.be
  q : ∀ k, h.qv.ownBlock = some k → k ≠ h.b ∧ k ≠ h.bs ∧ k ≠ h.be
structure RefAt (w : World) (h : RH) (D : DS) : Prop where
  blk : w.heap[h.b]? = some (.cells (refCells h D) 64 (0, 0))
  sst : StrRow w h.bs D.n D.st
  sel : StrRow w h.be D.n D.el
  que : w.ownsRow 0 73 2 h.qv D.q.length (D.q.flatMap rentry)
  alm : ∀ a x y, D.arm = some (a, x, y) → h.a = a ∧ h.x = x ∧ h.y = y
  ap : h.apart
  wf : D.wf
def RH.own (h : RH) (k : Nat) : Prop := k = h.b ∨ k = h.bs ∨ k = h.be ∨ h.qv.ownBlock = some k

theorem RefAt.lt {w : World} {h : RH} {D : DS} (d : RefAt w h D) (k : Nat) (hk : h.own k) : k < w.heap.size := by
  rcases hk with rfl | rfl | rfl | hq
  · exact lt_of_heap d.blk
  · exact d.sst.lt
  · exact d.sel.lt
  · exact (d.que.lt k hq).2
theorem RefAt.of_blocks {w w' : World} {h : RH} {D : DS} (d : RefAt w h D) (hb : ∀ k, h.own k → w'.heap[k]? = w.heap[k]?) : RefAt w' h D where
  blk := (hb _ (.inl rfl)).trans d.blk
  sst := d.sst.of_block (hb _ (.inr (.inl rfl)))
  sel := d.sel.of_block (hb _ (.inr (.inr (.inl rfl))))
  que := ownsRow_of_block d.que fun k hk => hb k (.inr (.inr (.inr hk)))
  alm := d.alm
  ap := d.ap
  wf := d.wf
theorem RefAt.kept {w w' : World} {h : RH} {D : DS} {S : Nat → Prop} (d : RefAt w h D) (c : Chg S w w') (hS : ∀ k, h.own k → ¬ S k) : RefAt w' h D :=
  d.of_blocks fun k hk => c.block k (d.lt k hk) (hS k hk)

/-- What a call on a reference disk leaves. -/
def RTurn (w w' : World) (h : RH) (D' : DS) : Prop := ∃ h', RefAt w' h' D' ∧ h'.b = h.b ∧ Chg h.own w w' ∧ ∀ k, h'.own k → h.own k ∨ w.heap.size ≤ k
theorem RTurn.same {w w' : World} {h : RH} {D : DS} (d : RefAt w h D) (c : Chg (fun _ => False) w w') : RTurn w w' h D :=
  ⟨h, d.kept c (fun _ _ h => h), rfl, c.mono (fun _ _ h => h.elim), fun _ hk => .inl hk⟩
theorem RTurn.trans {w w1 w2 : World} {h h1 : RH} {D2 : DS} (hb : h1.b = h.b) (c : Chg h.own w w1) (ho : ∀ k, h1.own k → h.own k ∨ w.heap.size ≤ k) (t : RTurn w1 w2 h1 D2) : RTurn w w2 h D2 := by
  obtain ⟨h2, d2, b2, c2, o2⟩ := t
  refine ⟨h2, d2, b2.trans hb, c.trans c2 ?_, ?_⟩
  · intro i hi h1i
    rcases ho i h1i with h | h
    · exact h
    · omega
  · intro k hk
    rcases o2 k hk with h | h
    · exact ho k h
    · exact .inr (Nat.le_trans c.size h)
theorem RTurn.behind {w W w' : World} {h : RH} {D' : DS} (c : Chg (fun _ => False) w W) (t : RTurn W w' h D') : RTurn w w' h D' :=
  RTurn.trans rfl (c.mono (fun _ _ h => h.elim)) (fun _ hk => .inl hk) t

section
variable {w : World} {h : RH} {D : DS}
theorem RefAt.c0 (d : RefAt w h D) : w.cell? ⟨h.b, 0, none⟩ = some (.slice (some ⟨h.bs, 0, none⟩) D.n h.cs) := by rw [cell_of_blk d.blk]; rfl
theorem RefAt.c1 (d : RefAt w h D) : w.cell? ⟨h.b, 1, none⟩ = some (.slice (some ⟨h.be, 0, none⟩) D.n h.ce) := by rw [cell_of_blk d.blk]; rfl
theorem RefAt.c2 (d : RefAt w h D) : w.cell? ⟨h.b, 2, none⟩ = some h.qv := by rw [cell_of_blk d.blk]; rfl
theorem RefAt.c3 (d : RefAt w h D) : w.cell? ⟨h.b, 3, none⟩ = some (.bool (!D.off)) := by rw [cell_of_blk d.blk]; rfl
theorem RefAt.c4 (d : RefAt w h D) : w.cell? ⟨h.b, 4, none⟩ = some (.bool D.arm.isSome) := by rw [cell_of_blk d.blk]; rfl
theorem RefAt.c5 (d : RefAt w h D) : w.cell? ⟨h.b, 5, none⟩ = some (.int .i64 h.a) := by rw [cell_of_blk d.blk]; rfl
theorem RefAt.c6 (d : RefAt w h D) : w.cell? ⟨h.b, 6, none⟩ = some (.int .i64 h.x) := by rw [cell_of_blk d.blk]; rfl
theorem RefAt.c7 (d : RefAt w h D) : w.cell? ⟨h.b, 7, none⟩ = some (.int .i64 h.y) := by rw [cell_of_blk d.blk]; rfl
theorem RefAt.fz (d : RefAt w h D) (i : Nat) : w.frozen? ⟨h.b, i, none⟩ = false := frozen_of_blk d.blk i
theorem RefAt.hb (d : RefAt w h D) : h.b < w.heap.size := lt_of_heap d.blk
theorem RefAt.qform (d : RefAt w h D) : ∃ a c, h.qv = .slice a D.q.length c ∧ D.q.length ≤ c ∧ (a = none ∧ D.q = [] ∨ ∃ g, a = some ⟨g, 0, none⟩) := by
  rcases d.que.2 with ⟨h1, h2⟩ | ⟨g, cap, cur, h1, _, _, h2, _⟩
  · exact ⟨none, 0, by rw [h1, h2], by omega, .inl ⟨rfl, List.eq_nil_of_length_eq_zero h2⟩⟩
  · exact ⟨_, _, h1, h2, .inr ⟨g, rfl⟩⟩
/-- The disk's own block alone is turned. -/
theorem RefAt.reblk {w' : World} {D' : DS} (d : RefAt w h D) (h' : RH) (e1 : h'.b = h.b) (e2 : h'.bs = h.bs) (e3 : h'.be = h.be) (hblk : w'.heap[h.b]? = some (.cells (refCells h' D') 64 (0, 0)))
    (c : Chg (fun k => k = h.b) w w') (hst : D'.st = D.st) (hel : D'.el = D.el) (hn : D'.n = D.n) (hq : (h'.qv = h.qv ∧ D'.q = D.q) ∨ (h'.qv = .slice none 0 0 ∧ D'.q = [])) (ha : ∀ a x y, D'.arm = some (a, x, y) → h'.a = a ∧ h'.x = x ∧ h'.y = y) (hwf : D'.wf) : RTurn w w' h D' := by
  have ap' : h'.apart := by
    refine ⟨by rw [e1, e2]; exact d.ap.s, by rw [e1, e3]; exact d.ap.e, by rw [e2, e3]; exact d.ap.se, ?_⟩
    intro k hk
    rw [e1, e2, e3]
    rcases hq with ⟨hq, _⟩ | ⟨hq, _⟩
    · rw [hq] at hk; exact d.ap.q k hk
    · rw [hq] at hk; simp [Value.ownBlock] at hk
  refine ⟨h', ⟨?_, ?_, ?_, ?_, ha, ap', hwf⟩, e1, c.mono (fun _ _ e => .inl e), ?_⟩
  · rw [e1]; exact hblk
  · rw [e2, hn, hst]; exact d.sst.of_block (c.block _ d.sst.lt (Ne.symm d.ap.s))
  · rw [e3, hn, hel]; exact d.sel.of_block (c.block _ d.sel.lt (Ne.symm d.ap.e))
  · rcases hq with ⟨hq, hq2⟩ | ⟨hq, hq2⟩
    · rw [hq, hq2]; exact ownsRow_of_block d.que fun k hk => c.block k (d.que.lt k hk).2 (d.ap.q k hk).1
    · rw [hq, hq2]; exact World.ownsRow_nil _ _ _ _
  · intro k hk
    rcases hk with hk | hk | hk | hk
    · exact .inl (.inl (hk.trans e1))
    · exact .inl (.inr (.inl (hk.trans e2)))
    · exact .inl (.inr (.inr (.inl (hk.trans e3))))
    · rcases hq with ⟨hq, _⟩ | ⟨hq, _⟩
      · rw [hq] at hk; exact .inl (.inr (.inr (.inr hk)))
      · rw [hq] at hk; simp [Value.ownBlock] at hk
end
end Go.Proofs.Ytageboekobkdcaa

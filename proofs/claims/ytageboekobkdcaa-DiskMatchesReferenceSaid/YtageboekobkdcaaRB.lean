/- The reference disk: set, settle. -/
import Derived.Test.YtageboekobkdcaaRA
namespace Go.Proofs.Ytageboekobkdcaa
open Go.RowKit

def DS.put (D : DS) (i : Nat) (l : List UInt8) : DS := { D with el := upd D.el i (D.st i), st := upd D.st i l }
theorem DS.wf.put {D : DS} (h : D.wf) (i : Nat) (l : List UInt8) (hl : l.length = 64) : (D.put i l).wf where
  n1 := h.n1
  n2 := h.n2
  stl k := by
    simp only [DS.put, upd]; split
    · exact hl
    · exact h.stl k
  ell k := by simp only [DS.put, upd]; split; exact h.stl i; exact h.ell k
  qok := h.qok
  arm := h.arm
/-- The two stores of set. -/
def putW (w : World) (h : RH) (D : DS) (i : Nat) (l : List UInt8) : World := (w.setCell ⟨h.be, i, none⟩ (.string (mkB (D.st i)))).setCell ⟨h.bs, i, none⟩ (.string (mkB l))
theorem RefAt.put {w : World} {h : RH} {D : DS} (d : RefAt w h D) (i : Nat) (l : List UInt8) (hl : l.length = 64) : RefAt (putW w h D i l) h (D.put i l) ∧ Chg h.own w (putW w h D i l) := by
  have ce := chg_setCell w h.be i (.string (mkB (D.st i)))
  have cs := chg_setCell (w.setCell ⟨h.be, i, none⟩ (.string (mkB (D.st i)))) h.bs i (.string (mkB l))
  have e1 := d.sel.set i (D.st i)
  have s1 : StrRow (w.setCell ⟨h.be, i, none⟩ (.string (mkB (D.st i)))) h.bs D.n D.st := d.sst.of_block (ce.block _ d.sst.lt d.ap.se)
  refine ⟨⟨?_, s1.set i l, e1.of_block (cs.block _ e1.lt (Ne.symm d.ap.se)), ?_, d.alm, d.ap, d.wf.put i l hl⟩, ?_⟩
  · have b1 := (ce.block _ (lt_of_heap d.blk) d.ap.e).trans d.blk
    exact (cs.block _ (lt_of_heap b1) d.ap.s).trans b1
  · refine ownsRow_of_block d.que fun k hk => ?_
    have hlt := (d.que.lt k hk).2
    have := d.ap.q k hk
    exact (cs.block k (Nat.lt_of_lt_of_le hlt ce.size) this.2.1).trans (ce.block k hlt this.2.2)
  · exact (ce.mono (fun _ _ e => .inr (.inr (.inl e)))).trans cs (fun _ _ e => .inr (.inl e))

set_option maxHeartbeats 1000000 in
theorem rset_ok (h : RH) (D : DS) (i : Nat) (l : List UInt8) (w : World) (d : RefAt w h D) (hi : i < D.n) (hl : l.length = 64) (s : ByteArray) (hs : s = mkB l) :
    Calls Try.prog 46 #[.pointer (some ⟨h.b, 0, none⟩), .int .i64 (i : Int), .string s] w fun e w' => e = .returned (.tuple #[]) ∧ Hid (RefAt w' h (D.put i l) ∧ Chg h.own w w') := by
  have c0 := d.c0; have c1 := d.c1
  have s0 := d.sst.cell i hi
  have e0 := d.sel.cell i hi
  have ef := d.sel.fz i
  have hb := d.hb
  have dd := d.kept (S := fun _ => False) ((Chg.refl _ _).drew) (fun _ _ h => h)
  have P := Lib.hid (dd.put i l hl)
  have ce := chg_setCell w h.be i (.string (mkB (D.st i)))
  obtain ⟨X, hX⟩ : ∃ X, X = mkB (D.st i) := ⟨_, rfl⟩
  unfold putW at P
  rw [← hX, ← hs] at P
  rw [← hX] at s0 ce
  obtain ⟨Y, hY⟩ : ∃ Y, Y = mkB (D.el i) := ⟨_, rfl⟩
  rw [← hY] at e0
  have g0 : (w.setCell ⟨h.be, i, none⟩ (.string X)).cell? ⟨h.b, 0, none⟩ = some (.slice (some ⟨h.bs, 0, none⟩) D.n h.cs) := (World.cell?_of_block (ce.block _ (lt_of_heap d.blk) d.ap.e)).trans c0
  have g1 : (w.setCell ⟨h.be, i, none⟩ (.string X)).cell? ⟨h.bs, i, none⟩ = some (.string X) := (World.cell?_of_block (ce.block _ d.sst.lt d.ap.se)).trans s0
  have g2 : (w.setCell ⟨h.be, i, none⟩ (.string X)).frozen? ⟨h.bs, i, none⟩ = false := (World.frozen?_of_block (ce.block _ d.sst.lt d.ap.se)).trans (d.sst.fz i)
  clear d dd hX hY hs ce
  go_enter Try.func46, Try.ntmps46
  go_wp2
  go_still_tail 13, (by kernel_rfl)
  change wpList _ _ _ _ _ w.drew
  go_wp2
  go_end0
  exact ⟨rfl, P.out.1, (Chg.refl _ _).drew.trans P.out.2 (fun _ _ h => h)⟩

theorem rque_cell {w : World} {h : RH} {D : DS} (d : RefAt w h D) {g c : Nat} (hq : h.qv = .slice (some ⟨g, 0, none⟩) D.q.length c) (k : Nat) (hk : k < D.q.length) :
    w.cell? ⟨g, k * 2, none⟩ = some (.int .i64 ((D.q[k]).1 : Int)) ∧ w.cell? ⟨g, k * 2 + 1, none⟩ = some (.string (D.q[k]).2) := by
  have hlen : (D.q.flatMap rentry).length = D.q.length * 2 := d.que.1
  have key : ∀ l : List (Nat × ByteArray), ∀ k (hk : k < l.length), (l.flatMap rentry)[k * 2]? = some (.int .i64 ((l[k]).1 : Int)) ∧ (l.flatMap rentry)[k * 2 + 1]? = some (.string (l[k]).2) := by
    intro l
    induction l with
    | nil => intro k hk; simp at hk
    | cons p l ih =>
      intro k hk
      cases k with
      | zero => exact ⟨rfl, rfl⟩
      | succ k =>
        have := ih k (by simpa using hk)
        show ((rentry p ++ l.flatMap rentry))[(k + 1) * 2]? = _ ∧ ((rentry p ++ l.flatMap rentry))[(k + 1) * 2 + 1]? = _
        rw [List.getElem?_append_right (by simp [rentry]; omega), List.getElem?_append_right (by simp [rentry]; omega)]
        have e1 : (k + 1) * 2 - (rentry p).length = k * 2 := by simp [rentry]; omega
        have e2 : (k + 1) * 2 + 1 - (rentry p).length = k * 2 + 1 := by simp [rentry]; omega
        rw [e1, e2]
        exact this
  have hc : ∀ j, j < (D.q.flatMap rentry).length → w.cell? ⟨g, j, none⟩ = (D.q.flatMap rentry)[j]? := by
    intro j hj
    have := d.que
    rw [hq] at this
    have := World.ownsRow.cellAt this j (by omega)
    exact this
  rw [hc _ (by omega), hc _ (by omega)]
  exact key D.q k hk
end Go.Proofs.Ytageboekobkdcaa

/- The reference disk: New. -/
import Derived.Test.YtageboekobkdcaaRI
namespace Go.Proofs.Ytageboekobkdcaa
open Go.RowKit

theorem ba_zero (k : Nat) : ba (mkB (List.replicate k 0)) = List.replicate k 0 := ba_mkB _
def sizeOfStr : Value → Nat
  | .string s => s.size
  | _ => 0
set_option maxHeartbeats 1000000 in
theorem rzero_ok (w : World) : Calls Try.prog 31 #[.int .i64 64] w fun e w' => e = .returned (.string (mkB z64)) ∧ w = w' := by
  go_enter Try.func31, Try.ntmps31
  go_wp2
  go_loop [3, 4] (fun s i => ∃ k : Nat, k ≤ 64 ∧ i = .int .i64 k ∧ ∃ S : ByteArray, Hid (ba S = List.replicate k 0) ∧ S.size = k ∧ s = .string S) (fun _ i => 64 - (intOf i).toNat)
  case atStart => exact ⟨0, by omega, rfl, ByteArray.empty, rfl, rfl, rfl⟩
  case round =>
    obtain ⟨k, hk, rfl, S, hS, hz, rfl⟩ := hrel
    by_cases hlt : k < 64
    · go_wp2
      go_round
      case rel =>
        refine ⟨k + 1, by omega, by go_num, S ++ ⟨#[0]⟩, ?_, ?_, rfl⟩
        · show ba (S ++ ⟨#[0]⟩) = List.replicate (k + 1) 0
          rw [ba_append, hS.out, List.replicate_succ']
          rfl
        · rw [ByteArray.size_append, hz]; rfl
      case measure => simp [intOf]; omega
    · obtain rfl : k = 64 := by omega
      have e : S = mkB z64 := eq_of_ba (by rw [hS.out, ba_mkB]; rfl)
      have E := Lib.hid e
      clear e
      go_wp2
      go_ret
      exact ⟨by rw [E.out]; rfl, rfl⟩

/-- A reference disk that is being made. -/
structure NewSt (w wr : World) (gd ks ke : Nat) (vs ve : Value) : Prop where
  blk : wr.heap[gd]? = some (.cells #[vs, ve, .slice none 0 0, .bool true, .bool false, .int .i64 0, .int .i64 0, .int .i64 0] 64 (0, 0))
  os : wr.ownsRow 0 9 1 vs ks (List.replicate ks (.string (mkB z64)))
  oe : wr.ownsRow 0 9 1 ve ke (List.replicate ke (.string (mkB z64)))
  aps : ∀ j, vs.ownBlock = some j → j ≠ gd ∧ ve.ownBlock ≠ some j ∧ w.heap.size ≤ j
  ape : ∀ j, ve.ownBlock = some j → j ≠ gd ∧ w.heap.size ≤ j
  chg : Chg (fun _ => False) w wr
  lo : w.heap.size ≤ gd
theorem NewSt.kept {w wr w' : World} {gd ks ke : Nat} {vs ve : Value} (n : NewSt w wr gd ks ke vs ve) (c : Chg (fun _ => False) wr w') : NewSt w w' gd ks ke vs ve :=
  ⟨(c.block _ (lt_of_heap n.blk) (fun h => h)).trans n.blk, ownsRow_of_block n.os fun k hk => c.block k (n.os.lt k hk).2 (fun h => h), ownsRow_of_block n.oe fun k hk => c.block k (n.oe.lt k hk).2 (fun h => h), n.aps, n.ape, n.chg.trans c (fun _ _ h => h), n.lo⟩

/-- What append has left: the facts for the store that follows. -/
structure NewPush (w2 : World) (gd c : Nat) (v : Value) (P : Prop) : Prop where
  g : w2.cell? ⟨gd, c, none⟩ = some v
  f : w2.frozen? ⟨gd, c, none⟩ = false
  z : gd < w2.heap.size
  done : Hid P
theorem NewPush.s {w W w2 : World} {gd ks ke g cap : Nat} {vs ve : Value} (n : NewSt w W gd ks ke vs ve)
    (hown : w2.ownsRow 0 9 1 (.slice (some ⟨g, 0, none⟩) (ks + 1) cap) (ks + 1) (List.replicate ks (.string (mkB z64)) ++ [.string (mkB z64)])) (hgr : W.grownBy w2 vs.ownBlock) (hat : vs.ownBlock = some g ∨ W.heap.size ≤ g) :
    NewPush w2 gd 0 vs (NewSt w (w2.setCell ⟨gd, 0, none⟩ (.slice (some ⟨g, 0, none⟩) (ks + 1) cap)) gd (ks + 1) ke (.slice (some ⟨g, 0, none⟩) (ks + 1) cap) ve) := by
  have hb : w2.heap[gd]? = W.heap[gd]? := hgr.block _ (lt_of_heap n.blk) (fun e => (n.aps gd e.symm).1 rfl)
  have hb2 := hb.trans n.blk
  have hg : g ≠ gd ∧ ve.ownBlock ≠ some g ∧ w.heap.size ≤ g := by
    rcases hat with h | h
    · exact n.aps g h
    · refine ⟨fun e => ?_, fun e => ?_, Nat.le_trans n.chg.size h⟩
      · have := lt_of_heap n.blk; omega
      · have := (n.oe.lt g e).2; omega
  have cs := chg_setCell w2 gd 0 (.slice (some ⟨g, 0, none⟩) (ks + 1) cap)
  refine ⟨by rw [cell_of_blk hb2]; rfl, frozen_of_blk hb2 0, lt_of_heap hb2, ⟨setCell_blk hb2 0 _, ?_, ?_, ?_, n.ape, ?_, n.lo⟩⟩
  · rw [List.replicate_succ']
    exact ownsRow_of_block hown fun k hk => by
      have : k = g := by simpa [Value.ownBlock] using hk.symm
      exact setCell_rest _ _ _ _ _ (by rw [this]; exact hg.1)
  · refine ownsRow_of_block n.oe fun k hk => ?_
    rw [setCell_rest _ _ _ _ _ (n.ape k hk).1]
    exact hgr.block _ (n.oe.lt k hk).2 (fun e => (n.aps k e.symm).2.1 hk)
  · intro j hj
    have : j = g := by simpa [Value.ownBlock] using hj.symm
    rw [this]; exact hg
  · refine Chg.setCell ⟨hgr.os.trans n.chg.os, hgr.tape.trans n.chg.tape, hgr.output.trans n.chg.output, Nat.le_trans n.chg.size hgr.size, ?_⟩ _ _ (fun h => by have := n.lo; dsimp only at h; omega)
    intro k hk _
    rw [hgr.block k (Nat.lt_of_lt_of_le hk n.chg.size) (fun e => by have := (n.aps k e.symm).2.2; omega)]
    exact n.chg.block k hk (fun h => h)
theorem NewPush.e {w W w2 : World} {gd ks ke g cap : Nat} {vs ve : Value} (n : NewSt w W gd ks ke vs ve)
    (hown : w2.ownsRow 0 9 1 (.slice (some ⟨g, 0, none⟩) (ke + 1) cap) (ke + 1) (List.replicate ke (.string (mkB z64)) ++ [.string (mkB z64)])) (hgr : W.grownBy w2 ve.ownBlock) (hat : ve.ownBlock = some g ∨ W.heap.size ≤ g) :
    NewPush w2 gd 1 ve (NewSt w (w2.setCell ⟨gd, 1, none⟩ (.slice (some ⟨g, 0, none⟩) (ke + 1) cap)) gd ks (ke + 1) vs (.slice (some ⟨g, 0, none⟩) (ke + 1) cap)) := by
  have hb : w2.heap[gd]? = W.heap[gd]? := hgr.block _ (lt_of_heap n.blk) (fun e => (n.ape gd e.symm).1 rfl)
  have hb2 := hb.trans n.blk
  have hg : g ≠ gd ∧ vs.ownBlock ≠ some g ∧ w.heap.size ≤ g := by
    rcases hat with h | h
    · exact ⟨(n.ape g h).1, fun e => (n.aps g e).2.1 h, (n.ape g h).2⟩
    · refine ⟨fun e => ?_, fun e => ?_, Nat.le_trans n.chg.size h⟩
      · have := lt_of_heap n.blk; omega
      · have := (n.os.lt g e).2; omega
  refine ⟨by rw [cell_of_blk hb2]; rfl, frozen_of_blk hb2 1, lt_of_heap hb2, ⟨setCell_blk hb2 1 _, ?_, ?_, ?_, ?_, ?_, n.lo⟩⟩
  · refine ownsRow_of_block n.os fun k hk => ?_
    rw [setCell_rest _ _ _ _ _ (n.aps k hk).1]
    exact hgr.block _ (n.os.lt k hk).2 (fun e => (n.aps k hk).2.1 e.symm)
  · rw [List.replicate_succ']
    exact ownsRow_of_block hown fun k hk => by
      have : k = g := by simpa [Value.ownBlock] using hk.symm
      exact setCell_rest _ _ _ _ _ (by rw [this]; exact hg.1)
  · intro j hj
    refine ⟨(n.aps j hj).1, fun e => ?_, (n.aps j hj).2.2⟩
    have : j = g := by simpa [Value.ownBlock] using e.symm
    exact hg.2.1 (by rw [← this]; exact hj)
  · intro j hj
    have : j = g := by simpa [Value.ownBlock] using hj.symm
    rw [this]; exact ⟨hg.1, hg.2.2⟩
  · refine Chg.setCell ⟨hgr.os.trans n.chg.os, hgr.tape.trans n.chg.tape, hgr.output.trans n.chg.output, Nat.le_trans n.chg.size hgr.size, ?_⟩ _ _ (fun h => by have := n.lo; dsimp only at h; omega)
    intro k hk _
    rw [hgr.block k (Nat.lt_of_lt_of_le hk n.chg.size) (fun e => by have := (n.ape k e.symm).2; omega)]
    exact n.chg.block k hk (fun h => h)
end Go.Proofs.Ytageboekobkdcaa

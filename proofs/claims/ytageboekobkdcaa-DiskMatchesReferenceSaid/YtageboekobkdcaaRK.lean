/- The reference disk: New, walked. -/
import Derived.Test.YtageboekobkdcaaRJ
namespace Go.Proofs.Ytageboekobkdcaa
open Go.RowKit

section
variable {w W W0 : World} {gd ks ke : Nat} {vs ve : Value} {ops : Array Oper} {rest : List Oper} {o : Oper} {a : Act} {Q : Exit → Act → World → Prop}
theorem wpList_newS (n0 : Hid (NewSt w W0 gd ks ke vs ve)) (c : Chg (fun _ => False) W0 W) (hgd : o.guard = none) (x y : Operand)
    (hop : o.op = .call { callee := .builtin .append, args := #[x, y], argTypes := #[39, 39] }) (hx : a.eval x = vs) (B : Nat) (hy : a.eval y = .slice (some ⟨B, 0, none⟩) 1 1) (hk : ks ≤ 100000)
    (hB : W.heap[B]? = some (.cells #[.string (mkB z64)] 9 (0, 0)))
    (hK : ∀ g cap w2, NewPush w2 gd 0 vs (NewSt w (w2.setCell ⟨gd, 0, none⟩ (.slice (some ⟨g, 0, none⟩) (ks + 1) cap)) gd (ks + 1) ke (.slice (some ⟨g, 0, none⟩) (ks + 1) cap) ve) → wpList Try.prog ops Q rest (a.put o.dst (.slice (some ⟨g, 0, none⟩) (ks + 1) cap)) w2) :
    wpList Try.prog ops Q (o :: rest) a W := by
  obtain ⟨i0, hi0, hz0, hz1, hz2⟩ := info_parts Try.info9
  have n := n0.out.kept c
  refine wpList_append_lies W hgd x y 39 hop 0 9 i0 _ 1 16 Try.underlying39 hi0 hz0 hz1 hz2 rfl (by decide) vs ks (List.replicate ks (.string (mkB z64))) hx n.os ⟨B, 0, none⟩ 1 1 [.string (mkB z64)] hy rfl (World.news_of_block hB) (by simp [Value.oneCell']) (by decide) (by unfold maxLen; omega) (by omega) (Nat.zero_le _) W.heap.size rfl ?_
  intro g cap w2 hown hgr hat _
  exact hK g cap w2 (NewPush.s n hown hgr (hat.imp id (fun e => by omega)))
theorem wpList_newE (n0 : Hid (NewSt w W0 gd ks ke vs ve)) (c : Chg (fun _ => False) W0 W) (hgd : o.guard = none) (x y : Operand)
    (hop : o.op = .call { callee := .builtin .append, args := #[x, y], argTypes := #[39, 39] }) (hx : a.eval x = ve) (B : Nat) (hy : a.eval y = .slice (some ⟨B, 0, none⟩) 1 1) (hk : ke ≤ 100000)
    (hB : W.heap[B]? = some (.cells #[.string (mkB z64)] 9 (0, 0)))
    (hK : ∀ g cap w2, NewPush w2 gd 1 ve (NewSt w (w2.setCell ⟨gd, 1, none⟩ (.slice (some ⟨g, 0, none⟩) (ke + 1) cap)) gd ks (ke + 1) vs (.slice (some ⟨g, 0, none⟩) (ke + 1) cap)) → wpList Try.prog ops Q rest (a.put o.dst (.slice (some ⟨g, 0, none⟩) (ke + 1) cap)) w2) :
    wpList Try.prog ops Q (o :: rest) a W := by
  obtain ⟨i0, hi0, hz0, hz1, hz2⟩ := info_parts Try.info9
  have n := n0.out.kept c
  refine wpList_append_lies W hgd x y 39 hop 0 9 i0 _ 1 16 Try.underlying39 hi0 hz0 hz1 hz2 rfl (by decide) ve ke (List.replicate ke (.string (mkB z64))) hx n.oe ⟨B, 0, none⟩ 1 1 [.string (mkB z64)] hy rfl (World.news_of_block hB) (by simp [Value.oneCell']) (by decide) (by unfold maxLen; omega) (by omega) (Nat.zero_le _) W.heap.size rfl ?_
  intro g cap w2 hown hgr hat _
  exact hK g cap w2 (NewPush.e n hown hgr (hat.imp id (fun e => by omega)))
end
theorem own_zrow {w : World} {v : Value} {n : Nat} (h : w.ownsRow 0 9 1 v n (List.replicate n (.string (mkB z64)))) (h1 : 1 ≤ n) : ∃ g c, v = .slice (some ⟨g, 0, none⟩) n c ∧ StrRow w g n (fun _ => z64) := by
  rcases h.2 with ⟨_, h0⟩ | ⟨g, cap, cur, e, _, hh, _, _, _, ht⟩
  · omega
  · refine ⟨g, cap, e, cur, hh, fun i hi => ?_⟩
    have : (cur.toList.take (n * 1))[i]? = some (.string (mkB z64)) := by rw [ht, List.getElem?_replicate, if_pos hi]
    rw [List.getElem?_take, if_pos (by omega)] at this
    simpa using this
theorem NewSt.fin {w wr : World} {gd n : Nat} {vs ve : Value} (s : NewSt w wr gd n n vs ve) (h1 : 1 ≤ n) (h2 : n ≤ 4000) : ∃ h : RH, h.b = gd ∧ RefAt wr h (DS.new n) ∧ ∀ k, h.own k → w.heap.size ≤ k := by
  obtain ⟨gs, cs, rfl, rs⟩ := own_zrow s.os h1
  obtain ⟨ge, ce, rfl, re⟩ := own_zrow s.oe h1
  have asx := s.aps gs rfl
  have ae := s.ape ge rfl
  have hne : gs ≠ ge := fun e => asx.2.1 (by rw [e]; rfl)
  refine ⟨⟨gd, gs, ge, cs, ce, .slice none 0 0, 0, 0, 0⟩, rfl, ⟨s.blk, rs, re, World.ownsRow_nil _ _ _ _, by intro a x y h; simp [DS.new] at h, ⟨Ne.symm asx.1, Ne.symm ae.1, hne, by simp [Value.ownBlock]⟩, DS.wf.new h1 h2⟩, ?_⟩
  intro k hk
  rcases hk with rfl | rfl | rfl | hk
  · exact s.lo
  · exact asx.2.2
  · exact ae.2
  · simp [Value.ownBlock] at hk

/-- What New leaves. -/
def RNew (n : Nat) (w : World) (e : Ending) (w' : World) : Prop := ∃ h : RH, e = .returned (.pointer (some ⟨h.b, 0, none⟩)) ∧ RefAt w' h (DS.new n) ∧ Chg (fun _ => False) w w' ∧ ∀ k, h.own k → w.heap.size ≤ k

set_option maxHeartbeats 4000000 in
theorem rnew_ok (n : Nat) (w : World) (h1 : 1 ≤ n) (h2 : n ≤ 4000) : Calls Try.prog 14 #[.int .i64 (n : Int)] w (RNew n w) := by
  have t : decide ((n : Int) < 1) = false := by simp; omega
  have t2 : decide (4000 < (n : Int)) = false := by simp; omega
  have N0 : NewSt w (w.alloc (.cells #[.slice none 0 0, .slice none 0 0, .slice none 0 0, .bool true, .bool false, .int .i64 0, .int .i64 0, .int .i64 0] 64)) w.heap.size 0 0 (.slice none 0 0) (.slice none 0 0) :=
    ⟨heap_alloc_new _ _, World.ownsRow_nil _ _ _ _, World.ownsRow_nil _ _ _ _, by simp [Value.ownBlock], by simp [Value.ownBlock], (Chg.refl _ _).alloc _, Nat.le_refl _⟩
  have HN0 := Lib.hid N0
  clear N0
  go_enter Try.func14, Try.ntmps14
  go_wp2_with (fail)
  refine (rzero_ok _).mono ?_
  rintro e w1 ⟨rfl, rfl⟩
  obtain ⟨gd, hgd⟩ : ∃ gd, gd = w.heap.size := ⟨_, rfl⟩
  rw [← hgd] at HN0
  rw [← hgd]
  obtain ⟨w1, hw1⟩ : ∃ w1, w1 = w.alloc (.cells #[.slice none 0 0, .slice none 0 0, .slice none 0 0, .bool true, .bool false, .int .i64 0, .int .i64 0, .int .i64 0] 64) := ⟨_, rfl⟩
  rw [← hw1] at HN0
  rw [← hw1]
  clear hgd hw1
  obtain ⟨Z, hZ⟩ : ∃ Z, Z = mkB z64 := ⟨_, rfl⟩
  rw [← hZ]
  have HZ := Lib.hid hZ
  clear hZ
  go_wp2
  go_loopw [5] (fun i wr => ∃ (k : Nat) (vs ve : Value), k ≤ n ∧ i = .int .i64 k ∧ NewSt w wr gd k k vs ve) (fun i _ => n - (intOf i).toNat)
  case atStart => exact ⟨0, _, _, Nat.zero_le _, rfl, HN0.out⟩
  case round =>
    obtain ⟨k, vs, ve, hk, rfl, st⟩ := hrel
    have ST := Lib.hid st
    have g0 : wr.cell? ⟨gd, 0, none⟩ = some vs := by rw [cell_of_blk st.blk]; rfl
    have gl := lt_of_heap st.blk
    clear st
    by_cases hlt : k < n
    · have hk5 : k ≤ 100000 := by omega
      go_upto_region 9 with (at_builtin; go_loud (refine wpList_newS (w := w) (W0 := wr) (gd := gd) (ks := k) (ke := k) (vs := vs) (ve := ve) ST ((Chg.refl _ _).alloc _) rfl (.tmp 24) (.tmp 26) rfl rfl wr.heap.size rfl hk5 (by rw [heap_alloc_new, HZ.out]) ?_); rintro g cap w2 ⟨g0, f0, z0, done⟩)
      obtain ⟨vs', hvs⟩ : ∃ v, v = Value.slice (some ⟨g, 0, none⟩) (k + 1) cap := ⟨_, rfl⟩
      rw [← hvs] at done
      rw [← hvs]
      obtain ⟨W2, hW2⟩ : ∃ W2, W2 = w2.setCell ⟨gd, 0, none⟩ vs' := ⟨_, rfl⟩
      rw [← hW2] at done
      rw [← hW2]
      have g1 : W2.cell? ⟨gd, 1, none⟩ = some ve := by rw [cell_of_blk done.out.blk]; rfl
      have gl2 := lt_of_heap done.out.blk
      clear hvs hW2 g0 f0 z0
      go_wp2_with (at_builtin; go_loud (refine wpList_newE (w := w) (W0 := W2) (gd := gd) (ks := k + 1) (ke := k) (vs := vs') (ve := ve) done ((Chg.refl _ _).alloc _) rfl (.tmp 34) (.tmp 36) rfl rfl W2.heap.size rfl hk5 (by rw [heap_alloc_new, HZ.out]) ?_); rintro g3 cap3 w3 ⟨g0, f0, z0, done2⟩)
      go_roundw
      case rel => exact ⟨k + 1, _, _, by omega, by go_num, done2.out⟩
      case measure => simp [intOf]; omega
    · obtain rfl : k = n := by omega
      go_wp2
      go_ret
      obtain ⟨h, hb, d, o⟩ := ST.out.fin h1 h2
      exact ⟨h, by rw [hb]; rfl, d, ST.out.chg, o⟩
end Go.Proofs.Ytageboekobkdcaa

/- The reference disk: Write. -/
import Derived.Test.YtageboekobkdcaaRE
namespace Go.Proofs.Ytageboekobkdcaa
open Go.RowKit

theorem Try.info73 : (Try.prog.info? 73).map (fun i => (i.zero, i.size, i.bytes)) = some (some (.agg #[.int .i64 0, .string ByteArray.empty]), 2, 24) := by kernel_rfl
theorem Try.under62 : Try.prog.underlying 62 = some (.slice 73) := by kernel_rfl

structure RPushed (w w2 : World) (h : RH) (D : DS) (i : Nat) (s : ByteArray) (qv' : Value) : Prop where
  g2 : w2.cell? ⟨h.b, 2, none⟩ = some h.qv
  f2 : w2.frozen? ⟨h.b, 2, none⟩ = false
  z2 : h.b < w2.heap.size
  done : Hid (RTurn w (w2.setCell ⟨h.b, 2, none⟩ qv') h (D.push i s))
theorem RPushed.of {w W w2 : World} {h : RH} {D : DS} {i : Nat} {s : ByteArray} {g cap : Nat} (d0 : RefAt w h D) (c : Chg (fun _ => False) w W) (hi : i < D.n) (hs : s.size = 64)
    (hown : w2.ownsRow 0 73 2 (.slice (some ⟨g, 0, none⟩) (D.q.length + 1) cap) (D.q.length + 1) (D.q.flatMap rentry ++ [.int .i64 (i : Int), .string s]))
    (hgr : W.grownBy w2 h.qv.ownBlock) (hat : h.qv.ownBlock = some g ∨ w.heap.size ≤ g) : RPushed w w2 h D i s (.slice (some ⟨g, 0, none⟩) (D.q.length + 1) cap) := by
  have d : RefAt W h D := d0.kept c (fun _ _ h => h)
  have hne : ∀ k, k = h.b ∨ k = h.bs ∨ k = h.be → some k ≠ h.qv.ownBlock := by
    intro k hk e
    rcases hk with rfl | rfl | rfl
    · exact (d.ap.q _ e.symm).1 rfl
    · exact (d.ap.q _ e.symm).2.1 rfl
    · exact (d.ap.q _ e.symm).2.2 rfl
  have b1 : w2.heap[h.b]? = W.heap[h.b]? := hgr.block _ (lt_of_heap d.blk) (hne _ (.inl rfl))
  have gne : g ≠ h.b ∧ g ≠ h.bs ∧ g ≠ h.be := by
    rcases hat with hg | hg
    · have := d.ap.q g hg
      exact ⟨this.1, this.2.1, this.2.2⟩
    · have l : ∀ k, h.own k → k < w.heap.size := fun k hk => d0.lt k hk
      exact ⟨fun e => by have := l h.b (.inl rfl); omega, fun e => by have := l h.bs (.inr (.inl rfl)); omega, fun e => by have := l h.be (.inr (.inr (.inl rfl))); omega⟩
  have hb2 : w2.heap[h.b]? = some (.cells (refCells h D) 64 (0, 0)) := b1.trans d.blk
  have blk' := setCell_blk hb2 2 (.slice (some ⟨g, 0, none⟩) (D.q.length + 1) cap)
  have rest : ∀ k, k ≠ h.b → (w2.setCell ⟨h.b, 2, none⟩ (.slice (some ⟨g, 0, none⟩) (D.q.length + 1) cap)).heap[k]? = w2.heap[k]? := fun k hk => setCell_rest _ _ _ _ _ hk
  refine ⟨by rw [cell_of_blk hb2]; rfl, frozen_of_blk hb2 2, lt_of_heap hb2, { h with qv := .slice (some ⟨g, 0, none⟩) (D.q.length + 1) cap }, ⟨?_, ?_, ?_, ?_, ?_, ?_, ?_⟩, rfl, ?_, ?_⟩
  · exact blk'
  · exact d.sst.of_block ((rest _ (Ne.symm d.ap.s)).trans (hgr.block _ d.sst.lt (hne _ (.inr (.inl rfl)))))
  · exact d.sel.of_block ((rest _ (Ne.symm d.ap.e)).trans (hgr.block _ d.sel.lt (hne _ (.inr (.inr rfl)))))
  · have e : (D.push i s).q.flatMap rentry = D.q.flatMap rentry ++ [.int .i64 (i : Int), .string s] := by simp [DS.push, rentry]
    have l : (D.push i s).q.length = D.q.length + 1 := by simp [DS.push]
    rw [e, l]
    refine ownsRow_of_block hown fun k hk => rest k ?_
    have : k = g := by simpa [Value.ownBlock] using hk.symm
    rw [this]; exact gne.1
  · exact d.alm
  · refine ⟨d.ap.s, d.ap.e, d.ap.se, ?_⟩
    intro k hk
    have : k = g := by simpa [Value.ownBlock] using hk.symm
    rw [this]; exact gne
  · exact d.wf.push i s hi hs
  · refine Chg.setCell ⟨hgr.os.trans c.os, hgr.tape.trans c.tape, hgr.output.trans c.output, Nat.le_trans c.size hgr.size, ?_⟩ _ _ (fun _ => .inl rfl)
    intro k hk hno
    rw [hgr.block k (Nat.lt_of_lt_of_le hk c.size) (fun e => hno (.inr (.inr (.inr e.symm))))]
    exact c.block k hk (fun h => h)
  · intro k hk
    rcases hk with hk | hk | hk | hk
    · exact .inl (.inl hk)
    · exact .inl (.inr (.inl hk))
    · exact .inl (.inr (.inr (.inl hk)))
    · have : k = g := by simpa [Value.ownBlock] using hk.symm
      rcases hat with hg | hg
      · exact .inl (.inr (.inr (.inr (by rw [this]; exact hg))))
      · exact .inr (by rw [this]; exact hg)

theorem wpList_rpush {w W : World} {h : RH} {D : DS} {i : Nat} {s : ByteArray} {ops : Array Oper} {rest : List Oper} {o : Oper} {a : Act} {Q : Exit → Act → World → Prop} (hgd : o.guard = none) (x y : Operand)
    (hop : o.op = .call { callee := .builtin .append, args := #[x, y], argTypes := #[62, 62] }) (hx : a.eval x = h.qv) (B : Nat) (hy : a.eval y = .slice (some ⟨B, 0, none⟩) 1 1)
    (d0 : Hid (RefAt w h D)) (c : Chg (fun _ => False) w W) (hi : i < D.n) (hs : Hid (s.size = 64)) (hml : D.q.length < 1000)
    (hB : W.heap[B]? = some (.cells #[.int .i64 (i : Int), .string s] 73 (0, 0)))
    (hK : ∀ g cap w2, RPushed w w2 h D i s (.slice (some ⟨g, 0, none⟩) (D.q.length + 1) cap) → wpList Try.prog ops Q rest (a.put o.dst (.slice (some ⟨g, 0, none⟩) (D.q.length + 1) cap)) w2) :
    wpList Try.prog ops Q (o :: rest) a W := by
  obtain ⟨i0, hi0, hz0, hz1, hz2⟩ := info_parts Try.info73
  refine wpList_append_lies W hgd x y 62 hop 0 73 i0 _ 2 24 Try.under62 hi0 hz0 hz1 hz2 rfl (by decide) h.qv D.q.length (D.q.flatMap rentry) hx (d0.out.kept c (fun _ _ h => h)).que ⟨B, 0, none⟩ 1 1 [.int .i64 (i : Int), .string s] hy rfl
    (World.news_of_block hB) (by simp [Value.oneCell']) (by decide) (by unfold maxLen; omega) (by omega) (Nat.zero_le _) W.heap.size rfl ?_
  intro g cap w2 hown hgr hat _
  exact hK g cap w2 (RPushed.of d0.out c hi hs.out hown hgr (hat.imp id (fun e => by have := c.size; omega)))

set_option maxHeartbeats 2000000 in
theorem rwrite_push (h : RH) (D : DS) (i : Nat) (s : ByteArray) (w : World) (d : RefAt w h D) (ho : D.off = false) (hin : i < D.n) (hs : s.size = 64) (hml : D.q.length < 1000) :
    Calls Try.prog 32 #[.pointer (some ⟨h.b, 0, none⟩), .int .i64 (i : Int), .string s] w fun e w' => e = .returned (.int .i64 (D.push i s).count.1) ∧ RTurn w w' h (D.push i s).count.2 := by
  have t : ((s.size : Int) != 64) = false := by rw [hs]; rfl
  have t2 : (s.size == 64) = true := by rw [hs]; rfl
  have c0 := d.c0; have c2 := d.c2; have c3 := d.c3
  rw [ho] at c3
  simp only [Bool.not_false] at c3
  have hb2 := d.hb
  have Hd := Lib.hid d
  have Hs := Lib.hid hs
  have f2 := d.fz 2
  have tn : decide ((D.n : Int) ≤ (i : Int)) = false := by simp; omega
  obtain ⟨qv, hqv⟩ : ∃ qv, qv = h.qv := ⟨_, rfl⟩
  rw [← hqv] at c2
  have HQ := Lib.hid hqv
  clear d ho hs hqv
  go_enter Try.func32, Try.ntmps32
  go_wp2_with (first | (at_builtin; go_loud (refine wpList_rpush (w := w) (h := h) (D := D) (i := i) (s := s) rfl (.tmp 32) (.tmp 36) rfl HQ.out w.heap.size rfl Hd ((Chg.refl _ _).alloc _) hin Hs hml (heap_alloc_new _ _) ?_); rintro g cap w2 ⟨g2, f2, z2, done⟩))
  refine (rcount_behind done.out (by simp [DS.push]; omega)).mono ?_
  rintro e w3 ⟨rfl, t3⟩
  go_wp2
  go_ret
  exact ⟨rfl, t3⟩

set_option maxHeartbeats 2000000 in
/-- Write, on a reference disk. -/
theorem rwrite_ok (h : RH) (D : DS) (i : Int) (s : ByteArray) (w : World) (d : RefAt w h D) (hml : D.q.length < 1000) :
    Calls Try.prog 32 #[.pointer (some ⟨h.b, 0, none⟩), .int .i64 i, .string s] w fun e w' => e = .returned (.int .i64 (D.write i s).1) ∧ RTurn w w' h (D.write i s).2 := by
  have T := Lib.hid (RTurn.same d (Chg.refl _ _))
  have c0 := d.c0; have c3 := d.c3
  have hb := d.hb
  cases ho : D.off with
  | true =>
    have e : D.write i s = (19, D) := by simp [DS.write, ho]
    rw [e]
    rw [ho] at c3
    simp only [Bool.not_true] at c3
    clear d ho e
    go_enter Try.func32, Try.ntmps32
    go_wp2
    go_ret
    exact ⟨rfl, T.out⟩
  | false =>
    rw [ho] at c3
    simp only [Bool.not_false] at c3
    by_cases h0 : i < 0
    · have t0 : decide (i < 0) = true := by simpa using h0
      have e : D.write i s = (1, D) := by
        have hb : D.bad i = true := by simp [DS.bad]; omega
        simp [DS.write, ho, hb]
      rw [e]
      clear d ho e
      go_enter Try.func32, Try.ntmps32
      go_wp2
      go_ret
      exact ⟨rfl, T.out⟩
    · have t0 : decide (i < 0) = false := by simpa using h0
      by_cases h1 : (D.n : Int) ≤ i
      · have t1 : decide ((D.n : Int) ≤ i) = true := by simpa using h1
        have e : D.write i s = (1, D) := by
          have hb : D.bad i = true := by simp [DS.bad]; omega
          simp [DS.write, ho, hb]
        rw [e]
        clear d ho e
        go_enter Try.func32, Try.ntmps32
        go_wp2
        go_ret
        exact ⟨rfl, T.out⟩
      · have t1 : decide ((D.n : Int) ≤ i) = false := by simpa using h1
        have hb' : D.bad i = false := by simp [DS.bad]; omega
        by_cases hz : s.size = 64
        · have e : D.write i s = (D.push i.toNat s).count := by simp [DS.write, ho, hb', hz]
          obtain ⟨n, rfl⟩ := Int.eq_ofNat_of_zero_le (DS.bad_false hb').1
          rw [e, Int.toNat_natCast]
          exact rwrite_push h D n s w d ho (by omega) hz hml
        · have t2 : ((s.size : Int) != 64) = true := by rw [bne_iff_ne]; omega
          have t3 : (s.size == 64) = false := by simp; omega
          have e : D.write i s = (1, D) := by simp [DS.write, ho, hb', hz]
          rw [e]
          clear d ho e hz hb'
          go_enter Try.func32, Try.ntmps32
          go_wp2
          go_ret
          exact ⟨rfl, T.out⟩
end Go.Proofs.Ytageboekobkdcaa

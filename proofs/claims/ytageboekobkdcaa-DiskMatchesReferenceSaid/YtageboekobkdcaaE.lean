/- Disk: Write. -/
import Derived.Test.YtageboekobkdcaaD
namespace Go.Proofs.Ytageboekobkdcaa
open Go.RowKit

theorem Try.info71 : (Try.prog.info? 71).map (fun i => (i.zero, i.size, i.bytes)) = some (some (.agg #[.int .i64 0, .int .i64 0, .string ByteArray.empty]), 3, 32) := by kernel_rfl

set_option maxHeartbeats 1000000 in
theorem write_nil (i : Int) (s : ByteArray) (w : World) :
    Calls Try.prog 22 #[.pointer none, .int .i64 i, .string s] w fun e w' => e = .returned (.int .i64 1) ∧ Hid (Chg (fun _ => False) w w') := by
  go_enter Try.func22, Try.ntmps22
  go_wp2_with (go_at_call 39; refine (at_nil _ _).mono ?_; rintro e w1 ⟨rfl, ⟨mc, mf, mz, mh⟩⟩)
  go_ret
  exact ⟨rfl, mh.out.alloc _⟩

set_option maxHeartbeats 1000000 in
theorem write_off (h : DH) (D : DS) (i : Int) (s : ByteArray) (w : World) (d : DiskAt w h D) (ho : D.off = true) :
    Calls Try.prog 22 #[.pointer (some ⟨h.b, 0, none⟩), .int .i64 i, .string s] w fun e w' => e = .returned (.int .i64 19) ∧ Hid (Chg (fun _ => False) w w') := by
  have HA := Lib.hid (at_off h D i w d ho)
  clear d ho
  go_enter Try.func22, Try.ntmps22
  go_wp2_with (go_at_call 39; refine HA.out.mono ?_; rintro e w1 ⟨rfl, ⟨mc, mf, mz, mh⟩⟩)
  go_ret
  exact ⟨rfl, mh.out.alloc _⟩

set_option maxHeartbeats 1000000 in
theorem write_bad (h : DH) (D : DS) (i : Int) (s : ByteArray) (w : World) (d : DiskAt w h D) (ho : D.off = false) (hb : D.bad i = true) :
    Calls Try.prog 22 #[.pointer (some ⟨h.b, 0, none⟩), .int .i64 i, .string s] w fun e w' => e = .returned (.int .i64 1) ∧ Hid (Chg (fun _ => False) w w') := by
  have HA := Lib.hid (at_bad h D i w d ho hb)
  clear d ho hb
  go_enter Try.func22, Try.ntmps22
  go_wp2_with (go_at_call 39; refine HA.out.mono ?_; rintro e w1 ⟨rfl, ⟨mc, mf, mz, mh⟩⟩)
  go_ret
  exact ⟨rfl, mh.out.alloc _⟩

set_option maxHeartbeats 1000000 in
theorem write_odd (h : DH) (D : DS) (i : Int) (s : ByteArray) (w : World) (d : DiskAt w h D) (ho : D.off = false) (hb : D.bad i = false) (hs : s.size ≠ 64) (_hs2 : s.size ≤ 9223372036854775807) :
    Calls Try.prog 22 #[.pointer (some ⟨h.b, 0, none⟩), .int .i64 i, .string s] w fun e w' => e = .returned (.int .i64 1) ∧ Hid (Chg (fun _ => False) w w') := by
  have HA := Lib.hid (at_ok h D i w d ho hb)
  have t : ((s.size : Int) != 64) = true := by rw [bne_iff_ne]; omega
  have t2 : (s.size == 64) = false := by simp; omega
  clear d ho hb hs
  go_enter Try.func22, Try.ntmps22
  go_wp2_with (go_at_call 39; refine HA.out.mono ?_; rintro e w1 ⟨rfl, ⟨mc, mf, mz, mh⟩⟩)
  go_ret
  exact ⟨rfl, mh.out.alloc _⟩

/-- What append has left: the facts for the store that follows, and the rest put by. -/
structure Pushed (w w2 : World) (h : DH) (D : DS) (i : Nat) (s : ByteArray) (qv' : Value) : Prop where
  g2 : w2.cell? ⟨h.b, 2, none⟩ = some h.qv
  f2 : w2.frozen? ⟨h.b, 2, none⟩ = false
  z2 : h.b < w2.heap.size
  done : Hid (Turn w (w2.setCell ⟨h.b, 2, none⟩ qv') h (D.push i s))
theorem Pushed.of {w W w2 : World} {h : DH} {D : DS} {i : Nat} {s : ByteArray} {g cap : Nat} (d0 : DiskAt w h D) (c : Chg (fun _ => False) w W) (hi : i < D.n) (hs : s.size = 64)
    (hown : w2.ownsRow 0 71 3 (.slice (some ⟨g, 0, none⟩) (D.q.length + 1) cap) (D.q.length + 1) (D.q.flatMap entry ++ [.int .i64 ((i : Int) * 64), .int .i64 ((i : Int) * 64 + 64), .string s]))
    (hgr : W.grownBy w2 h.qv.ownBlock) (hat : h.qv.ownBlock = some g ∨ w.heap.size ≤ g) : Pushed w w2 h D i s (.slice (some ⟨g, 0, none⟩) (D.q.length + 1) cap) := by
  have d : DiskAt W h D := d0.kept c (fun _ _ h => h)
  have hne : ∀ k, k = h.b ∨ k = h.bs ∨ k = h.be ∨ h.av = some k → some k ≠ h.qv.ownBlock := by
    intro k hk e
    rcases hk with rfl | rfl | rfl | hk
    · exact (d.ap.q _ e.symm).1 rfl
    · exact (d.ap.q _ e.symm).2.1 rfl
    · exact (d.ap.q _ e.symm).2.2 rfl
    · exact (d.ap.a _ hk).2.2.2 e.symm
  have b1 : w2.heap[h.b]? = W.heap[h.b]? := hgr.block _ (lt_of_heap d.blk) (hne _ (.inl rfl))
  have gne : g ≠ h.b ∧ g ≠ h.bs ∧ g ≠ h.be ∧ h.av ≠ some g := by
    rcases hat with hg | hg
    · have := d.ap.q g hg
      exact ⟨this.1, this.2.1, this.2.2, fun ha => (d.ap.a g ha).2.2.2 hg⟩
    · have l : ∀ k, h.own k → k < w.heap.size := fun k hk => d0.lt k hk
      exact ⟨fun e => by have := l h.b (.inl rfl); omega, fun e => by have := l h.bs (.inr (.inl rfl)); omega, fun e => by have := l h.be (.inr (.inr (.inl rfl))); omega, fun e => by have := l g (.inr (.inr (.inr (.inr e)))); omega⟩
  have hb2 : w2.heap[h.b]? = some (.cells (diskCells h D) 61 (0, 0)) := b1.trans d.blk
  have blk' := setCell_blk hb2 2 (.slice (some ⟨g, 0, none⟩) (D.q.length + 1) cap)
  have rest : ∀ k, k ≠ h.b → (w2.setCell ⟨h.b, 2, none⟩ (.slice (some ⟨g, 0, none⟩) (D.q.length + 1) cap)).heap[k]? = w2.heap[k]? := fun k hk => setCell_rest _ _ _ _ _ hk
  refine ⟨by rw [cell_of_blk hb2]; rfl, frozen_of_blk hb2 2, lt_of_heap hb2, { h with qv := .slice (some ⟨g, 0, none⟩) (D.q.length + 1) cap }, ⟨?_, ?_, ?_, ?_, ?_, ?_, ?_⟩, rfl, ?_, ?_⟩
  · exact blk'
  · rw [rest _ (Ne.symm d.ap.s), hgr.block _ (lt_of_heap d.sblk) (hne _ (.inr (.inl rfl)))]; exact d.sblk
  · rw [rest _ (Ne.symm d.ap.e), hgr.block _ (lt_of_heap d.eblk) (hne _ (.inr (.inr (.inl rfl))))]; exact d.eblk
  · have e : (D.push i s).q.flatMap entry = D.q.flatMap entry ++ [.int .i64 ((i : Int) * 64), .int .i64 ((i : Int) * 64 + 64), .string s] := by simp [DS.push, entry]
    have l : (D.push i s).q.length = D.q.length + 1 := by simp [DS.push]
    rw [e, l]
    refine ownsRow_of_block hown fun k hk => rest k ?_
    have : k = g := by simpa [Value.ownBlock] using hk.symm
    rw [this]; exact gne.1
  · have ha := d.alm
    show armAt _ h.av D.arm
    cases hv : h.av with
    | none => rw [hv] at ha; cases hD : D.arm <;> rw [hD] at ha <;> exact ha
    | some k =>
      rw [hv] at ha
      cases hD : D.arm with
      | none => rw [hD] at ha; exact ha
      | some t =>
        rw [hD] at ha
        have hk : (w2.setCell ⟨h.b, 2, none⟩ (.slice (some ⟨g, 0, none⟩) (D.q.length + 1) cap)).heap[k]? = W.heap[k]? := by
          rw [rest _ (d.ap.a k hv).1, hgr.block _ (lt_of_heap ha) (hne _ (.inr (.inr (.inr hv))))]
        exact hk.trans ha
  · refine ⟨d.ap.s, d.ap.e, d.ap.se, ?_, ?_⟩
    · intro k hk
      have : k = g := by simpa [Value.ownBlock] using hk.symm
      rw [this]; exact ⟨gne.1, gne.2.1, gne.2.2.1⟩
    · intro k hk
      have := d.ap.a k hk
      refine ⟨this.1, this.2.1, this.2.2.1, ?_⟩
      intro e
      have : k = g := by simpa [Value.ownBlock] using e.symm
      exact gne.2.2.2 (by rw [← this]; exact hk)
  · exact d.wf.push i s hi hs
  · refine Chg.setCell ⟨hgr.os.trans c.os, hgr.tape.trans c.tape, hgr.output.trans c.output, Nat.le_trans c.size hgr.size, ?_⟩ _ _ (fun _ => .inl rfl)
    intro k hk hno
    rw [hgr.block k (Nat.lt_of_lt_of_le hk c.size) (fun e => hno (.inr (.inr (.inr (.inl e.symm)))))]
    exact c.block k hk (fun h => h)
  · intro k hk
    rcases hk with hk | hk | hk | hk | hk
    · exact .inl (.inl hk)
    · exact .inl (.inr (.inl hk))
    · exact .inl (.inr (.inr (.inl hk)))
    · have : k = g := by simpa [Value.ownBlock] using hk.symm
      rcases hat with hg | hg
      · exact .inl (.inr (.inr (.inr (.inl (by rw [this]; exact hg)))))
      · exact .inr (by rw [this]; exact hg)
    · exact .inl (.inr (.inr (.inr (.inr hk))))

/-- count behind a call that has turned the disk. -/
theorem count_behind {w W : World} {h : DH} {D : DS} (t : Turn w W h D) (hml : D.q.length ≤ 1000) :
    Calls Try.prog 40 #[.pointer (some ⟨h.b, 0, none⟩)] W fun e w' => e = .returned (.int .i64 D.count.1) ∧ Turn w w' h D.count.2 := by
  obtain ⟨h', d, hb, c, ho⟩ := t
  rw [← hb]
  exact (count_ok h' D W d hml).mono fun e w' ⟨he, t'⟩ => ⟨he, t'.trans hb c ho⟩
theorem heap_second (w : World) (A B : Obj) : ((w.alloc A).alloc B).drew.heap[w.heap.size + 1]? = some B := by
  have e : w.heap.size + 1 = (w.alloc A).heap.size := by simp
  rw [e]; exact heap_alloc_new _ _
theorem step_push {w W : World} {h : DH} {D : DS} {i : Nat} {s : ByteArray} {ops : Array Oper} {o : Oper} {a : Act} {K : Act → World → Prop} {Q : Exit → Act → World → Prop} {E : Prop} (hgd : o.guard = none) (x y : Operand)
    (hop : o.op = .call { callee := .builtin .append, args := #[x, y], argTypes := #[58, 58] }) (hx : a.eval x = h.qv) (B : Nat) (hy : a.eval y = .slice (some ⟨B, 0, none⟩) 1 1)
    (d0 : Hid (DiskAt w h D)) (c : Chg (fun _ => False) w W) (hi : i < D.n) (hs : Hid (s.size = 64)) (hml : D.q.length < 1000)
    (hB : W.heap[B]? = some (.cells #[.int .i64 ((i : Int) * 64), .int .i64 ((i : Int) * 64 + 64), .string s] 71 (0, 0)))
    (hK : ∀ g cap w2, Pushed w w2 h D i s (.slice (some ⟨g, 0, none⟩) (D.q.length + 1) cap) → K (a.put o.dst (.slice (some ⟨g, 0, none⟩) (D.q.length + 1) cap)) w2) :
    if Region.wanted o (yielded ops a.tmps) = true then Oper.wp Try.prog o a W K Q else E := by
  obtain ⟨i0, hi0, hz0, hz1, hz2⟩ := info_parts Try.info71
  refine step_append_lies W hgd x y 58 hop 0 71 i0 _ 3 32 Try.underlying58 hi0 hz0 hz1 hz2 rfl (by decide) h.qv D.q.length (D.q.flatMap entry) hx (d0.out.kept c (fun _ _ h => h)).que ⟨B, 0, none⟩ 1 1 [.int .i64 ((i : Int) * 64), .int .i64 ((i : Int) * 64 + 64), .string s] hy rfl
    (World.news_of_block hB) (by simp [Value.oneCell']) (by decide) (by unfold maxLen; omega) (by omega) (Nat.zero_le _) W.heap.size rfl ?_
  intro g cap w2 hown hgr hat _
  exact hK g cap w2 (Pushed.of d0.out c hi hs.out hown hgr (hat.imp id (fun e => by have := c.size; omega)))

set_option maxHeartbeats 1000000 in
theorem write_push (h : DH) (D : DS) (i : Nat) (s : ByteArray) (w : World) (d : DiskAt w h D) (ho : D.off = false) (hb : D.bad i = false) (hs : s.size = 64) (hml : D.q.length < 1000) :
    Calls Try.prog 22 #[.pointer (some ⟨h.b, 0, none⟩), .int .i64 (i : Int), .string s] w fun e w' => e = .returned (.int .i64 (D.push i s).count.1) ∧ Turn w w' h (D.push i s).count.2 := by
  have HA := Lib.hid (at_ok h D i w d ho hb)
  have t : ((s.size : Int) != 64) = false := by rw [hs]; rfl
  have t2 : (s.size == 64) = true := by rw [hs]; rfl
  have c2 := d.c2
  have hb2 := d.hb
  have hin : i < D.n := by have := DS.bad_false hb; omega
  have Hd := Lib.hid d
  have Hs := Lib.hid hs
  have f2 := d.fz 2
  clear d ho hb hs
  go_enter Try.func22, Try.ntmps22
  go_wp2_with (go_at_call 39; refine HA.out.mono ?_; rintro e w1 ⟨rfl, ⟨mc, mf, mz, mh⟩⟩; have hb3 := Nat.lt_of_lt_of_le hb2 mz)
  go_region_law (first | (refine step_push (w := w) (h := h) (D := D) (i := i) (s := s) rfl (.tmp 25) (.tmp 29) rfl rfl (w1.heap.size + 1) rfl Hd ?_ hin Hs hml ?_ ?_; exact ((mh.out.alloc _).alloc _).drew; exact heap_second _ _ _; rintro g cap w2 ⟨g2, f2, z2, done⟩))
  all_goals
    go_wp2_with (go_at_call 40; refine (count_behind done.out (by simp [DS.push]; omega)).mono ?_; rintro e w3 ⟨rfl, t3⟩)
    go_ret
    exact ⟨rfl, t3⟩

/-- Write, on a disk. -/
theorem write_ok (h : DH) (D : DS) (i : Int) (s : ByteArray) (w : World) (d : DiskAt w h D) (hs : s.size ≤ 9223372036854775807) (hml : D.q.length < 1000) :
    Calls Try.prog 22 #[.pointer (some ⟨h.b, 0, none⟩), .int .i64 i, .string s] w fun e w' => e = .returned (.int .i64 (D.write i s).1) ∧ Turn w w' h (D.write i s).2 := by
  have same : ∀ {r : Int} {e : Ending} {w' : World}, (e = .returned (.int .i64 r) ∧ Hid (Chg (fun _ => False) w w')) → (e = .returned (.int .i64 r) ∧ Turn w w' h D) := fun ⟨he, hc⟩ => ⟨he, Turn.same d hc.out⟩
  by_cases ho : D.off = true
  · have e : D.write i s = (19, D) := by simp [DS.write, ho]
    rw [e]
    exact (write_off h D i s w d ho).mono fun _ _ => same
  · have ho' : D.off = false := by simpa using ho
    by_cases hb : D.bad i = true
    · have e : D.write i s = (1, D) := by simp [DS.write, ho', hb]
      rw [e]
      exact (write_bad h D i s w d ho' hb).mono fun _ _ => same
    · have hb' : D.bad i = false := by simpa using hb
      by_cases hz : s.size = 64
      · have e : D.write i s = (D.push i.toNat s).count := by simp [DS.write, ho', hb', hz]
        obtain ⟨n, rfl⟩ := Int.eq_ofNat_of_zero_le (DS.bad_false hb').1
        rw [e, Int.toNat_natCast]
        exact write_push h D n s w d ho' hb' hz hml
      · have e : D.write i s = (1, D) := by simp [DS.write, ho', hb', hz]
        rw [e]
        exact (write_odd h D i s w d ho' hb' hz hs).mono fun _ _ => same

end Go.Proofs.Ytageboekobkdcaa

/- Disk: Fail, count. -/
import Derived.Test.YtageboekobkdcaaA
namespace Go.Proofs.Ytageboekobkdcaa
open Go.RowKit

set_option maxHeartbeats 1000000 in
theorem settle_zero (b c : Nat) (a : Option Addr) (w : World) :
    Calls Try.prog 41 #[.pointer (some ⟨b, 0, none⟩), .slice a 0 c] w fun e w' => e = .returned (.tuple #[]) ∧ w = w' := by
  go_enter Try.func41, Try.ntmps41
  go_wp2
  go_loopw [8] (fun i wr => i = .int .i64 0 ∧ wr = w) (fun i _ => 0)
  case atStart => exact ⟨rfl, rfl⟩
  case round =>
    obtain ⟨rfl, rfl⟩ := hrel
    go_wp2
    go_end0
    exact ⟨rfl, rfl⟩

theorem run_slice_to {P : Program} (t : TypeId) (ht : P.underlying t = some (.slice (P.elem t))) (i0 : TypeInfo) (hq : P.info? (P.elem t) = some i0) (a : Option Addr) (L c n : Nat) (hn : n ≤ c) (w : World) :
    (Instr.slice t (.slice a L c) none (some (.int .i64 (n : Int))) none).run P w = .ok (.slice a n c) w := by
  rw [run_slice_h _ _ _ _ _ ht _ _ (by omega) (by omega)]
  have hz : (sizeOf (P.elem t)).run P w = .ok i0.size w := by simp [sizeOf, typeInfo, hq]
  rw [hz]
  cases a <;> simp [Result.andThen, sliced, Addr.add]

theorem settle_gen (h : DH) (D : DS) (m c : Nat) (a : Option Addr) (w : World) (d : DiskAt w h D) (hm : m ≤ D.q.length) (hq : h.qv = .slice a D.q.length c) (hml : D.q.length ≤ 1000) :
    Calls Try.prog 41 #[.pointer (some ⟨h.b, 0, none⟩), .slice a m c] w fun e w' => e = .returned (.tuple #[]) ∧ DiskAt w' h (D.settle (D.q.take m)) ∧ Chg h.own w w' := by
  obtain ⟨a', c', hq', hlc, hform⟩ := d.qform
  rw [hq] at hq'
  simp only [Value.slice.injEq, true_and] at hq'
  obtain ⟨rfl, rfl⟩ := hq'
  rcases hform with ⟨rfl, hD⟩ | ⟨g, rfl⟩
  · have hm0 : m = 0 := by simp [hD] at hm; exact hm
    subst hm0
    refine (settle_zero h.b c none w).mono ?_
    rintro e w' ⟨he, rfl⟩
    exact ⟨he, by simpa [DS.settle] using d, Chg.refl _ _⟩
  · exact settle_ok h D m c g w d hm hq hml

/-- What the walk wants to know of a disk that lies there. -/
structure Seen (w1 : World) (h : DH) (D : DS) (qv : Value) (off : Bool) : Prop where
  g2 : w1.cell? ⟨h.b, 2, none⟩ = some qv
  g3 : w1.cell? ⟨h.b, 3, none⟩ = some (.bool off)
  g4 : w1.cell? ⟨h.b, 4, none⟩ = some (ptr? h.av)
  gb : h.b < w1.heap.size
  f2 : w1.frozen? ⟨h.b, 2, none⟩ = false
  f3 : w1.frozen? ⟨h.b, 3, none⟩ = false
  f4 : w1.frozen? ⟨h.b, 4, none⟩ = false
theorem DiskAt.seen {w : World} {h : DH} {D : DS} (d : DiskAt w h D) {qv : Value} {off : Bool} (hq : h.qv = qv) (ho : D.off = off) : Seen w h D qv off :=
  ⟨by rw [d.c2, hq], by rw [d.c3, ho], d.c4, d.hb, d.fz 2, d.fz 3, d.fz 4⟩
theorem ba_extract (s : ByteArray) (k : Nat) : ba (s.extract 0 k) = (ba s).take k := by simp [ba]
theorem set_behind (w w1 w2 : World) (h : DH) (D : DS) (i k : Nat) (s : ByteArray) (qv : Value) (d1 : Hid (DiskAt w1 h D ∧ Chg h.own w w1)) (hc : Chg (fun _ => False) w1 w2) (hq : h.qv = qv) (ho : D.off = false) (hi : i < D.n) (hk : k ≤ 64) (hsz : w1.heap.size < w2.heap.size) :
    Calls Try.prog 42 #[.pointer (some ⟨h.b, 0, none⟩), .agg #[.int .i64 ((i : Int) * 64), .int .i64 ((i : Int) * 64 + 64)], .string (s.extract 0 k)] w2 fun e w' => e = .returned (.tuple #[]) ∧
      Seen w' h (D.set i ((ba s).take k)) qv false ∧ (∀ j, w'.cell? ⟨w1.heap.size, j, none⟩ = w2.cell? ⟨w1.heap.size, j, none⟩) ∧ Hid (DiskAt w' h (D.set i ((ba s).take k)) ∧ Chg h.own w w') := by
  obtain ⟨d, c⟩ := d1
  refine (set_ok h D i (s.extract 0 k) w2 (d.kept hc (fun _ _ h => h)) hi (by rw [← ba_length, ba_extract, List.length_take]; omega)).mono ?_
  rintro e w' ⟨he, hd, hc2⟩
  rw [ba_extract] at hd
  exact ⟨he, hd.seen hq ho, fun j => World.cell?_of_block (hc2.block _ hsz (fun ho => Nat.lt_irrefl _ (d.lt _ ho))), hd, (c.trans hc (fun _ _ h => h.elim)).trans hc2 (fun _ _ h => h)⟩
theorem Turn.alloc {w w' : World} {h : DH} {D' : DS} (t : Turn w w' h D') (o : Obj) : Turn w (w'.alloc o) h D' := by
  obtain ⟨h', d, hb, c, ho⟩ := t
  exact ⟨h', d.kept (S := fun _ => False) ((Chg.refl _ _).alloc o) (fun _ _ h => h), hb, c.alloc o, ho⟩

set_option maxHeartbeats 1000000 in
theorem fail_any (h : DH) (D : DS) (x y : Int) (a : Option Addr) (c n : Nat) (w : World) (d : DiskAt w h D) (hoff : D.off = false) (hq : h.qv = .slice a D.q.length c) (hqc : D.q.length ≤ c) (hform : a = none ∧ D.q = [] ∨ ∃ g, a = some ⟨g, 0, none⟩) (hml : D.q.length ≤ 1000) (hn : n = cut x D.q.length) :
    Calls Try.prog 24 #[.pointer (some ⟨h.b, 0, none⟩), .int .i64 x, .int .i64 y] w fun e w' => e = .returned (.tuple #[]) ∧ Turn w w' h (D.fail x y) := by
  have hb := d.hb
  have c2 := d.c2; have c3 := d.c3
  rw [hq] at c2; rw [hoff] at c3
  obtain ⟨X, hX⟩ : ∃ X : Int, (if x < 0 then 0 else x) = X := ⟨_, rfl⟩
  have hM : (if (D.q.length : Int) < X then (D.q.length : Int) else X) = (n : Int) := by rw [← hX, hn]; unfold cut; split <;> split <;> omega
  have hnl : n ≤ D.q.length := by rw [hn]; exact cut_le _ _
  have hsl := run_slice_to (P := Try.prog) 58 Try.underlying58 _ rfl a D.q.length c n (by omega)
  have fin : ∀ p, D.q[n]? = p → ((D.settle (D.q.take n)).torn p y).down = D.fail x y := by
    intro p hp
    unfold DS.fail
    rw [hoff, ← hn, hp]
    rfl
  have qle := DS.settle_rest (D.q.take n) D
  have hqok := d.wf.qok
  have S1 := Lib.hid (settle_gen h D n c a w d hnl hq hml)
  have Fin := Lib.hid fin; have Qle := Lib.hid qle; have Hqok := Lib.hid hqok
  have Hn := Lib.hid hn; have Hq := Lib.hid hq
  clear hn hq d fin qle hqok
  by_cases hlt : n < D.q.length
  · obtain ⟨g, rfl⟩ : ∃ g, a = some ⟨g, 0, none⟩ := by
      rcases hform with ⟨_, h0⟩ | h0
      · rw [h0] at hlt; simp at hlt
      · exact h0
    obtain ⟨i, s, hp⟩ : ∃ i s, D.q[n] = (i, s) := ⟨_, _, rfl⟩
    obtain ⟨hin, hss⟩ := Hqok.out (i, s) (by rw [← hp]; exact List.getElem_mem hlt)
    simp only at hin hss
    have qc : ∀ w1, DiskAt w1 h (D.settle (D.q.take n)) → w1.cell? ⟨g, n * 3, none⟩ = some (.int .i64 ((i : Int) * 64)) ∧ w1.cell? ⟨g, n * 3 + 1, none⟩ = some (.int .i64 ((i : Int) * 64 + 64)) ∧ w1.cell? ⟨g, n * 3 + 2, none⟩ = some (.string s) := by
      intro w1 d1
      have := que_cell d1 (g := g) (c := c) (by rw [Qle.out.1]; exact Hq.out) n (by rw [Qle.out.1]; exact hlt)
      simp only [Qle.out.1, hp] at this
      exact this
    have Fin1 := Lib.hid (Fin.out (some (i, s)) (by rw [List.getElem?_eq_getElem hlt, hp]))
    obtain ⟨k, hk⟩ : ∃ k, k = cut y 64 := ⟨_, rfl⟩
    have hKy : 0 < k → 0 < y ∧ (if 64 < y then 64 else y) = (k : Int) := by intro h; rw [hk] at h ⊢; unfold cut at h ⊢; constructor; omega; split <;> omega
    have hK0 : ¬ 0 < k → (if y < 0 then 0 else y) = (0 : Int) := by intro h; rw [hk] at h; unfold cut at h; split <;> omega
    have hk64 : k ≤ 64 := by rw [hk]; exact cut_le _ _
    have hin1 : i < (D.settle (D.q.take n)).n := by rw [Qle.out.2.1]; exact hin
    have S2 := Lib.hid (S1.out.mono (R' := fun e w1 => e = .returned (.tuple #[]) ∧ Seen w1 h (D.settle (D.q.take n)) (.slice (some ⟨g, 0, none⟩) D.q.length c) false ∧ g < w1.heap.size ∧
        w1.cell? ⟨g, n * 3, none⟩ = some (.int .i64 ((i : Int) * 64)) ∧ w1.cell? ⟨g, n * 3 + 1, none⟩ = some (.int .i64 ((i : Int) * 64 + 64)) ∧ w1.cell? ⟨g, n * 3 + 2, none⟩ = some (.string s) ∧ Hid (DiskAt w1 h (D.settle (D.q.take n)) ∧ Chg h.own w w1)) (by
      rintro e w1 ⟨he, d1, ch⟩
      obtain ⟨q0, q1, q2⟩ := qc w1 d1
      exact ⟨he, d1.seen Hq.out (by rw [Qle.out.2.2.1]; exact hoff), World.block_lt_of_cell? w1 _ q0, q0, q1, q2, d1, ch⟩))
    have Hk := Lib.hid hk; have Hp := Lib.hid hp; have Hss := Lib.hid hss
    have hks : (k : Int) ≤ s.size := by omega
    clear qc hk hp hss S1
    obtain rfl : X = (n : Int) := by split at hM <;> omega
    clear hM
    by_cases hk0 : 0 < k
    · obtain ⟨hy0, hK⟩ := hKy hk0
      have Hoff := Lib.hid ((Qle.out.2.2.1).trans hoff)
      clear hKy hK0 hoff
      go_enter Try.func24, Try.ntmps24
      go_wp2_with (go_at_call 41; refine S2.out.mono ?_; rintro e w1 ⟨rfl, ⟨g2, g3, g4, gb, f2, f3, f4⟩, gl, q0, q1, q2, D1⟩)
      go_region_held3 (fun w' => w'.cell? ⟨w1.heap.size, 0, none⟩ = some (.int .i64 ((i : Int) * 64)) ∧ w'.cell? ⟨w1.heap.size, 1, none⟩ = some (.int .i64 ((i : Int) * 64 + 64)) ∧ w'.cell? ⟨w1.heap.size, 2, none⟩ = some (.string s)) (go_keep)
        (first | (go_at_call 42; refine (set_behind w w1 _ h _ i k s _ D1 ?_ Hq.out Hoff.out hin1 hk64 ?_).mono ?_; exact ((Chg.refl _ _).alloc _).drew; simp; rintro e w2 ⟨rfl, ⟨g2, g3, g4, gb, f2, f3, f4⟩, fr, D2⟩))
      go_wp2
      go_end0
      refine ⟨rfl, ?_⟩
      have e : (D.settle (D.q.take n)).torn (some (i, s)) y = (D.settle (D.q.take n)).set i ((ba s).take k) := by simp [DS.torn, ← Hk.out, hk0]
      rw [← Fin1.out, e]
      exact Turn.down D2.out.2 D2.out.1
    · have hK := hK0 hk0
      clear hKy hK0 hoff
      go_enter Try.func24, Try.ntmps24
      go_wp2_with (go_at_call 41; refine S2.out.mono ?_; rintro e w1 ⟨rfl, ⟨g2, g3, g4, gb, f2, f3, f4⟩, gl, q0, q1, q2, D1⟩)
      go_end0
      refine ⟨rfl, ?_⟩
      have e : (D.settle (D.q.take n)).torn (some (i, s)) y = D.settle (D.q.take n) := by simp [DS.torn, ← Hk.out, hk0]
      rw [← Fin1.out, e]
      exact (Turn.down D1.out.2 D1.out.1).alloc _
  · go_enter Try.func24, Try.ntmps24
    go_wp2_with (go_at_call 41; refine S1.out.mono ?_; rintro e w1 ⟨rfl, d1, ch1⟩; have g2 := d1.c2; have g3 := d1.c3; have g4 := d1.c4; have gb := d1.hb; have f2 := d1.fz 2; have f3 := d1.fz 3; have f4 := d1.fz 4; rw [Hq.out] at g2; have D1 := Lib.hid d1; clear d1)
    go_end0
    refine ⟨rfl, ?_⟩
    rw [← Fin.out none (List.getElem?_eq_none (by omega))]
    exact Turn.down ch1 D1.out

/-- Fail, on or off. -/
theorem fail_ok (h : DH) (D : DS) (x y : Int) (w : World) (d : DiskAt w h D) (hml : D.q.length ≤ 1000) :
    Calls Try.prog 24 #[.pointer (some ⟨h.b, 0, none⟩), .int .i64 x, .int .i64 y] w fun e w' => e = .returned (.tuple #[]) ∧ Turn w w' h (D.fail x y) := by
  by_cases ho : D.off = false
  · obtain ⟨a, c, hq, hlc, hform⟩ := d.qform
    exact fail_any h D x y a c _ w d ho hq hlc hform hml rfl
  · have ho' : D.off = true := by simpa using ho
    have e : D.fail x y = D := by simp [DS.fail, ho']
    have hb := d.hb
    have c3 := d.c3
    rw [ho'] at c3
    have T := Lib.hid (Turn.same d (Chg.refl _ _))
    rw [e]
    clear d ho ho' e
    go_enter Try.func24, Try.ntmps24
    go_wp2
    refine bodyPost_ret (results_none rfl _ _ _) rfl ?_
    exact ⟨rfl, T.out⟩

theorem fail_nil (x y : Int) (w : World) : Calls Try.prog 24 #[.pointer none, .int .i64 x, .int .i64 y] w fun e w' => e = .returned (.tuple #[]) ∧ w = w' := by
  go_enter Try.func24, Try.ntmps24
  go_wp2
  refine bodyPost_ret (results_none rfl _ _ _) rfl ?_
  exact ⟨rfl, rfl⟩
end Go.Proofs.Ytageboekobkdcaa

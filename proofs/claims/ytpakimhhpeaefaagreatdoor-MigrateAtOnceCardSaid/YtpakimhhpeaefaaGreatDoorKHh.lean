/- The calls of the law's head, each with what it returns there. Conditions: strconv's three variables hold what its initialisers lay. | The last Finish of the law's head: what it returns, cell by cell. Conditions: none. -/
import Derived.Test.YtpakimhhpeaefaaGreatDoorKHe
set_option linter.unusedSimpArgs false
set_option linter.unusedVariables false
namespace Go.Proofs.YtpakimhhpeaefaaGreatDoor
open Go.RowKit

theorem rowB (a : ByteArray) (n : Int) (w : World) (ha : a.size ≤ 100) : Calls Tryz.prog 41 #[.string a, .int .i64 n] w fun e w' => ∃ (b : Nat) (m c : Nat), e = .returned (.slice (some ⟨b, 0, none⟩) m c) ∧ (RowAt w' ⟨some ⟨b, 0, none⟩, m, c⟩ (rowE a n) ∧ ∃ cs, Blk w' b 26 cs) ∧ Same w w' := by
  go_enter Tryz.func41, Tryz.ntmps41
  go_wp2_with (fail)
  go_ret
  refine ⟨_, _, _, rfl, ⟨⟨lies_of_blk (xs := rowE a n) V.clen (Blk.new w _ _) rfl (show (2 : Nat) ≤ 9223372036854775807 by decide), ?_⟩, _, Blk.new w _ _⟩, (Same.refl w).alloc _⟩
  intro v hv
  simp only [rowE, List.mem_cons, List.not_mem_nil, or_false] at hv
  rcases hv with rfl | rfl
  · exact okS_of ha
  · exact okS_of (show (⟨#[]⟩ : ByteArray).size ≤ 100 by decide)
theorem two_new (w : World) (a b : Array Value) (ta tb : TypeId) : Same w ((w.alloc (.cells a ta)).alloc (.cells b tb)) ∧ Blk ((w.alloc (.cells a ta)).alloc (.cells b tb)) w.heap.size ta a ∧ Blk ((w.alloc (.cells a ta)).alloc (.cells b tb)) (w.heap.size + 1) tb b := by
  refine ⟨((Same.refl w).alloc _).alloc _, (Blk.new w _ _).alloc _, ?_⟩
  have e : w.heap.size + 1 = (w.alloc (.cells a ta)).heap.size := by simp
  rw [e]; exact Blk.new _ _ _
theorem LiveM.low {V W w : World} {g : Nat} {m : Mg} (l : LiveM W w g m) (s : Same V W) : LiveM V w g m := by
  obtain ⟨p, d, hg, ho, sw⟩ := l
  exact ⟨p, d, hg, fun k hk => Nat.le_trans s.size (ho k hk), s.trans sw⟩
/-- Start at the example's schema and change. -/
theorem start_ex {V wz W : World} (l : Laid V) {A : Option Addr} {n c : Nat} {t : RT} (ta : TabsAt V ⟨A, n, c⟩ [t]) (ht : t.tb = exTb) (sz : Same V wz) (s : Same wz W) (rs : List Rw) {b0 b1 c0 c1 : Nat} (x : ∀ r ∈ rs, RowAt wz r.h r.v) (hl : rs.length ≤ 1000000)
    (b : Blk W b0 40 (rs.flatMap Rw.cell).toArray) (b' : Blk W b1 55 #[.slice (some ⟨b0, 0, none⟩) rs.length c0]) (hE : startE [exTb] exC [rs.map Rw.v] = 0) :
    Calls Tryz.prog 12 #[.agg #[.slice A n c], .agg #[.int .i64 4, .string eT, .string eN, .string ⟨#[]⟩, .int .i64 3, .int .i64 0, .int .i64 0, .string ⟨#[]⟩], .slice (some ⟨b1, 0, none⟩) 1 c1] W fun e w' => ∃ g : Nat, e = .returned (.tuple #[.pointer (some ⟨g, 0, none⟩), .int .i64 0]) ∧ LiveM V w' g (start [exTb] exC [rs.map Rw.v]) := by
  have sV := sz.trans s
  have T := tabs_of s rs (c0 := c0) (c1 := c1) x (by omega) b b'
  have e1 : rowsOf [(⟨⟨some ⟨b0, 0, none⟩, rs.length, c0⟩, rs⟩ : Tbl)] = [rs.map Rw.v] := rfl
  have e2 : [t].map RT.tb = [exTb] := by rw [List.map_cons, ht]; rfl
  have h := start_live ⟨A, n, c⟩ [t] exC ⟨some ⟨b1, 0, none⟩, 1, c1⟩ [⟨⟨some ⟨b0, 0, none⟩, rs.length, c0⟩, rs⟩] W (l.same sV) (ta.same sV) (nw := 0) (by rw [e2]; exact wasEx) (by decide) (show (1 : Nat) ≤ 1000000 by decide) (okS_of (show (⟨#[]⟩ : ByteArray).size ≤ 100 by decide)) (okS_of (show (⟨#[]⟩ : ByteArray).size ≤ 100 by decide)) T
    (by rw [e1]; exact ⟨show (1 : Nat) ≤ 1000000 by decide, fun rows h => by rw [List.mem_singleton.1 h, List.length_map]; exact hl⟩) (by rw [e1, e2]; exact hE)
  rw [e1, e2] at h
  exact h.mono fun e w' ⟨g, he, lv⟩ => ⟨g, he, lv.low sV⟩
section
variable {W w : World} {g : Nat} {m : Mg}
theorem LiveM.stepL (l : LiveM W w g m) (n a b : Int) (hb : m.rows.length ≤ 1000000) (hn : -1000 ≤ n ∧ n ≤ 1000) (h1 : (m.stepN n : Int) = a) (h2 : m.stepE n = b) :
    Calls Tryz.prog 14 #[.pointer (some ⟨g, 0, none⟩), .int .i64 n] w fun e w' => e = .returned (.tuple #[.int .i64 a, .int .i64 b]) ∧ LiveM W w' g (m.step n) := by
  have h := l.step n hb (by omega) (by omega)
  rw [h1, h2] at h
  exact h
theorem LiveM.finishEL (l : LiveM W w g m) (E : Int) (hE : m.finE = E) (h0 : E ≠ 0) :
    Calls Tryz.prog 18 #[.pointer (some ⟨g, 0, none⟩)] w fun e w' => e = .returned (.tuple #[.agg #[.slice none 0 0], .slice none 0 0, .int .i64 E]) ∧ LiveM W w' g m := by
  have h := l.finishE (by rw [hE]; exact h0)
  rw [hE] at h
  exact h.mono fun e w' ⟨he, _, lv⟩ => ⟨he, lv⟩
/-- Abandon with one table of k rows. -/
theorem LiveM.abandonL (l : LiveM W w g m) (few : FewR m.tabs) (hc : m.closed = false) (rows : List Row) (ht : m.tabs = [rows]) :
    Calls Tryz.prog 22 #[.pointer (some ⟨g, 0, none⟩)] w fun e w' => ∃ (go c : Nat) (B : Option Addr) (d : Nat), e = .returned (.tuple #[.slice (some ⟨go, 0, none⟩) 1 c, .int .i64 0]) ∧ (w'.cell? ⟨go, 0, none⟩ = some (.slice B rows.length d) ∧ go < w'.heap.size) ∧ LiveM W w' g m.abandon := by
  refine (l.abandon few hc).mono ?_
  rintro e w' ⟨A, n, c, he, ⟨ts, lo, hi, o⟩, lv⟩
  have hr := o.2.1
  rw [ht] at hr
  have hl : ts.length = 1 := by have := congrArg List.length hr; simpa [rowsOf] using this
  match ts, hl with
  | [t], _ =>
    obtain ⟨go, c', hh, _, hlt, _⟩ := o.1.head (show (0 : Nat) < 1 by decide)
    injection hh with h1 h2 h3
    subst h1 h2 h3
    have hcell := o.1.get 0 (show (0 : Nat) < 1 by decide)
    have htr : t.rs.length = rows.length := by
      have h2 : [t.rows] = [rows] := hr
      injection h2 with h2
      rw [← h2]; simp [Tbl.rows]
    have hn := (o.1.oi t (List.mem_singleton.2 rfl)).2
    refine ⟨go, c, t.h.a, t.h.c, he, ⟨?_, hlt⟩, lv⟩
    rw [hcell]
    show some (Value.slice t.h.a t.h.n t.h.c) = _
    rw [hn, htr]
theorem LiveM.putL (l : LiveM W w g m) {b n c : Nat} {row : Row} (r : RowAt w ⟨some ⟨b, 0, none⟩, n, c⟩ row) {cs : Array Value} (hb : Blk w b 26 cs) (t E : Int) (hl : ∀ rows ∈ m.tabs, rows.length ≤ 1000000) (hE : m.putE t row = E) :
    Calls Tryz.prog 16 #[.pointer (some ⟨g, 0, none⟩), .int .i64 t, .slice (some ⟨b, 0, none⟩) n c] w fun e w' => e = .returned (.int .i64 E) ∧ LiveM W w' g (m.put t row) := by
  have h := l.put t r (fun p d _ h0 => ⟨b, 0, rfl, d.not_own hb (by decide) (by decide) (by decide)⟩) hl
  rw [hE] at h
  exact h
end
end Go.Proofs.YtpakimhhpeaefaaGreatDoor
namespace Go.Proofs.YtpakimhhpeaefaaGreatDoor
open Go.RowKit

theorem bytes0 {s : ByteArray} (h : s.size = 0) : s = ⟨#[]⟩ := by
  obtain ⟨a⟩ := s
  have : a.size = 0 := h
  rw [Array.size_eq_zero_iff] at this
  rw [this]
theorem step_sc (m : Mg) (n : Int) : (m.step n).s = m.s ∧ (m.step n).c = m.c := by
  unfold Mg.step
  split
  · exact ⟨rfl, rfl⟩
  · exact ⟨(Mg.steps_tabs _ _).2.1, (Mg.steps_tabs _ _).2.2.1⟩
theorem put_sc (m : Mg) (t : Int) (row : Row) : (m.put t row).s = m.s ∧ (m.put t row).c = m.c := by
  unfold Mg.put
  split <;> exact ⟨rfl, rfl⟩
theorem M2c_sc : M2c.s = [exTb] ∧ M2c.c = exC := by
  have h1 := step_sc M2b 9
  have h2 := put_sc M2a 0 (rowE bW 4)
  have h3 := step_sc M2 1
  exact ⟨h1.1.trans (h2.1.trans h3.1), h1.2.trans (h2.2.trans h3.2)⟩
theorem out_shape : ∀ {ts : List Tbl}, outB (rowsOf ts) = true → ∃ (hi : Hd) (s0 s1 : Rw) (hr : Hd) (v0 : V), ts = [⟨hi, [s0, s1, ⟨hr, [v0, ⟨3, 4, ⟨#[]⟩⟩]⟩]⟩]
  | [], h => by simp [rowsOf, outB] at h
  | _ :: _ :: _, h => by simp [rowsOf, outB] at h
  | [⟨hi, rs⟩], h => by
    match rs, h with
    | [], h => simp [rowsOf, outB, Tbl.rows] at h
    | [_], h => simp [rowsOf, outB, Tbl.rows] at h
    | [_, _], h => simp [rowsOf, outB, Tbl.rows] at h
    | _ :: _ :: _ :: _ :: _, h => simp [rowsOf, outB, Tbl.rows] at h
    | [s0, s1, ⟨hr, rv⟩], h =>
      match rv, h with
      | [], h => simp [rowsOf, outB, Tbl.rows] at h
      | [_], h => simp [rowsOf, outB, Tbl.rows] at h
      | _ :: _ :: _ :: _, h => simp [rowsOf, outB, Tbl.rows] at h
      | [v0, ⟨vk, vn, vs⟩], h =>
        simp [rowsOf, outB, Tbl.rows] at h
        obtain ⟨⟨e1, e2⟩, e3⟩ := h
        refine ⟨hi, s0, s1, hr, v0, ?_⟩
        rw [e1, e2, bytes0 (s := vs) (by simpa using e3)]
def ExCells (w : World) (b1 o1 go b2 o2 c2 bi ci br orr cr : Nat) : Prop :=
  (w.cell? ⟨b1, o1 + 1, none⟩ = some (.slice (some ⟨b2, o2, none⟩) 2 c2) ∧ w.cell? ⟨b2, o2 + 6 + 1, none⟩ = some (.int .i64 3)) ∧
  (w.cell? ⟨go, 0, none⟩ = some (.slice (some ⟨bi, 0, none⟩) 3 ci) ∧ w.cell? ⟨bi, 2, none⟩ = some (.slice (some ⟨br, orr, none⟩) 2 cr)) ∧
  (w.cell? ⟨br, orr + 3, none⟩ = some (.int .i64 3) ∧ w.cell? ⟨br, orr + 3 + 1, none⟩ = some (.int .i64 4) ∧ w.cell? ⟨br, orr + 3 + 2, none⟩ = some (.string ⟨#[]⟩)) ∧
  (b1 < w.heap.size ∧ b2 < w.heap.size ∧ go < w.heap.size ∧ bi < w.heap.size ∧ br < w.heap.size)
theorem finish_ex {W w : World} {g : Nat} (l : LiveM W w g M2c) :
    Calls Tryz.prog 18 #[.pointer (some ⟨g, 0, none⟩)] w fun e w' => ∃ (b1 o1 c1 go c b2 o2 c2 bi ci br orr cr : Nat), e = .returned (.tuple #[.agg #[.slice (some ⟨b1, o1, none⟩) 1 c1], .slice (some ⟨go, 0, none⟩) 1 c, .int .i64 0]) ∧ ExCells w' b1 o1 go b2 o2 c2 bi ci br orr cr ∧ LiveM W w' g M2c.finish := by
  have few : FewR M2c.tabs := ⟨f_len.2.1.1, fun rows h => by
    have := List.all_eq_true.1 f_len.2.1.2 rows h
    simpa using this⟩
  refine (l.finish few f_len.2.2.1 f_2.2.2.2.2.1).mono ?_
  rintro e w' ⟨A1, m1, c1, go, n, c, he, ⟨tn, ts, lo, hi, ht, htm, ho⟩, lv⟩
  rw [M2c_sc.1, M2c_sc.2] at htm
  have hn := f_next
  have hob := f_out
  rw [← htm] at hn
  rw [← ho.2.1] at hob
  -- the schema
  match tn, hn with
  | [x], hn =>
    obtain ⟨xn, ⟨A4, n4, c4⟩, ra, hk, key⟩ := x
    simp only [List.map_cons, List.map_nil, nextB, RT.tb] at hn
    match ra, hn with
    | [r0, r1], hn =>
      have hk3 : r1.at_.kind = 3 := by simpa using hn
      clear hn
      have hm1 : (1 : Nat) = m1 := ht.1.1
      subst hm1
      obtain ⟨b1, o1, hA1, hb1, hc1⟩ := ht.1.2.2 0 (show (0 : Nat) < 1 by decide)
      have hA1' : A1 = some ⟨b1, o1, none⟩ := hA1
      subst hA1'
      have q1 := hc1 1 (.slice A4 n4 c4) rfl
      have ha := (ht.2 _ (List.mem_singleton.2 rfl)).1
      have hn4 : (2 : Nat) = n4 := ha.1.1
      subst hn4
      obtain ⟨b2, o2, hA4, hb2, hc2⟩ := ha.1.2.2 1 (show (1 : Nat) < 2 by decide)
      have hA4' : A4 = some ⟨b2, o2, none⟩ := hA4
      subst hA4'
      have q2 := hc2 1 (.int .i64 r1.at_.kind) rfl
      rw [hk3] at q2
      simp only [Nat.zero_mul, Nat.add_zero, Nat.one_mul] at q1 q2
      -- the tables
      obtain ⟨⟨Ai, ni, ci⟩, s0, s1, ⟨Ar, nr, cr⟩, v0, hts⟩ := out_shape hob
      subst hts
      have oh := ho.1.oh
      have hnn : n = 1 := oh
      subst hnn
      obtain ⟨_, cs, hbg⟩ := row_ty ho.1.oo (k := go) rfl
      have g0 := OwnT.get (tb := [⟨⟨Ai, ni, ci⟩, [s0, s1, ⟨⟨Ar, nr, cr⟩, [v0, ⟨3, 4, ⟨#[]⟩⟩]⟩]⟩]) ho.1 0 (show (0 : Nat) < 1 by decide)
      obtain ⟨oi, oin⟩ := ho.1.oi _ (List.mem_singleton.2 rfl)
      have hni : ni = 3 := oin
      subst hni
      have oi' : w'.ownsRow w.heap.size 40 1 (.slice Ai 3 ci) 3 ([s0, s1, (⟨⟨Ar, nr, cr⟩, [v0, ⟨3, 4, ⟨#[]⟩⟩]⟩ : Rw)].flatMap Rw.cell) := oi
      obtain ⟨bi, cur, hAi, _, hbi, _⟩ := own_blk oi' (by decide)
      subst hAi
      have g1 := own_cell Rw.clen oi' rfl 2 (by decide) 0 (by decide)
      have hrow := (ho.2.2 _ (List.mem_singleton.2 rfl) ⟨⟨Ar, nr, cr⟩, [v0, ⟨3, 4, ⟨#[]⟩⟩]⟩ (by simp)).1
      have hnr : (2 : Nat) = nr := hrow.1.1
      subst hnr
      obtain ⟨br, orr, hAr, hbr, hcr⟩ := hrow.1.2.2 1 (show (1 : Nat) < 2 by decide)
      have hAr' : Ar = some ⟨br, orr, none⟩ := hAr
      subst hAr'
      have d0 := hcr 0 (.int .i64 3) rfl
      have d1 := hcr 1 (.int .i64 4) rfl
      have d2 := hcr 2 (.string ⟨#[]⟩) rfl
      simp only [Nat.one_mul, Nat.add_zero] at d0 d1 d2
      refine ⟨b1, o1, c1, go, c, b2, o2, c4, bi, ci, br, orr, cr, he, ⟨⟨q1, q2⟩, ⟨g0, ?_⟩, ⟨d0, d1, d2⟩, hb1, hb2, hbg.lt, hbi.lt, hbr⟩, lv⟩
      simpa [Rw.cell, Hd.val] using g1
end Go.Proofs.YtpakimhhpeaefaaGreatDoor

/- The law's small and moved: contracts. Conditions: none. | The law's sample and row: contracts. Conditions: none. | The law's head: contract. Conditions: strconv's three variables hold what its initialisers lay. -/
import Derived.Test.YtfifnemnihcijaaGreatDoorKRc
import Derived.Outline
set_option linter.unusedSimpArgs false
set_option linter.unusedVariables false
namespace Go.Proofs.YtfifnemnihcijaaGreatDoor
open Go.RowKit

def smallL (s : List Tb) (c : Cg) (n : Nat) : Bool := smallS s && (decide (c.name.size ≤ 100) && (decide (c.dflt.s.size ≤ 300) && decide (n ≤ 20)))
set_option maxHeartbeats 2000000 in
theorem small_ok (h : Hd) (ts : List RT) (c : Cg) (A0 : Option Addr) (rm rc : Nat) (w : World) (a : TabsAt w h ts) (hn : okS c.name) (hd : okS c.dflt.s) (hr : rm ≤ 9223372036854775807) :
    Calls Tryz.prog 6 #[.agg #[h.val], c.val, .slice A0 rm rc] w fun e w' => e = .returned (.bool (smallL (ts.map RT.tb) c rm)) ∧ Same w w' := by
  have HS := Lib.hid (fun W (s : Same w W) => smallS_ok h ts W (a.same s))
  obtain ⟨A, m, cc⟩ := h
  obtain ⟨k, t, aa, n, to_, ⟨dk, dn, ds⟩⟩ := c
  have hn' : n.size ≤ 9223372036854775807 := hn
  have hd' : ds.size ≤ 9223372036854775807 := hd
  have HE : Hid (smallL (ts.map RT.tb) ⟨k, t, aa, n, to_, ⟨dk, dn, ds⟩⟩ rm = (smallS (ts.map RT.tb) && (decide (n.size ≤ 100) && (decide (ds.size ≤ 300) && decide (rm ≤ 20))))) := rfl
  generalize smallL (ts.map RT.tb) ⟨k, t, aa, n, to_, ⟨dk, dn, ds⟩⟩ rm = q at HE ⊢
  generalize smallS (ts.map RT.tb) = b at HS HE
  have HS' : Hid (∀ W, Same w W → Calls Tryz.prog 36 #[.agg #[.slice A m cc]] W fun e w' => e = .returned (.bool b) ∧ Same W w') := HS
  clear HS a hn hd
  show Calls Tryz.prog 6 #[.agg #[.slice A m cc], .agg #[.int .i64 k, .string t, .string aa, .string n, .int .i64 to_, .int .i64 dk, .int .i64 dn, .string ds], .slice A0 rm rc] w _
  go_enter Tryz.func6, Tryz.ntmps6
  go_wp2_with (fail)
  refine (HS'.out _ ?_).mono ?_
  · exact ((Same.refl w).alloc _).alloc _
  rintro e w1 ⟨rfl, s1⟩
  have S1 := Lib.hid ((((Same.refl w).alloc _).alloc _).trans s1)
  have y1 : w.heap.size + 1 < w1.heap.size := by have := s1.size; simp at this; omega
  have x3 : w1.cell? ⟨w.heap.size + 1, 3, none⟩ = some (.string n) := (s1.cells _ _ (by simp)).trans (by simp)
  have x7 : w1.cell? ⟨w.heap.size + 1, 7, none⟩ = some (.string ds) := (s1.cells _ _ (by simp)).trans (by simp)
  clear s1
  cases b with
  | false =>
    go_wp2_with (fail)
    go_ret
    exact ⟨ret_bool (by rw [HE.out]; rfl), S1.out⟩
  | true =>
    by_cases h1 : n.size ≤ 100
    case neg =>
      have t1 : decide (n.size ≤ 100) = false := decide_eq_false h1
      have HQ : Hid (q = false) := by show q = false; rw [HE.out, t1]; rfl
      go_wp2_with (fail)
      go_ret
      exact ⟨ret_bool HQ.out.symm, S1.out⟩
    have t1 : decide (n.size ≤ 100) = true := decide_eq_true h1
    by_cases h2 : ds.size ≤ 300
    case neg =>
      have t2 : decide (ds.size ≤ 300) = false := decide_eq_false h2
      have HQ : Hid (q = false) := by show q = false; rw [HE.out, t1, t2]; rfl
      go_wp2_with (fail)
      go_ret
      exact ⟨ret_bool HQ.out.symm, S1.out⟩
    have t2 : decide (ds.size ≤ 300) = true := decide_eq_true h2
    have HQ : Hid (q = decide (rm ≤ 20)) := by show q = _; rw [HE.out, t1, t2]; rfl
    go_wp2_with (fail)
    go_ret
    exact ⟨ret_bool (by rw [HQ.out]; exact decide_eq_decide.2 (by omega)), S1.out⟩

end Go.Proofs.YtfifnemnihcijaaGreatDoor
namespace Go.Proofs.YtfifnemnihcijaaGreatDoor
open Go.RowKit

theorem lies_of_blk {α : Type} {enc : α → List Value} {m : Nat} (hm : ∀ x, (enc x).length = m) {w : World} {b c : Nat} {t : TypeId} {cs : Array Value} {xs : List α} (hb : Blk w b t cs) (e : cs = (xs.flatMap enc).toArray) (hl : xs.length ≤ 9223372036854775807) : Lies w m ⟨some ⟨b, 0, none⟩, xs.length, c⟩ enc xs := by
  subst e
  refine ⟨rfl, hl, fun k hk => ⟨b, 0, rfl, hb.lt, fun j v hv => ?_⟩⟩
  have hj : j < m := by rw [← hm xs[k]]; exact (List.getElem?_eq_some_iff.1 hv).1
  rw [hb.cell, List.getElem?_toArray, Nat.zero_add, flat_get hm xs k hk j hj]
  exact hv
def sName : ByteArray := ⟨#[110, 97, 109, 101]⟩
def sAge : ByteArray := ⟨#[97, 103, 101]⟩
def sYears : ByteArray := ⟨#[121, 101, 97, 114, 115]⟩
def sT : ByteArray := ⟨#[116]⟩
def sampleT (z : Nat) : RT := ⟨sT, ⟨some ⟨z + 1 + 1, 0, none⟩, 2, 2⟩, [⟨⟨sName, 1, [], ⟨0, 0, ⟨#[]⟩⟩⟩, ⟨none, 0, 0⟩⟩, ⟨⟨sAge, 2, [sYears], ⟨0, 0, ⟨#[]⟩⟩⟩, ⟨some ⟨z + 1, 0, none⟩, 1, 1⟩⟩], ⟨some ⟨z + 1 + 1 + 1, 0, none⟩, 1, 1⟩, [0]⟩
def sampleTb : Tb := ⟨sT, [⟨sName, 1, [], ⟨0, 0, ⟨#[]⟩⟩⟩, ⟨sAge, 2, [sYears], ⟨0, 0, ⟨#[]⟩⟩⟩], [0]⟩
theorem sampleT_tb (z : Nat) : (sampleT z).tb = sampleTb := rfl
def rowL : List V := [⟨1, 0, ⟨#[97, 110, 110]⟩⟩, ⟨2, 7, ⟨#[]⟩⟩]
theorem okS_of {s : ByteArray} (h : s.size ≤ 100) : okS s := by unfold okS; omega

set_option maxHeartbeats 2000000 in
theorem row_ok (w : World) : Calls Tryz.prog 35 #[] w fun e w' => ∃ h : Hd, e = .returned h.val ∧ RowAt w' h rowL ∧ Same w w' := by
  go_enter Tryz.func35, Tryz.ntmps35
  go_wp2_with (fail)
  go_ret
  refine ⟨⟨_, _, _⟩, rfl, ⟨lies_of_blk (xs := rowL) V.clen (Blk.new w _ _) rfl (by decide), ?_⟩, (Same.refl w).alloc _⟩
  intro v hv
  simp only [rowL, List.mem_cons, List.not_mem_nil, or_false] at hv
  rcases hv with rfl | rfl <;> exact okS_of (by decide)

set_option maxHeartbeats 2000000 in
theorem sample_ok (w : World) : Calls Tryz.prog 34 #[] w fun e w' => ∃ (h : Hd) (t : RT), e = .returned (.agg #[h.val]) ∧ TabsAt w' h [t] ∧ t.tb = sampleTb ∧ Same w w' := by
  go_enter Tryz.func34, Tryz.ntmps34
  go_wp2_with (fail)
  obtain ⟨w0, hw0⟩ : ∃ w0, w0 = w.alloc (.cells #[.slice (some ⟨w.heap.size + 1 + 1 + 1 + 1, 0, none⟩) 1 1] 24) := ⟨_, rfl⟩
  rw [← hw0]
  have n0 : w0.heap.size = w.heap.size + 1 := by rw [hw0]; simp
  obtain ⟨w1, hw1⟩ : ∃ w1, w1 = w0.alloc (.cells #[.string sYears] 9) := ⟨_, rfl⟩
  obtain ⟨w2, hw2⟩ : ∃ w2, w2 = w1.alloc (.cells #[.string sName, .int .i64 1, .slice none 0 0, .int .i64 0, .int .i64 0, .string ⟨#[]⟩, .string sAge, .int .i64 2, .slice (some ⟨w.heap.size + 1, 0, none⟩) 1 1, .int .i64 0, .int .i64 0, .string ⟨#[]⟩] 82) := ⟨_, rfl⟩
  obtain ⟨w3, hw3⟩ : ∃ w3, w3 = w2.alloc (.cells #[.int .i64 0] 3) := ⟨_, rfl⟩
  obtain ⟨w4, hw4⟩ : ∃ w4, w4 = w3.alloc (.cells #[.string sT, .slice (some ⟨w.heap.size + 1 + 1, 0, none⟩) 2 2, .slice (some ⟨w.heap.size + 1 + 1 + 1, 0, none⟩) 1 1] 44) := ⟨_, rfl⟩
  have n1 : w1.heap.size = w.heap.size + 1 + 1 := by rw [hw1]; simp [n0]
  have n2 : w2.heap.size = w.heap.size + 1 + 1 + 1 := by rw [hw2]; simp [n1]
  have n3 : w3.heap.size = w.heap.size + 1 + 1 + 1 + 1 := by rw [hw3]; simp [n2]
  have b0 : Blk w0 w.heap.size 24 #[.slice (some ⟨w.heap.size + 1 + 1 + 1 + 1, 0, none⟩) 1 1] := by rw [hw0]; exact Blk.new w _ _
  have b1 : Blk w1 (w.heap.size + 1) 9 #[.string sYears] := by rw [hw1, ← n0]; exact Blk.new w0 _ _
  have b2 : Blk w2 (w.heap.size + 1 + 1) 82 #[.string sName, .int .i64 1, .slice none 0 0, .int .i64 0, .int .i64 0, .string ⟨#[]⟩, .string sAge, .int .i64 2, .slice (some ⟨w.heap.size + 1, 0, none⟩) 1 1, .int .i64 0, .int .i64 0, .string ⟨#[]⟩] := by rw [hw2, ← n1]; exact Blk.new w1 _ _
  have b3 : Blk w3 (w.heap.size + 1 + 1 + 1) 3 #[.int .i64 0] := by rw [hw3, ← n2]; exact Blk.new w2 _ _
  have b4 : Blk w4 (w.heap.size + 1 + 1 + 1 + 1) 44 #[.string sT, .slice (some ⟨w.heap.size + 1 + 1, 0, none⟩) 2 2, .slice (some ⟨w.heap.size + 1 + 1 + 1, 0, none⟩) 1 1] := by rw [hw4, ← n3]; exact Blk.new w3 _ _
  have s01 : Same w0 w1 := by rw [hw1]; exact (Same.refl w0).alloc _
  have s12 : Same w1 w2 := by rw [hw2]; exact (Same.refl w1).alloc _
  have s23 : Same w2 w3 := by rw [hw3]; exact (Same.refl w2).alloc _
  have s34 : Same w3 w4 := by rw [hw4]; exact (Same.refl w3).alloc _
  have c0 := (((b0.alloc (.cells #[.string sYears] 9)))).cell 0
  have hw : w4 = (((w0.alloc (.cells #[.string sYears] 9)).alloc (.cells #[.string sName, .int .i64 1, .slice none 0 0, .int .i64 0, .int .i64 0, .string ⟨#[]⟩, .string sAge, .int .i64 2, .slice (some ⟨w.heap.size + 1, 0, none⟩) 1 1, .int .i64 0, .int .i64 0, .string ⟨#[]⟩] 82)).alloc (.cells #[.int .i64 0] 3)).alloc (.cells #[.string sT, .slice (some ⟨w.heap.size + 1 + 1, 0, none⟩) 2 2, .slice (some ⟨w.heap.size + 1 + 1 + 1, 0, none⟩) 1 1] 44) := by rw [hw4, hw3, hw2, hw1]
  have hc0 : w4.cell? ⟨w.heap.size, 0, none⟩ = some (.slice (some ⟨w.heap.size + 1 + 1 + 1 + 1, 0, none⟩) 1 1) := ((((s01.trans s12).trans s23).trans s34).cells _ _ (by omega)).trans (b0.cell 0)
  have T : TbAt w4 (sampleT w.heap.size) := by
    refine ⟨⟨(lies_of_blk (xs := (sampleT w.heap.size).ra) RA.clen b2 rfl (show (2 : Nat) ≤ 9223372036854775807 by decide)).same (s23.trans s34), ?_⟩, (lies_of_blk (enc := intCell) (m := 1) (xs := [(0 : Int)]) (fun _ => rfl) b3 rfl (by decide)).same s34, okS_of (show sT.size ≤ 100 by decide)⟩
    intro r hr
    simp only [sampleT, List.mem_cons, List.not_mem_nil, or_false] at hr
    rcases hr with rfl | rfl
    · exact ⟨strs_none _, okS_of (by decide), okS_of (by decide)⟩
    · refine ⟨⟨(lies_of_blk (enc := strCell) (m := 1) (xs := [sYears]) (fun _ => rfl) b1 rfl (by decide)).same ((s12.trans s23).trans s34), ?_⟩, okS_of (show sAge.size ≤ 100 by decide), okS_of (show (⟨#[]⟩ : ByteArray).size ≤ 100 by decide)⟩
      intro s hs
      rw [List.mem_singleton.1 hs]
      exact okS_of (by decide)
  have L : TabsAt w4 ⟨some ⟨w.heap.size + 1 + 1 + 1 + 1, 0, none⟩, 1, 1⟩ [sampleT w.heap.size] := by
    refine ⟨lies_of_blk (xs := [sampleT w.heap.size]) RT.clen b4 rfl (show (1 : Nat) ≤ 9223372036854775807 by decide), ?_⟩
    intro t ht
    rw [List.mem_singleton.1 ht]
    exact T
  refine bodyPost_ret (v := .agg #[.slice (some ⟨w.heap.size + 1 + 1 + 1 + 1, 0, none⟩) 1 1]) ?_ rfl ⟨⟨some ⟨w.heap.size + 1 + 1 + 1 + 1, 0, none⟩, 1, 1⟩, sampleT w.heap.size, rfl, ?_, rfl, ?_⟩
  · rw [hw] at hc0
    simp only [sName, sAge, sYears, sT] at hc0
    simp [results, Tryz.results34, go_sem, hc0]
  · rw [hw] at L; exact L
  · have s : Same w w4 := by
      have s0 : Same w w0 := by rw [hw0]; exact (Same.refl w).alloc _
      exact (((s0.trans s01).trans s12).trans s23).trans s34
    rw [hw] at s; exact s

end Go.Proofs.YtfifnemnihcijaaGreatDoor
namespace Go.Proofs.YtfifnemnihcijaaGreatDoor
open Go.RowKit

/-- One table that reads as T in slice A n c: its cells. -/
structure OneTab (w : World) (A : Option Addr) (n c : Nat) (T : Tb) : Prop where
  ex : ∃ t : RT, TabsAt w ⟨A, n, c⟩ [t] ∧ t.tb = T
theorem OneTab.same {w w' : World} {A : Option Addr} {n c : Nat} {T : Tb} (h : OneTab w A n c T) (s : Same w w') : OneTab w' A n c T := by
  obtain ⟨t, h1, h2⟩ := h.ex
  exact ⟨t, h1.same s, h2⟩
theorem OneTab.n1 {w : World} {A : Option Addr} {n c : Nat} {T : Tb} (h : OneTab w A n c T) : n = 1 := by
  obtain ⟨t, h1, _⟩ := h.ex
  exact h1.1.1.symm
theorem OneTab.cells {w : World} {A : Option Addr} {n c : Nat} {T : Tb} (h : OneTab w A n c T) : ∃ b off A1 c1 A2 c2, A = some ⟨b, off, none⟩ ∧ b < w.heap.size ∧ w.cell? ⟨b, off, none⟩ = some (.string T.name) ∧ w.cell? ⟨b, off + 1, none⟩ = some (.slice A1 T.attrs.length c1) ∧ w.cell? ⟨b, off + 2, none⟩ = some (.slice A2 T.key.length c2) ∧
    (∀ W, Same w W → ∀ hr row, RowAt W hr row → Calls Tryz.prog 17 #[.agg #[.string T.name, .slice A1 T.attrs.length c1, .slice A2 T.key.length c2], hr.val] W fun e w' => e = .returned (.bool (fitsB T row)) ∧ Same W w') ∧
    (∀ W, Same w W → ∀ nm, Calls Tryz.prog 19 #[.agg #[.string T.name, .slice A1 T.attrs.length c1, .slice A2 T.key.length c2], .string nm] W fun e w' => e = .returned (.int .i64 (colA T.attrs nm)) ∧ Same W w') := by
  obtain ⟨t, h1, rfl⟩ := h.ex
  obtain ⟨b, off, hA, hb, hc⟩ := h1.1.2.2 0 (Nat.zero_lt_one)
  have hT := h1.2 t (by simp)
  have e1 : t.tb.attrs.length = t.ha.n := by rw [← hT.1.1.1]; simp [RT.tb]
  have e2 : t.tb.key.length = t.hk.n := hT.2.1.1
  have c0 := hc 0 (.string t.name) rfl
  have c1 := hc 1 t.ha.val rfl
  have c2 := hc 2 t.hk.val rfl
  simp only [Nat.zero_mul, Nat.add_zero] at c0 c1 c2
  rw [e1, e2]
  exact ⟨b, off, t.ha.a, t.ha.c, t.hk.a, t.hk.c, hA, hb, c0, c1, c2, fun W s hr row r => fits_ok t hr row W (hT.same s) r, fun W s nm => column_ok t nm W (hT.same s)⟩
theorem one_map {ts : List RT} {T : Tb} (h : ts.map RT.tb = [T]) : ∃ t, ts = [t] ∧ t.tb = T := by
  match ts, h with
  | [t], h => exact ⟨t, rfl, by simpa using h⟩
def fewTb (T : Tb) : Prop := ∀ a ∈ T.attrs, a.was.length ≤ 1000000
theorem few_one {t : RT} (h : fewTb t.tb) : Few [t] := by
  intro u hu r hr
  rw [List.mem_singleton.1 hu] at hr
  exact h r.at_ (List.mem_map_of_mem hr)
theorem OneTab.apply_yes {w : World} {A : Option Addr} {n c : Nat} {T T' : Tb} (h : OneTab w A n c T) (f : fewTb T) (cg : Cg) (hn : okS cg.name) (hd : okS cg.dflt.s) (hE : errOf [T] cg = 0) (hT : applyS [T] cg = [T']) :
    Calls Tryz.prog 7 #[.agg #[.slice A n c], cg.val] w fun e w' => ∃ A' c', e = .returned (.tuple #[.agg #[.slice A' 1 c'], .int .i64 0]) ∧ OneTab w' A' 1 c' T' ∧ Same w w' := by
  obtain ⟨t, h1, rfl⟩ := h.ex
  refine (apply_ok ⟨A, n, c⟩ [t] cg w h1 (few_one f) hn hd).mono ?_
  rintro e w' ⟨ho, s⟩
  rcases ho with ⟨h0, _⟩ | ⟨_, h', ts', he, hT', hm⟩
  · exact absurd hE h0
  · have hm' : ts'.map RT.tb = [T'] := hm.trans hT
    obtain ⟨t', rfl, ht'⟩ := one_map hm'
    obtain ⟨A', n', c'⟩ := h'
    obtain rfl : n' = 1 := hT'.1.1.symm
    exact ⟨A', c', he, ⟨t', hT', ht'⟩, s⟩
theorem OneTab.apply_no {w : World} {A : Option Addr} {n c : Nat} {T : Tb} (h : OneTab w A n c T) (f : fewTb T) (cg : Cg) (hn : okS cg.name) (hd : okS cg.dflt.s) (E : Int) (hE : errOf [T] cg = E) (h0 : E ≠ 0) :
    Calls Tryz.prog 7 #[.agg #[.slice A n c], cg.val] w fun e w' => e = .returned (.tuple #[.agg #[.slice none 0 0], .int .i64 E]) ∧ Same w w' := by
  obtain ⟨t, h1, rfl⟩ := h.ex
  refine (apply_bad ⟨A, n, c⟩ [t] cg w h1 (few_one f) hn (by show errOf [t.tb] cg ≠ 0; rw [hE]; exact h0)).mono ?_
  rintro e w' ⟨he, s⟩
  have : errOf ([t].map RT.tb) cg = E := hE
  rw [this] at he
  exact ⟨he, s⟩
theorem OneTab.convert {w : World} {A : Option Addr} {n c : Nat} {T : Tb} (h : OneTab w A n c T) (f : fewTb T) (l : Laid w) (cg : Cg) (hn : okS cg.name) (hd : okS cg.dflt.s) (RA_ : Option Addr) (rm rc : Nat) (row : List V) (r : RowAt w ⟨RA_, rm, rc⟩ row) (hrl : row.length ≤ 1000) (p : List V × Int) (hp : convS [T] cg 0 row = p) :
    Calls Tryz.prog 9 #[.agg #[.slice A n c], cg.val, .int .i64 0, .slice RA_ rm rc] w fun e w' => ∃ A' c', e = .returned (.tuple #[.slice A' p.1.length c', .int .i64 p.2]) ∧ RowAt w' ⟨A', p.1.length, c'⟩ p.1 ∧ Same w w' := by
  obtain ⟨t, h1, rfl⟩ := h.ex
  refine (convert_ok ⟨A, n, c⟩ [t] cg 0 ⟨RA_, rm, rc⟩ row w l h1 (few_one f) hn hd r (by omega) (by simp)).mono ?_
  rintro e w' ⟨⟨h', he, hr, _⟩, s⟩
  have : convS ([t].map RT.tb) cg 0 row = p := hp
  rw [this] at he hr
  obtain ⟨A', n', c'⟩ := h'
  obtain rfl : p.1.length = n' := hr.1.1
  exact ⟨A', c', he, hr, s⟩
theorem OneTab.valid {w : World} {A : Option Addr} {n c : Nat} {T : Tb} (h : OneTab w A n c T) (f : fewTb T) : Calls Tryz.prog 13 #[.agg #[.slice A n c]] w fun e w' => e = .returned (.bool (validB [T])) ∧ Same w w' := by
  obtain ⟨t, h1, rfl⟩ := h.ex
  exact valid_s_ok ⟨A, n, c⟩ [t] w h1 (few_one f)

def cgA : Cg := ⟨1, sT, ⟨#[]⟩, ⟨#[98, 111, 114, 110]⟩, 3, ⟨0, 0, ⟨#[]⟩⟩⟩
def cgB : Cg := ⟨4, sT, sAge, ⟨#[]⟩, 1, ⟨0, 0, ⟨#[]⟩⟩⟩
def cgG : Cg := ⟨2, sT, sName, ⟨#[]⟩, 0, ⟨0, 0, ⟨#[]⟩⟩⟩
def cgH : Cg := ⟨3, sT, sAge, sYears, 0, ⟨0, 0, ⟨#[]⟩⟩⟩
def cgI : Cg := ⟨4, sT, sName, ⟨#[]⟩, 2, ⟨0, 0, ⟨#[]⟩⟩⟩
def cgD : Cg := ⟨2, sT, sYears, ⟨#[]⟩, 0, ⟨0, 0, ⟨#[]⟩⟩⟩
def tbA : Tb := newT sampleTb cgA
def tbD : Tb := newT sampleTb cgD
theorem few_sample : fewTb sampleTb := by
  intro a ha
  simp only [sampleTb, List.mem_cons, List.not_mem_nil, or_false] at ha
  rcases ha with rfl | rfl <;> decide
theorem factA : errOf [sampleTb] cgA = 0 ∧ applyS [sampleTb] cgA = [tbA] ∧ tbA.attrs.length = 3 := by decide +kernel
theorem factB : convS [sampleTb] cgB 0 rowL = ([⟨1, 0, ⟨#[97, 110, 110]⟩⟩, ⟨1, 0, ⟨#[55]⟩⟩], 0) := by decide +kernel
theorem factG : errOf [sampleTb] cgG = 1 := by decide +kernel
theorem factH : errOf [sampleTb] cgH = 9 := by decide +kernel
theorem factI : convS [sampleTb] cgI 0 rowL = ([], 15) := by decide +kernel
theorem factD : errOf [sampleTb] cgD = 0 ∧ applyS [sampleTb] cgD = [tbD] ∧ tbD.attrs.length = 1 := by decide +kernel
theorem factV : validB [sampleTb] = true ∧ fitsB sampleTb rowL = true ∧ colA sampleTb.attrs sYears = 1 := by decide +kernel
end Go.Proofs.YtfifnemnihcijaaGreatDoor

/- The laws' arguments, opened: a schema, a change, a row. Conditions: none. | Apply and Convert in the forms that the laws use. Conditions: as theirs. -/
import Derived.Test.YtfifnemnihcijaaGreatDoorKRg
import Derived.Deep.Slices
import Derived.Deep.Fields
import Derived.ChangeSame
import Derived.ProofKit
import Derived.OpenShut
import Derived.ChangeOld
import Derived.Lib.SmallJoins
set_option linter.unusedSimpArgs false
set_option linter.unusedVariables false
namespace Go.Proofs.YtfifnemnihcijaaGreatDoor
open Go.ChangeShapes Go.WideShapes Go.Deep Go.RowKit
set_option maxRecDepth 100000

theorem list_of {α : Type} {P : Nat → α → Prop} : ∀ n : Nat, (∀ i, i < n → ∃ a, P i a) → ∃ l : List α, l.length = n ∧ ∀ i (hi : i < l.length), P i l[i]
  | 0, _ => ⟨[], rfl, fun i hi => by simp at hi⟩
  | n + 1, h => by
    obtain ⟨l, hl, hp⟩ := list_of n (fun i hi => h i (by omega))
    obtain ⟨a, ha⟩ := h n (by omega)
    refine ⟨l ++ [a], by simp [hl], fun i hi => ?_⟩
    by_cases hin : i < l.length
    · rw [List.getElem_append_left hin]; exact hp i hin
    · have : i = n := by simp at hi; omega
      subst this
      rw [List.getElem_append_right (by omega)]
      simpa [hl] using ha
theorem wf_i64 {n : Int} (h : (Lit.int .i64 n).wf = true) : -9223372036854775808 ≤ n ∧ n ≤ 9223372036854775807 := by
  simp [Lit.wf, IntKind.min, IntKind.max, IntKind.bits, IntKind.signed] at h
  omega
theorem wf_u8 {n : Int} (h : (Lit.int .u8 n).wf = true) : 0 ≤ n ∧ n ≤ 255 := by
  simp [Lit.wf, IntKind.min, IntKind.max, IntKind.bits, IntKind.signed] at h
  omega

section
variable {H : Type} {ec : TypeId × Value → H} {w : World} {base : Nat} {spare : Nat → Bool} {held : Bool} {fuel : Nat}
/-- A slice that came in, whose things are read one by one. -/
theorem open_lies {α : Type} {enc : α → List Value} {Q : α → Prop} {t e : TypeId} {m : Nat} (ht : Tryz.prog.underlying t = some (.slice e)) (hC : Tryz.prog.cellsOf e = m) (hm : 0 < m) (hlen : ∀ y : α, (enc y).length = m)
    (one : ∀ fuel cs x, DataW.trod ec Tryz.prog w base spare held fuel e cs = some x → ∃ y : α, cs = enc y ∧ Q y)
    {cs : List Value} {x : DataW H × List MemPlace} (h : DataW.trod ec Tryz.prog w base spare held fuel t cs = some x) :
    ∃ (h : Hd) (l : List α), cs = [h.val] ∧ Lies w m h enc l ∧ (∀ y ∈ l, Q y) ∧ h.n ≤ maxLen ∧ (h.a = none → h.n = 0) := by
  rcases open_slice ht h with ⟨hcs, _⟩ | ⟨a, len, cap, m', n, D, Pl, hcs, hb, hl, hcm, hm', _, hi⟩
  · exact ⟨⟨none, 0, 0⟩, [], hcs, ⟨rfl, by decide, fun k hk => by simp at hk⟩, fun y hy => by simp at hy, by decide, fun _ => rfl⟩
  · have hle : len ≤ m' := by rw [hm']; split <;> omega
    rw [hC] at hi
    have : ∀ i, i < len → ∃ y : α, (∀ j v, (enc y)[j]? = some v → w.cell? (a.add (i * m + j)) = some v) ∧ Q y := by
      intro i hil
      obtain ⟨cs', hc, ht'⟩ := hi i (by omega)
      obtain ⟨y, rfl, hq⟩ := one _ _ _ ht'
      obtain ⟨_, hcl, hat⟩ := World.cells?_some hc
      refine ⟨y, fun j v hv => ?_, hq⟩
      have hj : j < m := by rw [← hlen y]; exact (List.getElem?_eq_some_iff.1 hv).1
      have := hat j hj
      rw [add_of_add] at this
      rw [this, hv]
    obtain ⟨l, hll, hp⟩ := list_of len this
    refine ⟨⟨some a, len, cap⟩, l, hcs, ⟨hll, show len ≤ _ by unfold maxLen at hcm; omega, ?_⟩, ?_, show len ≤ _ by omega, fun h => by cases h⟩
    · intro k hk
      obtain ⟨b, off, spot⟩ := a
      have h0l : 0 < l.length := by omega
      have hpos : 0 < (enc l[0]).length := by rw [hlen]; exact hm
      have h0 := (hp 0 h0l).1 0 _ (List.getElem?_eq_getElem hpos)
      have hs : spot = none := by
        have e : (⟨b, off, spot⟩ : Addr).add (0 * m + 0) = ⟨b, off, spot⟩ := by simp [Addr.add]
        rw [e] at h0
        cases spot with
        | none => rfl
        | some s =>
          unfold World.cell? at h0
          split at h0
          · simp at h0
          · cases h0
      subst hs
      have hbl : b < w.heap.size := by
        have := World.block_lt_of_cell? _ _ h0
        rwa [block_of_add] at this
      refine ⟨b, off, rfl, hbl, fun j u hu => ?_⟩
      have := (hp k hk).1 j u hu
      have e : (⟨b, off, none⟩ : Addr).add (k * m + j) = ⟨b, off + k * m + j, none⟩ := by
        unfold Addr.add
        split <;> simp_all [Nat.add_assoc]
      rw [e] at this
      exact this
    · intro y hy
      obtain ⟨i, hi', rfl⟩ := List.mem_iff_getElem.1 hy
      exact (hp i hi').2

theorem cells_int : Tryz.prog.cellsOf 3 = 1 := by kernel_rfl
theorem cells_string : Tryz.prog.cellsOf 9 = 1 := by kernel_rfl
theorem cells_strs : Tryz.prog.cellsOf 80 = 1 := by kernel_rfl
theorem cells_ints : Tryz.prog.cellsOf 42 = 1 := by kernel_rfl
theorem cells_Value : Tryz.prog.cellsOf 26 = 3 := by kernel_rfl
theorem cells_Attr : Tryz.prog.cellsOf 82 = 6 := by kernel_rfl
theorem cells_attrs : Tryz.prog.cellsOf 41 = 1 := by kernel_rfl
theorem cells_Table : Tryz.prog.cellsOf 44 = 3 := by kernel_rfl
theorem cells_tables : Tryz.prog.cellsOf 22 = 1 := by kernel_rfl
theorem cells_Schema : Tryz.prog.cellsOf 24 = 1 := by kernel_rfl
theorem cells_Change : Tryz.prog.cellsOf 28 = 8 := by kernel_rfl

theorem okS_len {s : ByteArray} (h : s.size ≤ maxLen) : okS s := by unfold okS; unfold maxLen at h; omega
def In64 (n : Int) : Prop := -9223372036854775808 ≤ n ∧ n ≤ 9223372036854775807
theorem read_str {cs : List Value} {x : DataW H × List MemPlace} (h : DataW.trod ec Tryz.prog w base spare held fuel 9 cs = some x) : ∃ s : ByteArray, cs = strCell s ∧ okS s := by
  obtain ⟨s, e, _, hw⟩ := DataW.trod_string Tryz.underlying9 h
  exact ⟨s, e, okS_len (by simpa [maxLen] using hw)⟩
theorem read_int {cs : List Value} {x : DataW H × List MemPlace} (h : DataW.trod ec Tryz.prog w base spare held fuel 3 cs = some x) : ∃ n : Int, cs = intCell n ∧ In64 n := by
  obtain ⟨n, e, _, hw⟩ := DataW.trod_int Tryz.underlying3 h
  exact ⟨n, e, wf_i64 hw⟩
theorem read_strs {cs : List Value} {x : DataW H × List MemPlace} (h : DataW.trod ec Tryz.prog w base spare held fuel 80 cs = some x) : ∃ (h : Hd) (l : List ByteArray), cs = [h.val] ∧ StrsAt w h l := by
  obtain ⟨h, l, e, L, hq, _⟩ := open_lies (enc := strCell) (Q := okS) Tryz.underlying80 cells_string (by decide) (fun _ => rfl) (fun _ _ _ h => read_str h) h
  exact ⟨h, l, e, L, hq⟩
theorem read_ints {cs : List Value} {x : DataW H × List MemPlace} (h : DataW.trod ec Tryz.prog w base spare held fuel 42 cs = some x) : ∃ (h : Hd) (l : List Int), cs = [h.val] ∧ IntsAt w h l := by
  obtain ⟨h, l, e, L, hq, _⟩ := open_lies (enc := intCell) (Q := In64) Tryz.underlying42 cells_int (by decide) (fun _ => rfl) (fun _ _ _ h => read_int h) h
  exact ⟨h, l, e, L⟩
theorem read_V {cs : List Value} {x : DataW H × List MemPlace} (h : DataW.trod ec Tryz.prog w base spare held fuel 26 cs = some x) : ∃ v : V, cs = v.cells ∧ okS v.s ∧ In64 v.k ∧ In64 v.n := by
  obtain ⟨ys, n, _, _, hl, hlen, hg⟩ := DataW.trod_struct Tryz.underlying26 h
  rw [cells_Value] at hl
  have y : ∀ j, j < 3 → ∃ z, ys[j]? = some z := fun j hj => ⟨_, List.getElem?_eq_getElem (by rw [hlen]; exact hj)⟩
  obtain ⟨y0, e0⟩ := y 0 (by omega); obtain ⟨y1, e1⟩ := y 1 (by omega); obtain ⟨y2, e2⟩ := y 2 (by omega)
  have t0 : DataW.trod ec Tryz.prog w base spare held n 3 ((cs.drop 0).take (Tryz.prog.cellsOf 3)) = ys[0]? := hg 0 _ rfl
  have t1 : DataW.trod ec Tryz.prog w base spare held n 3 ((cs.drop 1).take (Tryz.prog.cellsOf 3)) = ys[1]? := hg 1 _ rfl
  have t2 : DataW.trod ec Tryz.prog w base spare held n 9 ((cs.drop 2).take (Tryz.prog.cellsOf 9)) = ys[2]? := hg 2 _ rfl
  rw [cells_int] at t0 t1
  rw [cells_string] at t2
  obtain ⟨n0, h0, r0⟩ := read_int (t0.trans e0)
  obtain ⟨n1, h1, r1⟩ := read_int (t1.trans e1)
  obtain ⟨s2, h2, r2⟩ := read_str (t2.trans e2)
  match cs, hl with
  | [c0, c1, c2], _ =>
    simp [intCell, strCell] at h0 h1 h2
    exact ⟨⟨n0, n1, s2⟩, by simp [V.cells, h0, h1, h2], r2, r0, r1⟩
theorem read_row {cs : List Value} {x : DataW H × List MemPlace} (h : DataW.trod ec Tryz.prog w base spare held fuel 29 cs = some x) : ∃ (h : Hd) (l : List V), cs = [h.val] ∧ RowAt w h l := by
  obtain ⟨h, l, e, L, hq, _⟩ := open_lies (enc := V.cells) (Q := fun v => okS v.s ∧ In64 v.k ∧ In64 v.n) Tryz.underlying29 cells_Value (by decide) (fun _ => rfl) (fun _ _ _ h => read_V h) h
  exact ⟨h, l, e, L, fun v hv => (hq v hv).1⟩
theorem read_RA {cs : List Value} {x : DataW H × List MemPlace} (h : DataW.trod ec Tryz.prog w base spare held fuel 82 cs = some x) : ∃ r : RA, cs = r.cells ∧ StrsAt w r.h r.at_.was ∧ okS r.at_.name ∧ okS r.at_.dflt.s := by
  obtain ⟨ys, n, _, _, hl, hlen, hg⟩ := DataW.trod_struct Tryz.underlying82 h
  rw [cells_Attr] at hl
  have y : ∀ j, j < 4 → ∃ z, ys[j]? = some z := fun j hj => ⟨_, List.getElem?_eq_getElem (by rw [hlen]; exact hj)⟩
  obtain ⟨y0, e0⟩ := y 0 (by omega); obtain ⟨y1, e1⟩ := y 1 (by omega); obtain ⟨y2, e2⟩ := y 2 (by omega); obtain ⟨y3, e3⟩ := y 3 (by omega)
  have t0 : DataW.trod ec Tryz.prog w base spare held n 9 ((cs.drop 0).take (Tryz.prog.cellsOf 9)) = ys[0]? := hg 0 _ rfl
  have t1 : DataW.trod ec Tryz.prog w base spare held n 3 ((cs.drop 1).take (Tryz.prog.cellsOf 3)) = ys[1]? := hg 1 _ rfl
  have t2 : DataW.trod ec Tryz.prog w base spare held n 80 ((cs.drop 2).take (Tryz.prog.cellsOf 80)) = ys[2]? := hg 2 _ rfl
  have t3 : DataW.trod ec Tryz.prog w base spare held n 26 ((cs.drop 3).take (Tryz.prog.cellsOf 26)) = ys[3]? := hg 3 _ rfl
  rw [cells_string] at t0
  rw [cells_int] at t1
  rw [cells_strs] at t2
  rw [cells_Value] at t3
  obtain ⟨s0, h0, r0⟩ := read_str (t0.trans e0)
  obtain ⟨n1, h1, r1⟩ := read_int (t1.trans e1)
  obtain ⟨g2, l2, h2, r2⟩ := read_strs (t2.trans e2)
  obtain ⟨v3, h3, r3, -⟩ := read_V (t3.trans e3)
  match cs, hl with
  | [c0, c1, c2, c3, c4, c5], _ =>
    simp [intCell, strCell, V.cells] at h0 h1 h2 h3
    exact ⟨⟨⟨s0, n1, l2, v3⟩, g2⟩, by simp [RA.cells, h0, h1, h2, h3], r2, r0, r3⟩
theorem read_attrs {cs : List Value} {x : DataW H × List MemPlace} (h : DataW.trod ec Tryz.prog w base spare held fuel 41 cs = some x) : ∃ (h : Hd) (l : List RA), cs = [h.val] ∧ AttrsAt w h l := by
  obtain ⟨h, l, e, L, hq, _⟩ := open_lies (enc := RA.cells) (Q := fun r => StrsAt w r.h r.at_.was ∧ okS r.at_.name ∧ okS r.at_.dflt.s) Tryz.underlying41 cells_Attr (by decide) (fun _ => rfl) (fun _ _ _ h => read_RA h) h
  exact ⟨h, l, e, L, hq⟩
theorem read_RT {cs : List Value} {x : DataW H × List MemPlace} (h : DataW.trod ec Tryz.prog w base spare held fuel 44 cs = some x) : ∃ t : RT, cs = t.cells ∧ TbAt w t := by
  obtain ⟨ys, n, _, _, hl, hlen, hg⟩ := DataW.trod_struct Tryz.underlying44 h
  rw [cells_Table] at hl
  have y : ∀ j, j < 3 → ∃ z, ys[j]? = some z := fun j hj => ⟨_, List.getElem?_eq_getElem (by rw [hlen]; exact hj)⟩
  obtain ⟨y0, e0⟩ := y 0 (by omega); obtain ⟨y1, e1⟩ := y 1 (by omega); obtain ⟨y2, e2⟩ := y 2 (by omega)
  have t0 : DataW.trod ec Tryz.prog w base spare held n 9 ((cs.drop 0).take (Tryz.prog.cellsOf 9)) = ys[0]? := hg 0 _ rfl
  have t1 : DataW.trod ec Tryz.prog w base spare held n 41 ((cs.drop 1).take (Tryz.prog.cellsOf 41)) = ys[1]? := hg 1 _ rfl
  have t2 : DataW.trod ec Tryz.prog w base spare held n 42 ((cs.drop 2).take (Tryz.prog.cellsOf 42)) = ys[2]? := hg 2 _ rfl
  rw [cells_string] at t0
  rw [cells_attrs] at t1
  rw [cells_ints] at t2
  obtain ⟨s0, h0, r0⟩ := read_str (t0.trans e0)
  obtain ⟨g1, l1, h1, r1⟩ := read_attrs (t1.trans e1)
  obtain ⟨g2, l2, h2, r2⟩ := read_ints (t2.trans e2)
  match cs, hl with
  | [c0, c1, c2], _ =>
    simp [strCell] at h0 h1 h2
    exact ⟨⟨s0, g1, l1, g2, l2⟩, by simp [RT.cells, h0, h1, h2], r1, r2, r0⟩
theorem read_tables {cs : List Value} {x : DataW H × List MemPlace} (h : DataW.trod ec Tryz.prog w base spare held fuel 22 cs = some x) : ∃ (h : Hd) (l : List RT), cs = [h.val] ∧ TabsAt w h l := by
  obtain ⟨h, l, e, L, hq, _⟩ := open_lies (enc := RT.cells) (Q := TbAt w) Tryz.underlying22 cells_Table (by decide) (fun _ => rfl) (fun _ _ _ h => read_RT h) h
  exact ⟨h, l, e, L, hq⟩
end

section
variable {H : Type} {ec : TypeId × Value → H} {w : World} {base : Nat} {spare : Nat → Bool} {held : Bool} {r : Reach} {b0 : Nat} {v : Value} {d : DataW H} {ps : List MemPlace}
theorem open_schema (hv : Value.okWide Tryz.prog w r b0 24 v) (h : DataW.Trod ec Tryz.prog w base spare held 24 v d ps) :
    ∃ (h : Hd) (ts : List RT), v = .agg #[h.val] ∧ TabsAt w h ts := by
  obtain ⟨cs, rfl, hsz⟩ := okWide_struct Tryz.underlying24 hv
  rw [cells_Schema] at hsz
  obtain ⟨fuel, hf⟩ := h
  obtain ⟨ys, n, _, _, hl, hlen, hg⟩ := DataW.trod_struct Tryz.underlying24 hf
  obtain ⟨y0, e0⟩ : ∃ z, ys[0]? = some z := ⟨_, List.getElem?_eq_getElem (by rw [hlen]; decide)⟩
  have t0 : DataW.trod ec Tryz.prog w base spare held n 22 (((Value.agg cs).cells.toList.drop 0).take (Tryz.prog.cellsOf 22)) = ys[0]? := hg 0 _ rfl
  rw [cells_tables] at t0
  obtain ⟨g, l, h0, r0⟩ := read_tables (t0.trans e0)
  obtain ⟨l'⟩ := cs
  match l', hsz with
  | [c0], _ =>
    simp [Value.cells] at h0
    exact ⟨g, l, by rw [h0], r0⟩
theorem open_change (hv : Value.okWide Tryz.prog w r b0 28 v) (h : DataW.Trod ec Tryz.prog w base spare held 28 v d ps) :
    ∃ c : Cg, v = c.val ∧ okS c.table ∧ okS c.attr ∧ okS c.name ∧ okS c.dflt.s ∧ In64 c.kind ∧ In64 c.to_ := by
  obtain ⟨cs, rfl, hsz⟩ := okWide_struct Tryz.underlying28 hv
  rw [cells_Change] at hsz
  obtain ⟨fuel, hf⟩ := h
  obtain ⟨ys, n, _, _, hl, hlen, hg⟩ := DataW.trod_struct Tryz.underlying28 hf
  have y : ∀ j, j < 6 → ∃ z, ys[j]? = some z := fun j hj => ⟨_, List.getElem?_eq_getElem (by rw [hlen]; exact hj)⟩
  obtain ⟨y0, e0⟩ := y 0 (by omega); obtain ⟨y1, e1⟩ := y 1 (by omega); obtain ⟨y2, e2⟩ := y 2 (by omega)
  obtain ⟨y3, e3⟩ := y 3 (by omega); obtain ⟨y4, e4⟩ := y 4 (by omega); obtain ⟨y5, e5⟩ := y 5 (by omega)
  have t0 : DataW.trod ec Tryz.prog w base spare held n 3 (((Value.agg cs).cells.toList.drop 0).take (Tryz.prog.cellsOf 3)) = ys[0]? := hg 0 _ rfl
  have t1 : DataW.trod ec Tryz.prog w base spare held n 9 (((Value.agg cs).cells.toList.drop 1).take (Tryz.prog.cellsOf 9)) = ys[1]? := hg 1 _ rfl
  have t2 : DataW.trod ec Tryz.prog w base spare held n 9 (((Value.agg cs).cells.toList.drop 2).take (Tryz.prog.cellsOf 9)) = ys[2]? := hg 2 _ rfl
  have t3 : DataW.trod ec Tryz.prog w base spare held n 9 (((Value.agg cs).cells.toList.drop 3).take (Tryz.prog.cellsOf 9)) = ys[3]? := hg 3 _ rfl
  have t4 : DataW.trod ec Tryz.prog w base spare held n 3 (((Value.agg cs).cells.toList.drop 4).take (Tryz.prog.cellsOf 3)) = ys[4]? := hg 4 _ rfl
  have t5 : DataW.trod ec Tryz.prog w base spare held n 26 (((Value.agg cs).cells.toList.drop 5).take (Tryz.prog.cellsOf 26)) = ys[5]? := hg 5 _ rfl
  rw [cells_int] at t0 t4
  rw [cells_string] at t1 t2 t3
  rw [cells_Value] at t5
  obtain ⟨n0, h0, r0⟩ := read_int (t0.trans e0)
  obtain ⟨s1, h1, r1⟩ := read_str (t1.trans e1)
  obtain ⟨s2, h2, r2⟩ := read_str (t2.trans e2)
  obtain ⟨s3, h3, r3⟩ := read_str (t3.trans e3)
  obtain ⟨n4, h4, r4⟩ := read_int (t4.trans e4)
  obtain ⟨v5, h5, r5, -⟩ := read_V (t5.trans e5)
  obtain ⟨l'⟩ := cs
  match l', hsz with
  | [c0, c1, c2, c3, c4, c5, c6, c7], _ =>
    simp [intCell, strCell, V.cells, Value.cells] at h0 h1 h2 h3 h4 h5
    refine ⟨⟨n0, s1, s2, s3, n4, v5⟩, ?_, r1, r2, r3, r5, r0, r4⟩
    obtain ⟨h5a, h5b, h5c⟩ := h5
    subst h0 h1 h2 h3 h4 h5a h5b h5c
    rfl
theorem open_row (hv : Value.okWide Tryz.prog w r b0 29 v) (h : DataW.Trod ec Tryz.prog w base spare held 29 v d ps) :
    ∃ (h : Hd) (l : List V), v = h.val ∧ RowAt w h l := by
  obtain ⟨A, len, cap, rfl⟩ := okWide_slice Tryz.underlying29 hv
  obtain ⟨fuel, hf⟩ := h
  obtain ⟨g, l, e, R⟩ := read_row hf
  simp [Value.cells] at e
  exact ⟨g, l, e, R⟩
end
end Go.Proofs.YtfifnemnihcijaaGreatDoor
namespace Go.Proofs.YtfifnemnihcijaaGreatDoor
open Go.RowKit

def WasLe (S : List Tb) (n : Nat) : Prop := ∀ t ∈ S, ∀ a ∈ t.attrs, a.was.length ≤ n
theorem wasLe_small {S : List Tb} (h : smallS S = true) : WasLe S 10 := by
  simp only [smallS, Bool.and_eq_true, List.all_eq_true] at h
  intro t ht a ha
  have h2 := h.2 _ ht
  simp only [smallT, Bool.and_eq_true, List.all_eq_true] at h2
  have h3 := h2.2 _ ha
  simp only [smallA, Bool.and_eq_true, decide_eq_true_eq] at h3
  exact h3.1
theorem WasLe.apply {S : List Tb} {c : Cg} {n : Nat} (w : WasLe S n) (h : errOf S c = 0) : WasLe (applyS S c) (n + 1) := by
  obtain ⟨hf, hv, j, hj, hfj, hnm, hc, hch⟩ := errOf_zero h
  intro t ht a ha
  obtain ⟨i, hi, rfl⟩ := List.mem_iff_getElem.1 ht
  have hi' : i < S.length := by rw [applyS_len] at hi; exact hi
  rw [applyS_get hj hfj i hi'] at ha
  by_cases e : j = i
  · rw [if_pos e] at ha
    subst e
    have wj := w _ (List.getElem_mem hi')
    have hc' : c.kind ≠ 1 → 0 ≤ colA S[j].attrs c.attr := fun hk => by have := hc hk; omega
    rcases new_attrs hf hc' with ⟨_, hA⟩ | ⟨A, x, B, hA, _, hh⟩
    · rw [hA] at ha
      simp only [List.mem_append, List.mem_singleton] at ha
      rcases ha with ha | rfl
      · have := wj a ha; omega
      · simp
    · rw [hA] at wj
      have wx := wj x (by simp)
      have wA := fun y (hy : y ∈ A) => wj y (by simp [hy])
      have wB := fun y (hy : y ∈ B) => wj y (by simp [hy])
      rcases hh with ⟨_, hA2⟩ | ⟨_, hA2⟩ | ⟨_, hA2⟩
      · rw [hA2] at ha
        simp only [List.mem_append] at ha
        rcases ha with ha | ha
        · have := wA a ha; omega
        · have := wB a ha; omega
      · rw [hA2] at ha
        simp only [List.mem_append, List.mem_cons] at ha
        rcases ha with ha | rfl | ha
        · have := wA a ha; omega
        · simp; omega
        · have := wB a ha; omega
      · rw [hA2] at ha
        simp only [List.mem_append, List.mem_cons] at ha
        rcases ha with ha | rfl | ha
        · have := wA a ha; omega
        · simp; omega
        · have := wB a ha; omega
  · rw [if_neg e] at ha
    have := w _ (List.getElem_mem hi') a ha
    omega
theorem few_of_was {ts : List RT} {S : List Tb} {n : Nat} (e : ts.map RT.tb = S) (w : WasLe S n) (hn : n ≤ 1000000) : Few ts := by
  intro t ht r hr
  have := w t.tb (by rw [← e]; exact List.mem_map_of_mem ht) r.at_ (List.mem_map_of_mem hr)
  omega
theorem small_parts {s : List Tb} {c : Cg} {n : Nat} (h : smallL s c n = true) : smallS s = true ∧ c.name.size ≤ 100 ∧ c.dflt.s.size ≤ 300 ∧ n ≤ 20 := by
  simp only [smallL, Bool.and_eq_true, decide_eq_true_eq] at h
  exact ⟨h.1, h.2.1, h.2.2.1, h.2.2.2⟩

section
variable {h : Hd} {ts : List RT} {c : Cg} {w : World}
theorem apply_zero (a : TabsAt w h ts) (few : Few ts) (hn : okS c.name) (hd : okS c.dflt.s) (hE : errOf (ts.map RT.tb) c = 0) :
    Calls Tryz.prog 7 #[.agg #[h.val], c.val] w fun e w' => ∃ (A1 : Option Addr) (m1 c1 : Nat) (ts1 : List RT), e = .returned (.tuple #[.agg #[.slice A1 m1 c1], .int .i64 0]) ∧ TabsAt w' ⟨A1, m1, c1⟩ ts1 ∧ ts1.map RT.tb = applyS (ts.map RT.tb) c ∧ Same w w' := by
  refine (apply_ok h ts c w a few hn hd).mono ?_
  rintro e w' ⟨ho, s⟩
  rcases ho with ⟨hne, _⟩ | ⟨_, ⟨A1, m1, c1⟩, ts1, he, ta, hm⟩
  · exact absurd hE hne
  · exact ⟨A1, m1, c1, ts1, he, ta, hm, s⟩
theorem apply_non (a : TabsAt w h ts) (few : Few ts) (hn : okS c.name) (hd : okS c.dflt.s) (hE : errOf (ts.map RT.tb) c ≠ 0) :
    Calls Tryz.prog 7 #[.agg #[h.val], c.val] w fun e w' => e = .returned (.tuple #[.agg #[.slice none 0 0], .int .i64 (errOf (ts.map RT.tb) c)]) ∧ Same w w' := by
  refine (apply_ok h ts c w a few hn hd).mono ?_
  rintro e w' ⟨ho, s⟩
  rcases ho with ⟨_, he⟩ | ⟨hz, _⟩
  · exact ⟨he, s⟩
  · exact absurd hz hE
theorem convert' (tb : Int) {hr : Hd} {row : List V} (l : Laid w) (a : TabsAt w h ts) (few : Few ts) (hn : okS c.name) (hd : okS c.dflt.s) (r : RowAt w hr row) (hrl : row.length ≤ 1000000) (hm : ts.length ≤ 1000000) :
    Calls Tryz.prog 9 #[.agg #[h.val], c.val, .int .i64 tb, hr.val] w fun e w' => ∃ (A1 : Option Addr) (m1 c1 : Nat), e = .returned (.tuple #[.slice A1 m1 c1, .int .i64 (convS (ts.map RT.tb) c tb row).2]) ∧ RowAt w' ⟨A1, m1, c1⟩ (convS (ts.map RT.tb) c tb row).1 ∧ Same w w' := by
  refine (convert_ok h ts c tb hr row w l a few hn hd r hrl hm).mono ?_
  rintro e w' ⟨⟨⟨A1, m1, c1⟩, he, hr', _⟩, s⟩
  exact ⟨A1, m1, c1, he, hr', s⟩
end
section
variable {A : Option Addr} {m cc : Nat} {ts : List RT} {k to_ dk dn : Int} {t aa n ds : ByteArray} {w : World}
theorem apply_zeroE (a : TabsAt w ⟨A, m, cc⟩ ts) (few : Few ts) (hn : okS n) (hd : okS ds) (hE : errOf (ts.map RT.tb) ⟨k, t, aa, n, to_, ⟨dk, dn, ds⟩⟩ = 0) :
    Calls Tryz.prog 7 #[.agg #[.slice A m cc], .agg #[.int .i64 k, .string t, .string aa, .string n, .int .i64 to_, .int .i64 dk, .int .i64 dn, .string ds]] w fun e w' => ∃ (A1 : Option Addr) (m1 c1 : Nat) (ts1 : List RT), e = .returned (.tuple #[.agg #[.slice A1 m1 c1], .int .i64 0]) ∧ TabsAt w' ⟨A1, m1, c1⟩ ts1 ∧ ts1.map RT.tb = applyS (ts.map RT.tb) ⟨k, t, aa, n, to_, ⟨dk, dn, ds⟩⟩ ∧ Same w w' :=
  apply_zero (h := ⟨A, m, cc⟩) (c := ⟨k, t, aa, n, to_, ⟨dk, dn, ds⟩⟩) a few hn hd hE
theorem apply_nonE (a : TabsAt w ⟨A, m, cc⟩ ts) (few : Few ts) (hn : okS n) (hd : okS ds) (hE : errOf (ts.map RT.tb) ⟨k, t, aa, n, to_, ⟨dk, dn, ds⟩⟩ ≠ 0) :
    Calls Tryz.prog 7 #[.agg #[.slice A m cc], .agg #[.int .i64 k, .string t, .string aa, .string n, .int .i64 to_, .int .i64 dk, .int .i64 dn, .string ds]] w fun e w' => e = .returned (.tuple #[.agg #[.slice none 0 0], .int .i64 (errOf (ts.map RT.tb) ⟨k, t, aa, n, to_, ⟨dk, dn, ds⟩⟩)]) ∧ Same w w' :=
  apply_non (h := ⟨A, m, cc⟩) (c := ⟨k, t, aa, n, to_, ⟨dk, dn, ds⟩⟩) a few hn hd hE
theorem convertE (tb : Int) {Ar : Option Addr} {rm rc : Nat} {row : List V} (l : Laid w) (a : TabsAt w ⟨A, m, cc⟩ ts) (few : Few ts) (hn : okS n) (hd : okS ds) (r : RowAt w ⟨Ar, rm, rc⟩ row) (hrl : row.length ≤ 1000000) (hm : ts.length ≤ 1000000) :
    Calls Tryz.prog 9 #[.agg #[.slice A m cc], .agg #[.int .i64 k, .string t, .string aa, .string n, .int .i64 to_, .int .i64 dk, .int .i64 dn, .string ds], .int .i64 tb, .slice Ar rm rc] w fun e w' => ∃ (A1 : Option Addr) (m1 c1 : Nat), e = .returned (.tuple #[.slice A1 m1 c1, .int .i64 (convS (ts.map RT.tb) ⟨k, t, aa, n, to_, ⟨dk, dn, ds⟩⟩ tb row).2]) ∧ RowAt w' ⟨A1, m1, c1⟩ (convS (ts.map RT.tb) ⟨k, t, aa, n, to_, ⟨dk, dn, ds⟩⟩ tb row).1 ∧ Same w w' :=
  convert' (h := ⟨A, m, cc⟩) (c := ⟨k, t, aa, n, to_, ⟨dk, dn, ds⟩⟩) (hr := ⟨Ar, rm, rc⟩) tb l a few hn hd r hrl hm
theorem smallE {Ar : Option Addr} {rm rc : Nat} (a : TabsAt w ⟨A, m, cc⟩ ts) (hn : okS n) (hd : okS ds) (hr : rm ≤ 9223372036854775807) :
    Calls Tryz.prog 6 #[.agg #[.slice A m cc], .agg #[.int .i64 k, .string t, .string aa, .string n, .int .i64 to_, .int .i64 dk, .int .i64 dn, .string ds], .slice Ar rm rc] w fun e w' => e = .returned (.bool (smallL (ts.map RT.tb) ⟨k, t, aa, n, to_, ⟨dk, dn, ds⟩⟩ rm)) ∧ Same w w' :=
  small_ok ⟨A, m, cc⟩ ts ⟨k, t, aa, n, to_, ⟨dk, dn, ds⟩⟩ Ar rm rc w a hn hd hr
theorem sameE {B : Option Addr} {p d : Nat} {us : List RT} (a : TabsAt w ⟨A, m, cc⟩ ts) (b : TabsAt w ⟨B, p, d⟩ us) (he : ts.map RT.tb = us.map RT.tb) :
    Calls Tryz.prog 11 #[.agg #[.slice A m cc], .agg #[.slice B p d]] w fun e w' => e = .returned (.bool true) ∧ Same w w' := by
  have := same_s_ok ⟨A, m, cc⟩ ⟨B, p, d⟩ ts us w a b
  rw [decide_eq_true he] at this
  exact this
theorem rowsE {B : Option Addr} {p d : Nat} {l1 l2 : List V} (a : RowAt w ⟨A, m, cc⟩ l1) (b : RowAt w ⟨B, p, d⟩ l2) (he : l1 = l2) :
    Calls Tryz.prog 12 #[.slice A m cc, .slice B p d] w fun e w' => e = .returned (.bool true) ∧ Same w w' := by
  subst he
  have := rows_ok ⟨A, m, cc⟩ ⟨B, p, d⟩ l1 l1 w a b
  rw [decide_eq_true rfl] at this
  exact this
theorem emod_nat (a b : Nat) : (a : Int) % (b : Int) = ((a % b : Nat) : Int) := by simp
end
theorem conv_len {S : List Tb} {c : Cg} (h : errOf S c = 0) {n : Nat} (hn : n < S.length) {row : List V} (hz : (convS S c n row).2 = 0) : (convS S c n row).1.length ≤ 12 := by
  have hf := (conv_ok h n hn row hz).2
  have hl := (fits_iff.1 hf).1
  have hv := valid_apply h
  have := ((valid_iff.1 hv).2 n (by rw [applyS_len]; exact hn)).1.l12
  omega
section
variable {S : List Tb} {to_ dk dn : Int} {t aa n ds : ByteArray}
theorem back_okE (h : errOf S ⟨1, t, aa, n, to_, ⟨dk, dn, ds⟩⟩ = 0) : errOf (applyS S ⟨1, t, aa, n, to_, ⟨dk, dn, ds⟩⟩) ⟨2, t, n, ⟨#[]⟩, 0, ⟨0, 0, ⟨#[]⟩⟩⟩ = 0 ∧ applyS (applyS S ⟨1, t, aa, n, to_, ⟨dk, dn, ds⟩⟩) ⟨2, t, n, ⟨#[]⟩, 0, ⟨0, 0, ⟨#[]⟩⟩⟩ = S := back_ok h rfl
theorem back_rowE (h : errOf S ⟨1, t, aa, n, to_, ⟨dk, dn, ds⟩⟩ = 0) (q : Nat) (hq : q < S.length) (row : List V) (hz : (convS S ⟨1, t, aa, n, to_, ⟨dk, dn, ds⟩⟩ q row).2 = 0) :
    convS (applyS S ⟨1, t, aa, n, to_, ⟨dk, dn, ds⟩⟩) ⟨2, t, n, ⟨#[]⟩, 0, ⟨0, 0, ⟨#[]⟩⟩⟩ q (convS S ⟨1, t, aa, n, to_, ⟨dk, dn, ds⟩⟩ q row).1 = (row, 0) := back_row h rfl q hq row hz
end
section
variable {A : Option Addr} {m cc : Nat} {ts : List RT} {k to_ dk dn : Int} {t aa n ds : ByteArray} {w : World}
theorem apply_genE (a : TabsAt w ⟨A, m, cc⟩ ts) (few : Few ts) (hn : okS n) (hd : okS ds) :
    Calls Tryz.prog 7 #[.agg #[.slice A m cc], .agg #[.int .i64 k, .string t, .string aa, .string n, .int .i64 to_, .int .i64 dk, .int .i64 dn, .string ds]] w fun e w' => ∃ (A1 : Option Addr) (m1 c1 : Nat), e = .returned (.tuple #[.agg #[.slice A1 m1 c1], .int .i64 (errOf (ts.map RT.tb) ⟨k, t, aa, n, to_, ⟨dk, dn, ds⟩⟩)]) ∧ Same w w' := by
  by_cases hE : errOf (ts.map RT.tb) ⟨k, t, aa, n, to_, ⟨dk, dn, ds⟩⟩ = 0
  · refine (apply_zeroE a few hn hd hE).mono ?_
    rintro e w' ⟨A1, m1, c1, ts1, rfl, _, _, s⟩
    exact ⟨A1, m1, c1, by rw [hE], s⟩
  · refine (apply_nonE a few hn hd hE).mono ?_
    rintro e w' ⟨rfl, s⟩
    exact ⟨none, 0, 0, rfl, s⟩
end
theorem changes_find {S : List Tb} {c : Cg} (h : errOf S c = 0) : ∃ jj : Nat, jj < S.length ∧ findT S c.table = jj ∧ ∀ (ts1 : List RT), ts1.map RT.tb = applyS S c → ∀ (q : Nat) (hq : q < S.length) (hq1 : q < ts1.length), q = jj → ¬ S[q] = ts1[q].tb := by
  obtain ⟨hf, hv, i, hi, hfi, hnm, hc, hch⟩ := errOf_zero h
  refine ⟨i, hi, hfi, fun ts1 hm q hq hq1 e => ?_⟩
  subst e
  have hc' : c.kind ≠ 1 → 0 ≤ colA S[q].attrs c.attr := fun hk => by have := hc hk; omega
  have hne := new_ne hf hc' hch
  have e2 : ts1[q].tb = newT S[q] c := by
    have h1 : (ts1.map RT.tb)[q]? = some ts1[q].tb := by simp [hq1]
    rw [hm, List.getElem?_eq_getElem (by rw [applyS_len]; exact hi), applyS_get hi hfi q hi, if_pos rfl] at h1
    exact (Option.some.inj h1).symm
  rw [e2]
  exact fun e => hne e.symm
theorem changes_at {ts ts1 : List RT} {c : Cg} (h : errOf (ts.map RT.tb) c = 0) (hm : ts1.map RT.tb = applyS (ts.map RT.tb) c) (k : Nat) (hk : k < ts.length) (hk1 : k < ts1.length) : ts1[k].name = ts[k].name ∧ (¬ ts1[k].name = c.table → ts1[k].tb = ts[k].tb) := by
  have hl : k < (ts.map RT.tb).length := by simpa using hk
  have e0 : (ts.map RT.tb)[k] = ts[k].tb := by simp
  have e1 : ts1[k].tb = if ts[k].tb.name = c.table then newT ts[k].tb c else ts[k].tb := by
    have h1 : (ts1.map RT.tb)[k]? = some ts1[k].tb := by simp [hk1]
    rw [hm, List.getElem?_eq_getElem (by rw [applyS_len]; exact hl), applyS_at h k hl, e0] at h1
    exact (Option.some.inj h1).symm
  have e2 : ts1[k].name = ts[k].name := by
    have : ts1[k].tb.name = ts[k].tb.name := by
      rw [e1]
      split <;> rfl
    exact this
  refine ⟨e2, fun hne => ?_⟩
  rw [e1, if_neg (by rw [show ts[k].tb.name = ts[k].name from rfl, ← e2]; exact hne)]
section
variable {A : Option Addr} {m cc : Nat} {ts : List RT} {w : World}
theorem validE (a : TabsAt w ⟨A, m, cc⟩ ts) (few : Few ts) (h : validB (ts.map RT.tb) = true) :
    Calls Tryz.prog 13 #[.agg #[.slice A m cc]] w fun e w' => e = .returned (.bool true) ∧ Same w w' := by
  have := valid_s_ok ⟨A, m, cc⟩ ts w a few
  rw [h] at this
  exact this
theorem findE {nm : ByteArray} (a : TabsAt w ⟨A, m, cc⟩ ts) :
    Calls Tryz.prog 15 #[.agg #[.slice A m cc], .string nm] w fun e w' => e = .returned (.int .i64 (findT (ts.map RT.tb) nm)) ∧ Same w w' := find_ok ⟨A, m, cc⟩ ts nm w a
end
end Go.Proofs.YtfifnemnihcijaaGreatDoor

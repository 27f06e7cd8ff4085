/- The laws' arguments, opened: a schema, a change, a row, tables of rows, operations. Conditions: none. -/
import Derived.Test.YtpakimhhpeaefaaGreatDoorKHb
import Derived.Deep.Slices
import Derived.Deep.Fields
import Derived.ChangeSame
import Derived.ProofKit
import Derived.OpenShut
import Derived.ChangeOld
import Derived.Lib.SmallJoins
set_option linter.unusedSimpArgs false
set_option linter.unusedVariables false
namespace Go.Proofs.YtpakimhhpeaefaaGreatDoor
open Go.ChangeShapes Go.WideShapes Go.Deep Go.RowKit
set_option maxRecDepth 100000

theorem list_of {α : Type} {P : Nat → α → Prop} : ∀ n : Nat, (∀ i, i < n → ∃ a, P i a) → ∃ l : List α, l.length = n ∧ ∀ i (hi : i < l.length), P i l[i]
  | 0, _ => ⟨[], rfl, fun i hi => by simp at hi⟩
  | n + 1, h => by
    obtain ⟨l, hl, hp⟩ := list_of n (fun i hi => h i (by omega))
    obtain ⟨a, ha⟩ := h n (by omega)
    refine ⟨l ++ [a], by simp [hl], fun i hi => ?_⟩
    by_cases hin : i < l.length
    · rw [List.getElem_append_left hin]; exact hp i hin
    · have : i = n := by simp at hi; omega
      subst this
      rw [List.getElem_append_right (by omega)]
      simpa [hl] using ha
theorem wf_i64 {n : Int} (h : (Lit.int .i64 n).wf = true) : -9223372036854775808 ≤ n ∧ n ≤ 9223372036854775807 := by
  simp [Lit.wf, IntKind.min, IntKind.max, IntKind.bits, IntKind.signed] at h
  omega
theorem wf_u8 {n : Int} (h : (Lit.int .u8 n).wf = true) : 0 ≤ n ∧ n ≤ 255 := by
  simp [Lit.wf, IntKind.min, IntKind.max, IntKind.bits, IntKind.signed] at h
  omega

section
variable {H : Type} {ec : TypeId × Value → H} {w : World} {base : Nat} {spare : Nat → Bool} {held : Bool} {fuel : Nat}
/-- A slice that came in, whose things are read one by one. -/
theorem open_lies {α : Type} {enc : α → List Value} {Q : α → Prop} {t e : TypeId} {m : Nat} (ht : Tryz.prog.underlying t = some (.slice e)) (hC : Tryz.prog.cellsOf e = m) (hm : 0 < m) (hlen : ∀ y : α, (enc y).length = m)
    (one : ∀ fuel cs x, DataW.trod ec Tryz.prog w base spare held fuel e cs = some x → ∃ y : α, cs = enc y ∧ Q y)
    {cs : List Value} {x : DataW H × List MemPlace} (h : DataW.trod ec Tryz.prog w base spare held fuel t cs = some x) :
    ∃ (h : Hd) (l : List α), cs = [h.val] ∧ Lies w m h enc l ∧ (∀ y ∈ l, Q y) ∧ h.n ≤ maxLen ∧ (h.a = none → h.n = 0) := by
  rcases open_slice ht h with ⟨hcs, _⟩ | ⟨a, len, cap, m', n, D, Pl, hcs, hb, hl, hcm, hm', _, hi⟩
  · exact ⟨⟨none, 0, 0⟩, [], hcs, ⟨rfl, by decide, fun k hk => by simp at hk⟩, fun y hy => by simp at hy, by decide, fun _ => rfl⟩
  · have hle : len ≤ m' := by rw [hm']; split <;> omega
    rw [hC] at hi
    have : ∀ i, i < len → ∃ y : α, (∀ j v, (enc y)[j]? = some v → w.cell? (a.add (i * m + j)) = some v) ∧ Q y := by
      intro i hil
      obtain ⟨cs', hc, ht'⟩ := hi i (by omega)
      obtain ⟨y, rfl, hq⟩ := one _ _ _ ht'
      obtain ⟨_, hcl, hat⟩ := World.cells?_some hc
      refine ⟨y, fun j v hv => ?_, hq⟩
      have hj : j < m := by rw [← hlen y]; exact (List.getElem?_eq_some_iff.1 hv).1
      have := hat j hj
      rw [add_of_add] at this
      rw [this, hv]
    obtain ⟨l, hll, hp⟩ := list_of len this
    refine ⟨⟨some a, len, cap⟩, l, hcs, ⟨hll, show len ≤ _ by unfold maxLen at hcm; omega, ?_⟩, ?_, show len ≤ _ by omega, fun h => by cases h⟩
    · intro k hk
      obtain ⟨b, off, spot⟩ := a
      have h0l : 0 < l.length := by omega
      have hpos : 0 < (enc l[0]).length := by rw [hlen]; exact hm
      have h0 := (hp 0 h0l).1 0 _ (List.getElem?_eq_getElem hpos)
      have hs : spot = none := by
        have e : (⟨b, off, spot⟩ : Addr).add (0 * m + 0) = ⟨b, off, spot⟩ := by simp [Addr.add]
        rw [e] at h0
        cases spot with
        | none => rfl
        | some s =>
          unfold World.cell? at h0
          split at h0
          · simp at h0
          · cases h0
      subst hs
      have hbl : b < w.heap.size := by
        have := World.block_lt_of_cell? _ _ h0
        rwa [block_of_add] at this
      refine ⟨b, off, rfl, hbl, fun j u hu => ?_⟩
      have := (hp k hk).1 j u hu
      have e : (⟨b, off, none⟩ : Addr).add (k * m + j) = ⟨b, off + k * m + j, none⟩ := by
        unfold Addr.add
        split <;> simp_all [Nat.add_assoc]
      rw [e] at this
      exact this
    · intro y hy
      obtain ⟨i, hi', rfl⟩ := List.mem_iff_getElem.1 hy
      exact (hp i hi').2

theorem cells_int : Tryz.prog.cellsOf 3 = 1 := by kernel_rfl
theorem cells_string : Tryz.prog.cellsOf 9 = 1 := by kernel_rfl
theorem cells_strs : Tryz.prog.cellsOf 75 = 1 := by kernel_rfl
theorem cells_ints : Tryz.prog.cellsOf 66 = 1 := by kernel_rfl
theorem cells_Value : Tryz.prog.cellsOf 26 = 3 := by kernel_rfl
theorem cells_Attr : Tryz.prog.cellsOf 77 = 6 := by kernel_rfl
theorem cells_attrs : Tryz.prog.cellsOf 65 = 1 := by kernel_rfl
theorem cells_Table : Tryz.prog.cellsOf 68 = 3 := by kernel_rfl
theorem cells_tables : Tryz.prog.cellsOf 22 = 1 := by kernel_rfl
theorem cells_Schema : Tryz.prog.cellsOf 24 = 1 := by kernel_rfl
theorem cells_Change : Tryz.prog.cellsOf 28 = 8 := by kernel_rfl

theorem okS_len {s : ByteArray} (h : s.size ≤ maxLen) : okS s := by unfold okS; unfold maxLen at h; omega
def In64 (n : Int) : Prop := -9223372036854775808 ≤ n ∧ n ≤ 9223372036854775807
theorem read_str {cs : List Value} {x : DataW H × List MemPlace} (h : DataW.trod ec Tryz.prog w base spare held fuel 9 cs = some x) : ∃ s : ByteArray, cs = strCell s ∧ okS s := by
  obtain ⟨s, e, _, hw⟩ := DataW.trod_string Tryz.underlying9 h
  exact ⟨s, e, okS_len (by simpa [maxLen] using hw)⟩
theorem read_int {cs : List Value} {x : DataW H × List MemPlace} (h : DataW.trod ec Tryz.prog w base spare held fuel 3 cs = some x) : ∃ n : Int, cs = intCell n ∧ In64 n := by
  obtain ⟨n, e, _, hw⟩ := DataW.trod_int Tryz.underlying3 h
  exact ⟨n, e, wf_i64 hw⟩
theorem read_strs {cs : List Value} {x : DataW H × List MemPlace} (h : DataW.trod ec Tryz.prog w base spare held fuel 75 cs = some x) : ∃ (h : Hd) (l : List ByteArray), cs = [h.val] ∧ StrsAt w h l := by
  obtain ⟨h, l, e, L, hq, _⟩ := open_lies (enc := strCell) (Q := okS) Tryz.underlying75 cells_string (by decide) (fun _ => rfl) (fun _ _ _ h => read_str h) h
  exact ⟨h, l, e, L, hq⟩
theorem read_ints {cs : List Value} {x : DataW H × List MemPlace} (h : DataW.trod ec Tryz.prog w base spare held fuel 66 cs = some x) : ∃ (h : Hd) (l : List Int), cs = [h.val] ∧ IntsAt w h l := by
  obtain ⟨h, l, e, L, hq, _⟩ := open_lies (enc := intCell) (Q := In64) Tryz.underlying66 cells_int (by decide) (fun _ => rfl) (fun _ _ _ h => read_int h) h
  exact ⟨h, l, e, L⟩
theorem read_V {cs : List Value} {x : DataW H × List MemPlace} (h : DataW.trod ec Tryz.prog w base spare held fuel 26 cs = some x) : ∃ v : V, cs = v.cells ∧ okS v.s ∧ In64 v.k ∧ In64 v.n := by
  obtain ⟨ys, n, _, _, hl, hlen, hg⟩ := DataW.trod_struct Tryz.underlying26 h
  rw [cells_Value] at hl
  have y : ∀ j, j < 3 → ∃ z, ys[j]? = some z := fun j hj => ⟨_, List.getElem?_eq_getElem (by rw [hlen]; exact hj)⟩
  obtain ⟨y0, e0⟩ := y 0 (by omega); obtain ⟨y1, e1⟩ := y 1 (by omega); obtain ⟨y2, e2⟩ := y 2 (by omega)
  have t0 : DataW.trod ec Tryz.prog w base spare held n 3 ((cs.drop 0).take (Tryz.prog.cellsOf 3)) = ys[0]? := hg 0 _ rfl
  have t1 : DataW.trod ec Tryz.prog w base spare held n 3 ((cs.drop 1).take (Tryz.prog.cellsOf 3)) = ys[1]? := hg 1 _ rfl
  have t2 : DataW.trod ec Tryz.prog w base spare held n 9 ((cs.drop 2).take (Tryz.prog.cellsOf 9)) = ys[2]? := hg 2 _ rfl
  rw [cells_int] at t0 t1
  rw [cells_string] at t2
  obtain ⟨n0, h0, r0⟩ := read_int (t0.trans e0)
  obtain ⟨n1, h1, r1⟩ := read_int (t1.trans e1)
  obtain ⟨s2, h2, r2⟩ := read_str (t2.trans e2)
  match cs, hl with
  | [c0, c1, c2], _ =>
    simp [intCell, strCell] at h0 h1 h2
    exact ⟨⟨n0, n1, s2⟩, by simp [V.cells, h0, h1, h2], r2, r0, r1⟩
theorem read_row {cs : List Value} {x : DataW H × List MemPlace} (h : DataW.trod ec Tryz.prog w base spare held fuel 40 cs = some x) : ∃ (h : Hd) (l : List V), cs = [h.val] ∧ RowAt w h l := by
  obtain ⟨h, l, e, L, hq, _⟩ := open_lies (enc := V.cells) (Q := fun v => okS v.s ∧ In64 v.k ∧ In64 v.n) Tryz.underlying40 cells_Value (by decide) (fun _ => rfl) (fun _ _ _ h => read_V h) h
  exact ⟨h, l, e, L, fun v hv => (hq v hv).1⟩
theorem read_RA {cs : List Value} {x : DataW H × List MemPlace} (h : DataW.trod ec Tryz.prog w base spare held fuel 77 cs = some x) : ∃ r : RA, cs = r.cells ∧ StrsAt w r.h r.at_.was ∧ okS r.at_.name ∧ okS r.at_.dflt.s := by
  obtain ⟨ys, n, _, _, hl, hlen, hg⟩ := DataW.trod_struct Tryz.underlying77 h
  rw [cells_Attr] at hl
  have y : ∀ j, j < 4 → ∃ z, ys[j]? = some z := fun j hj => ⟨_, List.getElem?_eq_getElem (by rw [hlen]; exact hj)⟩
  obtain ⟨y0, e0⟩ := y 0 (by omega); obtain ⟨y1, e1⟩ := y 1 (by omega); obtain ⟨y2, e2⟩ := y 2 (by omega); obtain ⟨y3, e3⟩ := y 3 (by omega)
  have t0 : DataW.trod ec Tryz.prog w base spare held n 9 ((cs.drop 0).take (Tryz.prog.cellsOf 9)) = ys[0]? := hg 0 _ rfl
  have t1 : DataW.trod ec Tryz.prog w base spare held n 3 ((cs.drop 1).take (Tryz.prog.cellsOf 3)) = ys[1]? := hg 1 _ rfl
  have t2 : DataW.trod ec Tryz.prog w base spare held n 75 ((cs.drop 2).take (Tryz.prog.cellsOf 75)) = ys[2]? := hg 2 _ rfl
  have t3 : DataW.trod ec Tryz.prog w base spare held n 26 ((cs.drop 3).take (Tryz.prog.cellsOf 26)) = ys[3]? := hg 3 _ rfl
  rw [cells_string] at t0
  rw [cells_int] at t1
  rw [cells_strs] at t2
  rw [cells_Value] at t3
  obtain ⟨s0, h0, r0⟩ := read_str (t0.trans e0)
  obtain ⟨n1, h1, r1⟩ := read_int (t1.trans e1)
  obtain ⟨g2, l2, h2, r2⟩ := read_strs (t2.trans e2)
  obtain ⟨v3, h3, r3, -⟩ := read_V (t3.trans e3)
  match cs, hl with
  | [c0, c1, c2, c3, c4, c5], _ =>
    simp [intCell, strCell, V.cells] at h0 h1 h2 h3
    exact ⟨⟨⟨s0, n1, l2, v3⟩, g2⟩, by simp [RA.cells, h0, h1, h2, h3], r2, r0, r3⟩
theorem read_attrs {cs : List Value} {x : DataW H × List MemPlace} (h : DataW.trod ec Tryz.prog w base spare held fuel 65 cs = some x) : ∃ (h : Hd) (l : List RA), cs = [h.val] ∧ AttrsAt w h l := by
  obtain ⟨h, l, e, L, hq, _⟩ := open_lies (enc := RA.cells) (Q := fun r => StrsAt w r.h r.at_.was ∧ okS r.at_.name ∧ okS r.at_.dflt.s) Tryz.underlying65 cells_Attr (by decide) (fun _ => rfl) (fun _ _ _ h => read_RA h) h
  exact ⟨h, l, e, L, hq⟩
theorem read_RT {cs : List Value} {x : DataW H × List MemPlace} (h : DataW.trod ec Tryz.prog w base spare held fuel 68 cs = some x) : ∃ t : RT, cs = t.cells ∧ TbAt w t := by
  obtain ⟨ys, n, _, _, hl, hlen, hg⟩ := DataW.trod_struct Tryz.underlying68 h
  rw [cells_Table] at hl
  have y : ∀ j, j < 3 → ∃ z, ys[j]? = some z := fun j hj => ⟨_, List.getElem?_eq_getElem (by rw [hlen]; exact hj)⟩
  obtain ⟨y0, e0⟩ := y 0 (by omega); obtain ⟨y1, e1⟩ := y 1 (by omega); obtain ⟨y2, e2⟩ := y 2 (by omega)
  have t0 : DataW.trod ec Tryz.prog w base spare held n 9 ((cs.drop 0).take (Tryz.prog.cellsOf 9)) = ys[0]? := hg 0 _ rfl
  have t1 : DataW.trod ec Tryz.prog w base spare held n 65 ((cs.drop 1).take (Tryz.prog.cellsOf 65)) = ys[1]? := hg 1 _ rfl
  have t2 : DataW.trod ec Tryz.prog w base spare held n 66 ((cs.drop 2).take (Tryz.prog.cellsOf 66)) = ys[2]? := hg 2 _ rfl
  rw [cells_string] at t0
  rw [cells_attrs] at t1
  rw [cells_ints] at t2
  obtain ⟨s0, h0, r0⟩ := read_str (t0.trans e0)
  obtain ⟨g1, l1, h1, r1⟩ := read_attrs (t1.trans e1)
  obtain ⟨g2, l2, h2, r2⟩ := read_ints (t2.trans e2)
  match cs, hl with
  | [c0, c1, c2], _ =>
    simp [strCell] at h0 h1 h2
    exact ⟨⟨s0, g1, l1, g2, l2⟩, by simp [RT.cells, h0, h1, h2], r1, r2, r0⟩
theorem read_tables {cs : List Value} {x : DataW H × List MemPlace} (h : DataW.trod ec Tryz.prog w base spare held fuel 22 cs = some x) : ∃ (h : Hd) (l : List RT), cs = [h.val] ∧ TabsAt w h l := by
  obtain ⟨h, l, e, L, hq, _⟩ := open_lies (enc := RT.cells) (Q := TbAt w) Tryz.underlying22 cells_Table (by decide) (fun _ => rfl) (fun _ _ _ h => read_RT h) h
  exact ⟨h, l, e, L, hq⟩
end

section
variable {H : Type} {ec : TypeId × Value → H} {w : World} {base : Nat} {spare : Nat → Bool} {held : Bool} {r : Reach} {b0 : Nat} {v : Value} {d : DataW H} {ps : List MemPlace}
theorem open_schema (hv : Value.okWide Tryz.prog w r b0 24 v) (h : DataW.Trod ec Tryz.prog w base spare held 24 v d ps) :
    ∃ (h : Hd) (ts : List RT), v = .agg #[h.val] ∧ TabsAt w h ts := by
  obtain ⟨cs, rfl, hsz⟩ := okWide_struct Tryz.underlying24 hv
  rw [cells_Schema] at hsz
  obtain ⟨fuel, hf⟩ := h
  obtain ⟨ys, n, _, _, hl, hlen, hg⟩ := DataW.trod_struct Tryz.underlying24 hf
  obtain ⟨y0, e0⟩ : ∃ z, ys[0]? = some z := ⟨_, List.getElem?_eq_getElem (by rw [hlen]; decide)⟩
  have t0 : DataW.trod ec Tryz.prog w base spare held n 22 (((Value.agg cs).cells.toList.drop 0).take (Tryz.prog.cellsOf 22)) = ys[0]? := hg 0 _ rfl
  rw [cells_tables] at t0
  obtain ⟨g, l, h0, r0⟩ := read_tables (t0.trans e0)
  obtain ⟨l'⟩ := cs
  match l', hsz with
  | [c0], _ =>
    simp [Value.cells] at h0
    exact ⟨g, l, by rw [h0], r0⟩
theorem open_change (hv : Value.okWide Tryz.prog w r b0 28 v) (h : DataW.Trod ec Tryz.prog w base spare held 28 v d ps) :
    ∃ c : Cg, v = c.val ∧ okS c.table ∧ okS c.attr ∧ okS c.name ∧ okS c.dflt.s ∧ In64 c.kind ∧ In64 c.to_ := by
  obtain ⟨cs, rfl, hsz⟩ := okWide_struct Tryz.underlying28 hv
  rw [cells_Change] at hsz
  obtain ⟨fuel, hf⟩ := h
  obtain ⟨ys, n, _, _, hl, hlen, hg⟩ := DataW.trod_struct Tryz.underlying28 hf
  have y : ∀ j, j < 6 → ∃ z, ys[j]? = some z := fun j hj => ⟨_, List.getElem?_eq_getElem (by rw [hlen]; exact hj)⟩
  obtain ⟨y0, e0⟩ := y 0 (by omega); obtain ⟨y1, e1⟩ := y 1 (by omega); obtain ⟨y2, e2⟩ := y 2 (by omega)
  obtain ⟨y3, e3⟩ := y 3 (by omega); obtain ⟨y4, e4⟩ := y 4 (by omega); obtain ⟨y5, e5⟩ := y 5 (by omega)
  have t0 : DataW.trod ec Tryz.prog w base spare held n 3 (((Value.agg cs).cells.toList.drop 0).take (Tryz.prog.cellsOf 3)) = ys[0]? := hg 0 _ rfl
  have t1 : DataW.trod ec Tryz.prog w base spare held n 9 (((Value.agg cs).cells.toList.drop 1).take (Tryz.prog.cellsOf 9)) = ys[1]? := hg 1 _ rfl
  have t2 : DataW.trod ec Tryz.prog w base spare held n 9 (((Value.agg cs).cells.toList.drop 2).take (Tryz.prog.cellsOf 9)) = ys[2]? := hg 2 _ rfl
  have t3 : DataW.trod ec Tryz.prog w base spare held n 9 (((Value.agg cs).cells.toList.drop 3).take (Tryz.prog.cellsOf 9)) = ys[3]? := hg 3 _ rfl
  have t4 : DataW.trod ec Tryz.prog w base spare held n 3 (((Value.agg cs).cells.toList.drop 4).take (Tryz.prog.cellsOf 3)) = ys[4]? := hg 4 _ rfl
  have t5 : DataW.trod ec Tryz.prog w base spare held n 26 (((Value.agg cs).cells.toList.drop 5).take (Tryz.prog.cellsOf 26)) = ys[5]? := hg 5 _ rfl
  rw [cells_int] at t0 t4
  rw [cells_string] at t1 t2 t3
  rw [cells_Value] at t5
  obtain ⟨n0, h0, r0⟩ := read_int (t0.trans e0)
  obtain ⟨s1, h1, r1⟩ := read_str (t1.trans e1)
  obtain ⟨s2, h2, r2⟩ := read_str (t2.trans e2)
  obtain ⟨s3, h3, r3⟩ := read_str (t3.trans e3)
  obtain ⟨n4, h4, r4⟩ := read_int (t4.trans e4)
  obtain ⟨v5, h5, r5, -⟩ := read_V (t5.trans e5)
  obtain ⟨l'⟩ := cs
  match l', hsz with
  | [c0, c1, c2, c3, c4, c5, c6, c7], _ =>
    simp [intCell, strCell, V.cells, Value.cells] at h0 h1 h2 h3 h4 h5
    refine ⟨⟨n0, s1, s2, s3, n4, v5⟩, ?_, r1, r2, r3, r5, r0, r4⟩
    obtain ⟨h5a, h5b, h5c⟩ := h5
    subst h0 h1 h2 h3 h4 h5a h5b h5c
    rfl
theorem open_row (hv : Value.okWide Tryz.prog w r b0 40 v) (h : DataW.Trod ec Tryz.prog w base spare held 40 v d ps) :
    ∃ (h : Hd) (l : List V), v = h.val ∧ RowAt w h l := by
  obtain ⟨A, len, cap, rfl⟩ := okWide_slice Tryz.underlying40 hv
  obtain ⟨fuel, hf⟩ := h
  obtain ⟨g, l, e, R⟩ := read_row hf
  simp [Value.cells] at e
  exact ⟨g, l, e, R⟩
end

theorem cells_rows : Tryz.prog.cellsOf 40 = 1 := by kernel_rfl
theorem cells_tbls : Tryz.prog.cellsOf 55 = 1 := by kernel_rfl
theorem cells_Op : Tryz.prog.cellsOf 42 = 3 := by kernel_rfl
theorem cells_u8 : Tryz.prog.cellsOf 5 = 1 := by kernel_rfl
section
variable {H : Type} {ec : TypeId × Value → H} {w : World} {base : Nat} {spare : Nat → Bool} {held : Bool} {fuel : Nat}
theorem read_Rw {cs : List Value} {x : DataW H × List MemPlace} (h : DataW.trod ec Tryz.prog w base spare held fuel 40 cs = some x) : ∃ r : Rw, cs = r.cell ∧ RowIn w (fun k => k < w.heap.size) r := by
  obtain ⟨h, l, e, r⟩ := read_row h
  exact ⟨⟨h, l⟩, e, r, r.in_⟩
theorem read_Tbl {cs : List Value} {x : DataW H × List MemPlace} (h : DataW.trod ec Tryz.prog w base spare held fuel 55 cs = some x) : ∃ t : Tbl, cs = t.cell ∧ RowsAt w (fun k => k < w.heap.size) t := by
  obtain ⟨h, l, e, L, hq, _⟩ := open_lies (enc := Rw.cell) (Q := RowIn w (fun k => k < w.heap.size)) Tryz.underlying55 cells_rows (by decide) (fun _ => rfl) (fun _ _ _ h => read_Rw h) h
  exact ⟨⟨h, l⟩, e, L, L.in_, hq⟩
theorem read_Tbls {cs : List Value} {x : DataW H × List MemPlace} (h : DataW.trod ec Tryz.prog w base spare held fuel 29 cs = some x) : ∃ (h : Hd) (ts : List Tbl), cs = [h.val] ∧ TablesAt w (fun k => k < w.heap.size) h ts := by
  obtain ⟨h, l, e, L, hq, _⟩ := open_lies (enc := Tbl.cell) (Q := RowsAt w (fun k => k < w.heap.size)) Tryz.underlying29 cells_tbls (by decide) (fun _ => rfl) (fun _ _ _ h => read_Tbl h) h
  exact ⟨h, l, e, L, L.in_, hq⟩
theorem read_u8 {cs : List Value} {x : DataW H × List MemPlace} (h : DataW.trod ec Tryz.prog w base spare held fuel 5 cs = some x) : ∃ n : Nat, cs = [.int .u8 n] ∧ n < 256 := by
  obtain ⟨n, e, _, hw⟩ := DataW.trod_int Tryz.underlying5 h
  have hb := wf_u8 hw
  exact ⟨n.toNat, by rw [e, Int.toNat_of_nonneg hb.1], by omega⟩
theorem read_Op {cs : List Value} {x : DataW H × List MemPlace} (h : DataW.trod ec Tryz.prog w base spare held fuel 42 cs = some x) : ∃ o : Opn, cs = o.cells ∧ RowIn w (fun k => k < w.heap.size) o.r ∧ o.Fine := by
  obtain ⟨ys, n, _, _, hl, hlen, hg⟩ := DataW.trod_struct Tryz.underlying42 h
  rw [cells_Op] at hl
  have y : ∀ j, j < 3 → ∃ z, ys[j]? = some z := fun j hj => ⟨_, List.getElem?_eq_getElem (by rw [hlen]; exact hj)⟩
  obtain ⟨y0, e0⟩ := y 0 (by omega); obtain ⟨y1, e1⟩ := y 1 (by omega); obtain ⟨y2, e2⟩ := y 2 (by omega)
  have t0 : DataW.trod ec Tryz.prog w base spare held n 5 ((cs.drop 0).take (Tryz.prog.cellsOf 5)) = ys[0]? := hg 0 _ rfl
  have t1 : DataW.trod ec Tryz.prog w base spare held n 3 ((cs.drop 1).take (Tryz.prog.cellsOf 3)) = ys[1]? := hg 1 _ rfl
  have t2 : DataW.trod ec Tryz.prog w base spare held n 40 ((cs.drop 2).take (Tryz.prog.cellsOf 40)) = ys[2]? := hg 2 _ rfl
  rw [cells_u8] at t0
  rw [cells_int] at t1
  rw [cells_rows] at t2
  obtain ⟨n0, h0, r0⟩ := read_u8 (t0.trans e0)
  obtain ⟨n1, h1, r1⟩ := read_int (t1.trans e1)
  obtain ⟨r2, h2, r2'⟩ := read_Rw (t2.trans e2)
  match cs, hl with
  | [c0, c1, c2], _ =>
    simp [intCell, Rw.cell] at h0 h1 h2
    exact ⟨⟨n0, n1, r2⟩, by simp [Opn.cells, h0, h1, h2], r2', r0, r1.1, r1.2⟩
theorem read_Ops {cs : List Value} {x : DataW H × List MemPlace} (h : DataW.trod ec Tryz.prog w base spare held fuel 30 cs = some x) : ∃ (h : Hd) (ops : List Opn), cs = [h.val] ∧ OpsAt w (fun k => k < w.heap.size) h ops := by
  obtain ⟨h, l, e, L, hq, _⟩ := open_lies (enc := Opn.cells) (Q := fun o => RowIn w (fun k => k < w.heap.size) o.r ∧ o.Fine) Tryz.underlying30 cells_Op (by decide) (fun _ => rfl) (fun _ _ _ h => read_Op h) h
  exact ⟨h, l, e, L, hq⟩
end
section
variable {H : Type} {ec : TypeId × Value → H} {w : World} {base : Nat} {spare : Nat → Bool} {held : Bool} {r : Reach} {b0 : Nat} {v : Value} {d : DataW H} {ps : List MemPlace}
theorem open_tbls (hv : Value.okWide Tryz.prog w r b0 29 v) (h : DataW.Trod ec Tryz.prog w base spare held 29 v d ps) :
    ∃ (h : Hd) (l : List Tbl), v = h.val ∧ TablesAt w (fun k => k < w.heap.size) h l := by
  obtain ⟨A, len, cap, rfl⟩ := okWide_slice Tryz.underlying29 hv
  obtain ⟨fuel, hf⟩ := h
  obtain ⟨g, l, e, R⟩ := read_Tbls hf
  simp [Value.cells] at e
  exact ⟨g, l, e, R⟩
theorem open_ops (hv : Value.okWide Tryz.prog w r b0 30 v) (h : DataW.Trod ec Tryz.prog w base spare held 30 v d ps) :
    ∃ (h : Hd) (l : List Opn), v = h.val ∧ OpsAt w (fun k => k < w.heap.size) h l := by
  obtain ⟨A, len, cap, rfl⟩ := okWide_slice Tryz.underlying30 hv
  obtain ⟨fuel, hf⟩ := h
  obtain ⟨g, l, e, R⟩ := read_Ops hf
  simp [Value.cells] at e
  exact ⟨g, l, e, R⟩
end
end Go.Proofs.YtpakimhhpeaefaaGreatDoor

/- What SchemaNames asks of the plain schemas; Column and moved in the form that the law uses. Conditions: as theirs. -/
import Derived.Test.YtalpbodjplnjcaaGreatDoorKOa
set_option linter.unusedSimpArgs false
set_option linter.unusedVariables false
namespace Go.Proofs.YtalpbodjplnjcaaGreatDoor
open Go.RowKit

structure NamesOk (t u : Tb) (c : Cg) : Prop where
  stay : ∀ (i : Nat) (hi : i < t.attrs.length), 0 ≤ movedI t c i → ∀ x, t.attrs[i].has x → colA u.attrs x = movedI t c i
  add : c.kind = 1 → colA u.attrs c.name = t.attrs.length
  ren : c.kind = 3 → colA u.attrs c.name = colA t.attrs c.attr
  key : u.key = t.key.map (movedI t c)
  low : ∀ q ∈ t.key, 0 ≤ q ∧ q ≤ 1000000000
  al : t.attrs.length ≤ 12
theorem names_facts {ts ts1 : List RT} {c : Cg} (h : errOf (ts.map RT.tb) c = 0) (hm : ts1.map RT.tb = applyS (ts.map RT.tb) c) :
    ∃ jj : Nat, jj < ts.length ∧ findT (ts.map RT.tb) c.table = jj ∧ ∀ (hj : jj < ts.length) (hj1 : jj < ts1.length), NamesOk ts[jj].tb ts1[jj].tb c := by
  obtain ⟨hf, hv, i, hi, hfi, hnm, hc, hch⟩ := errOf_zero h
  have hi' : i < ts.length := by simpa using hi
  refine ⟨i, hi', hfi, fun hj hj1 => ?_⟩
  have e0 : (ts.map RT.tb)[i] = ts[i].tb := by simp
  have hr : Right ts[i].tb := by
    have := ((valid_iff.1 hv).2 i hi).1
    rwa [e0] at this
  rw [e0] at hc hch
  have e1 : ts1[i].tb = newT ts[i].tb c := by
    have h1 : (ts1.map RT.tb)[i]? = some ts1[i].tb := by simp [hj1]
    rw [hm, List.getElem?_eq_getElem (by rw [applyS_len]; exact hi), applyS_get hi hfi i hi, if_pos rfl, e0] at h1
    exact (Option.some.inj h1).symm
  rw [e1]
  refine ⟨fun q hq h0 x hx => names_stay hr hf hc hch q hq h0 x hx, fun hk => name_added hr hf hc hch hk, fun hk => name_renamed hr hf hc hch hk, key_moved hc hch, ?_, hr.l12⟩
  intro q hq
  obtain ⟨j, hj', rfl⟩ := List.mem_iff_getElem.1 hq
  have := (keyAt_iff.1 (hr.key j hj')).1
  have h12 := hr.l12
  have e : ts[i].tb.key.getD j 0 = ts[i].tb.key[j] := by simp [List.getD, hj']
  rw [e] at this
  omega
section
variable {n1 : ByteArray} {A B : Option Addr} {m c1 p d : Nat} {ra : List RA} {key : List Int} {w : World}
theorem columnE {nm : ByteArray} (a : TbAt w ⟨n1, ⟨A, m, c1⟩, ra, ⟨B, p, d⟩, key⟩) :
    Calls Tryz.prog 23 #[.agg #[.string n1, .slice A m c1, .slice B p d], .string nm] w fun e w' => e = .returned (.int .i64 (colA (⟨n1, ⟨A, m, c1⟩, ra, ⟨B, p, d⟩, key⟩ : RT).tb.attrs nm)) ∧ Same w w' := column_ok ⟨n1, ⟨A, m, c1⟩, ra, ⟨B, p, d⟩, key⟩ nm w a
theorem movedE {k to_ dk dn : Int} {t aa n ds : ByteArray} {i : Int} (a : TbAt w ⟨n1, ⟨A, m, c1⟩, ra, ⟨B, p, d⟩, key⟩) (h0 : 0 ≤ i) (h1 : i ≤ 1000000000) :
    Calls Tryz.prog 26 #[.agg #[.string n1, .slice A m c1, .slice B p d], .agg #[.int .i64 k, .string t, .string aa, .string n, .int .i64 to_, .int .i64 dk, .int .i64 dn, .string ds], .int .i64 i] w fun e w' => e = .returned (.int .i64 (movedI (⟨n1, ⟨A, m, c1⟩, ra, ⟨B, p, d⟩, key⟩ : RT).tb ⟨k, t, aa, n, to_, ⟨dk, dn, ds⟩⟩ i)) ∧ Same w w' := moved_ok ⟨n1, ⟨A, m, c1⟩, ra, ⟨B, p, d⟩, key⟩ ⟨k, t, aa, n, to_, ⟨dk, dn, ds⟩⟩ i w a h0 h1
theorem fitsE {Ar : Option Addr} {rm rc : Nat} {row : List V} (a : TbAt w ⟨n1, ⟨A, m, c1⟩, ra, ⟨B, p, d⟩, key⟩) (r : RowAt w ⟨Ar, rm, rc⟩ row) :
    Calls Tryz.prog 21 #[.agg #[.string n1, .slice A m c1, .slice B p d], .slice Ar rm rc] w fun e w' => e = .returned (.bool (fitsB (⟨n1, ⟨A, m, c1⟩, ra, ⟨B, p, d⟩, key⟩ : RT).tb row)) ∧ Same w w' := fits_ok ⟨n1, ⟨A, m, c1⟩, ra, ⟨B, p, d⟩, key⟩ ⟨Ar, rm, rc⟩ row w a r
end
theorem two_box (w : World) (t : TypeId) (a0 a1 a2 b0 b1 b2 : Value) (W : World) (hW : W = ((w.alloc (.cells #[a0, a1, a2] t)).alloc (.cells #[b0, b1, b2] t)).drew) :
    Same w W ∧ (w.heap.size < W.heap.size ∧ w.heap.size + 1 < W.heap.size) ∧ (W.cell? ⟨w.heap.size, 0, none⟩ = some a0 ∧ W.cell? ⟨w.heap.size, 1, none⟩ = some a1 ∧ W.cell? ⟨w.heap.size, 2, none⟩ = some a2) ∧ (W.cell? ⟨w.heap.size + 1, 0, none⟩ = some b0 ∧ W.cell? ⟨w.heap.size + 1, 1, none⟩ = some b1 ∧ W.cell? ⟨w.heap.size + 1, 2, none⟩ = some b2) := by
  have s : Same w W := by rw [hW]; exact (((Same.refl w).alloc _).alloc _).drew
  have x1 : Blk W w.heap.size t #[a0, a1, a2] := by rw [hW]; exact ((Blk.new w _ _).alloc _).drew
  have x2 : Blk W (w.heap.size + 1) t #[b0, b1, b2] := by
    have e : w.heap.size + 1 = (w.alloc (.cells #[a0, a1, a2] t)).heap.size := by simp
    rw [hW, e]
    exact (Blk.new _ _ _).drew
  exact ⟨s, ⟨x1.lt, x2.lt⟩, ⟨x1.cell 0, x1.cell 1, x1.cell 2⟩, ⟨x2.cell 0, x2.cell 1, x2.cell 2⟩⟩
end Go.Proofs.YtalpbodjplnjcaaGreatDoor

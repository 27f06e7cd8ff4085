/- An operation by value, opened; plain laws for DiskReads. -/
import Derived.Test.YtageboekobkdcaaZ
import Derived.Deep.MidRow
namespace Go.Proofs.Ytageboekobkdcaa
open Go.ChangeShapes Go.WideShapes Go.Deep Go.RowKit

theorem open_act {H : Type} {enc : TypeId × Value → H} {w : World} {base : Nat} {r : Reach} {b0 : Nat} {v : Value} {d : DataW H} {ps : List MemPlace}
    (hv : Value.okWide Try.prog w r b0 34 v) (h : DataW.Trod enc Try.prog w base (fun _ => true) true 34 v d ps) :
    ∃ x : AC, v = .agg #[.int .i64 x.kind, .int .i64 x.sector, .int .i64 x.bytes, .string x.text, .bool x.odd, .int .i64 x.after] ∧ x.fine := by
  obtain ⟨cs, rfl, hsz⟩ := okWide_struct Try.underlying34 hv
  obtain ⟨fuel, hf⟩ := h
  obtain ⟨ys, n, _, _, _, hlen, hg⟩ := DataW.trod_struct Try.underlying34 hf
  obtain ⟨l⟩ := cs
  have hl : l.length = 6 := hsz.trans Try.cells34
  have one : ∀ (j : Nat) (hj : j < 6), ((Value.agg ⟨l⟩).cells.toList.drop j).take 1 = [l[j]'(by omega)] := by
    intro j hj
    show (l.drop j).take 1 = _
    rw [List.drop_eq_getElem_cons (by omega)]
    rfl
  have t0 : DataW.trod enc Try.prog w base (fun _ => true) true n 3 (((Value.agg ⟨l⟩).cells.toList.drop 0).take (Try.prog.cellsOf 3)) = ys[0]? := hg 0 _ rfl
  have t1 : DataW.trod enc Try.prog w base (fun _ => true) true n 3 (((Value.agg ⟨l⟩).cells.toList.drop 1).take (Try.prog.cellsOf 3)) = ys[1]? := hg 1 _ rfl
  have t2 : DataW.trod enc Try.prog w base (fun _ => true) true n 3 (((Value.agg ⟨l⟩).cells.toList.drop 2).take (Try.prog.cellsOf 3)) = ys[2]? := hg 2 _ rfl
  have t3 : DataW.trod enc Try.prog w base (fun _ => true) true n 9 (((Value.agg ⟨l⟩).cells.toList.drop 3).take (Try.prog.cellsOf 9)) = ys[3]? := hg 3 _ rfl
  have t4 : DataW.trod enc Try.prog w base (fun _ => true) true n 4 (((Value.agg ⟨l⟩).cells.toList.drop 4).take (Try.prog.cellsOf 4)) = ys[4]? := hg 4 _ rfl
  have t5 : DataW.trod enc Try.prog w base (fun _ => true) true n 3 (((Value.agg ⟨l⟩).cells.toList.drop 5).take (Try.prog.cellsOf 3)) = ys[5]? := hg 5 _ rfl
  have k3 : Try.prog.cellsOf 3 = 1 := by kernel_rfl
  have k9 : Try.prog.cellsOf 9 = 1 := by kernel_rfl
  have k4 : Try.prog.cellsOf 4 = 1 := by kernel_rfl
  rw [k3, one 0 (by omega)] at t0
  rw [k3, one 1 (by omega)] at t1
  rw [k3, one 2 (by omega)] at t2
  rw [k9, one 3 (by omega)] at t3
  rw [k4, one 4 (by omega)] at t4
  rw [k3, one 5 (by omega)] at t5
  have y : ∀ j, j < 6 → ∃ z, ys[j]? = some z := fun j hj => ⟨_, List.getElem?_eq_getElem (by rw [hlen]; exact hj)⟩
  obtain ⟨y0, e0⟩ := y 0 (by omega); obtain ⟨y1, e1⟩ := y 1 (by omega); obtain ⟨y2, e2⟩ := y 2 (by omega)
  obtain ⟨y3, e3⟩ := y 3 (by omega); obtain ⟨y4, e4⟩ := y 4 (by omega); obtain ⟨y5, e5⟩ := y 5 (by omega)
  obtain ⟨n0, h0, _, _⟩ := DataW.trod_int Try.underlying3 (t0.trans e0)
  obtain ⟨n1, h1, _, w1⟩ := DataW.trod_int Try.underlying3 (t1.trans e1)
  obtain ⟨n2, h2, _, _⟩ := DataW.trod_int Try.underlying3 (t2.trans e2)
  obtain ⟨s3, h3, _, w3⟩ := DataW.trod_string Try.underlying9 (t3.trans e3)
  obtain ⟨b4, h4, _⟩ := DataW.trod_bool Try.underlying4 (t4.trans e4)
  obtain ⟨n5, h5, _, w5⟩ := DataW.trod_int Try.underlying3 (t5.trans e5)
  simp only [List.cons.injEq, and_true] at h0 h1 h2 h3 h4 h5
  refine ⟨⟨n0, n1, n2, s3, b4, n5⟩, ?_, by simpa [maxLen] using w3, (wf_i64 w1).1, (wf_i64 w1).2, (wf_i64 w5).2⟩
  congr 1
  apply Array.ext'
  apply List.ext_getElem
  · exact hl
  · intro j hj1 hj2
    have : j < 6 := by omega
    match j, this with
    | 0, _ => exact h0
    | 1, _ => exact h1
    | 2, _ => exact h2
    | 3, _ => exact h3
    | 4, _ => exact h4
    | 5, _ => exact h5

theorem DS.peek_push (D : DS) (i : Nat) (t : ByteArray) (j : Nat) : (D.push i t).peek j = if i = j then t else D.peek j := by
  unfold DS.peek DS.push
  dsimp only
  rw [lastOf_snoc]
  by_cases h : i = j
  · rw [if_pos h, if_pos h]; rfl
  · rw [if_neg h, if_neg h]
theorem DS.conts_push (D : DS) (i : Nat) (t : ByteArray) : (D.push i t).conts = D.conts.set i t := by
  apply conts_ext
  · rw [List.length_set, DS.conts_length]; rfl
  · intro j hj
    rw [DS.peek_push]
    by_cases h : i = j
    · subst h; rw [if_pos rfl]; simp
    · rw [if_neg h, List.getElem_set_ne h, DS.conts_get]

def xCells (a : AC) : Array Value := #[.int .i64 a.kind, .int .i64 a.sector, .int .i64 a.bytes, .string a.text, .bool a.odd, .int .i64 a.after]
theorem Got.cur {w w' : World} {g c : Nat} {l : List ByteArray} (h : Got w w' g c l) (hl : 0 < l.length) : ∃ cur : Array Value, w'.heap[g]? = some (.cells cur 9 (0, 0)) := by
  have ho : StrsOwn w' w.heap.size (.slice (some ⟨g, 0, none⟩) l.length c) l := h.own.out
  obtain ⟨h1, h2⟩ := ho
  rcases h2 with ⟨h2, h3⟩ | ⟨g2, cap, cur, e, hb, hh, hn, hm, hs, ht⟩
  · omega
  · simp only [Value.slice.injEq, Option.some.injEq, Addr.mk.injEq, and_true, true_and] at e
    obtain ⟨rfl, rfl⟩ := e
    exact ⟨cur, hh⟩
/-- The cells of an operation that lies in a block of its own. -/
structure XSeen (w : World) (gx : Nat) (a : AC) : Prop where
  c0 : w.cell? ⟨gx, 0, none⟩ = some (.int .i64 a.kind)
  c1 : w.cell? ⟨gx, 1, none⟩ = some (.int .i64 a.sector)
  c2 : w.cell? ⟨gx, 2, none⟩ = some (.int .i64 a.bytes)
  c3 : w.cell? ⟨gx, 3, none⟩ = some (.string a.text)
  c4 : w.cell? ⟨gx, 4, none⟩ = some (.bool a.odd)
  c5 : w.cell? ⟨gx, 5, none⟩ = some (.int .i64 a.after)
theorem XSeen.of {w : World} {gx : Nat} {a : AC} (h : w.heap[gx]? = some (.cells (xCells a) 34 (0, 0))) : XSeen w gx a := by
  constructor <;> (rw [cell_of_blk h]; rfl)
section
variable {W w w' : World} {b gx : Nat} {D : DS} {K : List (Nat × Obj)} {a : AC}
theorem LiveX.xSeen (l : LiveX W w b D K) (hm : (gx, .cells (xCells a) 34 (0, 0)) ∈ K) : XSeen w gx a := XSeen.of (l.blk hm)
theorem LiveX.textX {w1 : World} (l : LiveX W w b D K) (hm : (gx, .cells (xCells a) 34 (0, 0)) ∈ K) (ht : a.text.size ≤ 100) (c : Chg (fun _ => False) w w1) :
    Calls Try.prog 23 #[.agg #[.int .i64 a.kind, .int .i64 a.sector, .int .i64 a.bytes, .string a.text, .bool a.odd, .int .i64 a.after]] w1 fun e w' => e = .returned (.string a.txt) ∧ XSeen w' gx a ∧ Hid (LiveX W w' b D K) := by
  refine (text_ok a w1 ht).mono ?_
  rintro e w' ⟨he, c'⟩
  have l' := l.kept (c.trans c' (fun _ _ h => h))
  exact ⟨he, l'.xSeen hm, l'⟩
theorem LiveX.writeX (l : LiveX W w b D K) (hm : (gx, .cells (xCells a) 34 (0, 0)) ∈ K) (ht : a.text.size ≤ 100) (hml : D.q.length < 1000) :
    Calls Try.prog 22 #[.pointer (some ⟨b, 0, none⟩), .int .i64 a.sector, .string a.txt] w fun e w' => e = .returned (.int .i64 (D.write a.sector a.txt).1) ∧ XSeen w' gx a ∧ Hid (LiveX W w' b (D.write a.sector a.txt).2 K) := by
  refine (l.write a.sector a.txt (by have := a.txt_le ht; omega) hml).mono ?_
  rintro e w' ⟨he, l'⟩
  exact ⟨he, l'.xSeen hm, l'⟩
theorem LiveX.act (l : LiveX W w b D K) (a : AC) (hml : D.q.length < 1000) (ht : a.text.size ≤ 100) (hf : a.after ≤ 9223372036854775807) :
    Calls Try.prog 15 #[.pointer (some ⟨b, 0, none⟩), .agg #[.int .i64 a.kind, .int .i64 a.sector, .int .i64 a.bytes, .string a.text, .bool a.odd, .int .i64 a.after]] w fun e w' => e = .returned (.tuple #[.string (D.act a).1.1, .int .i64 (D.act a).1.2]) ∧ LiveX W w' b (D.act a).2 K :=
  l.lift fun h d hb => by rw [← hb]; exact do_ok h D a w d hml ht hf
theorem LiveX.perm {K' : List (Nat × Obj)} (l : LiveX W w b D K) (h : ∀ p ∈ K', p ∈ K) : LiveX W w b D K' := by
  obtain ⟨h1, d, hb, ho, c, hK⟩ := l
  exact ⟨h1, d, hb, ho, c, fun p hp => hK p (h p hp)⟩
theorem LiveX.contentsC (l : LiveX W w b D K) (ho : D.off = false) (hml : D.q.length ≤ 1000) {n : Nat} (hn : D.n = n) :
    Calls Try.prog 21 #[.pointer (some ⟨b, 0, none⟩), .int .i64 (n : Int)] w fun e w' => ∃ g c cur, e = .returned (.tuple #[.slice (some ⟨g, 0, none⟩) n c, .bool true]) ∧ Hid (StrsObj g (.cells cur 9 (0, 0)) D.conts) ∧ Hid (LiveX W w' b D ((g, .cells cur 9 (0, 0)) :: K)) ∧ w.heap.size ≤ g := by
  have hpos : 0 < D.conts.length := by rw [DS.conts_length]; exact l.wf.n1
  refine (l.live.contents ho hml hn).mono ?_
  rintro e w' ⟨g, c, rfl, got, hid⟩
  obtain ⟨cur, hO⟩ := got.cur hpos
  exact ⟨g, c, cur, rfl, got.at_.out.obj hO, l.more hid.out.1 got.lo hO, got.lo⟩
end
theorem livex_new (W w : World) (c : Chg (fun _ => False) W w) (K : List (Nat × Obj)) (hK : ∀ p ∈ K, w.heap[p.1]? = some p.2 ∧ W.heap.size ≤ p.1) (n : Nat) (h1 : 1 ≤ n) (h2 : n ≤ 4000) :
    Calls Try.prog 12 #[.int .i64 (n : Int)] w fun e w' => ∃ b, e = .returned (.pointer (some ⟨b, 0, none⟩)) ∧ LiveX W w' b (DS.new n) K := by
  refine (new_some n w h1 h2).mono ?_
  rintro e w' ⟨h, he, d, c', o⟩
  refine ⟨h.b, he, h, d, rfl, fun k hk => Nat.le_trans c.size (o k hk), c.trans c' (fun _ _ h => h), fun p hp => ?_⟩
  obtain ⟨g1, g2⟩ := hK p hp
  have hl := lt_of_heap g1
  exact ⟨(c'.block _ hl (fun h => h)).trans g1, fun hk => by have := o _ hk; omega, g2⟩
def XRel (W : World) (n : Nat) (l : List AC) (b : Nat) (K : List (Nat × Obj)) (k : Nat) (wr : World) : Prop := LiveX W wr b ((DS.new n).acts (l.take k)) K
theorem StrsAt.set2 {w : World} {g i : Nat} {l : List ByteArray} (h : StrsAt w (some ⟨g, 0, none⟩) l) (hi : i < l.length) (s : ByteArray) : StrsAt (w.setCell ⟨g, i, none⟩ (.string s)) (some ⟨g, 0, none⟩) (l.set i s) := by
  intro k hk
  have hk' : k < l.length := by simpa using hk
  refine ⟨g, 0, rfl, ?_⟩
  rw [Nat.zero_add]
  by_cases hki : i = k
  · subst hki
    rw [World.cell?_setCell_same _ _ _ (h.get i hi rfl)]
    simp
  · rw [World.cell?_setCell_other _ _ _ _ (by intro e; simp only [Addr.mk.injEq, and_true, true_and] at e; omega), h.get k hk' rfl, List.getElem_set_ne hki]
end Go.Proofs.Ytageboekobkdcaa

/- The law's helpers: contents, do. -/
import Derived.Test.YtageboekobkdcaaK
namespace Go.Proofs.Ytageboekobkdcaa
open Go.RowKit

theorem Try.info9 : (Try.prog.info? 9).map (fun i => (i.zero, i.size, i.bytes)) = some (some (.string ByteArray.empty), 1, 16) := by kernel_rfl

/-- The contents of a disk. -/
def DS.conts (D : DS) : List ByteArray := (List.range D.n).map D.peek
theorem DS.conts_length (D : DS) : D.conts.length = D.n := by simp [DS.conts]
theorem lastOf_mem {q : List (Nat × ByteArray)} {i : Nat} {s : ByteArray} (h : lastOf q i = some s) : ∃ p ∈ q, p.2 = s := by
  unfold lastOf at h
  cases hf : q.reverse.find? (fun p => p.1 == i) with
  | none => rw [hf] at h; cases h
  | some p =>
    rw [hf] at h
    exact ⟨p, List.mem_reverse.1 (List.mem_of_find?_eq_some hf), by simpa using h⟩
theorem DS.wf.peek {D : DS} (h : D.wf) (i : Nat) : (D.peek i).size = 64 := by
  unfold DS.peek
  cases hl : lastOf D.q i with
  | none => rw [Option.getD_none, size_mkB, h.stl]
  | some s =>
    obtain ⟨p, hp, rfl⟩ := lastOf_mem hl
    exact (h.qok p hp).2

/-- A slice of strings of the call's own. -/
def StrsOwn (w : World) (base : Nat) (v : Value) (l : List ByteArray) : Prop := w.ownsRow base 9 1 v l.length (l.map Value.string)

/-- append of one string onto a slice of the call's own. -/
theorem wpList_push_str {W : World} {base : Nat} {v : Value} {l : List ByteArray} {ops : Array Oper} {rest : List Oper} {o : Oper} {a : Act} {Q : Exit → Act → World → Prop} (hgd : o.guard = none) (x y : Operand)
    (hop : o.op = .call { callee := .builtin .append, args := #[x, y], argTypes := #[39, 39] }) (hx : a.eval x = v) (B : Nat) (s : ByteArray) (hy : a.eval y = .slice (some ⟨B, 0, none⟩) 1 1)
    (own : StrsOwn W base v l) (hbase : base ≤ W.heap.size) (hl : l.length ≤ 100000) (hB : W.heap[B]? = some (.cells #[.string s] 9 (0, 0)))
    (hK : ∀ v' w2, Hid (StrsOwn w2 base v' (l ++ [s])) → Hid (W.grownBy w2 v.ownBlock) → wpList Try.prog ops Q rest (a.put o.dst v') w2) : wpList Try.prog ops Q (o :: rest) a W := by
  obtain ⟨i0, hi0, hz0, hz1, hz2⟩ := info_parts Try.info9
  refine wpList_append_lies W hgd x y 39 hop base 9 i0 _ 1 16 Try.underlying39 hi0 hz0 hz1 hz2 rfl (by decide) v l.length (l.map Value.string) hx own ⟨B, 0, none⟩ 1 1 [.string s] hy rfl (World.news_of_block hB) (by simp [Value.oneCell']) (by decide) (by unfold maxLen; omega) (by omega) hbase W.heap.size rfl ?_
  intro g cap w2 hown hgr _ _
  refine hK _ w2 ?_ hgr
  show w2.ownsRow base 9 1 _ (l ++ [s]).length ((l ++ [s]).map Value.string)
  rw [List.length_append, List.map_append]
  exact hown

def ContRel (w : World) (D : DS) (k : Nat) (v : Value) (wr : World) : Prop := StrsOwn wr w.heap.size v (D.conts.take k) ∧ Chg (fun _ => False) w wr

theorem Chg.grown {a b c : World} {row : Option Nat} (h : Chg (fun _ => False) a b) (g : b.grownBy c row) (hr : ∀ k, row = some k → a.heap.size ≤ k) : Chg (fun _ => False) a c :=
  ⟨g.os.trans h.os, g.tape.trans h.tape, g.output.trans h.output, Nat.le_trans h.size g.size, fun k hk hf => (g.block k (Nat.lt_of_lt_of_le hk h.size) (fun e => by have := hr k e.symm; omega)).trans (h.block k hk hf)⟩

/-- What contents leaves. -/
def Contents (w : World) (D : DS) (e : Ending) (w' : World) : Prop :=
  ∃ v, e = .returned (.tuple #[v, .bool true]) ∧ StrsOwn w' w.heap.size v D.conts ∧ Chg (fun _ => False) w w'

set_option maxHeartbeats 1000000 in
theorem contents_ok (h : DH) (D : DS) (w : World) (d : DiskAt w h D) (ho : D.off = false) (hml : D.q.length ≤ 1000) :
    Calls Try.prog 21 #[.pointer (some ⟨h.b, 0, none⟩), .int .i64 (D.n : Int)] w (Contents w D) := by
  obtain ⟨i0, hi0, hz0, hz1, hz2⟩ := info_parts Try.info9
  have R0 : ContRel w D 0 (.slice none 0 0) w := ⟨World.ownsRow_nil _ _ _ _, Chg.refl _ _⟩
  have Hd := Lib.hid d
  have hn := d.wf.n2
  have Ho := Lib.hid ho
  have hnl := D.conts_length
  have Hnl := Lib.hid hnl
  obtain ⟨n, hnn⟩ : ∃ n, n = D.n := ⟨_, rfl⟩
  rw [← hnn] at hn ⊢
  have Hn := Lib.hid hnn
  clear d ho hnl hnn
  go_enter Try.func21, Try.ntmps21
  go_wp2
  go_loopw [6, 7] (fun v i wr => ∃ k : Nat, k ≤ n ∧ i = .int .i64 k ∧ ContRel w D k v wr) (fun _ i _ => n - (intOf i).toNat)
  case atStart => exact ⟨0, Nat.zero_le _, rfl, R0⟩
  case round =>
    obtain ⟨k, hk, rfl, hown, ch⟩ := hrel
    by_cases hlt : k < n
    · have hkn : k < D.n := by have := Hn.out; omega
      have hr := read_ok h D k wr (Hd.out.kept ch (fun _ _ h => h)) hml
      have e1 : D.read k = (D.peek k, 0) := by
        have hb : D.bad k = false := by simp [DS.bad]; omega
        simp [DS.read, Ho.out, hb]
      rw [e1] at hr
      have hsz := Hd.out.wf.peek k
      obtain ⟨s, hs⟩ : ∃ s, s = D.peek k := ⟨_, rfl⟩
      rw [← hs] at hr hsz
      have t : ((s.size : Int) != 64) = false := by rw [hsz]; rfl
      have t2 : (s.size == 64) = true := by rw [hsz]; rfl
      have RD := Lib.hid hr; have HS := Lib.hid hs; have Hsz := Lib.hid hsz; have CH := Lib.hid ch; have OWN := Lib.hid hown
      clear hr hs hsz e1 hown ch R0
      have hkl : (D.conts.take k).length ≤ 100000 := by rw [List.length_take]; omega
      go_wp2_with (first | (go_at_call 17; refine RD.out.mono ?_; rintro e w1 ⟨rfl, c1⟩; have C1 := Lib.hid c1; clear c1) | (at_builtin; go_loud (refine wpList_push_str (base := w.heap.size) (l := D.conts.take k) rfl (.tmp 28) (.tmp 30) rfl rfl w1.heap.size s rfl ?_ ?_ hkl ?_ ?_); exact ownsRow_of_block OWN.out (fun j hj => (((Chg.refl _ _).trans C1.out (fun _ _ h => h)).alloc _).block j (OWN.out.lt j hj).2 (fun h => h)); exact ((CH.out.trans C1.out (fun _ _ h => h)).alloc _).size; exact heap_alloc_new _ _; intro v' w2 own2 gr2))
      go_roundw
      case rel =>
        refine ⟨k + 1, by omega, by go_num, ?_, ?_⟩
        · have e : D.conts.take (k + 1) = D.conts.take k ++ [s] := by
            have hk2 : k < D.conts.length := by rw [Hnl.out]; exact hkn
            rw [List.take_succ_eq_append_getElem hk2, HS.out]
            simp [DS.conts]
          rw [e]; exact own2.out
        · exact ((CH.out.trans C1.out (fun _ _ h => h)).alloc _).grown gr2.out (fun j hj => (OWN.out.lt j hj).1)
      case measure => simp [intOf]; omega
    · have hkn : k = n := by omega
      have OWN := Lib.hid hown; have CH := Lib.hid ch
      clear hown ch R0
      go_wp2
      go_ret2
      refine ⟨_, rfl, ?_, CH.out⟩
      have := OWN.out
      rw [hkn, List.take_of_length_le (by rw [Hnl.out, Hn.out]; exact Nat.le_refl _)] at this
      exact this

end Go.Proofs.Ytageboekobkdcaa

/- strings.Builder's copyCheck: contract. Conditions: none. | strings.Builder's WriteByte: contract. Conditions: none. | value.content: contract. Conditions: none. | strings.Builder's WriteByte, with all below the builder's own rows kept. Conditions: none. -/
import Derived.Test.YtfifnemnihcijaaGreatDoorKVg
import Derived.Lib.Builder
import Derived.Laws.Externs
import Derived.Lib.ConvBytes
import Derived.OneCell
set_option linter.unusedSimpArgs false
set_option linter.unusedVariables false
namespace Go.Proofs.YtfifnemnihcijaaGreatDoor
open Go.RowKit

theorem Tryz.sizeBuilder : (Tryz.prog.info? 195).map (·.size) = some 2 := by kernel_rfl
theorem Tryz.liesBuilder : liesAt Tryz.prog Tryz.prog.depth 195 (2 / Tryz.prog.cellsOf 195) 0 195 1 = true := by kernel_rfl

set_option maxRecDepth 100000 in
theorem copyCheck_again (b : Nat) (w : World) (h0 : w.cell? ⟨b, 0, none⟩ = some (.pointer (some ⟨b, 0, none⟩))) :
    Calls Tryz.prog 162 #[.pointer (some ⟨b, 0, none⟩)] w fun e w' => e = .returned (.tuple #[]) ∧ w' = w := by
  obtain ⟨j, hj, _⟩ := Option.map_eq_some_iff.1 Tryz.sizeBuilder
  go_enter Tryz.func162, Tryz.ntmps162
  go_wp2_with (fail)
  rw [Lib.run_neq_ptr_same w _ Tryz.underlying192 hj]
  go_wp2_with (fail)
  go_end0
  exact ⟨rfl, rfl⟩

set_option maxRecDepth 100000 in
theorem copyCheck_first (b : Nat) (w : World) (h0 : w.cell? ⟨b, 0, none⟩ = some (.pointer none)) (hsh : w.shape? b = some (195, 2)) (hf : w.frozen? ⟨b, 0, none⟩ = false) :
    Calls Tryz.prog 162 #[.pointer (some ⟨b, 0, none⟩)] w fun e w' => e = .returned (.tuple #[]) ∧ w' = w.setCell ⟨b, 0, none⟩ (.pointer (some ⟨b, 0, none⟩)) := by
  obtain ⟨j, hj, hjs⟩ := Option.map_eq_some_iff.1 Tryz.sizeBuilder
  go_enter Tryz.func162, Tryz.ntmps162
  go_wp2_with (fail)
  rw [Lib.run_to_unsafe w ⟨b, 0, none⟩ Tryz.underlying192 Tryz.underlying228 hj (by rw [hjs]; decide) hsh (Nat.zero_lt_succ 1)]
  simp only [Result.andThen]
  rw [Oper.upon_value]
  go_wp2_with (fail)
  rw [run_callFunc_extern Tryz.func178 (by kernel_rfl) (by kernel_rfl) (by kernel_rfl) (e := Extern.AbiNoEscape.same) (by kernel_rfl)]
  rw [Lib.run_noEscape]
  simp only [Result.andThen]
  rw [Oper.upon_value]
  go_wp2_with (fail)
  rw [Lib.run_from_unsafe w ⟨b, 0, none⟩ Tryz.underlying228 Tryz.underlying192 hj hsh Tryz.liesBuilder]
  simp only [Result.andThen]
  rw [Oper.upon_value]
  go_wp2_with (fail)
  go_end0
  exact ⟨rfl, rfl⟩
end Go.Proofs.YtfifnemnihcijaaGreatDoor
namespace Go.Proofs.YtfifnemnihcijaaGreatDoor
open Go.RowKit

theorem Tryz.infoByte : (Tryz.prog.info? 5).map (fun i => (i.zero, i.size, i.bytes)) = some (some (.int .u8 0), 1, 1) := by kernel_rfl
theorem copyCheck_ok (B b : Nat) (bs : List Value) (w : World) (h : Lib.IsBuilder 195 5 B b bs w) :
    Calls Tryz.prog 162 #[.pointer (some ⟨b, 0, none⟩)] w fun e w' => e = .returned (.tuple #[]) ∧ Lib.BuilderAt 195 5 B b (.pointer (some ⟨b, 0, none⟩)) bs w' ∧ Below B w w' := by
  rcases h with h | h
  · refine (copyCheck_first b w h.cell0 h.shape h.frozen0).mono ?_
    rintro e w' ⟨rfl, rfl⟩
    exact ⟨rfl, h.used _, (Below.refl B w).setCell (p := ⟨b, 0, none⟩) h.1 _⟩
  · refine (copyCheck_again b w h.cell0).mono ?_
    rintro e w' ⟨rfl, rfl⟩
    exact ⟨rfl, h, Below.refl B w'⟩

set_option maxHeartbeats 1000000 in
set_option maxRecDepth 100000 in
theorem writeByte_ok (B b : Nat) (bs : List Value) (c : Int) (w : World) (h : Lib.IsBuilder 195 5 B b bs w) (hlen : bs.length + 1 ≤ 140737488355328) (hBw : B ≤ w.heap.size) :
    Calls Tryz.prog 154 #[.pointer (some ⟨b, 0, none⟩), .int .u8 c] w fun e w' => e = .returned .nilIface ∧ Lib.BuilderAt 195 5 B b (.pointer (some ⟨b, 0, none⟩)) (bs ++ [.int .u8 c]) w' ∧ Below B w w' := by
  obtain ⟨i0, hi, hz0, hz1, hz2⟩ := info_parts Tryz.infoByte
  have HCC := Lib.hid (copyCheck_ok B b bs w h)
  clear h
  go_enter Tryz.func154, Tryz.ntmps154
  go_wp2_with (fail)
  refine HCC.out.mono ?_
  rintro e w1 ⟨rfl, h1, hb1⟩
  obtain ⟨hB, v, hbk, hown, hne⟩ := h1
  have c0 : w1.cell? ⟨b, 0, none⟩ = some (.pointer (some ⟨b, 0, none⟩)) := by rw [Lib.cell_of_heap hbk]; rfl
  have c1 : w1.cell? ⟨b, 1, none⟩ = some v := by rw [Lib.cell_of_heap hbk]; rfl
  have HBK := Lib.hid hbk
  have HB1 := Lib.hid hb1
  have NE := Lib.hid hne
  clear hbk hb1 hne
  go_wp2_with (at_builtin; refine wpList_append_own _ rfl _ _ 193 rfl B 5 i0 (.int .u8 0) 1 1 Tryz.underlying193 hi hz0 hz1 hz2 rfl (by decide) _ _ _ rfl (hown.alloc _) ⟨w1.heap.size, 0, none⟩ 1 1 [.int .u8 c] rfl rfl ?c1 ?c2 ?c3 ?c4 ?c5 ?_)
  case c1 =>
    intro j u hj
    match j, hj with
    | 0, hj => simp at hj; subst hj; simp [Addr.add]
    | j + 1, hj => simp at hj
  case c2 => intro u hu; simp at hu; subst hu; rfl
  case c3 => unfold maxLen; omega
  case c4 => omega
  case c5 => have := HB1.out.size; simp; omega
  intro v' w2 hown' hgrow _
  have hbk := HBK.out
  have hne := NE.out
  have hlt : b < w1.heap.size := by
    rcases Nat.lt_or_ge b w1.heap.size with h' | h'
    · exact h'
    · simp [Array.getElem?_eq_none h'] at hbk
  have hb2 : w2.heap[b]? = some (.cells #[.pointer (some ⟨b, 0, none⟩), v] 195 (0, 0)) := by
    rw [hgrow.block b (by simp; omega) (fun e => hne e.symm), Lib.alloc_old w1 _ b hlt]
    exact hbk
  have d0 : w2.cell? ⟨b, 0, none⟩ = some (.pointer (some ⟨b, 0, none⟩)) := by rw [Lib.cell_of_heap hb2]; rfl
  have d1 : w2.cell? ⟨b, 1, none⟩ = some v := by rw [Lib.cell_of_heap hb2]; rfl
  have f1 : w2.frozen? ⟨b, 1, none⟩ = false := Lib.frozen_of_heap hb2 1
  obtain ⟨g, cap, rfl⟩ : ∃ g cap, v' = .slice (some ⟨g, 0, none⟩) (bs.length + 1) cap := by
    rcases hown'.2 with ⟨_, h0⟩ | ⟨g, cap, cur, hv, _⟩
    · omega
    · exact ⟨g, cap, hv⟩
  have HB2 := Lib.hid hb2
  have HO := Lib.hid hown'
  have HG := Lib.hid hgrow
  have HOW := Lib.hid hown
  clear hb2 hown' hgrow hown hbk c0 c1
  go_wp2
  go_ret
  refine ⟨rfl, ?_, ?_⟩
  · exact Lib.BuilderAt.put hB HB2.out (bs' := bs ++ [.int .u8 c]) (by simpa using HO.out) (by decide)
  · exact ((HB1.out.alloc (by have := HB1.out.size; omega) _).grown HG.out (by have := HB1.out.size; simp; omega) (fun k hk => (HOW.out.lt k hk).1)).setCell (p := ⟨b, 1, none⟩) hB _
end Go.Proofs.YtfifnemnihcijaaGreatDoor
namespace Go.Proofs.YtfifnemnihcijaaGreatDoor
open Go.RowKit

theorem getB (s : ByteArray) (k : Nat) (h : k < s.size) : (ba s).getD k 0 = s[k] := by
  have hk : k < (ba s).length := by rw [ba_length]; exact h
  rw [List.getD_eq_getElem?_getD, List.getElem?_eq_getElem hk]
  rfl
set_option maxHeartbeats 1000000 in
set_option maxRecDepth 100000 in
theorem content_bad (s : ByteArray) (w : World) (hs : s.size ≤ 1000000) (h : (decide (s.size < 2) || !decide ((ba s).getD 0 0 = 34) || !decide ((ba s).getD (s.size - 1) 0 = 34)) = true) :
    Calls Tryz.prog 146 #[.string s] w fun e w' => e = .returned (.tuple #[.string ByteArray.empty, .bool false]) ∧ Same w w' := by
  by_cases h1 : s.size < 2
  · clear h
    go_enter Tryz.func146, Tryz.ntmps146
    go_wp2
    go_ret2
    exact ⟨rfl, Same.refl _⟩
  · rw [getB s 0 (by omega), getB s (s.size - 1) (by omega), decide_eq_false h1, Bool.false_or] at h
    have h2 : ¬ (s[0] = 34 ∧ s[s.size - 1] = 34) := by rintro ⟨e1, e2⟩; rw [e1, e2] at h; simp at h
    clear h
    have n34 : ∀ x : UInt8, ((x.toNat : Int) != 34) = !decide (x = 34) := by
      intro x
      rw [Bool.eq_iff_iff]
      simp [← UInt8.toNat_inj]
      omega
    by_cases e1 : s[0] = 34
    · have e2 : ¬ s[s.size - 1] = 34 := fun e2 => h2 ⟨e1, e2⟩
      have t1 : ((s[0].toNat : Int) != 34) = false := by rw [n34, e1]; rfl
      have t2 : ((s[s.size - 1].toNat : Int) != 34) = true := by rw [n34, decide_eq_false e2]; rfl
      clear e1 e2 h2 n34
      go_enter Tryz.func146, Tryz.ntmps146
      go_wp2
      go_ret2
      exact ⟨rfl, Same.refl _⟩
    · have t1 : ((s[0].toNat : Int) != 34) = true := by rw [n34, decide_eq_false e1]; rfl
      clear e1 h2 n34
      go_enter Tryz.func146, Tryz.ntmps146
      go_wp2
      go_ret2
      exact ⟨rfl, Same.refl _⟩
end Go.Proofs.YtfifnemnihcijaaGreatDoor
namespace Go.Proofs.YtfifnemnihcijaaGreatDoor
open Go.RowKit

/-- A Builder in block b whose bytes lie in rows made since BB. -/
def BAt (BB b : Nat) (bs : List Value) (w : World) : Prop := ∃ p v, (p = .pointer none ∨ p = .pointer (some ⟨b, 0, none⟩)) ∧ Blk w b 195 #[p, v] ∧ w.ownsRow BB 5 1 v bs.length bs
/-- Below BB nothing has turned but block b. -/
structure KeptBut (BB b : Nat) (w w' : World) : Prop where
  os : w'.os = w.os
  tape : w'.tape = w.tape
  output : w'.output = w.output
  size : w.heap.size ≤ w'.heap.size
  block : ∀ k, k < BB → k ≠ b → w'.heap[k]? = w.heap[k]?
theorem KeptBut.refl (BB b : Nat) (w : World) : KeptBut BB b w w := ⟨rfl, rfl, rfl, Nat.le_refl _, fun _ _ _ => rfl⟩
theorem KeptBut.trans {BB b : Nat} {x y z : World} (h : KeptBut BB b x y) (k : KeptBut BB b y z) : KeptBut BB b x z :=
  ⟨k.os.trans h.os, k.tape.trans h.tape, k.output.trans h.output, Nat.le_trans h.size k.size, fun i h1 h2 => (k.block i h1 h2).trans (h.block i h1 h2)⟩
theorem own_off {w : World} {BB b : Nat} {e : TypeId} {m n : Nat} {v : Value} {xs : List Value} (h : w.ownsRow BB e m v n xs) (hb : b < BB) : v.ownBlock ≠ some b := fun e => by have := (h.lt b e).1; omega
theorem blk_shape {w : World} {b : Nat} {t : TypeId} {cs : Array Value} (h : Blk w b t cs) : w.shape? b = some (t, cs.size) := by
  unfold Blk at h
  simp [World.shape?, h]

theorem cc_ok (BB b : Nat) (bs : List Value) (w : World) (h : BAt BB b bs w) (hb : b < BB) :
    Calls Tryz.prog 162 #[.pointer (some ⟨b, 0, none⟩)] w fun e w' => e = .returned (.tuple #[]) ∧ ∃ v, Blk w' b 195 #[.pointer (some ⟨b, 0, none⟩), v] ∧ w'.ownsRow BB 5 1 v bs.length bs ∧ KeptBut BB b w w' := by
  obtain ⟨p, v, hp, hk, ho⟩ := h
  rcases hp with rfl | rfl
  · refine (copyCheck_first b w (hk.cell 0) (blk_shape hk) (hk.frozen 0)).mono ?_
    rintro e w' ⟨rfl, rfl⟩
    exact ⟨rfl, v, hk.set_ 0 _, ownsRow_setCell_other ho (a := ⟨b, 0, none⟩) (own_off ho hb) _, ⟨rfl, rfl, rfl, by simp [World.setCell], fun k _ hne => Below.heap_setCell _ _ _ _ hne⟩⟩
  · refine (copyCheck_again b w (hk.cell 0)).mono ?_
    rintro e w' ⟨rfl, rfl⟩
    exact ⟨rfl, v, hk, ho, KeptBut.refl _ _ _⟩

set_option maxHeartbeats 1000000 in
set_option maxRecDepth 100000 in
theorem wb_ok (BB b : Nat) (bs : List Value) (c : Int) (w : World) (h : BAt BB b bs w) (hb : b < BB) (hlen : bs.length + 1 ≤ 140737488355328) (hBw : BB ≤ w.heap.size) :
    Calls Tryz.prog 154 #[.pointer (some ⟨b, 0, none⟩), .int .u8 c] w fun e w' => e = .returned .nilIface ∧ BAt BB b (bs ++ [.int .u8 c]) w' ∧ KeptBut BB b w w' := by
  obtain ⟨i0, hi, hz0, hz1, hz2⟩ := info_parts Tryz.infoByte
  have HCC := Lib.hid (cc_ok BB b bs w h hb)
  clear h
  go_enter Tryz.func154, Tryz.ntmps154
  go_wp2_with (fail)
  refine HCC.out.mono ?_
  rintro e w1 ⟨rfl, v, hbk, hown, hk1⟩
  have c0 : w1.cell? ⟨b, 0, none⟩ = some (.pointer (some ⟨b, 0, none⟩)) := hbk.cell 0
  have c1 : w1.cell? ⟨b, 1, none⟩ = some v := hbk.cell 1
  have hsz : BB ≤ w1.heap.size := Nat.le_trans hBw hk1.size
  have HBK := Lib.hid hbk
  have HK1 := Lib.hid hk1
  clear hbk hk1
  go_wp2_with (at_builtin; refine wpList_append_own _ rfl _ _ 193 rfl BB 5 i0 (.int .u8 0) 1 1 Tryz.underlying193 hi hz0 hz1 hz2 rfl (by decide) _ _ _ rfl (hown.alloc _) ⟨w1.heap.size, 0, none⟩ 1 1 [.int .u8 c] rfl rfl ?c1 ?c2 ?c3 ?c4 ?c5 ?_)
  case c1 =>
    intro j u hj
    match j, hj with
    | 0, hj => simp at hj; subst hj; simp [Addr.add]
    | j + 1, hj => simp at hj
  case c2 => intro u hu; simp at hu; subst hu; rfl
  case c3 => unfold maxLen; omega
  case c4 => omega
  case c5 => simp; omega
  intro v' w2 hown' hgrow _
  have hne := own_off hown hb
  have hb2 : Blk w2 b 195 #[.pointer (some ⟨b, 0, none⟩), v] := (hgrow.block b (by simp; omega) (fun e => hne e.symm)).trans (HBK.out.alloc _)
  have d1 : w2.cell? ⟨b, 1, none⟩ = some v := hb2.cell 1
  have f1 : w2.frozen? ⟨b, 1, none⟩ = false := hb2.frozen 1
  obtain ⟨g, cap, rfl⟩ : ∃ g cap, v' = .slice (some ⟨g, 0, none⟩) (bs.length + 1) cap := by
    rcases hown'.2 with ⟨_, h0⟩ | ⟨g, cap, cur, hv, _⟩
    · omega
    · exact ⟨g, cap, hv⟩
  have HB2 := Lib.hid hb2
  have HO := Lib.hid hown'
  have HG := Lib.hid hgrow
  have HOW := Lib.hid hown
  clear hb2 hown' hgrow hown c0 c1 hne
  go_wp2
  go_ret
  have ho2 : w2.ownsRow BB 5 1 (.slice (some ⟨g, 0, none⟩) (bs.length + 1) cap) (bs ++ [Value.int .u8 c]).length (bs ++ [Value.int .u8 c]) := by
    have := HO.out
    rw [List.length_append]
    exact this
  refine ⟨rfl, ⟨_, _, .inr rfl, HB2.out.set_ 1 _, ?_⟩, HK1.out.trans ⟨?_, ?_, ?_, ?_, ?_⟩⟩
  · exact ownsRow_setCell_other ho2 (a := ⟨b, 1, none⟩) (own_off ho2 hb) _
  · exact HG.out.os
  · exact HG.out.tape
  · exact HG.out.output
  · have := HG.out.size; simp at this; simp [World.setCell]; omega
  · intro k hk hkb
    rw [Below.heap_setCell _ _ _ _ hkb, HG.out.block k (by simp; omega) (fun e => by have := (HOW.out.lt k e.symm).1; omega)]
    exact Below.heap_alloc _ _ _ (by omega)
end Go.Proofs.YtfifnemnihcijaaGreatDoor

/- DiskReads, walked. -/
import Derived.Test.YtageboekobkdcaaW
import Derived.BigRegion
import Derived.Deep.DeepCutAuto
namespace Go.Proofs.Ytageboekobkdcaa
open Go.RowKit

/-- Behind the store. -/
def StoredX (W wx : World) (b : Nat) (E : DS) (cur1 cur2 cur3 : Array Value) (g1 g2 g3 gx : Nat) (x : AC) (t : ByteArray) : Prop :=
  ∃ u2, Hid (LiveX W u2 b E [(g3, .cells cur3 9 (0, 0)), (g2, .cells cur2 9 (0, 0)), (g1, .cells cur1 9 (0, 0)), (gx, .cells (xCells x) 34 (0, 0))]) ∧ wx = u2.setCell ⟨g1, x.sector.toNat, none⟩ (.string t)
theorem fillA_le : (fillOf ⟨#[97]⟩).size ≤ 9223372036854775807 := by
  have := AC.txt_le (a := AC.mk 0 0 0 ⟨#[97]⟩ false 0) (by decide)
  show (AC.mk 0 0 0 ⟨#[97]⟩ false 0).txt.size ≤ _
  omega
set_option maxRecDepth 100000 in
set_option maxHeartbeats 16000000 in
theorem reads_no0 {w : World} (r : Nat) (_hr : r < 256) (A : Option Addr) (c : Nat) (l : List AC) (hacts : ActsAt w A l) (hl : l.length ≤ 9223372036854775807) (hf : ∀ a ∈ l, a.fine) (x : AC) (_hfx : x.fine) (hok : okB l = false) :
    Calls Try.prog 6 #[.int .u8 (r : Int), .slice A l.length c, .agg #[.int .i64 x.kind, .int .i64 x.sector, .int .i64 x.bytes, .string x.text, .bool x.odd, .int .i64 x.after]] w fun e w' => e = .returned (.bool true) ∧ Chg (fun _ => False) w w' := by
  have HO := Lib.hid (fun w (h : ActsAt w A l) => ok_ok A c l w h hl (fun a ha => (hf a ha).1))
  rw [hok] at HO
  have HA := Lib.hid hacts
  clear hacts hf hok
  go_enter Try.func6, Try.ntmps6
  have X0 : Hid ((w.alloc (.cells #[.int .i64 x.kind, .int .i64 x.sector, .int .i64 x.bytes, .string x.text, .bool x.odd, .int .i64 x.after] 34)).heap[w.heap.size]? = some (.cells (xCells x) 34 (0, 0))) := heap_alloc_new _ _
  go_wp2_with (fail)
  refine (head_ok _).mono ?_
  rintro e w1 ⟨rfl, c1⟩
  have C1 := Lib.hid (((Chg.refl (fun _ => False) w).alloc (.cells #[.int .i64 x.kind, .int .i64 x.sector, .int .i64 x.bytes, .string x.text, .bool x.odd, .int .i64 x.after] 34)).trans c1 (fun _ _ h => h))
  have X1 : Hid (w1.heap[w.heap.size]? = some (.cells (xCells x) 34 (0, 0))) := (c1.block _ (lt_of_heap X0.out) (fun h => h)).trans X0.out
  obtain ⟨gx, hgx⟩ : ∃ gx, gx = w.heap.size := ⟨_, rfl⟩
  rw [← hgx] at X1
  rw [← hgx]
  have HGX := Lib.hid (show w.heap.size ≤ gx by rw [hgx]; exact Nat.le_refl _)
  clear c1 X0 hgx
  go_wp2_with (fail)
  refine (HO.out _ (HA.out.kept C1.out)).mono ?_
  rintro e w2 ⟨rfl, rfl⟩
  go_wp2
  go_ret
  exact ⟨rfl, C1.out⟩

set_option maxRecDepth 100000 in
set_option maxHeartbeats 16000000 in
theorem reads_no1 {w : World} (r : Nat) (_hr : r < 256) (A : Option Addr) (c : Nat) (l : List AC) (hacts : ActsAt w A l) (hl : l.length ≤ 9223372036854775807) (hf : ∀ a ∈ l, a.fine) (x : AC) (hfx : x.fine) (hok : okB l = true) (hokx : okB [x] = false) :
    Calls Try.prog 6 #[.int .u8 (r : Int), .slice A l.length c, .agg #[.int .i64 x.kind, .int .i64 x.sector, .int .i64 x.bytes, .string x.text, .bool x.odd, .int .i64 x.after]] w fun e w' => e = .returned (.bool true) ∧ Chg (fun _ => False) w w' := by
  have HO := Lib.hid (fun w (h : ActsAt w A l) => ok_ok A c l w h hl (fun a ha => (hf a ha).1))
  rw [hok] at HO
  have HA := Lib.hid hacts
  have HFX := Lib.hid hfx
  have HOX := Lib.hid hokx
  clear hacts hf hok hokx hfx
  go_enter Try.func6, Try.ntmps6
  have X0 : Hid ((w.alloc (.cells #[.int .i64 x.kind, .int .i64 x.sector, .int .i64 x.bytes, .string x.text, .bool x.odd, .int .i64 x.after] 34)).heap[w.heap.size]? = some (.cells (xCells x) 34 (0, 0))) := heap_alloc_new _ _
  go_wp2_with (fail)
  refine (head_ok _).mono ?_
  rintro e w1 ⟨rfl, c1⟩
  have C1 := Lib.hid (((Chg.refl (fun _ => False) w).alloc (.cells #[.int .i64 x.kind, .int .i64 x.sector, .int .i64 x.bytes, .string x.text, .bool x.odd, .int .i64 x.after] 34)).trans c1 (fun _ _ h => h))
  have X1 : Hid (w1.heap[w.heap.size]? = some (.cells (xCells x) 34 (0, 0))) := (c1.block _ (lt_of_heap X0.out) (fun h => h)).trans X0.out
  obtain ⟨gx, hgx⟩ : ∃ gx, gx = w.heap.size := ⟨_, rfl⟩
  rw [← hgx] at X1
  rw [← hgx]
  have HGX := Lib.hid (show w.heap.size ≤ gx by rw [hgx]; exact Nat.le_refl _)
  clear c1 X0 hgx
  go_wp2_with (fail)
  refine (HO.out _ (HA.out.kept C1.out)).mono ?_
  rintro e w2 ⟨rfl, rfl⟩
  obtain ⟨x0, x1, x2, x3, x4, x5⟩ := XSeen.of X1.out
  go_wp2_with (fail)
  refine (ok_ok (some ⟨w1.heap.size, 0, none⟩) 1 [x] _ ?_ (by simp) (by simpa using HFX.out.1)).mono ?_
  · intro k hk
    obtain rfl : k = 0 := by simpa using hk
    refine ⟨_, _, rfl, fun j u hu => ?_⟩
    rw [cell_of_blk (heap_alloc_new _ _)]
    simpa [AC.cells] using hu
  rintro e w3 ⟨rfl, rfl⟩
  rw [HOX.out]
  go_wp2
  go_ret
  exact ⟨rfl, C1.out.alloc _⟩

set_option maxRecDepth 100000 in
set_option maxHeartbeats 16000000 in
theorem reads_yes {w : World} (r : Nat) (hr : r < 256) (A : Option Addr) (c : Nat) (l : List AC) (hacts : ActsAt w A l) (hl : l.length ≤ 9223372036854775807) (hf : ∀ a ∈ l, a.fine) (x : AC) (hfx : x.fine) (hok : okB l = true) (hokx : okB [x] = true) :
    Calls Try.prog 6 #[.int .u8 (r : Int), .slice A l.length c, .agg #[.int .i64 x.kind, .int .i64 x.sector, .int .i64 x.bytes, .string x.text, .bool x.odd, .int .i64 x.after]] w fun e w' => e = .returned (.bool true) ∧ Chg (fun _ => False) w w' := by
  have HO := Lib.hid (fun w (h : ActsAt w A l) => ok_ok A c l w h hl (fun a ha => (hf a ha).1))
  rw [hok] at HO
  have HA := Lib.hid hacts
  have HFX := Lib.hid hfx
  have HOX := Lib.hid hokx
  have hlen := okB_len hok
  have Htx := Lib.hid (okB_text hok)
  have hxt : x.text.size ≤ 100 := okB_text hokx x (by simp)
  have Hf := Lib.hid hf
  obtain ⟨n, hn⟩ : ∃ n, n = 1 + r % 12 := ⟨_, rfl⟩
  have HS := Lib.hid (fun w => size_ok r w hr)
  rw [← hn] at HS
  have hn1 : 1 ≤ n := by omega
  have hn2 : n ≤ 12 := by omega
  clear hn hacts hf hok hokx hfx
  go_enter Try.func6, Try.ntmps6
  have X0 : Hid ((w.alloc (.cells #[.int .i64 x.kind, .int .i64 x.sector, .int .i64 x.bytes, .string x.text, .bool x.odd, .int .i64 x.after] 34)).heap[w.heap.size]? = some (.cells (xCells x) 34 (0, 0))) := heap_alloc_new _ _
  go_wp2_with (fail)
  refine (head_ok _).mono ?_
  rintro e w1 ⟨rfl, c1⟩
  have C1 := Lib.hid (((Chg.refl (fun _ => False) w).alloc (.cells #[.int .i64 x.kind, .int .i64 x.sector, .int .i64 x.bytes, .string x.text, .bool x.odd, .int .i64 x.after] 34)).trans c1 (fun _ _ h => h))
  have X1 : Hid (w1.heap[w.heap.size]? = some (.cells (xCells x) 34 (0, 0))) := (c1.block _ (lt_of_heap X0.out) (fun h => h)).trans X0.out
  obtain ⟨gx, hgx⟩ : ∃ gx, gx = w.heap.size := ⟨_, rfl⟩
  rw [← hgx] at X1
  rw [← hgx]
  have HGX := Lib.hid (show w.heap.size ≤ gx by rw [hgx]; exact Nat.le_refl _)
  clear c1 X0 hgx
  go_wp2_with (fail)
  refine (HO.out _ (HA.out.kept C1.out)).mono ?_
  rintro e w2 ⟨rfl, rfl⟩
  obtain ⟨x0, x1, x2, x3, x4, x5⟩ := XSeen.of X1.out
  go_wp2_with (fail)
  refine (ok_ok (some ⟨w1.heap.size, 0, none⟩) 1 [x] _ ?_ (by simp) (by simpa using HFX.out.1)).mono ?_
  · intro k hk
    obtain rfl : k = 0 := by simpa using hk
    refine ⟨_, _, rfl, fun j u hu => ?_⟩
    rw [cell_of_blk (heap_alloc_new _ _)]
    simpa [AC.cells] using hu
  rintro e w3 ⟨rfl, rfl⟩
  rw [HOX.out]
  have C3 := Lib.hid (C1.out.alloc (.cells #[.int .i64 x.kind, .int .i64 x.sector, .int .i64 x.bytes, .string x.text, .bool x.odd, .int .i64 x.after] 34))
  have X3 : Hid ((w1.alloc (.cells #[.int .i64 x.kind, .int .i64 x.sector, .int .i64 x.bytes, .string x.text, .bool x.odd, .int .i64 x.after] 34)).heap[gx]? = some (.cells (xCells x) 34 (0, 0))) := (Below.heap_alloc _ _ _ (lt_of_heap X1.out)).trans X1.out
  obtain ⟨w3, hw3⟩ : ∃ w3, w3 = w1.alloc (.cells #[.int .i64 x.kind, .int .i64 x.sector, .int .i64 x.bytes, .string x.text, .bool x.odd, .int .i64 x.after] 34) := ⟨_, rfl⟩
  rw [← hw3] at C3 X3
  rw [← hw3]
  clear hw3 x0 x1 x2 x3 x4 x5
  go_wp2_with (fail)
  refine (HS.out _).mono ?_
  rintro e w2b ⟨rfl, rfl⟩
  go_wp2_with (fail)
  refine (livex_new w _ C3.out [(gx, .cells (xCells x) 34 (0, 0))] (fun p hp => by simp only [List.mem_singleton] at hp; subst hp; exact ⟨X3.out, HGX.out⟩) n hn1 (by omega)).mono ?_
  rintro e w2 ⟨b1, rfl, l1⟩
  have R0 : XRel w n l b1 [(gx, .cells (xCells x) 34 (0, 0))] 0 w2 := l1
  clear l1
  go_wp2
  go_loopw [10] (fun i wr => ∃ k : Nat, k ≤ l.length ∧ i = .int .i64 k ∧ XRel w n l b1 [(gx, .cells (xCells x) 34 (0, 0))] k wr) (fun i _ => l.length - (intOf i).toNat)
  case atStart => exact ⟨0, Nat.zero_le _, rfl, R0⟩
  case round =>
    obtain ⟨k, hk, rfl, rel⟩ := hrel
    by_cases hlt : k < l.length
    · obtain ⟨ab, off, rfl, seen⟩ := (HA.out.kept (LiveX.chg rel)).seen k hlt
      have hq : ((DS.new n).acts (l.take k)).q.length < 1000 := by
        have h1 := DS.acts_len (DS.new n) (l.take k)
        rw [List.length_take] at h1
        have h2 : (DS.new n).q.length = 0 := rfl
        omega
      have hmem := List.getElem_mem hlt
      have ht := Htx.out _ hmem
      have hfi := (Hf.out _ hmem).2.2.2
      have e : (DS.new n).acts (l.take (k + 1)) = (((DS.new n).acts (l.take k)).act l[k]).2 := by rw [take_snoc' l k hlt, DS.acts_snoc]
      obtain ⟨D, hD⟩ : ∃ D, D = (DS.new n).acts (l.take k) := ⟨_, rfl⟩
      rw [← hD] at hq e
      have rel' : LiveX w wr b1 D [(gx, .cells (xCells x) 34 (0, 0))] := by rw [hD]; exact rel
      obtain ⟨a, ha⟩ : ∃ a, a = l[k] := ⟨_, rfl⟩
      rw [← ha] at seen ht hfi e
      have E := Lib.hid e
      have Ha := Lib.hid ha
      obtain ⟨c0, c1, c2, c3, c4, c5, blt⟩ := seen
      have REL := Lib.hid rel'
      clear rel rel' e hD ha hmem R0
      obtain ⟨k1, s1, y1, t1, o1, f1⟩ := a
      dsimp only at c0 c1 c2 c3 c4 c5 ht hfi
      go_wp2_with (fail)
      refine (REL.out.act ⟨k1, s1, y1, t1, o1, f1⟩ hq ht hfi).mono ?_
      rintro e w5 ⟨rfl, rel5⟩
      have REL5 := Lib.hid rel5
      clear rel5
      go_wp2
      go_roundw
      case rel => exact ⟨k + 1, by omega, by go_num, by unfold XRel; rw [E.out]; exact REL5.out⟩
      case measure => simp [intOf]; omega
    · have ek : k = l.length := by omega
      have rel' : LiveX w wr b1 ((DS.new n).acts l) [(gx, .cells (xCells x) 34 (0, 0))] := by
        have := rel
        unfold XRel at this
        rw [ek, List.take_length] at this
        exact this
      have hq : ((DS.new n).acts l).q.length ≤ 60 := by
        have h1 := DS.acts_len (DS.new n) l
        have h2 : (DS.new n).q.length = 0 := rfl
        omega
      have hnn : ((DS.new n).acts l).n = n := DS.n_acts _ _
      clear R0 rel
      obtain ⟨B, hB⟩ : ∃ B, B = ((DS.new n).acts l).start := ⟨_, rfl⟩
      have Bo := Lib.hid (show B.off = false by rw [hB]; rfl)
      have Ba := Lib.hid (show B.arm = none by rw [hB]; rfl)
      have hBq : B.q.length ≤ 60 := by rw [hB]; exact hq
      have Bn := Lib.hid (show B.n = n by rw [hB]; exact hnn)
      have HB := Lib.hid hB; have REL := Lib.hid rel'
      clear rel' hB hnn ek
      go_wp2_with (fail)
      refine (REL.out.start).mono ?_
      rintro e w4 ⟨rfl, r4⟩
      rw [← HB.out] at r4
      have R4 := Lib.hid r4
      clear r4
      go_wp2_with (fail)
      refine (R4.out.contentsC Bo.out (by omega) Bn.out).mono ?_
      rintro e w5 ⟨g1, cp1, cur1, rfl, G1, P1, lo1⟩
      have LO1 := Lib.hid lo1
      clear lo1
      have MX : Hid ((gx, Obj.cells (xCells x) 34 (0, 0)) ∈ [(g1, Obj.cells cur1 9 (0, 0)), (gx, Obj.cells (xCells x) 34 (0, 0))]) := by show _ ∈ _; simp
      obtain ⟨x0, x1, x2, x3, x4, x5⟩ := P1.out.xSeen MX.out
      have wb := DS.write_good B Bo.out Ba.out Bn.out x
      cases hg : goodB n x with
      | false =>
        rw [hg, if_neg (by decide)] at wb
        have WB := Lib.hid wb
        have HG := Lib.hid hg
        clear wb hg
        go_wp2_with (fail)
        go_region_held3 (fun w' => w'.cell? ⟨gx, 0, none⟩ = some (.int .i64 x.kind) ∧ w'.cell? ⟨gx, 1, none⟩ = some (.int .i64 x.sector) ∧ w'.cell? ⟨gx, 2, none⟩ = some (.int .i64 x.bytes) ∧ w'.cell? ⟨gx, 3, none⟩ = some (.string x.text) ∧ w'.cell? ⟨gx, 4, none⟩ = some (.bool x.odd) ∧ w'.cell? ⟨gx, 5, none⟩ = some (.int .i64 x.after)) (first | go_keep | simp [*])
          (first | (go_at_call 23; refine (LiveX.textX (gx := gx) P1.out MX.out hxt ?_).mono ?_; exact (Chg.refl _ _).drew; rintro e u1t ⟨rfl, ⟨x0, x1, x2, x3, x4, x5⟩, Q1t⟩) | (go_at_call 22; refine (LiveX.writeX (gx := gx) Q1t.out MX.out hxt (by omega)).mono ?_; rintro e u1 ⟨rfl, ⟨x0, x1, x2, x3, x4, x5⟩, Q1⟩))
        rw [WB.out] at Q1
        rw [WB.out]
        go_wp2_with (fail)
        refine (Q1.out.contentsC Bo.out (by omega) Bn.out).mono ?_
        rintro e w7 ⟨g2, cp2, cur2, rfl, G2, P2, lo2⟩
        have LO2 := Lib.hid lo2
        clear lo2
        go_wp2_with (fail)
        refine (P2.out.contentsC Bo.out (by omega) Bn.out).mono ?_
        rintro e w8 ⟨g3, cp3, cur3, rfl, G3, P3, lo3⟩
        have LO3 := Lib.hid lo3
        clear lo3
        have a := same_ok (some ⟨g2, 0, none⟩) (some ⟨g3, 0, none⟩) cp2 cp3 B.conts B.conts w8 (P3.out.strs (by simp) G2.out) (P3.out.strs (by simp) G3.out) (by rw [DS.conts_length, Bn.out]; omega) (by rw [DS.conts_length, Bn.out]; omega)
        rw [DS.conts_length, Bn.out, show decide (B.conts = B.conts) = true from decide_eq_true rfl] at a
        have SMa := Lib.hid a
        clear a
        go_wp2_with (fail)
        refine SMa.out.mono ?_
        rintro e va ⟨rfl, cca⟩
        have Qa := Lib.hid (P3.out.kept cca)
        clear cca
        have hbad : x.sector < 0 ∨ (n : Int) ≤ x.sector ∨ x.txt.size ≠ 64 := by
          have := HG.out
          simp only [goodB, Bool.and_eq_false_iff, decide_eq_false_iff_not, beq_eq_false_iff_ne] at this
          omega
        obtain ⟨x0, x1, x2, x3, x4, x5⟩ := Qa.out.xSeen (gx := gx) (a := x) (by simp)
        by_cases hs0 : x.sector < 0
        · have t0 : decide (x.sector < 0) = true := by simpa using hs0
          clear hbad hs0
          have b := same_ok (some ⟨g1, 0, none⟩) (some ⟨g2, 0, none⟩) cp1 cp2 B.conts B.conts va (Qa.out.strs (by simp) G1.out) (Qa.out.strs (by simp) G2.out) (by rw [DS.conts_length, Bn.out]; omega) (by rw [DS.conts_length, Bn.out]; omega)
          rw [DS.conts_length, Bn.out, show decide (B.conts = B.conts) = true from decide_eq_true rfl] at b
          have SMb := Lib.hid b
          clear b
          go_wp2_with (fail)
          refine SMb.out.mono ?_
          rintro e vb ⟨rfl, ccb⟩
          have Qb := Lib.hid (Qa.out.kept ccb)
          clear ccb
          obtain ⟨x0, x1, x2, x3, x4, x5⟩ := Qb.out.xSeen (gx := gx) (a := x) (by simp)
          go_wp2
          go_ret
          exact ⟨rfl, Qb.out.chg⟩
        · have t0 : decide (x.sector < 0) = false := by simpa using hs0
          by_cases hs1 : (n : Int) ≤ x.sector
          · have t1 : decide ((n : Int) ≤ x.sector) = true := by simpa using hs1
            clear hbad hs0 hs1
            have b := same_ok (some ⟨g1, 0, none⟩) (some ⟨g2, 0, none⟩) cp1 cp2 B.conts B.conts va (Qa.out.strs (by simp) G1.out) (Qa.out.strs (by simp) G2.out) (by rw [DS.conts_length, Bn.out]; omega) (by rw [DS.conts_length, Bn.out]; omega)
            rw [DS.conts_length, Bn.out, show decide (B.conts = B.conts) = true from decide_eq_true rfl] at b
            have SMb := Lib.hid b
            clear b
            go_wp2_with (fail)
            refine SMb.out.mono ?_
            rintro e vb ⟨rfl, ccb⟩
            have Qb := Lib.hid (Qa.out.kept ccb)
            clear ccb
            obtain ⟨x0, x1, x2, x3, x4, x5⟩ := Qb.out.xSeen (gx := gx) (a := x) (by simp)
            go_wp2
            go_ret
            exact ⟨rfl, Qb.out.chg⟩
          · have t1 : decide ((n : Int) ≤ x.sector) = false := by simpa using hs1
            have hne : x.txt.size ≠ 64 := by omega
            obtain ⟨t, ht⟩ : ∃ t, t = x.txt := ⟨_, rfl⟩
            rw [← ht] at hne
            have t2 : ((t.size : Int) != 64) = true := by rw [bne_iff_ne]; omega
            have T := Lib.hid (fun w => text_ok x w hxt)
            rw [← ht] at T
            have HT := Lib.hid ht
            clear hbad hs0 hs1 hne ht
            have b := same_ok (some ⟨g1, 0, none⟩) (some ⟨g2, 0, none⟩) cp1 cp2 B.conts B.conts va (Qa.out.strs (by simp) G1.out) (Qa.out.strs (by simp) G2.out) (by rw [DS.conts_length, Bn.out]; omega) (by rw [DS.conts_length, Bn.out]; omega)
            rw [DS.conts_length, Bn.out, show decide (B.conts = B.conts) = true from decide_eq_true rfl] at b
            have SMb := Lib.hid b
            clear b
            go_wp2_with (fail)
            refine SMb.out.mono ?_
            rintro e vb ⟨rfl, ccb⟩
            have Qb := Lib.hid (Qa.out.kept ccb)
            clear ccb
            obtain ⟨x0, x1, x2, x3, x4, x5⟩ := Qb.out.xSeen (gx := gx) (a := x) (by simp)
            go_wp2_with (fail)
            refine (T.out _).mono ?_
            rintro e v9 ⟨rfl, c9⟩
            have C9 := Lib.hid (Qb.out.chg.trans c9 (fun _ _ h => h))
            clear c9
            go_wp2
            go_ret
            exact ⟨rfl, C9.out⟩
      | true =>
        rw [hg, if_pos rfl] at wb
        have WB := Lib.hid wb
        have hgd := goodB_true hg
        clear wb hg
        go_wp2_with (fail)
        go_region_held3 (fun w' => w'.cell? ⟨gx, 0, none⟩ = some (.int .i64 x.kind) ∧ w'.cell? ⟨gx, 1, none⟩ = some (.int .i64 x.sector) ∧ w'.cell? ⟨gx, 2, none⟩ = some (.int .i64 x.bytes) ∧ w'.cell? ⟨gx, 3, none⟩ = some (.string x.text) ∧ w'.cell? ⟨gx, 4, none⟩ = some (.bool x.odd) ∧ w'.cell? ⟨gx, 5, none⟩ = some (.int .i64 x.after)) (first | go_keep | simp [*])
          (first | (go_at_call 23; refine (LiveX.textX (gx := gx) P1.out MX.out hxt ?_).mono ?_; exact (Chg.refl _ _).drew; rintro e u1t ⟨rfl, ⟨x0, x1, x2, x3, x4, x5⟩, Q1t⟩) | (go_at_call 22; refine (LiveX.writeX (gx := gx) Q1t.out MX.out hxt (by omega)).mono ?_; rintro e u1 ⟨rfl, ⟨x0, x1, x2, x3, x4, x5⟩, Q1⟩))
        rw [WB.out] at Q1
        rw [WB.out]
        obtain ⟨E, hE⟩ : ∃ E, E = B.push x.sector.toNat x.txt := ⟨_, rfl⟩
        have HE := Lib.hid hE
        have Eo := Lib.hid (show E.off = false by rw [hE]; exact Bo.out)
        have En := Lib.hid (show E.n = n by rw [hE]; exact Bn.out)
        have hEq : E.q.length ≤ 61 := by rw [hE]; simp [DS.push]; omega
        have Q1 : Hid (LiveX w u1 b1 E [(g1, Obj.cells cur1 9 (0, 0)), (gx, Obj.cells (xCells x) 34 (0, 0))]) := by rw [hE]; exact Q1
        clear hE
        go_wp2_with (fail)
        refine (Q1.out.contentsC Eo.out (by omega) En.out).mono ?_
        rintro e w7 ⟨g2, cp2, cur2, rfl, G2, P2, lo2⟩
        have LO2 := Lib.hid lo2
        clear lo2
        have N12 := Lib.hid (show g2 ≠ g1 by have := lt_of_heap (Q1.out.blk (p := (g1, Obj.cells cur1 9 (0, 0))) (by simp)); have h2 := LO2.out; dsimp only at this; omega)
        go_wp2_with (fail)
        refine (P2.out.contentsC Eo.out (by omega) En.out).mono ?_
        rintro e w8 ⟨g3, cp3, cur3, rfl, G3, P3, lo3⟩
        have LO3 := Lib.hid lo3
        clear lo3
        have a := same_ok (some ⟨g2, 0, none⟩) (some ⟨g3, 0, none⟩) cp2 cp3 E.conts E.conts w8 (P3.out.strs (by simp) G2.out) (P3.out.strs (by simp) G3.out) (by rw [DS.conts_length, En.out]; omega) (by rw [DS.conts_length, En.out]; omega)
        rw [DS.conts_length, En.out, show decide (E.conts = E.conts) = true from decide_eq_true rfl] at a
        have SMa := Lib.hid a
        clear a
        go_wp2_with (fail)
        refine SMa.out.mono ?_
        rintro e va ⟨rfl, cca⟩
        have Qa := Lib.hid (P3.out.kept cca)
        clear cca
        obtain ⟨x0, x1, x2, x3, x4, x5⟩ := Qa.out.xSeen (gx := gx) (a := x) (by simp)
        have s1 := hgd.1
        have s2 := hgd.2.1
        have hin : x.sector.toNat < n := by omega
        have t0 : decide (x.sector < 0) = false := by simp; omega
        have t1 : decide ((n : Int) ≤ x.sector) = false := by simp; omega
        obtain ⟨t, ht⟩ : ∃ t, t = x.txt := ⟨_, rfl⟩
        have TX := Lib.hid (fun w1 (c : Chg (fun _ => False) va w1) => Qa.out.textX (gx := gx) (a := x) (by simp) hxt c)
        rw [← ht] at TX
        have HT := Lib.hid ht
        have z7 : ∀ (wz : World), LiveX w wz b1 E [(g3, Obj.cells cur3 9 (0, 0)), (g2, Obj.cells cur2 9 (0, 0)), (g1, Obj.cells cur1 9 (0, 0)), (gx, Obj.cells (xCells x) 34 (0, 0))] → wz.frozen? ⟨g1, x.sector.toNat, none⟩ = false ∧ ∃ y, wz.cell? ⟨g1, x.sector.toNat, none⟩ = some (.string y) := by
          intro wz lz
          have b1' := lz.blk (p := (g1, Obj.cells cur1 9 (0, 0))) (by simp)
          exact ⟨frozen_of_blk b1' _, _, (G1.out wz b1').get _ (by rw [DS.conts_length, Bn.out]; exact hin) rfl⟩
        have Z7 := Lib.hid z7
        obtain ⟨f1, y, cy⟩ := z7 _ Qa.out
        clear hgd ht z7
        go_upto_region 21 with (fail)
        go_cut [] (fun wx => StoredX w wx b1 E cur1 cur2 cur3 g1 g2 g3 gx x t)
        case first =>
          go_region_law (first | (go_simp; go_at_call 23; refine (TX.out _ ?_).mono ?_; exact (Chg.refl _ _).drew; rintro e u2 ⟨rfl, ⟨x0, x1, x2, x3, x4, x5⟩, L5⟩; obtain ⟨f1, y, cy⟩ := Z7.out _ L5.out))
          all_goals (go_wp2_with fail)
          all_goals go_meet
          all_goals exact ⟨_, L5, rfl⟩
        case rest =>
          obtain ⟨u2, L5, rfl⟩ := hcut
          have L5p : LiveX w u2 b1 E [(g1, Obj.cells cur1 9 (0, 0)), (g2, Obj.cells cur2 9 (0, 0))] := L5.out.perm (by simp)
          have L6 := L5p.store (fun p hp => by
            simp only [List.mem_singleton] at hp
            subst hp
            exact N12.out) x.sector.toNat (.string t)
          have s3 := (G1.out u2 (L5.out.blk (p := (g1, Obj.cells cur1 9 (0, 0))) (by simp))).set2 (i := x.sector.toNat) (by rw [DS.conts_length, Bn.out]; exact hin) t
          have hfc : B.conts.set x.sector.toNat t = E.conts := by rw [HE.out, DS.conts_push, HT.out]
          rw [hfc] at s3
          obtain ⟨w9, hw9⟩ : ∃ w9, w9 = u2.setCell ⟨g1, x.sector.toNat, none⟩ (.string t) := ⟨_, rfl⟩
          rw [← hw9] at L6 s3
          rw [← hw9]
          have sm := same_ok (some ⟨g1, 0, none⟩) (some ⟨g2, 0, none⟩) cp1 cp2 E.conts E.conts w9 s3 (L6.strs (by simp) G2.out) (by rw [DS.conts_length, En.out]; omega) (by rw [DS.conts_length, En.out]; omega)
          rw [DS.conts_length, En.out, show decide (E.conts = E.conts) = true from decide_eq_true rfl] at sm
          have SM := Lib.hid sm
          have L7 := Lib.hid L6.live
          clear sm hfc L6 s3 hw9 L5p
          go_wp2_with (fail)
          refine SM.out.mono ?_
          rintro e v5 ⟨rfl, c15⟩
          have L8 := Lib.hid (L7.out.kept c15)
          clear c15
          obtain ⟨F, hF⟩ : ∃ F, F = E.fail 0 0 := ⟨_, rfl⟩
          have HF := Lib.hid hF
          have Fo := Lib.hid (show F.off = true by rw [hF]; unfold DS.fail; rw [Eo.out]; rfl)
          have hFq : F.q.length < 1000 := by rw [hF]; have := DS.len_fail E 0 0; omega
          clear hF
          go_wp2_with (fail)
          refine (L8.out.fail 0 0 (by omega)).mono ?_
          rintro e v6 ⟨rfl, r6⟩
          rw [← HF.out] at r6
          have R6 := Lib.hid r6
          clear r6
          go_wp2_with (fail)
          refine (fill_ok ⟨#[97]⟩ _ (by decide)).mono ?_
          rintro e v7 ⟨rfl, c7⟩
          have R7 := Lib.hid (R6.out.kept c7)
          have FS := Lib.hid fillA_le
          obtain ⟨fa, hfa⟩ : ∃ fa, fa = fillOf ⟨#[97]⟩ := ⟨_, rfl⟩
          rw [← hfa] at FS
          rw [← hfa]
          clear c7 hfa
          have FW := Lib.hid (show F.write 0 fa = (19, F) by unfold DS.write; rw [Fo.out]; rfl)
          have FR := Lib.hid (show F.read 0 = (ByteArray.empty, 19) by unfold DS.read; rw [Fo.out]; rfl)
          go_wp2_with (fail)
          refine (R7.out.write 0 fa FS.out hFq).mono ?_
          rintro e v8 ⟨rfl, r8⟩
          rw [FW.out] at r8
          rw [FW.out]
          have R8 := Lib.hid r8
          clear r8
          go_wp2_with (fail)
          refine (R8.out.read 0 (by omega)).mono ?_
          rintro e v9 ⟨rfl, r9⟩
          rw [FR.out]
          have R9 := Lib.hid r9
          clear r9
          have te : (ByteArray.empty.toList == (⟨#[]⟩ : ByteArray).toList) = true := by simp
          go_wp2
          go_ret
          exact ⟨rfl, R9.out.chg⟩

theorem reads_walk {w : World} (r : Nat) (hr : r < 256) (A : Option Addr) (c : Nat) (l : List AC) (hacts : ActsAt w A l) (hl : l.length ≤ 9223372036854775807) (hf : ∀ a ∈ l, a.fine) (x : AC) (hfx : x.fine) (w' : World) (hw : w' = w := by rfl) :
    Calls Try.prog 6 #[.int .u8 (r : Int), .slice A l.length c, .agg #[.int .i64 x.kind, .int .i64 x.sector, .int .i64 x.bytes, .string x.text, .bool x.odd, .int .i64 x.after]] w' fun e w'' => e = .returned (.bool true) ∧ Chg (fun _ => False) w' w'' := by
  subst hw
  cases hok : okB l with
  | false => exact reads_no0 r hr A c l hacts hl hf x hfx hok
  | true =>
    cases hokx : okB [x] with
    | false => exact reads_no1 r hr A c l hacts hl hf x hfx hok hokx
    | true => exact reads_yes r hr A c l hacts hl hf x hfx hok hokx

end Go.Proofs.Ytageboekobkdcaa

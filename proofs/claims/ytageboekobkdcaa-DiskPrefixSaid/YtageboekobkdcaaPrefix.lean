/- DiskPrefix, walked. -/
import Derived.Test.YtageboekobkdcaaZ
import Derived.Deep.MidRow
import Derived.BigRegion
import Derived.Deep.DeepCutAuto
namespace Go.Proofs.Ytageboekobkdcaa
open Go.RowKit

def actCells (a : AC) : Array Value := #[.int .i64 a.kind, .int .i64 a.sector, .int .i64 a.bytes, .string a.text, .bool a.odd, .int .i64 a.after]
theorem next_other (g : List AC) (a : AC) (w : Nat) (h : g.length ≠ w) : nextOf (g ++ [a]) w = nextOf g w := by
  unfold nextOf
  by_cases hl : w < g.length
  · rw [List.getElem?_append_left hl]
  · rw [List.getElem?_eq_none (by simp; omega), List.getElem?_eq_none (by omega)]
theorem next_same (g : List AC) (a : AC) : nextOf (g ++ [a]) g.length = a := by
  unfold nextOf
  rw [List.getElem?_append_right (Nat.le_refl _)]
  simp
theorem Try.size34 : (Try.prog.info? 34).map (·.size) = some 6 := by kernel_rfl
theorem LiveX.storeAct {W w : World} {b gn : Nat} {D : DS} {nx : AC} (l : LiveX W w b D [(gn, .cells (actCells nx) 34 (0, 0))]) (a : AC) :
    LiveX W (w.setCells gn 0 (actCells a).toList) b D [(gn, .cells (actCells a) 34 (0, 0))] := by
  have h0 := l.store (by simp) 0 (.int .i64 a.kind)
  have h1 := h0.store (by simp) 1 (.int .i64 a.sector)
  have h2 := h1.store (by simp) 2 (.int .i64 a.bytes)
  have h3 := h2.store (by simp) 3 (.string a.text)
  have h4 := h3.store (by simp) 4 (.bool a.odd)
  have h5 := h4.store (by simp) 5 (.int .i64 a.after)
  exact h5
theorem wpList_storeAct {W0 W : World} {b gn : Nat} {D : DS} {nx : AC} {ops : Array Oper} {rest : List Oper} {o : Oper} {s : Go.Act} {Q : Exit → Go.Act → World → Prop}
    (l : Hid (LiveX W0 W b D [(gn, .cells (actCells nx) 34 (0, 0))])) (a : AC) (hgd : o.guard = none) (x y : Operand) (hop : o.op = .store 34 x y)
    (hx : s.eval x = .pointer (some ⟨gn, 0, none⟩)) (hy : s.eval y = .agg #[.int .i64 a.kind, .int .i64 a.sector, .int .i64 a.bytes, .string a.text, .bool a.odd, .int .i64 a.after])
    (hK : ∀ W', Hid (LiveX W0 W' b D [(gn, .cells (actCells a) 34 (0, 0))]) → wpList Try.prog ops Q rest (s.put o.dst undef) W') : wpList Try.prog ops Q (o :: rest) s W := by
  have blk := l.out.blk (p := (gn, .cells (actCells nx) 34 (0, 0))) (by simp)
  refine wpList_store_mid hgd 34 x y hop gn 0 (actCells a) hx hy ?_ Try.size34 (by simp [actCells, Value.oneCell']) (hK _ (l.out.storeAct a))
  intro j hj
  have hj' : j < 6 := hj
  rw [Nat.zero_add]
  refine ⟨?_, frozen_of_blk blk j⟩
  rw [cell_of_blk blk]
  have : j < (actCells nx).size := hj'
  simp [this]
theorem Got.cells {w w' : World} {g c : Nat} {l : List ByteArray} (h : Got w w' g c l) (hl : 0 < l.length) : ∃ cur : Array Value, w'.heap[g]? = some (.cells cur 9 (0, 0)) ∧ ∀ (i : Nat) (x : ByteArray), l[i]? = some x → cur[i]? = some (Value.string x) := by
  have ho : StrsOwn w' w.heap.size (.slice (some ⟨g, 0, none⟩) l.length c) l := h.own.out
  obtain ⟨h1, h2⟩ := ho
  rcases h2 with ⟨h2, h3⟩ | ⟨g2, cap, cur, e, hb, hh, hn, hm, hs, ht⟩
  · omega
  · simp only [Value.slice.injEq, Option.some.injEq, Addr.mk.injEq, and_true, true_and] at e
    obtain ⟨rfl, rfl⟩ := e
    refine ⟨cur, hh, fun i x hx => ?_⟩
    have hi : i < l.length := by
      rcases Nat.lt_or_ge i l.length with h | h
      · exact h
      · rw [List.getElem?_eq_none h] at hx; cases hx
    have : (cur.toList.take (l.length * 1))[i]? = some (.string x) := by rw [ht, List.getElem?_map, hx]; rfl
    rw [List.getElem?_take, if_pos (by omega)] at this
    simpa using this
/-- The cells that the last store needs. -/
structure NextSeen (w : World) (gn g3 i : Nat) (a : AC) (y : ByteArray) : Prop where
  c0 : w.cell? ⟨gn, 0, none⟩ = some (.int .i64 a.kind)
  c1 : w.cell? ⟨gn, 1, none⟩ = some (.int .i64 a.sector)
  c2 : w.cell? ⟨gn, 2, none⟩ = some (.int .i64 a.bytes)
  c3 : w.cell? ⟨gn, 3, none⟩ = some (.string a.text)
  c4 : w.cell? ⟨gn, 4, none⟩ = some (.bool a.odd)
  c5 : w.cell? ⟨gn, 5, none⟩ = some (.int .i64 a.after)
  cw : w.cell? ⟨g3, i, none⟩ = some (.string y)
  fw : w.frozen? ⟨g3, i, none⟩ = false
theorem LiveX.nextSeen {W w : World} {b gn g2 g3 i : Nat} {D : DS} {a : AC} {O2 : Obj} {cur : Array Value} {y : ByteArray} (l : LiveX W w b D [(g3, .cells cur 9 (0, 0)), (g2, O2), (gn, .cells (actCells a) 34 (0, 0))]) (hc : cur[i]? = some (.string y)) : NextSeen w gn g3 i a y := by
  have bn := l.blk (p := (gn, .cells (actCells a) 34 (0, 0))) (by simp)
  have b3 := l.blk (p := (g3, .cells cur 9 (0, 0))) (by simp)
  refine ⟨?_, ?_, ?_, ?_, ?_, ?_, ?_, frozen_of_blk b3 i⟩
  · rw [cell_of_blk bn]; rfl
  · rw [cell_of_blk bn]; rfl
  · rw [cell_of_blk bn]; rfl
  · rw [cell_of_blk bn]; rfl
  · rw [cell_of_blk bn]; rfl
  · rw [cell_of_blk bn]; rfl
  · rw [cell_of_blk b3]; exact hc
theorem LiveX.textN {W w w1 : World} {b gn g2 g3 i : Nat} {D : DS} {a : AC} {O2 : Obj} {cur : Array Value} {y : ByteArray} (l : LiveX W w b D [(g3, .cells cur 9 (0, 0)), (g2, O2), (gn, .cells (actCells a) 34 (0, 0))]) (hc : cur[i]? = some (.string y)) (ht : a.text.size ≤ 100) (c : Chg (fun _ => False) w w1) :
    Calls Try.prog 23 #[.agg #[.int .i64 a.kind, .int .i64 a.sector, .int .i64 a.bytes, .string a.text, .bool a.odd, .int .i64 a.after]] w1 fun e w' => e = .returned (.string a.txt) ∧ NextSeen w' gn g3 i a y ∧ Hid (LiveX W w' b D [(g3, .cells cur 9 (0, 0)), (g2, O2), (gn, .cells (actCells a) 34 (0, 0))]) := by
  refine (text_ok a w1 ht).mono ?_
  rintro e w' ⟨he, c'⟩
  have l' := l.kept (c.trans c' (fun _ _ h => h))
  exact ⟨he, l'.nextSeen hc, l'⟩
theorem StrsAt.set {w : World} {g i : Nat} {l : List ByteArray} (h : StrsAt w (some ⟨g, 0, none⟩) l) (hi : i < l.length) (s : ByteArray) : StrsAt (w.setCell ⟨g, i, none⟩ (.string s)) (some ⟨g, 0, none⟩) (l.set i s) := by
  intro k hk
  have hk' : k < l.length := by simpa using hk
  refine ⟨g, 0, rfl, ?_⟩
  rw [Nat.zero_add]
  by_cases hki : i = k
  · subst hki
    rw [World.cell?_setCell_same _ _ _ (h.get i hi rfl)]
    simp
  · rw [World.cell?_setCell_other _ _ _ _ (by intro e; simp only [Addr.mk.injEq, and_true, true_and] at e; omega), h.get k hk' rfl, List.getElem_set_ne hki]
theorem ents_take (g : List AC) (w : Nat) : ents (g.take w) = (ents g).take w := by simp [ents, List.map_take]
theorem goods_mem {n : Nat} {l : List AC} {a : AC} (h : a ∈ goods n l) : a ∈ l ∧ goodB n a = true := List.mem_filter.1 h
theorem ba_extract2 (s : ByteArray) (a b : Nat) : ba (s.extract a b) = ((ba s).drop a).take (b - a) := by simp [ba]
/-- Behind the last store. -/
def Stored (W wx : World) (b : Nat) (F : DS) (cur : Array Value) (g3 g2 gn : Nat) (O2 : Obj) (nx : AC) (s : ByteArray) : Prop :=
  ∃ u1, Hid (LiveX W u1 b F [(g3, .cells cur 9 (0, 0)), (g2, O2), (gn, .cells (actCells nx) 34 (0, 0))]) ∧ wx = u1.setCell ⟨g3, nx.sector.toNat, none⟩ (.string s)
/-- What holds at the head of the loop of writes. -/
def PfxRel (W wr : World) (b n : Nat) (C : DS) (more : List AC) (writes gn k d : Nat) : Prop :=
  LiveX W wr b (C.withq (ents (goods n (more.take k)))) [(gn, .cells (actCells (nextOf (goods n (more.take k)) writes)) 34 (0, 0))] ∧ d = (goods n (more.take k)).length

set_option maxRecDepth 100000 in
set_option maxHeartbeats 8000000 in
theorem prefix_no0 {w : World} (r : Nat) (_hr : r < 256) (A : Option Addr) (c : Nat) (l : List AC) (hacts : ActsAt w A l) (hl : l.length ≤ 9223372036854775807) (hf : ∀ a ∈ l, a.fine) (A' : Option Addr) (c' : Nat) (more : List AC) (_hacts' : ActsAt w A' more) (_hl' : more.length ≤ 9223372036854775807) (_hf' : ∀ a ∈ more, a.fine) (fi : Nat) (_hfi : fi < 256) (tn : Nat) (_htn : tn < 256) (hok : okB l = false) :
    Calls Try.prog 5 #[.int .u8 (r : Int), .slice A l.length c, .slice A' more.length c', .int .u8 (fi : Int), .int .u8 (tn : Int)] w fun e w' => e = .returned (.bool true) ∧ Chg (fun _ => False) w w' := by
  have HO := Lib.hid (fun w (h : ActsAt w A l) => ok_ok A c l w h hl (fun a ha => (hf a ha).1))
  rw [hok] at HO
  have HA := Lib.hid hacts
  clear hacts hf hok
  go_enter Try.func5, Try.ntmps5
  go_wp2_with (fail)
  refine (head_ok _).mono ?_
  rintro e w1 ⟨rfl, c1⟩
  have C1 := Lib.hid c1
  clear c1
  go_wp2_with (fail)
  refine (HO.out _ (HA.out.kept C1.out)).mono ?_
  rintro e w2 ⟨rfl, rfl⟩
  go_wp2
  go_ret
  exact ⟨rfl, C1.out⟩

set_option maxRecDepth 100000 in
set_option maxHeartbeats 8000000 in
theorem prefix_no1 {w : World} (r : Nat) (_hr : r < 256) (A : Option Addr) (c : Nat) (l : List AC) (hacts : ActsAt w A l) (hl : l.length ≤ 9223372036854775807) (hf : ∀ a ∈ l, a.fine) (A' : Option Addr) (c' : Nat) (more : List AC) (hacts' : ActsAt w A' more) (hl' : more.length ≤ 9223372036854775807) (hf' : ∀ a ∈ more, a.fine) (fi : Nat) (_hfi : fi < 256) (tn : Nat) (_htn : tn < 256) (hok : okB l = true) (hok' : okB more = false) :
    Calls Try.prog 5 #[.int .u8 (r : Int), .slice A l.length c, .slice A' more.length c', .int .u8 (fi : Int), .int .u8 (tn : Int)] w fun e w' => e = .returned (.bool true) ∧ Chg (fun _ => False) w w' := by
  have HO := Lib.hid (fun w (h : ActsAt w A l) => ok_ok A c l w h hl (fun a ha => (hf a ha).1))
  rw [hok] at HO
  have HA := Lib.hid hacts
  have HO' := Lib.hid (fun w (h : ActsAt w A' more) => ok_ok A' c' more w h hl' (fun a ha => (hf' a ha).1))
  rw [hok'] at HO'
  have HA' := Lib.hid hacts'
  clear hacts hf hacts' hf' hok hok'
  go_enter Try.func5, Try.ntmps5
  go_wp2_with (fail)
  refine (head_ok _).mono ?_
  rintro e w1 ⟨rfl, c1⟩
  have C1 := Lib.hid c1
  clear c1
  go_wp2_with (fail)
  refine (HO.out _ (HA.out.kept C1.out)).mono ?_
  rintro e w2 ⟨rfl, rfl⟩
  go_wp2_with (fail)
  refine (HO'.out _ (HA'.out.kept C1.out)).mono ?_
  rintro e w2 ⟨rfl, rfl⟩
  go_wp2
  go_ret
  exact ⟨rfl, C1.out⟩

set_option maxRecDepth 100000 in
set_option maxHeartbeats 40000000 in
theorem prefix_yes {w : World} (r : Nat) (hr : r < 256) (A : Option Addr) (c : Nat) (l : List AC) (hacts : ActsAt w A l) (hl : l.length ≤ 9223372036854775807) (hf : ∀ a ∈ l, a.fine) (A' : Option Addr) (c' : Nat) (more : List AC) (hacts' : ActsAt w A' more) (hl' : more.length ≤ 9223372036854775807) (hf' : ∀ a ∈ more, a.fine) (fi : Nat) (hfi : fi < 256) (tn : Nat) (htn : tn < 256) (hok : okB l = true) (hok' : okB more = true) :
    Calls Try.prog 5 #[.int .u8 (r : Int), .slice A l.length c, .slice A' more.length c', .int .u8 (fi : Int), .int .u8 (tn : Int)] w fun e w' => e = .returned (.bool true) ∧ Chg (fun _ => False) w w' := by
  have HO := Lib.hid (fun w (h : ActsAt w A l) => ok_ok A c l w h hl (fun a ha => (hf a ha).1))
  rw [hok] at HO
  have HA := Lib.hid hacts
  have hlen := okB_len hok
  have Htx := Lib.hid (okB_text hok)
  have Hf := Lib.hid hf
  have HO' := Lib.hid (fun w (h : ActsAt w A' more) => ok_ok A' c' more w h hl' (fun a ha => (hf' a ha).1))
  rw [hok'] at HO'
  have HA' := Lib.hid hacts'
  have hlen' := okB_len hok'
  have Htx' := Lib.hid (okB_text hok')
  have Hf' := Lib.hid hf'
  obtain ⟨n, hn⟩ : ∃ n, n = 1 + r % 12 := ⟨_, rfl⟩
  have HS := Lib.hid (fun w => size_ok r w hr)
  rw [← hn] at HS
  have hn1 : 1 ≤ n := by omega
  have hn2 : n ≤ 12 := by omega
  clear hn hacts hf hok hacts' hf' hok'
  obtain ⟨wv, hwv⟩ : ∃ wv : Nat, wv = fi % 61 := ⟨_, rfl⟩
  have hw60 : wv ≤ 60 := by omega
  have ew : (fi : Int) % 61 = (wv : Int) := by omega
  obtain ⟨bv, hbv⟩ : ∃ bv : Nat, bv = tn % 33 := ⟨_, rfl⟩
  have hb32 : bv ≤ 32 := by omega
  have eb : (tn : Int) % 33 = (bv : Int) := by omega
  clear hwv hbv
  go_enter Try.func5, Try.ntmps5
  go_wp2_with (fail)
  refine (head_ok _).mono ?_
  rintro e w1 ⟨rfl, c1⟩
  have C1 := Lib.hid c1
  clear c1
  go_wp2_with (fail)
  refine (HO.out _ (HA.out.kept C1.out)).mono ?_
  rintro e w2 ⟨rfl, rfl⟩
  go_wp2_with (fail)
  refine (HO'.out _ (HA'.out.kept C1.out)).mono ?_
  rintro e w2 ⟨rfl, rfl⟩
  go_wp2_with (fail)
  refine (HS.out _).mono ?_
  rintro e w2 ⟨rfl, rfl⟩
  go_wp2_with (fail)
  refine (live_new w _ C1.out n hn1 (by omega)).mono ?_
  rintro e w2 ⟨b1, rfl, l1⟩
  have R0 : ActRel w n l b1 0 w2 := l1
  clear l1
  go_wp2
  go_loopw [16] (fun i wr => ∃ k : Nat, k ≤ l.length ∧ i = .int .i64 k ∧ ActRel w n l b1 k wr) (fun i _ => l.length - (intOf i).toNat)
  case atStart => exact ⟨0, Nat.zero_le _, rfl, R0⟩
  case round =>
    obtain ⟨k, hk, rfl, rel⟩ := hrel
    by_cases hlt : k < l.length
    · obtain ⟨ab, off, rfl, seen⟩ := (HA.out.kept (Live.chg rel)).seen k hlt
      have hq : ((DS.new n).acts (l.take k)).q.length < 1000 := by
        have h1 := DS.acts_len (DS.new n) (l.take k)
        rw [List.length_take] at h1
        have h2 : (DS.new n).q.length = 0 := rfl
        omega
      have hmem := List.getElem_mem hlt
      have ht := Htx.out _ hmem
      have hfi := (Hf.out _ hmem).2.2.2
      have e : (DS.new n).acts (l.take (k + 1)) = (((DS.new n).acts (l.take k)).act l[k]).2 := by rw [take_snoc' l k hlt, DS.acts_snoc]
      obtain ⟨D, hD⟩ : ∃ D, D = (DS.new n).acts (l.take k) := ⟨_, rfl⟩
      rw [← hD] at hq e
      have rel' : Live w wr b1 D := by rw [hD]; exact rel
      obtain ⟨a, ha⟩ : ∃ a, a = l[k] := ⟨_, rfl⟩
      rw [← ha] at seen ht hfi e
      have E := Lib.hid e
      have Ha := Lib.hid ha
      obtain ⟨c0, c1, c2, c3, c4, c5, blt⟩ := seen
      have REL := Lib.hid rel'
      clear rel rel' e hD ha hmem R0
      obtain ⟨k1, s1, y1, t1, o1, f1⟩ := a
      dsimp only at c0 c1 c2 c3 c4 c5 ht hfi
      go_wp2_with (fail)
      refine (REL.out.act ⟨k1, s1, y1, t1, o1, f1⟩ hq ht hfi).mono ?_
      rintro e w5 ⟨rfl, rel5⟩
      have REL5 := Lib.hid rel5
      clear rel5
      go_wp2
      go_roundw
      case rel => exact ⟨k + 1, by omega, by go_num, by unfold ActRel; rw [E.out]; exact REL5.out⟩
      case measure => simp [intOf]; omega
    · have ek : k = l.length := by omega
      have rel' : Live w wr b1 ((DS.new n).acts l) := by
        have := rel
        unfold ActRel at this
        rw [ek, List.take_length] at this
        exact this
      have hq : ((DS.new n).acts l).q.length ≤ 60 := by
        have h1 := DS.acts_len (DS.new n) l
        have h2 : (DS.new n).q.length = 0 := rfl
        omega
      have hnn : ((DS.new n).acts l).n = n := DS.n_acts _ _
      clear R0 rel
      obtain ⟨B, hB⟩ : ∃ B, B = ((DS.new n).acts l).start := ⟨_, rfl⟩
      have hBo : B.off = false := by rw [hB]; rfl
      have hBa : B.arm = none := by rw [hB]; rfl
      have hBq : B.q.length ≤ 60 := by rw [hB]; exact hq
      have hBn : B.n = n := by rw [hB]; exact hnn
      have HB := Lib.hid hB; have REL := Lib.hid rel'.x
      have SB := Lib.hid (DS.sync_started B hBo hBa)
      obtain ⟨C, hC⟩ : ∃ C, C = B.clean := ⟨_, rfl⟩
      have CE := Lib.hid (show C = cleanOf n l by rw [hC, hB]; rfl)
      rw [← hC] at SB
      have Co := Lib.hid (show C.off = false by rw [hC]; show (B.settle B.q).off = false; rw [(DS.settle_rest _ _).2.2.1]; exact hBo)
      have Ca := Lib.hid (show C.arm = none by rw [hC]; show (B.settle B.q).arm = none; rw [(DS.settle_rest _ _).2.2.2]; exact hBa)
      have Cq := Lib.hid (show C.q = [] by rw [hC]; rfl)
      have Cn := Lib.hid (show C.n = n by rw [hC]; show (B.settle B.q).n = n; rw [(DS.settle_rest _ _).2.1]; exact hBn)
      have HBo := Lib.hid hBo; have HBa := Lib.hid hBa; have HBn := Lib.hid hBn
      clear rel' hB hnn ek hBo hBa hBn hC
      go_wp2_with (fail)
      refine (REL.out.start).mono ?_
      rintro e w4 ⟨rfl, r4⟩
      rw [← HB.out] at r4
      have R4 := Lib.hid r4
      clear r4
      go_wp2_with (fail)
      refine (R4.out.sync (by omega)).mono ?_
      rintro e w5 ⟨rfl, r5⟩
      rw [SB.out]
      rw [SB.out] at r5
      have R5 := Lib.hid r5
      clear r5
      go_upto_region 16 with (fail)
      have A0 : PfxRel w (w5.alloc (.cells #[.int .i64 0, .int .i64 (-1), .int .i64 0, .string { data := #[] }, .bool false, .int .i64 0] 34)) b1 n C more wv w5.heap.size 0 0 := ⟨by
        have := R5.out.alloc (.cells #[.int .i64 0, .int .i64 (-1), .int .i64 0, .string { data := #[] }, .bool false, .int .i64 0] 34)
        rw [DS.withq_self C Cq.out] at this
        exact this, rfl⟩
      obtain ⟨gn, hgn⟩ : ∃ gn, gn = w5.heap.size := ⟨_, rfl⟩
      obtain ⟨w6, hw6⟩ : ∃ w6, w6 = w5.alloc (.cells #[.int .i64 0, .int .i64 (-1), .int .i64 0, .string { data := #[] }, .bool false, .int .i64 0] 34) := ⟨_, rfl⟩
      rw [← hgn, ← hw6] at A0
      rw [← hgn, ← hw6]
      clear hgn hw6
      go_wp2
      go_loopw [17, 19] (fun dv iv wr => ∃ k d : Nat, k ≤ more.length ∧ iv = .int .i64 k ∧ dv = .int .i64 d ∧ PfxRel w wr b1 n C more wv gn k d) (fun _ iv _ => more.length - (intOf iv).toNat)
      case atStart => exact ⟨0, 0, Nat.zero_le _, rfl, rfl, A0⟩
      case round =>
        obtain ⟨k2, d, hk2, rfl, rfl, lx, hd⟩ := hrel
        clear A0
        have hdk : d ≤ k2 := by
          rw [hd]
          refine Nat.le_trans (goods_le _ _) ?_
          rw [List.length_take]; omega
        have Hd := Lib.hid hd
        obtain ⟨nx, hnx⟩ : ∃ nx, nx = nextOf (goods n (more.take k2)) wv := ⟨_, rfl⟩
        rw [← hnx] at lx
        have LX := Lib.hid lx
        have NX := Lib.hid hnx
        obtain ⟨D, hD⟩ : ∃ D, D = C.withq (ents (goods n (more.take k2))) := ⟨_, rfl⟩
        have hDq : D.q.length ≤ 60 := by rw [hD]; show (ents _).length ≤ 60; rw [ents_length]; omega
        have HD := Lib.hid hD
        have LX : Hid (LiveX w wr b1 D [(gn, .cells (actCells nx) 34 (0, 0))]) := by rw [hD]; exact LX
        have Do := Lib.hid (show D.off = false by rw [hD]; exact Co.out)
        have Da := Lib.hid (show D.arm = none by rw [hD]; exact Ca.out)
        have Dn := Lib.hid (show D.n = n by rw [hD]; exact Cn.out)
        clear lx hD hd hnx
        by_cases hlt2 : k2 < more.length
        · obtain ⟨ab2, off2, rfl, seen0⟩ := HA'.out.seen k2 hlt2
          have hmem := List.getElem_mem hlt2
          have ht2 := Htx'.out _ hmem
          have hsn := goods_snoc n more k2 hlt2
          obtain ⟨a, ha⟩ : ∃ a, a = more[k2] := ⟨_, rfl⟩
          rw [← ha] at seen0 ht2 hsn
          have SEEN := Lib.hid (Lib.hid seen0)
          clear ha hmem seen0
          obtain ⟨c0, c1, c2, c3, c4, c5, blt⟩ := SEEN.out.out.kept LX.out.chg
          have wb := DS.write_good D Do.out Da.out Dn.out a
          cases hg : goodB n a with
          | false =>
            rw [hg, if_neg (by decide)] at wb
            rw [hg, if_neg (by decide), List.append_nil] at hsn
            have WB := Lib.hid wb
            have SN := Lib.hid hsn
            clear wb hsn hg
            go_wp2_with (fail)
            go_region_held3 (fun w' => w'.cell? ⟨ab2, off2 + k2 * 6, none⟩ = some (.int .i64 a.kind) ∧ w'.cell? ⟨ab2, off2 + k2 * 6 + 1, none⟩ = some (.int .i64 a.sector) ∧ w'.cell? ⟨ab2, off2 + k2 * 6 + 2, none⟩ = some (.int .i64 a.bytes) ∧ w'.cell? ⟨ab2, off2 + k2 * 6 + 3, none⟩ = some (.string a.text) ∧ w'.cell? ⟨ab2, off2 + k2 * 6 + 4, none⟩ = some (.bool a.odd) ∧ w'.cell? ⟨ab2, off2 + k2 * 6 + 5, none⟩ = some (.int .i64 a.after)) (first | go_keep | simp [*])
              (first | (go_at_call 23; refine (LiveX.textL LX.out SEEN.out ht2 ?_).mono ?_; exact (Chg.refl _ _).drew; rintro e u1t ⟨rfl, ⟨c0, c1, c2, c3, c4, c5, blt⟩, Q1t⟩) | (go_at_call 22; refine (LiveX.writeL Q1t.out SEEN.out ht2 (by omega)).mono ?_; rintro e u1 ⟨rfl, ⟨c0, c1, c2, c3, c4, c5, blt⟩, Q1⟩))
            rw [WB.out] at Q1
            rw [WB.out]
            go_wp2
            go_roundw
            case rel =>
              refine ⟨k2 + 1, d, by omega, by go_num, rfl, ?_, ?_⟩
              · rw [SN.out, ← HD.out, ← NX.out]; exact Q1.out
              · rw [SN.out]; exact Hd.out
            case measure => simp [intOf]; omega
          | true =>
            rw [hg, if_pos rfl] at wb
            rw [hg, if_pos rfl] at hsn
            have WB := Lib.hid wb
            have SN := Lib.hid hsn
            clear wb hsn hg
            go_wp2_with (fail)
            go_region_held3 (fun w' => w'.cell? ⟨ab2, off2 + k2 * 6, none⟩ = some (.int .i64 a.kind) ∧ w'.cell? ⟨ab2, off2 + k2 * 6 + 1, none⟩ = some (.int .i64 a.sector) ∧ w'.cell? ⟨ab2, off2 + k2 * 6 + 2, none⟩ = some (.int .i64 a.bytes) ∧ w'.cell? ⟨ab2, off2 + k2 * 6 + 3, none⟩ = some (.string a.text) ∧ w'.cell? ⟨ab2, off2 + k2 * 6 + 4, none⟩ = some (.bool a.odd) ∧ w'.cell? ⟨ab2, off2 + k2 * 6 + 5, none⟩ = some (.int .i64 a.after)) (first | go_keep | simp [*])
              (first | (go_at_call 23; refine (LiveX.textL LX.out SEEN.out ht2 ?_).mono ?_; exact (Chg.refl _ _).drew; rintro e u1t ⟨rfl, ⟨c0, c1, c2, c3, c4, c5, blt⟩, Q1t⟩) | (go_at_call 22; refine (LiveX.writeL Q1t.out SEEN.out ht2 (by omega)).mono ?_; rintro e u1 ⟨rfl, ⟨c0, c1, c2, c3, c4, c5, blt⟩, Q1⟩))
            rw [WB.out] at Q1
            rw [WB.out]
            by_cases hdw : d = wv
            · subst hdw
              have td : ((d : Int) == (d : Int)) = true := by simp
              go_wp2_with (refine wpList_storeAct Q1 a rfl (.tmp 18) (.tmp 86) rfl rfl rfl ?_; intro W' QX)
              go_roundw
              case rel =>
                refine ⟨k2 + 1, d + 1, by omega, by go_num, by go_num, ?_, ?_⟩
                · rw [SN.out, ← DS.push_withq, ← HD.out]
                  have e : nextOf (goods n (more.take k2) ++ [a]) d = a := by
                    rw [Hd.out]
                    exact next_same _ _
                  rw [e]; exact QX.out
                · rw [SN.out, List.length_append, ← Hd.out]; rfl
              case measure => simp [intOf]; omega
            · have td : ((d : Int) == (wv : Int)) = false := by simp; omega
              go_wp2
              go_roundw
              case rel =>
                refine ⟨k2 + 1, d + 1, by omega, by go_num, by go_num, ?_, ?_⟩
                · rw [SN.out, ← DS.push_withq, ← HD.out]
                  have e : nextOf (goods n (more.take k2) ++ [a]) wv = nx := by
                    rw [NX.out]
                    exact next_other _ _ _ (by rw [← Hd.out]; exact hdw)
                  rw [e]; exact Q1.out
                · rw [SN.out, List.length_append, ← Hd.out]; rfl
              case measure => simp [intOf]; omega
        · have ek2 : k2 = more.length := by omega
          have tl : decide ((k2 : Int) < (more.length : Int)) = false := by simp; omega
          have hGd : goods n (more.take k2) = goods n more := by rw [ek2, List.take_length]
          obtain ⟨Gd, hGd2⟩ : ∃ Gd, Gd = goods n more := ⟨_, rfl⟩
          rw [hGd, ← hGd2] at NX HD
          have GD := Lib.hid hGd2
          clear hGd hGd2 Hd hlt2
          have CW := Lib.hid R5.out.wf
          have EP := Lib.hid (show ∀ p ∈ ents Gd, p.1 < C.n ∧ p.2.size = 64 by
            intro p hp
            rw [GD.out] at hp
            unfold ents at hp
            rw [List.mem_map] at hp
            obtain ⟨a, ha, rfl⟩ := hp
            have := goodB_true (goods_mem ha).2
            rw [Cn.out]
            exact ⟨by show a.sector.toNat < n; omega, this.2.2⟩)
          obtain ⟨F, hF⟩ : ∃ F, F = (D.fail wv bv).start := ⟨_, rfl⟩
          have HF := Lib.hid hF
          have Fo := Lib.hid (show F.off = false by rw [hF]; rfl)
          have Fn := Lib.hid (show F.n = n by rw [hF]; show (D.fail wv bv).n = n; rw [DS.n_fail, Dn.out])
          have hFq : F.q.length ≤ 1000 := by rw [hF]; show (D.fail wv bv).q.length ≤ 1000; exact Nat.le_trans (DS.len_fail _ _ _) (by omega)
          have fc0 := fail_conts C CW.out Co.out (ents Gd) EP.out wv bv (by omega)
          rw [← HD.out, ← hF] at fc0
          have FC := Lib.hid fc0
          clear fc0
          obtain ⟨Q, hQ⟩ : ∃ Q, Q = C.withq ((ents Gd).take wv) := ⟨_, rfl⟩
          have HQ := Lib.hid hQ
          have Qn := Lib.hid (show Q.n = n by rw [hQ]; exact Cn.out)
          have QE := Lib.hid (show (cleanOf n l).withq (ents ((goods n more).take wv)) = Q by rw [hQ, CE.out, GD.out, ents_take])
          have QW := Lib.hid (show ∀ i, (Q.peek i).size = 64 from fun i => (show Q.wf by
            rw [hQ]; exact ⟨CW.out.n1, CW.out.n2, CW.out.stl, CW.out.ell, fun p hp => EP.out p (List.mem_of_mem_take hp), CW.out.arm⟩).peek i)
          clear hF hQ
          go_wp2_with (fail)
          refine (LX.out.fail wv bv (by omega)).mono ?_
          rintro e v1 ⟨rfl, p1⟩
          have LF := Lib.hid p1
          clear p1
          go_wp2_with (fail)
          refine (LF.out.start).mono ?_
          rintro e v2 ⟨rfl, p2⟩
          rw [← HF.out] at p2
          have LS := Lib.hid p2
          clear p2
          go_wp2_with (fail)
          refine (LS.out.contents Fo.out hFq Fn.out).mono ?_
          rintro e v3 ⟨g2, cp2, O2, rfl, G2, P2⟩
          go_wp2_with (fail)
          refine (prefix_ok n hn1 hn2 A c l (HA.out.kept P2.out.chg) Hf.out A' c' more (HA'.out.kept P2.out.chg) hlen hlen' Htx.out Htx'.out wv hw60).mono ?_
          rintro e v4 ⟨g3, cp3, rfl, got3, ch3⟩
          rw [QE.out] at got3
          obtain ⟨cur, hcur, hcs⟩ := Got.cells got3.out (by rw [DS.conts_length, Qn.out]; omega)
          have G3 := Lib.hid (got3.out.at_.out.obj hcur)
          have G3v := Lib.hid got3.out.at_.out
          have N23 := Lib.hid (show g2 ≠ g3 by have := lt_of_heap (P2.out.blk (p := (g2, O2)) (by simp)); have h2 := got3.out.lo; dsimp only at this; omega)
          have NN3 := Lib.hid (show gn ≠ g3 by have := lt_of_heap (P2.out.blk (p := (gn, .cells (actCells nx) 34 (0, 0))) (by simp)); have h2 := got3.out.lo; dsimp only at this; omega)
          have L4 := Lib.hid (P2.out.more ch3.out got3.out.lo hcur)
          have CS := Lib.hid hcs
          clear got3 ch3 hcur hcs
          cases hgw : Gd[wv]? with
          | none =>
            have hnx : nx = noAct := by rw [NX.out]; unfold nextOf; rw [hgw]; rfl
            have hfc : F.conts = Q.conts := by
              have := FC.out
              rw [ents_get, hgw] at this
              rw [this, HQ.out]; rfl
            have c1 : v4.cell? ⟨gn, 1, none⟩ = some (.int .i64 (-1)) := by
              rw [cell_of_blk (L4.out.blk (p := (gn, .cells (actCells nx) 34 (0, 0))) (by simp)), hnx]; rfl
            have sm := same_ok (some ⟨g2, 0, none⟩) (some ⟨g3, 0, none⟩) cp2 cp3 F.conts Q.conts v4 (L4.out.strs (by simp) G2.out) G3v.out (by rw [DS.conts_length, Fn.out]; omega) (by rw [DS.conts_length, Qn.out]; omega)
            rw [DS.conts_length, DS.conts_length, Fn.out, Qn.out, show decide (F.conts = Q.conts) = true from decide_eq_true hfc] at sm
            have SM := Lib.hid sm
            have tn1 : decide ((n : Int) ≤ -1) = false := by simp; omega
            clear sm hnx hfc hgw
            go_wp2_with (fail)
            refine SM.out.mono ?_
            rintro e v5 ⟨rfl, c15⟩
            have C15 := Lib.hid (L4.out.chg.trans c15 (fun _ _ h => h))
            clear c15
            go_wp2
            go_ret
            exact ⟨rfl, C15.out⟩
          | some a =>
            have hnx : nx = a := by rw [NX.out]; unfold nextOf; rw [hgw]; rfl
            subst hnx
            have hmem := goods_mem (show nx ∈ goods n more by rw [← GD.out]; exact List.mem_of_getElem? hgw)
            have ht3 := Htx'.out nx hmem.1
            have hgd := goodB_true hmem.2
            have hin : nx.sector.toNat < n := by omega
            have s1 := hgd.1
            have s2 := hgd.2.1
            have t1 : decide (0 ≤ nx.sector) = true := by simp; omega
            have t2 : decide ((n : Int) ≤ nx.sector) = false := by simp; omega
            obtain ⟨y, hy⟩ : ∃ y, y = Q.peek nx.sector.toNat := ⟨_, rfl⟩
            have hcy : cur[nx.sector.toNat]? = some (.string y) := CS.out _ y (by
              rw [List.getElem?_eq_getElem (by rw [DS.conts_length, Qn.out]; exact hin), DS.conts_get, hy])
            have hys : y.size = 64 := by rw [hy]; exact QW.out _
            obtain ⟨x, hx⟩ : ∃ x, x = nx.txt := ⟨_, rfl⟩
            have hxs : x.size = 64 := by rw [hx]; exact hgd.2.2
            have TX := Lib.hid (fun w1 (c : Chg (fun _ => False) v4 w1) => L4.out.textN hcy ht3 c)
            rw [← hx] at TX
            obtain ⟨c0, c1, c2, c3, c4, c5, z6, z7⟩ := L4.out.nextSeen hcy
            have hfc : F.conts = Q.conts.set nx.sector.toNat (mkB ((ba x).take bv ++ (ba y).drop bv)) := by
              have := FC.out
              rw [ents_get, hgw] at this
              rw [this, HQ.out]
              show (C.withq ((ents Gd).take wv)).conts.set nx.sector.toNat (mkB ((ba nx.txt).take bv ++ (ba ((C.withq ((ents Gd).take wv)).peek nx.sector.toNat)).drop bv)) = _
              rw [← hx, hy, HQ.out]
            have HFC := Lib.hid hfc
            have HX := Lib.hid hx; have HY := Lib.hid hy
            have b1' : (bv : Int) ≤ 64 := by omega
            have b2' : bv ≤ 64 := by omega
            clear hfc hgw hmem hgd hx hy hcy
            go_upto_region 30 with (fail)
            go_cut [] (fun wx => Stored w wx b1 F cur g3 g2 gn O2 nx (x.extract 0 bv ++ y.extract bv 64))
            case first =>
              go_region_law (first | (go_simp; go_at_call 23; refine (TX.out _ ?_).mono ?_; exact (Chg.refl _ _).drew; rintro e u1 ⟨rfl, ⟨c0, c1, c2, c3, c4, c5, z6, z7⟩, L5⟩))
              all_goals (go_wp2_with fail)
              all_goals go_meet
              all_goals exact ⟨_, L5, rfl⟩
            case rest =>
              obtain ⟨u1, L5, rfl⟩ := hcut
              have hs : x.extract 0 bv ++ y.extract bv 64 = mkB ((ba x).take bv ++ (ba y).drop bv) := by
                apply eq_of_ba
                have hl := ba_length y
                rw [hys] at hl
                rw [ba_mkB, ba_append, ba_extract, ba_extract2, List.take_of_length_le (l := (ba y).drop bv) (by rw [List.length_drop, hl]; exact Nat.le_refl _)]
              have hfc := HFC.out
              rw [← hs] at hfc
              have L6 := L5.out.store (fun p hp => by
                simp only [List.mem_cons, List.not_mem_nil, or_false] at hp
                rcases hp with rfl | rfl
                · exact N23.out
                · exact NN3.out) nx.sector.toNat (.string (x.extract 0 bv ++ y.extract bv 64))
              have s3 := (G3.out u1 (L5.out.blk (p := (g3, .cells cur 9 (0, 0))) (by simp))).set (i := nx.sector.toNat) (by rw [DS.conts_length, Qn.out]; exact hin) (x.extract 0 bv ++ y.extract bv 64)
              obtain ⟨w9, hw9⟩ : ∃ w9, w9 = u1.setCell ⟨g3, nx.sector.toNat, none⟩ (.string (x.extract 0 bv ++ y.extract bv 64)) := ⟨_, rfl⟩
              rw [← hw9] at L6 s3
              rw [← hw9]
              have sm := same_ok (some ⟨g2, 0, none⟩) (some ⟨g3, 0, none⟩) cp2 cp3 F.conts (Q.conts.set nx.sector.toNat (x.extract 0 bv ++ y.extract bv 64)) w9 (L6.strs (by simp) G2.out) s3 (by rw [DS.conts_length, Fn.out]; omega) (by rw [List.length_set, DS.conts_length, Qn.out]; omega)
              rw [DS.conts_length, List.length_set, DS.conts_length, Fn.out, Qn.out, decide_eq_true hfc] at sm
              have SM := Lib.hid sm
              have L7 := Lib.hid L6
              clear sm hfc hs L6 s3 hw9 z6 z7 c0 c1 c2 c3 c4 c5
              go_wp2_with (fail)
              refine SM.out.mono ?_
              rintro e v5 ⟨rfl, c15⟩
              have C15 := Lib.hid (L7.out.chg.trans c15 (fun _ _ h => h))
              clear c15
              go_wp2
              go_ret
              exact ⟨rfl, C15.out⟩

theorem prefix_walk {w : World} (r : Nat) (hr : r < 256) (A : Option Addr) (c : Nat) (l : List AC) (hacts : ActsAt w A l) (hl : l.length ≤ 9223372036854775807) (hf : ∀ a ∈ l, a.fine) (A' : Option Addr) (c' : Nat) (more : List AC) (hacts' : ActsAt w A' more) (hl' : more.length ≤ 9223372036854775807) (hf' : ∀ a ∈ more, a.fine) (fi : Nat) (hfi : fi < 256) (tn : Nat) (htn : tn < 256) (w' : World) (hw : w' = w := by rfl) :
    Calls Try.prog 5 #[.int .u8 (r : Int), .slice A l.length c, .slice A' more.length c', .int .u8 (fi : Int), .int .u8 (tn : Int)] w' fun e w'' => e = .returned (.bool true) ∧ Chg (fun _ => False) w' w'' := by
  subst hw
  cases hok : okB l with
  | false => exact prefix_no0 r hr A c l hacts hl hf A' c' more hacts' hl' hf' fi hfi tn htn hok
  | true =>
    cases hok' : okB more with
    | false => exact prefix_no1 r hr A c l hacts hl hf A' c' more hacts' hl' hf' fi hfi tn htn hok hok'
    | true => exact prefix_yes r hr A c l hacts hl hf A' c' more hacts' hl' hf' fi hfi tn htn hok hok'

end Go.Proofs.Ytageboekobkdcaa

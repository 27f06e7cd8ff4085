/- DiskStable, walked. -/
import Derived.Test.YtageboekobkdcaaX
namespace Go.Proofs.Ytageboekobkdcaa
open Go.RowKit

/-- What holds at the head of the loop of writes. -/
def StabRel (W wr : World) (b n : Nat) (C : DS) (g1 : Nat) (O1 : Obj) (gw k : Nat) : Prop :=
  ∃ (D : DS) (f : Nat → Bool), LiveX W wr b D [(gw, .cells (boolCells n f) 4 (0, 0)), (g1, O1)] ∧ D.off = false ∧ D.arm = none ∧ D.n = n ∧ D.st = C.st ∧ D.q.length ≤ k ∧ ∀ p ∈ D.q, f p.1 = true

set_option maxRecDepth 100000 in
set_option maxHeartbeats 8000000 in
theorem stable_no0 {w : World} (r : Nat) (_hr : r < 256) (A : Option Addr) (c : Nat) (l : List AC) (hacts : ActsAt w A l) (hl : l.length ≤ 9223372036854775807) (hf : ∀ a ∈ l, a.fine) (A' : Option Addr) (c' : Nat) (more : List AC) (_hacts' : ActsAt w A' more) (_hl' : more.length ≤ 9223372036854775807) (_hf' : ∀ a ∈ more, a.fine) (wr_ : Int) (_hwr_ : -9223372036854775808 ≤ wr_ ∧ wr_ ≤ 9223372036854775807) (by_ : Int) (_hby_ : -9223372036854775808 ≤ by_ ∧ by_ ≤ 9223372036854775807) (hok : okB l = false) :
    Calls Try.prog 4 #[.int .u8 (r : Int), .slice A l.length c, .slice A' more.length c', .int .i64 wr_, .int .i64 by_] w fun e w' => e = .returned (.bool true) ∧ Chg (fun _ => False) w w' := by
  have HO := Lib.hid (fun w (h : ActsAt w A l) => ok_ok A c l w h hl (fun a ha => (hf a ha).1))
  rw [hok] at HO
  have HA := Lib.hid hacts
  clear hacts hf hok
  go_enter Try.func4, Try.ntmps4
  go_wp2_with (fail)
  refine (head_ok _).mono ?_
  rintro e w1 ⟨rfl, c1⟩
  have C1 := Lib.hid c1
  clear c1
  go_wp2_with (fail)
  refine (HO.out _ (HA.out.kept C1.out)).mono ?_
  rintro e w2 ⟨rfl, rfl⟩
  go_wp2
  go_ret
  exact ⟨rfl, C1.out⟩

set_option maxRecDepth 100000 in
set_option maxHeartbeats 8000000 in
theorem stable_no1 {w : World} (r : Nat) (_hr : r < 256) (A : Option Addr) (c : Nat) (l : List AC) (hacts : ActsAt w A l) (hl : l.length ≤ 9223372036854775807) (hf : ∀ a ∈ l, a.fine) (A' : Option Addr) (c' : Nat) (more : List AC) (hacts' : ActsAt w A' more) (hl' : more.length ≤ 9223372036854775807) (hf' : ∀ a ∈ more, a.fine) (wr_ : Int) (_hwr_ : -9223372036854775808 ≤ wr_ ∧ wr_ ≤ 9223372036854775807) (by_ : Int) (_hby_ : -9223372036854775808 ≤ by_ ∧ by_ ≤ 9223372036854775807) (hok : okB l = true) (hok' : okB more = false) :
    Calls Try.prog 4 #[.int .u8 (r : Int), .slice A l.length c, .slice A' more.length c', .int .i64 wr_, .int .i64 by_] w fun e w' => e = .returned (.bool true) ∧ Chg (fun _ => False) w w' := by
  have HO := Lib.hid (fun w (h : ActsAt w A l) => ok_ok A c l w h hl (fun a ha => (hf a ha).1))
  rw [hok] at HO
  have HA := Lib.hid hacts
  have HO' := Lib.hid (fun w (h : ActsAt w A' more) => ok_ok A' c' more w h hl' (fun a ha => (hf' a ha).1))
  rw [hok'] at HO'
  have HA' := Lib.hid hacts'
  clear hacts hf hacts' hf' hok hok'
  go_enter Try.func4, Try.ntmps4
  go_wp2_with (fail)
  refine (head_ok _).mono ?_
  rintro e w1 ⟨rfl, c1⟩
  have C1 := Lib.hid c1
  clear c1
  go_wp2_with (fail)
  refine (HO.out _ (HA.out.kept C1.out)).mono ?_
  rintro e w2 ⟨rfl, rfl⟩
  go_wp2_with (fail)
  refine (HO'.out _ (HA'.out.kept C1.out)).mono ?_
  rintro e w2 ⟨rfl, rfl⟩
  go_wp2
  go_ret
  exact ⟨rfl, C1.out⟩

set_option maxRecDepth 100000 in
set_option maxHeartbeats 8000000 in
theorem stable_yes {w : World} (r : Nat) (hr : r < 256) (A : Option Addr) (c : Nat) (l : List AC) (hacts : ActsAt w A l) (hl : l.length ≤ 9223372036854775807) (hf : ∀ a ∈ l, a.fine) (A' : Option Addr) (c' : Nat) (more : List AC) (hacts' : ActsAt w A' more) (hl' : more.length ≤ 9223372036854775807) (hf' : ∀ a ∈ more, a.fine) (wr_ : Int) (_hwr_ : -9223372036854775808 ≤ wr_ ∧ wr_ ≤ 9223372036854775807) (by_ : Int) (_hby_ : -9223372036854775808 ≤ by_ ∧ by_ ≤ 9223372036854775807) (hok : okB l = true) (hok' : okB more = true) :
    Calls Try.prog 4 #[.int .u8 (r : Int), .slice A l.length c, .slice A' more.length c', .int .i64 wr_, .int .i64 by_] w fun e w' => e = .returned (.bool true) ∧ Chg (fun _ => False) w w' := by
  have HO := Lib.hid (fun w (h : ActsAt w A l) => ok_ok A c l w h hl (fun a ha => (hf a ha).1))
  rw [hok] at HO
  have HA := Lib.hid hacts
  have hlen := okB_len hok
  have Htx := Lib.hid (okB_text hok)
  have Hf := Lib.hid hf
  have HO' := Lib.hid (fun w (h : ActsAt w A' more) => ok_ok A' c' more w h hl' (fun a ha => (hf' a ha).1))
  rw [hok'] at HO'
  have HA' := Lib.hid hacts'
  have hlen' := okB_len hok'
  have Htx' := Lib.hid (okB_text hok')
  have Hf' := Lib.hid hf'
  obtain ⟨n, hn⟩ : ∃ n, n = 1 + r % 12 := ⟨_, rfl⟩
  have HS := Lib.hid (fun w => size_ok r w hr)
  rw [← hn] at HS
  have hn1 : 1 ≤ n := by omega
  have hn2 : n ≤ 12 := by omega
  clear hn hacts hf hok hacts' hf' hok'
  go_enter Try.func4, Try.ntmps4
  go_wp2_with (fail)
  refine (head_ok _).mono ?_
  rintro e w1 ⟨rfl, c1⟩
  have C1 := Lib.hid c1
  clear c1
  go_wp2_with (fail)
  refine (HO.out _ (HA.out.kept C1.out)).mono ?_
  rintro e w2 ⟨rfl, rfl⟩
  go_wp2_with (fail)
  refine (HO'.out _ (HA'.out.kept C1.out)).mono ?_
  rintro e w2 ⟨rfl, rfl⟩
  go_wp2_with (fail)
  refine (HS.out _).mono ?_
  rintro e w2 ⟨rfl, rfl⟩
  go_wp2_with (fail)
  refine (live_new w _ C1.out n hn1 (by omega)).mono ?_
  rintro e w2 ⟨b1, rfl, l1⟩
  have R0 : ActRel w n l b1 0 w2 := l1
  clear l1
  go_wp2
  go_loopw [14] (fun i wr => ∃ k : Nat, k ≤ l.length ∧ i = .int .i64 k ∧ ActRel w n l b1 k wr) (fun i _ => l.length - (intOf i).toNat)
  case atStart => exact ⟨0, Nat.zero_le _, rfl, R0⟩
  case round =>
    obtain ⟨k, hk, rfl, rel⟩ := hrel
    by_cases hlt : k < l.length
    · obtain ⟨ab, off, rfl, seen⟩ := (HA.out.kept (Live.chg rel)).seen k hlt
      have hq : ((DS.new n).acts (l.take k)).q.length < 1000 := by
        have h1 := DS.acts_len (DS.new n) (l.take k)
        rw [List.length_take] at h1
        have h2 : (DS.new n).q.length = 0 := rfl
        omega
      have hmem := List.getElem_mem hlt
      have ht := Htx.out _ hmem
      have hfi := (Hf.out _ hmem).2.2.2
      have e : (DS.new n).acts (l.take (k + 1)) = (((DS.new n).acts (l.take k)).act l[k]).2 := by rw [take_snoc' l k hlt, DS.acts_snoc]
      obtain ⟨D, hD⟩ : ∃ D, D = (DS.new n).acts (l.take k) := ⟨_, rfl⟩
      rw [← hD] at hq e
      have rel' : Live w wr b1 D := by rw [hD]; exact rel
      obtain ⟨a, ha⟩ : ∃ a, a = l[k] := ⟨_, rfl⟩
      rw [← ha] at seen ht hfi e
      have E := Lib.hid e
      have Ha := Lib.hid ha
      obtain ⟨c0, c1, c2, c3, c4, c5, blt⟩ := seen
      have REL := Lib.hid rel'
      clear rel rel' e hD ha hmem R0
      obtain ⟨k1, s1, y1, t1, o1, f1⟩ := a
      dsimp only at c0 c1 c2 c3 c4 c5 ht hfi
      go_wp2_with (fail)
      refine (REL.out.act ⟨k1, s1, y1, t1, o1, f1⟩ hq ht hfi).mono ?_
      rintro e w5 ⟨rfl, rel5⟩
      have REL5 := Lib.hid rel5
      clear rel5
      go_wp2
      go_roundw
      case rel => exact ⟨k + 1, by omega, by go_num, by unfold ActRel; rw [E.out]; exact REL5.out⟩
      case measure => simp [intOf]; omega
    · have ek : k = l.length := by omega
      have rel' : Live w wr b1 ((DS.new n).acts l) := by
        have := rel
        unfold ActRel at this
        rw [ek, List.take_length] at this
        exact this
      have hq : ((DS.new n).acts l).q.length ≤ 60 := by
        have h1 := DS.acts_len (DS.new n) l
        have h2 : (DS.new n).q.length = 0 := rfl
        omega
      have hnn : ((DS.new n).acts l).n = n := DS.n_acts _ _
      clear R0 rel
      obtain ⟨B, hB⟩ : ∃ B, B = ((DS.new n).acts l).start := ⟨_, rfl⟩
      have hBo : B.off = false := by rw [hB]; rfl
      have hBa : B.arm = none := by rw [hB]; rfl
      have hBq : B.q.length ≤ 60 := by rw [hB]; exact hq
      have hBn : B.n = n := by rw [hB]; exact hnn
      have HB := Lib.hid hB; have REL := Lib.hid rel'.x
      have SB := Lib.hid (DS.sync_started B hBo hBa)
      obtain ⟨C, hC⟩ : ∃ C, C = B.clean := ⟨_, rfl⟩
      rw [← hC] at SB
      have Co := Lib.hid (show C.off = false by rw [hC]; show (B.settle B.q).off = false; rw [(DS.settle_rest _ _).2.2.1]; exact hBo)
      have Ca := Lib.hid (show C.arm = none by rw [hC]; show (B.settle B.q).arm = none; rw [(DS.settle_rest _ _).2.2.2]; exact hBa)
      have Cq := Lib.hid (show C.q = [] by rw [hC]; rfl)
      have Cn := Lib.hid (show C.n = n by rw [hC]; show (B.settle B.q).n = n; rw [(DS.settle_rest _ _).2.1]; exact hBn)
      have HBo := Lib.hid hBo; have HBa := Lib.hid hBa; have HBn := Lib.hid hBn
      clear rel' hB hnn ek hBo hBa hBn hC
      go_wp2_with (fail)
      refine (REL.out.start).mono ?_
      rintro e w4 ⟨rfl, r4⟩
      rw [← HB.out] at r4
      have R4 := Lib.hid r4
      clear r4
      go_wp2_with (fail)
      refine (R4.out.sync (by omega)).mono ?_
      rintro e w5 ⟨rfl, r5⟩
      rw [SB.out]
      rw [SB.out] at r5
      have R5 := Lib.hid r5
      clear r5
      go_wp2_with (fail)
      refine (R5.out.contents Co.out (by rw [Cq.out]; exact Nat.zero_le _) Cn.out).mono ?_
      rintro e w6 ⟨g1, cp1, O1, rfl, G1, P1⟩
      have hmk := fun W => run_make_bools n (by omega) W
      have A0 : StabRel w (w6.alloc (.cells (boolCells n fun _ => false) 4)) b1 n C g1 O1 w6.heap.size 0 :=
        ⟨C, fun _ => false, P1.out.alloc _, Co.out, Ca.out, Cn.out, rfl, by rw [Cq.out]; exact Nat.le_refl _, fun p hp => by rw [Cq.out] at hp; simp at hp⟩
      obtain ⟨gw, hgw⟩ : ∃ gw, gw = w6.heap.size := ⟨_, rfl⟩
      rw [← hgw] at A0
      have Hgw := Lib.hid hgw
      have hmk2 : (Instr.makeSlice 42 (.int .i64 (n : Int)) (.int .i64 (n : Int))).run Try.prog w6 = .ok (.slice (some ⟨gw, 0, none⟩) n n) (w6.alloc (.cells (boolCells n fun _ => false) 4)) := by rw [hgw]; exact hmk w6
      have g1w : g1 ≠ gw := by
        intro e
        have := lt_of_heap (P1.out.blk (p := (g1, O1)) (by simp))
        dsimp only at this
        omega
      have G1W := Lib.hid g1w
      clear hgw hmk g1w
      obtain ⟨w7, hw7⟩ : ∃ w7, w7 = w6.alloc (.cells (boolCells n fun _ => false) 4) := ⟨_, rfl⟩
      rw [← hw7] at A0 hmk2
      clear hw7
      go_wp2
      go_loopw [18, 19] (fun iv _ wr => ∃ k : Nat, k ≤ more.length ∧ iv = .int .i64 k ∧ StabRel w wr b1 n C g1 O1 gw k) (fun iv _ _ => more.length - (intOf iv).toNat)
      case atStart => exact ⟨0, Nat.zero_le _, rfl, A0⟩
      case round =>
        obtain ⟨k2, hk2, rfl, D, f, lx, hDo, hDa, hDn, hDs, hDq, hDf⟩ := hrel
        clear A0
        have LX := Lib.hid lx
        have Do := Lib.hid hDo; have Da := Lib.hid hDa; have Dn := Lib.hid hDn; have Ds := Lib.hid hDs; have Df := Lib.hid hDf
        clear lx hDo hDa hDn hDs hDf
        by_cases hlt2 : k2 < more.length
        · obtain ⟨ab2, off2, rfl, seen0⟩ := HA'.out.seen k2 hlt2
          have hmem := List.getElem_mem hlt2
          have ht2 := Htx'.out _ hmem
          obtain ⟨a, ha⟩ : ∃ a, a = more[k2] := ⟨_, rfl⟩
          rw [← ha] at seen0 ht2
          have SEEN := Lib.hid (Lib.hid seen0)
          clear ha hmem seen0
          obtain ⟨c0, c1, c2, c3, c4, c5, blt⟩ := SEEN.out.out.kept LX.out.chg
          have wb := DS.write_started D Do.out Da.out a.sector a.txt
          by_cases hbad : D.bad a.sector = true ∨ a.txt.size ≠ 64
          · rw [if_pos hbad] at wb
            have WB := Lib.hid wb
            clear wb hbad
            go_wp2_with (fail)
            go_region_held3 (fun w' => w'.cell? ⟨ab2, off2 + k2 * 6, none⟩ = some (.int .i64 a.kind) ∧ w'.cell? ⟨ab2, off2 + k2 * 6 + 1, none⟩ = some (.int .i64 a.sector) ∧ w'.cell? ⟨ab2, off2 + k2 * 6 + 2, none⟩ = some (.int .i64 a.bytes) ∧ w'.cell? ⟨ab2, off2 + k2 * 6 + 3, none⟩ = some (.string a.text) ∧ w'.cell? ⟨ab2, off2 + k2 * 6 + 4, none⟩ = some (.bool a.odd) ∧ w'.cell? ⟨ab2, off2 + k2 * 6 + 5, none⟩ = some (.int .i64 a.after)) (first | go_keep | simp [*])
              (first | (go_at_call 23; refine (LiveX.textL LX.out SEEN.out ht2 ?_).mono ?_; exact (Chg.refl _ _).drew; rintro e u1t ⟨rfl, ⟨c0, c1, c2, c3, c4, c5, blt⟩, Q1t⟩) | (go_at_call 22; refine (LiveX.writeL Q1t.out SEEN.out ht2 (by omega)).mono ?_; rintro e u1 ⟨rfl, ⟨c0, c1, c2, c3, c4, c5, blt⟩, Q1⟩))
            rw [WB.out] at Q1
            rw [WB.out]
            go_wp2
            go_roundw
            case rel => exact ⟨k2 + 1, by omega, by go_num, D, f, Q1.out, Do.out, Da.out, Dn.out, Ds.out, by omega, Df.out⟩
            case measure => simp [intOf]; omega
          · rw [if_neg hbad] at wb
            have hgood := DS.bad_false (D := D) (i := a.sector) (by simpa using fun h => hbad (.inl h))
            rw [Dn.out] at hgood
            have WB := Lib.hid wb
            have s1 := hgood.1
            have s2 := hgood.2
            have t1 : decide (a.sector < 0) = false := by simp; omega
            have t2 : decide ((n : Int) ≤ a.sector) = false := by simp; omega
            clear wb hbad hgood
            go_wp2_with (fail)
            go_region_held3 (fun w' => w'.cell? ⟨ab2, off2 + k2 * 6, none⟩ = some (.int .i64 a.kind) ∧ w'.cell? ⟨ab2, off2 + k2 * 6 + 1, none⟩ = some (.int .i64 a.sector) ∧ w'.cell? ⟨ab2, off2 + k2 * 6 + 2, none⟩ = some (.int .i64 a.bytes) ∧ w'.cell? ⟨ab2, off2 + k2 * 6 + 3, none⟩ = some (.string a.text) ∧ w'.cell? ⟨ab2, off2 + k2 * 6 + 4, none⟩ = some (.bool a.odd) ∧ w'.cell? ⟨ab2, off2 + k2 * 6 + 5, none⟩ = some (.int .i64 a.after)) (first | go_keep | simp [*])
              (first | (go_at_call 23; refine (LiveX.textL LX.out SEEN.out ht2 ?_).mono ?_; exact (Chg.refl _ _).drew; rintro e u1t ⟨rfl, ⟨c0, c1, c2, c3, c4, c5, blt⟩, Q1t⟩) | (go_at_call 22; refine (LiveX.writeL Q1t.out SEEN.out ht2 (by omega)).mono ?_; rintro e u1 ⟨rfl, ⟨c0, c1, c2, c3, c4, c5, blt⟩, Q1⟩))
            rw [WB.out] at Q1
            rw [WB.out]
            have cw : u1.cell? ⟨gw, a.sector.toNat, none⟩ = some (.bool (f a.sector.toNat)) := by
              rw [cell_of_blk (Q1.out.blk (p := (gw, .cells (boolCells n f) 4 (0, 0))) (by simp))]
              exact boolCells_get n f _ (by omega)
            have fw : u1.frozen? ⟨gw, a.sector.toNat, none⟩ = false := frozen_of_blk (Q1.out.blk (p := (gw, .cells (boolCells n f) 4 (0, 0))) (by simp)) _
            go_wp2
            go_roundw
            case rel =>
              refine ⟨k2 + 1, by omega, by go_num, D.push a.sector.toNat a.txt, upd f a.sector.toNat true, ?_, Do.out, Da.out, Dn.out, Ds.out, by simp [DS.push]; omega, ?_⟩
              · rw [← boolCells_set]
                exact Q1.out.store (fun p hp => by simp only [List.mem_singleton] at hp; subst hp; exact G1W.out) _ _
              · intro p hp
                simp only [DS.push, List.mem_append, List.mem_singleton] at hp
                simp only [upd]
                rcases hp with hp | rfl
                · split
                  · rfl
                  · exact Df.out p hp
                · simp
            case measure => simp [intOf]; omega
        · have ek2 : k2 = more.length := by omega
          clear hlt2
          have hDq' : D.q.length ≤ 1000 := by omega
          obtain ⟨F, hF⟩ : ∃ F, F = (D.fail wr_ by_).start := ⟨_, rfl⟩
          have HF := Lib.hid hF
          have Fo := Lib.hid (show F.off = false by rw [hF]; rfl)
          have Fn := Lib.hid (show F.n = n by rw [hF]; show (D.fail wr_ by_).n = n; rw [DS.n_fail, Dn.out])
          have hFq : F.q.length ≤ 1000 := by rw [hF]; show (D.fail wr_ by_).q.length ≤ 1000; exact Nat.le_trans (DS.len_fail _ _ _) hDq'
          have tl : decide ((k2 : Int) < (more.length : Int)) = false := by simp; omega
          clear hF
          go_wp2_with (fail)
          refine (LX.out.fail wr_ by_ hDq').mono ?_
          rintro e v1 ⟨rfl, p1⟩
          have LF := Lib.hid p1
          clear p1
          go_wp2_with (fail)
          refine (LF.out.start).mono ?_
          rintro e v2 ⟨rfl, p2⟩
          rw [← HF.out] at p2
          have LS := Lib.hid p2
          clear p2
          go_wp2_with (fail)
          refine (LS.out.contents Fo.out hFq Fn.out).mono ?_
          rintro e v3 ⟨g2, cp2, O2, rfl, G2, P2⟩
          go_wp2
          go_loopw [22] (fun iv wr => ∃ i : Nat, i ≤ n ∧ iv = .int .i64 i ∧ LiveX w wr b1 F [(g2, O2), (gw, .cells (boolCells n f) 4 (0, 0)), (g1, O1)]) (fun iv _ => n - (intOf iv).toNat)
          case atStart => exact ⟨0, Nat.zero_le _, rfl, P2.out⟩
          case round =>
            obtain ⟨j, hj, rfl, lz⟩ := hrel
            have LZ := Lib.hid lz
            clear lz
            by_cases hlt3 : j < n
            · have hci : j < C.conts.length := by rw [DS.conts_length, Cn.out]; exact hlt3
              have hfi : j < F.conts.length := by rw [DS.conts_length, Fn.out]; exact hlt3
              have cw := cell_of_blk (LZ.out.blk (p := (gw, .cells (boolCells n f) 4 (0, 0))) (by simp)) j
              rw [boolCells_get n f j hlt3] at cw
              cases hfj : f j with
              | true =>
                rw [hfj] at cw
                clear hfj
                go_wp2
                go_quiet (fail)
                go_wp2
                go_roundw
                case rel => exact ⟨j + 1, by omega, by go_num, LZ.out.drewN _⟩
                case measure => simp [intOf]; omega
              | false =>
                rw [hfj] at cw
                obtain ⟨x, hx⟩ : ∃ x, C.conts[j] = x := ⟨_, rfl⟩
                have cx := (LZ.out.strs (by simp) G1.out).get j hci hx
                have cy := (LZ.out.strs (by simp) G2.out).get j hfi (x := x) (by
                  rw [← hx, DS.conts_nil C Cq.out, DS.conts_get, HF.out, DS.fail_other D Do.out wr_ by_ j (fun p hp e => by have := Df.out p hp; rw [e, hfj] at this; cases this), Ds.out])
                clear hfj hx
                go_wp2
                go_quiet (fail)
                go_wp2
                go_roundw
                case rel => exact ⟨j + 1, by omega, by go_num, LZ.out.drewN _⟩
                case measure => simp [intOf]; omega
            · go_wp2
              go_ret
              exact ⟨rfl, LZ.out.chg⟩

theorem stable_walk {w : World} (r : Nat) (hr : r < 256) (A : Option Addr) (c : Nat) (l : List AC) (hacts : ActsAt w A l) (hl : l.length ≤ 9223372036854775807) (hf : ∀ a ∈ l, a.fine) (A' : Option Addr) (c' : Nat) (more : List AC) (hacts' : ActsAt w A' more) (hl' : more.length ≤ 9223372036854775807) (hf' : ∀ a ∈ more, a.fine) (wr_ : Int) (_hwr_ : -9223372036854775808 ≤ wr_ ∧ wr_ ≤ 9223372036854775807) (by_ : Int) (_hby_ : -9223372036854775808 ≤ by_ ∧ by_ ≤ 9223372036854775807) (w' : World) (hw : w' = w := by rfl) :
    Calls Try.prog 4 #[.int .u8 (r : Int), .slice A l.length c, .slice A' more.length c', .int .i64 wr_, .int .i64 by_] w' fun e w'' => e = .returned (.bool true) ∧ Chg (fun _ => False) w' w'' := by
  subst hw
  cases hok : okB l with
  | false => exact stable_no0 r hr A c l hacts hl hf A' c' more hacts' hl' hf' wr_ _hwr_ by_ _hby_ hok
  | true =>
    cases hok' : okB more with
    | false => exact stable_no1 r hr A c l hacts hl hf A' c' more hacts' hl' hf' wr_ _hwr_ by_ _hby_ hok hok'
    | true => exact stable_yes r hr A c l hacts hl hf A' c' more hacts' hl' hf' wr_ _hwr_ by_ _hby_ hok hok'

end Go.Proofs.Ytageboekobkdcaa

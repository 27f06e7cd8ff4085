/- DiskArmed, walked. -/
import Derived.Test.YtageboekobkdcaaT
import Derived.Test.YtageboekobkdcaaAll
namespace Go.Proofs.Ytageboekobkdcaa
open Go.RowKit

/-- What holds at the head of the second loop. -/
structure ArmRel (W wr : World) (b1 b2 : Nat) (after x y : Int) (n k : Nat) (left : Int) : Prop where
  lf : (0 ≤ left ∧ left ≤ after) ∨ (after < 0 ∧ left = after)
  duo : ∃ B : DS, Duo W wr b1 (B.with_ (armOf left x y)) b2 B ∧ B.off = false ∧ B.arm = none ∧ B.q.length ≤ 60 + k ∧ B.n = n

set_option maxRecDepth 100000 in
set_option maxHeartbeats 8000000 in
theorem armed_no0 {w : World} (r : Nat) (_hr : r < 256) (A : Option Addr) (c : Nat) (l : List AC) (hacts : ActsAt w A l) (hl : l.length ≤ 9223372036854775807) (hf : ∀ a ∈ l, a.fine) (A' : Option Addr) (c' : Nat) (more : List AC) (_hacts' : ActsAt w A' more) (_hl' : more.length ≤ 9223372036854775807) (_hf' : ∀ a ∈ more, a.fine) (after : Int) (_hafter : -9223372036854775808 ≤ after ∧ after ≤ 9223372036854775807) (wr_ : Int) (_hwr_ : -9223372036854775808 ≤ wr_ ∧ wr_ ≤ 9223372036854775807) (by_ : Int) (_hby_ : -9223372036854775808 ≤ by_ ∧ by_ ≤ 9223372036854775807) (hok : okB l = false) :
    Calls Try.prog 8 #[.int .u8 (r : Int), .slice A l.length c, .slice A' more.length c', .int .i64 after, .int .i64 wr_, .int .i64 by_] w fun e w' => e = .returned (.bool true) ∧ Chg (fun _ => False) w w' := by
  have HO := Lib.hid (fun w (h : ActsAt w A l) => ok_ok A c l w h hl (fun a ha => (hf a ha).1))
  rw [hok] at HO
  have HA := Lib.hid hacts
  clear hacts hf hok
  go_enter Try.func8, Try.ntmps8
  go_wp2_with (fail)
  refine (head_ok _).mono ?_
  rintro e w1 ⟨rfl, c1⟩
  have C1 := Lib.hid c1
  clear c1
  go_wp2_with (fail)
  refine (HO.out _ (HA.out.kept C1.out)).mono ?_
  rintro e w2 ⟨rfl, rfl⟩
  go_wp2
  go_ret
  exact ⟨rfl, C1.out⟩

set_option maxRecDepth 100000 in
set_option maxHeartbeats 8000000 in
theorem armed_no1 {w : World} (r : Nat) (_hr : r < 256) (A : Option Addr) (c : Nat) (l : List AC) (hacts : ActsAt w A l) (hl : l.length ≤ 9223372036854775807) (hf : ∀ a ∈ l, a.fine) (A' : Option Addr) (c' : Nat) (more : List AC) (hacts' : ActsAt w A' more) (hl' : more.length ≤ 9223372036854775807) (hf' : ∀ a ∈ more, a.fine) (after : Int) (_hafter : -9223372036854775808 ≤ after ∧ after ≤ 9223372036854775807) (wr_ : Int) (_hwr_ : -9223372036854775808 ≤ wr_ ∧ wr_ ≤ 9223372036854775807) (by_ : Int) (_hby_ : -9223372036854775808 ≤ by_ ∧ by_ ≤ 9223372036854775807) (hok : okB l = true) (hok' : okB more = false) :
    Calls Try.prog 8 #[.int .u8 (r : Int), .slice A l.length c, .slice A' more.length c', .int .i64 after, .int .i64 wr_, .int .i64 by_] w fun e w' => e = .returned (.bool true) ∧ Chg (fun _ => False) w w' := by
  have HO := Lib.hid (fun w (h : ActsAt w A l) => ok_ok A c l w h hl (fun a ha => (hf a ha).1))
  rw [hok] at HO
  have HA := Lib.hid hacts
  have HO' := Lib.hid (fun w (h : ActsAt w A' more) => ok_ok A' c' more w h hl' (fun a ha => (hf' a ha).1))
  rw [hok'] at HO'
  have HA' := Lib.hid hacts'
  clear hacts hf hacts' hf' hok hok'
  go_enter Try.func8, Try.ntmps8
  go_wp2_with (fail)
  refine (head_ok _).mono ?_
  rintro e w1 ⟨rfl, c1⟩
  have C1 := Lib.hid c1
  clear c1
  go_wp2_with (fail)
  refine (HO.out _ (HA.out.kept C1.out)).mono ?_
  rintro e w2 ⟨rfl, rfl⟩
  go_wp2_with (fail)
  refine (HO'.out _ (HA'.out.kept C1.out)).mono ?_
  rintro e w2 ⟨rfl, rfl⟩
  go_wp2
  go_ret
  exact ⟨rfl, C1.out⟩

set_option maxRecDepth 100000 in
set_option maxHeartbeats 8000000 in
theorem armed_yes {w : World} (r : Nat) (hr : r < 256) (A : Option Addr) (c : Nat) (l : List AC) (hacts : ActsAt w A l) (hl : l.length ≤ 9223372036854775807) (hf : ∀ a ∈ l, a.fine) (A' : Option Addr) (c' : Nat) (more : List AC) (hacts' : ActsAt w A' more) (hl' : more.length ≤ 9223372036854775807) (hf' : ∀ a ∈ more, a.fine) (after : Int) (_hafter : -9223372036854775808 ≤ after ∧ after ≤ 9223372036854775807) (wr_ : Int) (_hwr_ : -9223372036854775808 ≤ wr_ ∧ wr_ ≤ 9223372036854775807) (by_ : Int) (_hby_ : -9223372036854775808 ≤ by_ ∧ by_ ≤ 9223372036854775807) (hok : okB l = true) (hok' : okB more = true) :
    Calls Try.prog 8 #[.int .u8 (r : Int), .slice A l.length c, .slice A' more.length c', .int .i64 after, .int .i64 wr_, .int .i64 by_] w fun e w' => e = .returned (.bool true) ∧ Chg (fun _ => False) w w' := by
  have HO := Lib.hid (fun w (h : ActsAt w A l) => ok_ok A c l w h hl (fun a ha => (hf a ha).1))
  rw [hok] at HO
  have HA := Lib.hid hacts
  have hlen := okB_len hok
  have Htx := Lib.hid (okB_text hok)
  have Hf := Lib.hid hf
  have HO' := Lib.hid (fun w (h : ActsAt w A' more) => ok_ok A' c' more w h hl' (fun a ha => (hf' a ha).1))
  rw [hok'] at HO'
  have HA' := Lib.hid hacts'
  have hlen' := okB_len hok'
  have Htx' := Lib.hid (okB_text hok')
  have Hf' := Lib.hid hf'
  obtain ⟨n, hn⟩ : ∃ n, n = 1 + r % 12 := ⟨_, rfl⟩
  have HS := Lib.hid (fun w => size_ok r w hr)
  rw [← hn] at HS
  have hn1 : 1 ≤ n := by omega
  have hn2 : n ≤ 12 := by omega
  clear hn hacts hf hok hacts' hf' hok'
  go_enter Try.func8, Try.ntmps8
  go_wp2_with (fail)
  refine (head_ok _).mono ?_
  rintro e w1 ⟨rfl, c1⟩
  have C1 := Lib.hid c1
  clear c1
  go_wp2_with (fail)
  refine (HO.out _ (HA.out.kept C1.out)).mono ?_
  rintro e w2 ⟨rfl, rfl⟩
  go_wp2_with (fail)
  refine (HO'.out _ (HA'.out.kept C1.out)).mono ?_
  rintro e w2 ⟨rfl, rfl⟩
  go_wp2_with (fail)
  refine (HS.out _).mono ?_
  rintro e w2 ⟨rfl, rfl⟩
  go_wp2_with (fail)
  refine (live_new w _ C1.out n hn1 (by omega)).mono ?_
  rintro e w2 ⟨b1, rfl, l1⟩
  have L1 := Lib.hid l1
  clear l1
  go_wp2_with (fail)
  refine (L1.out.new' n hn1 (by omega)).mono ?_
  rintro e w3 ⟨b2, rfl, l1⟩
  have R0 : AllRel w n l b1 b2 0 w3 := l1
  clear l1 L1
  go_wp2
  go_loopw [17] (fun i wr => ∃ k : Nat, k ≤ l.length ∧ i = .int .i64 k ∧ AllRel w n l b1 b2 k wr) (fun i _ => l.length - (intOf i).toNat)
  case atStart => exact ⟨0, Nat.zero_le _, rfl, R0⟩
  case round =>
    obtain ⟨k, hk, rfl, rel⟩ := hrel
    by_cases hlt : k < l.length
    · obtain ⟨ab, off, rfl, seen⟩ := (HA.out.kept (Duo.chg rel)).seen k hlt
      have hq : ((DS.new n).acts (l.take k)).q.length < 1000 := by
        have h1 := DS.acts_len (DS.new n) (l.take k)
        rw [List.length_take] at h1
        have h2 : (DS.new n).q.length = 0 := rfl
        omega
      have hmem := List.getElem_mem hlt
      have ht := Htx.out _ hmem
      have hfi := (Hf.out _ hmem).2.2.2
      have e : (DS.new n).acts (l.take (k + 1)) = (((DS.new n).acts (l.take k)).act l[k]).2 := by rw [take_snoc' l k hlt, DS.acts_snoc]
      obtain ⟨D, hD⟩ : ∃ D, D = (DS.new n).acts (l.take k) := ⟨_, rfl⟩
      rw [← hD] at hq e
      have rel' : Duo w wr b1 D b2 D := by rw [hD]; exact rel
      obtain ⟨a, ha⟩ : ∃ a, a = l[k] := ⟨_, rfl⟩
      rw [← ha] at seen ht hfi e
      have E := Lib.hid e
      have Ha := Lib.hid ha
      obtain ⟨c0, c1, c2, c3, c4, c5, blt⟩ := seen
      have REL := Lib.hid rel'
      clear rel rel' e hD ha hmem R0
      obtain ⟨k1, s1, y1, t1, o1, f1⟩ := a
      dsimp only at c0 c1 c2 c3 c4 c5 ht hfi
      go_wp2_with (fail)
      refine (REL.out.act ⟨k1, s1, y1, t1, o1, f1⟩ hq ht hfi).mono ?_
      rintro e w4 ⟨rfl, rel4⟩
      clear c0 c1 c2 c3 c4 c5 blt
      obtain ⟨c0, c1, c2, c3, c4, c5, blt⟩ := (HA.out.kept (Duo.chg rel4)).seen' k hlt Ha
      dsimp only at c0 c1 c2 c3 c4 c5
      have REL4 := Lib.hid rel4.symm
      clear rel4
      go_wp2_with (fail)
      refine (REL4.out.act ⟨k1, s1, y1, t1, o1, f1⟩ hq ht hfi).mono ?_
      rintro e w5 ⟨rfl, rel5⟩
      have REL5 := Lib.hid rel5.symm
      clear rel5
      go_wp2
      go_roundw
      case rel => exact ⟨k + 1, by omega, by go_num, by unfold AllRel; rw [E.out]; exact REL5.out⟩
      case measure => simp [intOf]; omega
    · have ek : k = l.length := by omega
      have rel' : Duo w wr b1 ((DS.new n).acts l) b2 ((DS.new n).acts l) := by
        have := rel
        unfold AllRel at this
        rw [ek, List.take_length] at this
        exact this
      have hq : ((DS.new n).acts l).q.length ≤ 60 := by
        have h1 := DS.acts_len (DS.new n) l
        have h2 : (DS.new n).q.length = 0 := rfl
        omega
      have hnn : ((DS.new n).acts l).n = n := DS.n_acts _ _
      clear R0 rel
      obtain ⟨B, hB⟩ : ∃ B, B = ((DS.new n).acts l).start := ⟨_, rfl⟩
      have hBo : B.off = false := by rw [hB]; rfl
      have hBa : B.arm = none := by rw [hB]; rfl
      have hBq : B.q.length ≤ 60 := by rw [hB]; exact hq
      have hBn : B.n = n := by rw [hB]; exact hnn
      have HB := Lib.hid hB; have REL := Lib.hid rel'
      have HBo := Lib.hid hBo; have HBa := Lib.hid hBa; have HBn := Lib.hid hBn
      clear rel' hB hnn ek hBo hBa hBn
      go_wp2_with (fail)
      refine (REL.out.start).mono ?_
      rintro e w4 ⟨rfl, r4⟩
      rw [← HB.out] at r4
      have R4 := Lib.hid r4.symm
      clear r4
      go_wp2_with (fail)
      refine (R4.out.start).mono ?_
      rintro e w5 ⟨rfl, r5⟩
      rw [← HB.out] at r5
      have R5 := Lib.hid r5.symm
      clear r5
      go_wp2_with (fail)
      refine (R5.out.toArm after wr_ by_ _hafter.2).mono ?_
      rintro e w6 ⟨rfl, r6⟩
      rw [DS.toArm_eq B HBo.out] at r6
      have A0 : ArmRel w w6 b1 b2 after wr_ by_ n 0 after := ⟨by omega, B, r6, HBo.out, HBa.out, hBq, HBn.out⟩
      clear r6
      go_wp2
      go_loopw [18, 19] (fun lv i wr => ∃ (k : Nat) (left : Int), k ≤ more.length ∧ i = .int .i64 k ∧ lv = .int .i64 left ∧ ArmRel w wr b1 b2 after wr_ by_ n k left) (fun _ i _ => more.length - (intOf i).toNat)
      case atStart => exact ⟨0, after, Nat.zero_le _, rfl, rfl, A0⟩
      case round =>
        obtain ⟨k2, left, hk2, rfl, rfl, hlf, B2, duo, hBo, hBa, hBq, hBn⟩ := hrel
        clear A0
        by_cases hlt2 : k2 < more.length
        · obtain ⟨ab2, off2, rfl, seen0⟩ := HA'.out.seen k2 hlt2
          have hmem := List.getElem_mem hlt2
          have ht2 := Htx'.out _ hmem
          obtain ⟨a, ha⟩ : ∃ a, a = more[k2] := ⟨_, rfl⟩
          rw [← ha] at seen0 ht2
          have SEEN := Lib.hid (Lib.hid seen0)
          obtain ⟨c0, c1, c2, c3, c4, c5, blt⟩ := seen0.kept (Duo.chg duo)
          have DUO := Lib.hid duo
          have B2o := Lib.hid hBo; have B2a := Lib.hid hBa; have B2n := Lib.hid hBn
          clear duo hBo hBa hBn ha hmem seen0 c0 c1 c2 c3 c4 c5 blt
          obtain ⟨c0, c1, c2, c3, c4, c5, blt⟩ := SEEN.out.out.kept (Duo.chg DUO.out)
          by_cases hk2s : a.kind = 2
          · have ts : (a.kind == 2) = true := by simpa using hk2s
            have Hk2s := Lib.hid hk2s
            clear hk2s
            by_cases h0 : left = 0
            · have t0 : (left == 0) = true := by simpa using h0
              have tA : decide (after < 0) = false := by simp; omega
              have es := DS.armed_sync B2 left wr_ by_ B2o.out
              rw [if_pos h0] at es
              have ES := Lib.hid es
              have H0 := Lib.hid h0
              clear h0 es
              go_wp2_with (fail)
              refine (DUO.out.symm.fail wr_ by_ (by omega)).mono ?_
              rintro e u1 ⟨rfl, q1⟩
              have Q1 := Lib.hid q1.symm
              clear q1
              go_wp2_with (fail)
              refine (Q1.out.sync (by show B2.q.length ≤ 1000; omega)).mono ?_
              rintro e u2 ⟨rfl, q2⟩
              rw [ES.out]
              rw [ES.out] at q2
              have Q2 := Lib.hid q2
              clear q2
              obtain ⟨F, hF⟩ : ∃ F, F = B2.fail wr_ by_ := ⟨_, rfl⟩
              have ST := Lib.hid (show F.start = (B2.fail wr_ by_).start by rw [hF])
              have SO := Lib.hid (show F.start.off = false from rfl)
              have SN := Lib.hid (show F.start.n = n by rw [hF]; show (B2.fail wr_ by_).n = n; rw [DS.n_fail, B2n.out])
              have hSq : F.start.q.length ≤ 1000 := by rw [hF]; show (B2.fail wr_ by_).q.length ≤ 1000; exact Nat.le_trans (DS.len_fail _ _ _) (by omega)
              have Q3 := Lib.hid (show Duo w u2 b1 F b2 F by rw [hF]; exact Q2.out)
              clear hF
              go_wp2_with (fail)
              refine (Q3.out.start).mono ?_
              rintro e v1 ⟨rfl, p1⟩
              have P1 := Lib.hid p1.symm
              clear p1
              go_wp2_with (fail)
              refine (P1.out.start).mono ?_
              rintro e v2 ⟨rfl, p2⟩
              have p2' := p2.symm
              have P2 := Lib.hid p2'
              clear p2 p2'
              go_wp2_with (fail)
              refine (P2.out.contents SO.out hSq SN.out).mono ?_
              rintro e v3 ⟨g1, cp1, rfl, got1, p3⟩
              have G1 := Lib.hid got1
              have P3 := Lib.hid p3.out.2.symm
              clear got1 p3
              go_wp2_with (fail)
              refine (P3.out.contents SO.out hSq SN.out).mono ?_
              rintro e v4 ⟨g2, cp2, rfl, got2, p4⟩
              have sm := same_ok (some ⟨g1, 0, none⟩) (some ⟨g2, 0, none⟩) cp1 cp2 F.start.conts F.start.conts v4 (G1.out.at_.out.kept p4.out.1) got2.at_.out (by rw [DS.conts_length, SN.out]; omega) (by rw [DS.conts_length, SN.out]; omega)
              rw [DS.conts_length, SN.out, show decide (F.start.conts = F.start.conts) = true from decide_eq_true rfl] at sm
              have SM := Lib.hid sm
              have P4 := Lib.hid p4.out.2
              clear sm got2 p4
              go_wp2_with (fail)
              refine SM.out.mono ?_
              rintro e v5 ⟨rfl, c15⟩
              have C15 := Lib.hid (P4.out.chg.trans c15 (fun _ _ h => h))
              clear c15
              go_wp2
              go_ret
              exact ⟨rfl, C15.out⟩
            · have t0 : (left == 0) = false := by simpa using h0
              have es := DS.armed_sync B2 left wr_ by_ B2o.out
              rw [if_neg h0] at es
              have sb := DS.sync_started B2 B2o.out B2a.out
              have ES := Lib.hid es; have SB := Lib.hid sb
              have hcq : B2.sync.2.q.length ≤ 1000 := Nat.le_trans (DS.len_sync _) (by omega)
              have H0 := Lib.hid h0
              clear h0 es sb
              go_wp2_with (fail)
              refine (DUO.out.symm.sync (by omega)).mono ?_
              rintro e u1 ⟨rfl, q1⟩
              rw [SB.out]
              rw [SB.out] at q1
              have Q1 := Lib.hid q1.symm
              clear q1
              by_cases h1 : 0 < left
              · have es := ES.out
                rw [if_pos h1] at es
                have ES1 := Lib.hid es
                clear es
                go_wp2_with (fail)
                refine (Q1.out.sync (by show B2.q.length ≤ 1000; omega)).mono ?_
                rintro e u2 ⟨rfl, q2⟩
                rw [ES1.out]
                rw [ES1.out] at q2
                have Q2 := Lib.hid q2
                clear q2
                go_wp2
                go_roundw
                case rel =>
                  refine ⟨k2 + 1, left - 1, by omega, by go_num, rfl, by omega, B2.clean, Q2.out, ?_, ?_, ?_, ?_⟩
                  · show (B2.settle B2.q).off = false; rw [(DS.settle_rest _ _).2.2.1]; exact B2o.out
                  · show (B2.settle B2.q).arm = none; rw [(DS.settle_rest _ _).2.2.2]; exact B2a.out
                  · simp [DS.clean]
                  · show (B2.settle B2.q).n = n; rw [(DS.settle_rest _ _).2.1]; exact B2n.out
                case measure => simp [intOf]; omega
              · have es := ES.out
                rw [if_neg h1] at es
                have ES1 := Lib.hid es
                have h0' : left ≤ -1 := by have := H0.out; omega
                clear es
                go_wp2_with (fail)
                refine (Q1.out.sync (by show B2.q.length ≤ 1000; omega)).mono ?_
                rintro e u2 ⟨rfl, q2⟩
                rw [ES1.out]
                rw [ES1.out] at q2
                have Q2 := Lib.hid q2
                clear q2
                go_wp2
                go_roundw
                case rel =>
                  refine ⟨k2 + 1, left, by omega, by go_num, rfl, by omega, B2.clean, Q2.out, ?_, ?_, ?_, ?_⟩
                  · show (B2.settle B2.q).off = false; rw [(DS.settle_rest _ _).2.2.1]; exact B2o.out
                  · show (B2.settle B2.q).arm = none; rw [(DS.settle_rest _ _).2.2.2]; exact B2a.out
                  · simp [DS.clean]
                  · show (B2.settle B2.q).n = n; rw [(DS.settle_rest _ _).2.1]; exact B2n.out
                case measure => simp [intOf]; omega
          · have ts : (a.kind == 2) = false := by simpa using hk2s
            have Hk2s := Lib.hid hk2s
            clear hk2s
            have wb := DS.write_started B2 B2o.out B2a.out a.sector a.txt
            have wa := DS.armed_write B2 left wr_ by_ B2o.out a.sector a.txt
            by_cases hbad : B2.bad a.sector = true ∨ a.txt.size ≠ 64
            · rw [if_pos hbad] at wb wa
              have WB := Lib.hid wb; have WA := Lib.hid wa
              have Hbad := Lib.hid hbad
              clear wb wa hbad
              go_wp2_with (fail)
              go_region_held3 (fun w' => w'.cell? ⟨ab2, off2 + k2 * 6, none⟩ = some (.int .i64 a.kind) ∧ w'.cell? ⟨ab2, off2 + k2 * 6 + 1, none⟩ = some (.int .i64 a.sector) ∧ w'.cell? ⟨ab2, off2 + k2 * 6 + 2, none⟩ = some (.int .i64 a.bytes) ∧ w'.cell? ⟨ab2, off2 + k2 * 6 + 3, none⟩ = some (.string a.text) ∧ w'.cell? ⟨ab2, off2 + k2 * 6 + 4, none⟩ = some (.bool a.odd) ∧ w'.cell? ⟨ab2, off2 + k2 * 6 + 5, none⟩ = some (.int .i64 a.after)) (first | go_keep | simp [*])
                (first | (go_at_call 23; refine (Duo.textL DUO.out.symm SEEN.out ht2 ?_).mono ?_; exact (Chg.refl _ _).drew; rintro e u1t ⟨rfl, ⟨c0, c1, c2, c3, c4, c5, blt⟩, Q1t⟩) | (go_at_call 22; refine (Duo.writeL Q1t.out SEEN.out ht2 (by omega)).mono ?_; rintro e u1 ⟨rfl, ⟨c0, c1, c2, c3, c4, c5, blt⟩, Q1⟩))
              rw [WB.out] at Q1
              rw [WB.out]
              go_wp2_with (fail)
              go_region_held3 (fun w' => w'.cell? ⟨ab2, off2 + k2 * 6, none⟩ = some (.int .i64 a.kind) ∧ w'.cell? ⟨ab2, off2 + k2 * 6 + 1, none⟩ = some (.int .i64 a.sector) ∧ w'.cell? ⟨ab2, off2 + k2 * 6 + 2, none⟩ = some (.int .i64 a.bytes) ∧ w'.cell? ⟨ab2, off2 + k2 * 6 + 3, none⟩ = some (.string a.text) ∧ w'.cell? ⟨ab2, off2 + k2 * 6 + 4, none⟩ = some (.bool a.odd) ∧ w'.cell? ⟨ab2, off2 + k2 * 6 + 5, none⟩ = some (.int .i64 a.after)) (first | go_keep | simp [*])
                (first | (go_at_call 23; refine (Duo.textL (Duo.symm Q1.out) SEEN.out ht2 ?_).mono ?_; exact (Chg.refl _ _).drew; rintro e u2t ⟨rfl, ⟨c0, c1, c2, c3, c4, c5, blt⟩, Q2t⟩) | (go_at_call 22; refine (Duo.writeL Q2t.out SEEN.out ht2 (by show B2.q.length < 1000; omega)).mono ?_; rintro e u2 ⟨rfl, ⟨c0, c1, c2, c3, c4, c5, blt⟩, Q2⟩))
              rw [WA.out] at Q2
              rw [WA.out]
              go_wp2
              go_roundw
              case rel => exact ⟨k2 + 1, left, by omega, by go_num, rfl, hlf, B2, Q2.out, B2o.out, B2a.out, by omega, B2n.out⟩
              case measure => simp [intOf]; omega
            · rw [if_neg hbad] at wb wa
              have WB := Lib.hid wb
              have Hbad := Lib.hid hbad
              have hpo : (B2.push a.sector.toNat a.txt).off = false := B2o.out
              rw [DS.armed_count _ left wr_ by_ hpo] at wa
              obtain ⟨B3, hB3⟩ : ∃ B3, B3 = B2.push a.sector.toNat a.txt := ⟨_, rfl⟩
              have hB3o : B3.off = false := by rw [hB3]; exact B2o.out
              have hB3a : B3.arm = none := by rw [hB3]; exact B2a.out
              have hB3q : B3.q.length ≤ 60 + (k2 + 1) := by rw [hB3]; simp [DS.push]; omega
              have hB3n : B3.n = n := by rw [hB3]; exact B2n.out
              rw [← hB3] at wb wa
              have WB := Lib.hid wb
              have HB3o := Lib.hid hB3o; have HB3a := Lib.hid hB3a; have HB3n := Lib.hid hB3n; have HB3 := Lib.hid hB3
              clear wb hbad hpo hB3o hB3a hB3n hB3
              by_cases h0 : left = 0
              · have t0 : (left == 0) = true := by simpa using h0
                have tA : decide (after < 0) = false := by simp; omega
                rw [if_pos h0] at wa
                have WA := Lib.hid wa; have H0 := Lib.hid h0
                clear wa h0
                go_wp2_with (fail)
                go_region_held3 (fun w' => w'.cell? ⟨ab2, off2 + k2 * 6, none⟩ = some (.int .i64 a.kind) ∧ w'.cell? ⟨ab2, off2 + k2 * 6 + 1, none⟩ = some (.int .i64 a.sector) ∧ w'.cell? ⟨ab2, off2 + k2 * 6 + 2, none⟩ = some (.int .i64 a.bytes) ∧ w'.cell? ⟨ab2, off2 + k2 * 6 + 3, none⟩ = some (.string a.text) ∧ w'.cell? ⟨ab2, off2 + k2 * 6 + 4, none⟩ = some (.bool a.odd) ∧ w'.cell? ⟨ab2, off2 + k2 * 6 + 5, none⟩ = some (.int .i64 a.after)) (first | go_keep | simp [*])
                  (first | (go_at_call 23; refine (Duo.textL DUO.out.symm SEEN.out ht2 ?_).mono ?_; exact (Chg.refl _ _).drew; rintro e u1t ⟨rfl, ⟨c0, c1, c2, c3, c4, c5, blt⟩, Q1t⟩) | (go_at_call 22; refine (Duo.writeL Q1t.out SEEN.out ht2 (by omega)).mono ?_; rintro e u1 ⟨rfl, ⟨c0, c1, c2, c3, c4, c5, blt⟩, Q1⟩))
                rw [WB.out] at Q1
                rw [WB.out]
                go_wp2_with (fail)
                refine (Q1.out.fail wr_ by_ (by omega)).mono ?_
                rintro e u2 ⟨rfl, q2⟩
                have Q2 := Lib.hid q2.symm
                clear q2
                clear c0 c1 c2 c3 c4 c5 blt
                obtain ⟨c0, c1, c2, c3, c4, c5, blt⟩ := SEEN.out.out.kept (Duo.chg Q2.out)
                go_wp2_with (fail)
                go_region_held3 (fun w' => w'.cell? ⟨ab2, off2 + k2 * 6, none⟩ = some (.int .i64 a.kind) ∧ w'.cell? ⟨ab2, off2 + k2 * 6 + 1, none⟩ = some (.int .i64 a.sector) ∧ w'.cell? ⟨ab2, off2 + k2 * 6 + 2, none⟩ = some (.int .i64 a.bytes) ∧ w'.cell? ⟨ab2, off2 + k2 * 6 + 3, none⟩ = some (.string a.text) ∧ w'.cell? ⟨ab2, off2 + k2 * 6 + 4, none⟩ = some (.bool a.odd) ∧ w'.cell? ⟨ab2, off2 + k2 * 6 + 5, none⟩ = some (.int .i64 a.after)) (first | go_keep | simp [*])
                  (first | (go_at_call 23; refine (Duo.textL Q2.out SEEN.out ht2 ?_).mono ?_; exact (Chg.refl _ _).drew; rintro e u3t ⟨rfl, ⟨c0, c1, c2, c3, c4, c5, blt⟩, Q3t⟩) | (go_at_call 22; refine (Duo.writeL Q3t.out SEEN.out ht2 (by show B2.q.length < 1000; omega)).mono ?_; rintro e u3 ⟨rfl, ⟨c0, c1, c2, c3, c4, c5, blt⟩, Q3⟩))
                rw [WA.out] at Q3
                rw [WA.out]
                obtain ⟨F, hF⟩ : ∃ F, F = B3.fail wr_ by_ := ⟨_, rfl⟩
                have ST := Lib.hid (show F.start = (B3.fail wr_ by_).start by rw [hF])
                have SO := Lib.hid (show F.start.off = false from rfl)
                have SN := Lib.hid (show F.start.n = n by rw [hF]; show (B3.fail wr_ by_).n = n; rw [DS.n_fail, HB3n.out])
                have hSq : F.start.q.length ≤ 1000 := by rw [hF]; show (B3.fail wr_ by_).q.length ≤ 1000; exact Nat.le_trans (DS.len_fail _ _ _) (by omega)
                have Q4 := Lib.hid (show Duo w u3 b1 F b2 F by rw [hF]; exact Q3.out)
                clear hF
                go_wp2_with (fail)
                refine (Q4.out.start).mono ?_
                rintro e v1 ⟨rfl, p1⟩
                have P1 := Lib.hid p1.symm
                clear p1
                go_wp2_with (fail)
                refine (P1.out.start).mono ?_
                rintro e v2 ⟨rfl, p2⟩
                have p2' := p2.symm
                have P2 := Lib.hid p2'
                clear p2 p2'
                go_wp2_with (fail)
                refine (P2.out.contents SO.out hSq SN.out).mono ?_
                rintro e v3 ⟨g1, cp1, rfl, got1, p3⟩
                have G1 := Lib.hid got1
                have P3 := Lib.hid p3.out.2.symm
                clear got1 p3
                go_wp2_with (fail)
                refine (P3.out.contents SO.out hSq SN.out).mono ?_
                rintro e v4 ⟨g2, cp2, rfl, got2, p4⟩
                have sm := same_ok (some ⟨g1, 0, none⟩) (some ⟨g2, 0, none⟩) cp1 cp2 F.start.conts F.start.conts v4 (G1.out.at_.out.kept p4.out.1) got2.at_.out (by rw [DS.conts_length, SN.out]; omega) (by rw [DS.conts_length, SN.out]; omega)
                rw [DS.conts_length, SN.out, show decide (F.start.conts = F.start.conts) = true from decide_eq_true rfl] at sm
                have SM := Lib.hid sm
                have P4 := Lib.hid p4.out.2
                clear sm got2 p4
                go_wp2_with (fail)
                refine SM.out.mono ?_
                rintro e v5 ⟨rfl, c15⟩
                have C15 := Lib.hid (P4.out.chg.trans c15 (fun _ _ h => h))
                clear c15
                go_wp2
                go_ret
                exact ⟨rfl, C15.out⟩
              · have t0 : (left == 0) = false := by simpa using h0
                rw [if_neg h0] at wa
                by_cases h1 : 0 < left
                · rw [if_pos h1] at wa
                  have WA := Lib.hid wa; have H0 := Lib.hid h0
                  clear wa h0
                  go_wp2_with (fail)
                  go_region_held3 (fun w' => w'.cell? ⟨ab2, off2 + k2 * 6, none⟩ = some (.int .i64 a.kind) ∧ w'.cell? ⟨ab2, off2 + k2 * 6 + 1, none⟩ = some (.int .i64 a.sector) ∧ w'.cell? ⟨ab2, off2 + k2 * 6 + 2, none⟩ = some (.int .i64 a.bytes) ∧ w'.cell? ⟨ab2, off2 + k2 * 6 + 3, none⟩ = some (.string a.text) ∧ w'.cell? ⟨ab2, off2 + k2 * 6 + 4, none⟩ = some (.bool a.odd) ∧ w'.cell? ⟨ab2, off2 + k2 * 6 + 5, none⟩ = some (.int .i64 a.after)) (first | go_keep | simp [*])
                    (first | (go_at_call 23; refine (Duo.textL DUO.out.symm SEEN.out ht2 ?_).mono ?_; exact (Chg.refl _ _).drew; rintro e u1t ⟨rfl, ⟨c0, c1, c2, c3, c4, c5, blt⟩, Q1t⟩) | (go_at_call 22; refine (Duo.writeL Q1t.out SEEN.out ht2 (by omega)).mono ?_; rintro e u1 ⟨rfl, ⟨c0, c1, c2, c3, c4, c5, blt⟩, Q1⟩))
                  rw [WB.out] at Q1
                  rw [WB.out]
                  go_wp2_with (fail)
                  go_region_held3 (fun w' => w'.cell? ⟨ab2, off2 + k2 * 6, none⟩ = some (.int .i64 a.kind) ∧ w'.cell? ⟨ab2, off2 + k2 * 6 + 1, none⟩ = some (.int .i64 a.sector) ∧ w'.cell? ⟨ab2, off2 + k2 * 6 + 2, none⟩ = some (.int .i64 a.bytes) ∧ w'.cell? ⟨ab2, off2 + k2 * 6 + 3, none⟩ = some (.string a.text) ∧ w'.cell? ⟨ab2, off2 + k2 * 6 + 4, none⟩ = some (.bool a.odd) ∧ w'.cell? ⟨ab2, off2 + k2 * 6 + 5, none⟩ = some (.int .i64 a.after)) (first | go_keep | simp [*])
                    (first | (go_at_call 23; refine (Duo.textL (Duo.symm Q1.out) SEEN.out ht2 ?_).mono ?_; exact (Chg.refl _ _).drew; rintro e u2t ⟨rfl, ⟨c0, c1, c2, c3, c4, c5, blt⟩, Q2t⟩) | (go_at_call 22; refine (Duo.writeL Q2t.out SEEN.out ht2 (by show B2.q.length < 1000; omega)).mono ?_; rintro e u2 ⟨rfl, ⟨c0, c1, c2, c3, c4, c5, blt⟩, Q2⟩))
                  rw [WA.out] at Q2
                  rw [WA.out]
                  go_wp2
                  go_roundw
                  case rel => exact ⟨k2 + 1, left - 1, by omega, by go_num, rfl, by omega, B3, Q2.out, HB3o.out, HB3a.out, hB3q, HB3n.out⟩
                  case measure => simp [intOf]; omega
                · rw [if_neg h1] at wa
                  have h0' : left ≤ -1 := by omega
                  have WA := Lib.hid wa; have H0 := Lib.hid h0
                  clear wa h0
                  go_wp2_with (fail)
                  go_region_held3 (fun w' => w'.cell? ⟨ab2, off2 + k2 * 6, none⟩ = some (.int .i64 a.kind) ∧ w'.cell? ⟨ab2, off2 + k2 * 6 + 1, none⟩ = some (.int .i64 a.sector) ∧ w'.cell? ⟨ab2, off2 + k2 * 6 + 2, none⟩ = some (.int .i64 a.bytes) ∧ w'.cell? ⟨ab2, off2 + k2 * 6 + 3, none⟩ = some (.string a.text) ∧ w'.cell? ⟨ab2, off2 + k2 * 6 + 4, none⟩ = some (.bool a.odd) ∧ w'.cell? ⟨ab2, off2 + k2 * 6 + 5, none⟩ = some (.int .i64 a.after)) (first | go_keep | simp [*])
                    (first | (go_at_call 23; refine (Duo.textL DUO.out.symm SEEN.out ht2 ?_).mono ?_; exact (Chg.refl _ _).drew; rintro e u1t ⟨rfl, ⟨c0, c1, c2, c3, c4, c5, blt⟩, Q1t⟩) | (go_at_call 22; refine (Duo.writeL Q1t.out SEEN.out ht2 (by omega)).mono ?_; rintro e u1 ⟨rfl, ⟨c0, c1, c2, c3, c4, c5, blt⟩, Q1⟩))
                  rw [WB.out] at Q1
                  rw [WB.out]
                  go_wp2_with (fail)
                  go_region_held3 (fun w' => w'.cell? ⟨ab2, off2 + k2 * 6, none⟩ = some (.int .i64 a.kind) ∧ w'.cell? ⟨ab2, off2 + k2 * 6 + 1, none⟩ = some (.int .i64 a.sector) ∧ w'.cell? ⟨ab2, off2 + k2 * 6 + 2, none⟩ = some (.int .i64 a.bytes) ∧ w'.cell? ⟨ab2, off2 + k2 * 6 + 3, none⟩ = some (.string a.text) ∧ w'.cell? ⟨ab2, off2 + k2 * 6 + 4, none⟩ = some (.bool a.odd) ∧ w'.cell? ⟨ab2, off2 + k2 * 6 + 5, none⟩ = some (.int .i64 a.after)) (first | go_keep | simp [*])
                    (first | (go_at_call 23; refine (Duo.textL (Duo.symm Q1.out) SEEN.out ht2 ?_).mono ?_; exact (Chg.refl _ _).drew; rintro e u2t ⟨rfl, ⟨c0, c1, c2, c3, c4, c5, blt⟩, Q2t⟩) | (go_at_call 22; refine (Duo.writeL Q2t.out SEEN.out ht2 (by show B2.q.length < 1000; omega)).mono ?_; rintro e u2 ⟨rfl, ⟨c0, c1, c2, c3, c4, c5, blt⟩, Q2⟩))
                  rw [WA.out] at Q2
                  rw [WA.out]
                  go_wp2
                  go_roundw
                  case rel => exact ⟨k2 + 1, left, by omega, by go_num, rfl, by omega, B3, Q2.out, HB3o.out, HB3a.out, hB3q, HB3n.out⟩
                  case measure => simp [intOf]; omega
        · have ek2 : k2 = more.length := by omega
          have DUO := Lib.hid duo
          have B2o := Lib.hid hBo; have B2a := Lib.hid hBa; have B2n := Lib.hid hBn
          clear duo hBo hBa hBn
          obtain ⟨F, hF⟩ : ∃ F, F = B2.with_ (armOf left wr_ by_) := ⟨_, rfl⟩
          have ST := Lib.hid (show F.start = (B2).start by rw [hF]; exact DS.with_start _ _)
          have SO := Lib.hid (show F.start.off = false from rfl)
          have SN := Lib.hid (show F.start.n = n by rw [hF]; exact B2n.out)
          have hSq : F.start.q.length ≤ 1000 := by rw [hF]; show B2.q.length ≤ 1000; omega
          have Q4 := Lib.hid (show Duo w wr b1 F b2 B2 by rw [hF]; exact DUO.out)
          clear hF
          by_cases hneg : after < 0
          · obtain rfl : left = after := by omega
            have tA : decide (left < 0) = true := by simpa using hneg
            go_wp2_with (fail)
            refine (Q4.out.start).mono ?_
            rintro e v1 ⟨rfl, p1⟩
            have P1 := Lib.hid p1.symm
            clear p1
            go_wp2_with (fail)
            refine (P1.out.start).mono ?_
            rintro e v2 ⟨rfl, p2⟩
            have p2' := p2.symm
            rw [← ST.out] at p2'
            have P2 := Lib.hid p2'
            clear p2 p2'
            go_wp2_with (fail)
            refine (P2.out.contents SO.out hSq SN.out).mono ?_
            rintro e v3 ⟨g1, cp1, rfl, got1, p3⟩
            have G1 := Lib.hid got1
            have P3 := Lib.hid p3.out.2.symm
            clear got1 p3
            go_wp2_with (fail)
            refine (P3.out.contents SO.out hSq SN.out).mono ?_
            rintro e v4 ⟨g2, cp2, rfl, got2, p4⟩
            have sm := same_ok (some ⟨g1, 0, none⟩) (some ⟨g2, 0, none⟩) cp1 cp2 F.start.conts F.start.conts v4 (G1.out.at_.out.kept p4.out.1) got2.at_.out (by rw [DS.conts_length, SN.out]; omega) (by rw [DS.conts_length, SN.out]; omega)
            rw [DS.conts_length, SN.out, show decide (F.start.conts = F.start.conts) = true from decide_eq_true rfl] at sm
            have SM := Lib.hid sm
            have P4 := Lib.hid p4.out.2
            clear sm got2 p4
            go_wp2_with (fail)
            refine SM.out.mono ?_
            rintro e v5 ⟨rfl, c15⟩
            have C15 := Lib.hid (P4.out.chg.trans c15 (fun _ _ h => h))
            clear c15
            go_wp2
            go_ret
            exact ⟨rfl, C15.out⟩
          · have tA : decide (after < 0) = false := by simpa using hneg
            go_wp2_with (fail)
            refine (Q4.out.start).mono ?_
            rintro e v1 ⟨rfl, p1⟩
            have P1 := Lib.hid p1.symm
            clear p1
            go_wp2_with (fail)
            refine (P1.out.start).mono ?_
            rintro e v2 ⟨rfl, p2⟩
            have p2' := p2.symm
            rw [← ST.out] at p2'
            have P2 := Lib.hid p2'
            clear p2 p2'
            go_wp2_with (fail)
            refine (P2.out.contents SO.out hSq SN.out).mono ?_
            rintro e v3 ⟨g1, cp1, rfl, got1, p3⟩
            have G1 := Lib.hid got1
            have P3 := Lib.hid p3.out.2.symm
            clear got1 p3
            go_wp2_with (fail)
            refine (P3.out.contents SO.out hSq SN.out).mono ?_
            rintro e v4 ⟨g2, cp2, rfl, got2, p4⟩
            have sm := same_ok (some ⟨g1, 0, none⟩) (some ⟨g2, 0, none⟩) cp1 cp2 F.start.conts F.start.conts v4 (G1.out.at_.out.kept p4.out.1) got2.at_.out (by rw [DS.conts_length, SN.out]; omega) (by rw [DS.conts_length, SN.out]; omega)
            rw [DS.conts_length, SN.out, show decide (F.start.conts = F.start.conts) = true from decide_eq_true rfl] at sm
            have SM := Lib.hid sm
            have P4 := Lib.hid p4.out.2
            clear sm got2 p4
            go_wp2_with (fail)
            refine SM.out.mono ?_
            rintro e v5 ⟨rfl, c15⟩
            have C15 := Lib.hid (P4.out.chg.trans c15 (fun _ _ h => h))
            clear c15
            go_wp2
            go_ret
            exact ⟨rfl, C15.out⟩

theorem armed_walk {w : World} (r : Nat) (hr : r < 256) (A : Option Addr) (c : Nat) (l : List AC) (hacts : ActsAt w A l) (hl : l.length ≤ 9223372036854775807) (hf : ∀ a ∈ l, a.fine) (A' : Option Addr) (c' : Nat) (more : List AC) (hacts' : ActsAt w A' more) (hl' : more.length ≤ 9223372036854775807) (hf' : ∀ a ∈ more, a.fine) (after : Int) (_hafter : -9223372036854775808 ≤ after ∧ after ≤ 9223372036854775807) (wr_ : Int) (_hwr_ : -9223372036854775808 ≤ wr_ ∧ wr_ ≤ 9223372036854775807) (by_ : Int) (_hby_ : -9223372036854775808 ≤ by_ ∧ by_ ≤ 9223372036854775807) (w' : World) (hw : w' = w := by rfl) :
    Calls Try.prog 8 #[.int .u8 (r : Int), .slice A l.length c, .slice A' more.length c', .int .i64 after, .int .i64 wr_, .int .i64 by_] w' fun e w'' => e = .returned (.bool true) ∧ Chg (fun _ => False) w' w'' := by
  subst hw
  cases hok : okB l with
  | false => exact armed_no0 r hr A c l hacts hl hf A' c' more hacts' hl' hf' after _hafter wr_ _hwr_ by_ _hby_ hok
  | true =>
    cases hok' : okB more with
    | false => exact armed_no1 r hr A c l hacts hl hf A' c' more hacts' hl' hf' after _hafter wr_ _hwr_ by_ _hby_ hok hok'
    | true => exact armed_yes r hr A c l hacts hl hf A' c' more hacts' hl' hf' after _hafter wr_ _hwr_ by_ _hby_ hok hok'

end Go.Proofs.Ytageboekobkdcaa

/- DiskDamage, walked. -/
import Derived.Test.YtageboekobkdcaaV
import Derived.Deep.DeepCutAuto
namespace Go.Proofs.Ytageboekobkdcaa
open Go.RowKit

theorem and6 {p q r u v x : Prop} [Decidable p] [Decidable q] [Decidable r] [Decidable u] [Decidable v] [Decidable x] (P : Prop) [Decidable P] (h : P ↔ p ∧ q ∧ r ∧ u ∧ v ∧ x) :
    decide P = (decide p && decide q && decide r && decide u && decide v && decide x) := by
  simp [h, Bool.and_assoc]

set_option maxRecDepth 100000 in
set_option maxHeartbeats 8000000 in
theorem damage_no0 {w : World} (r : Nat) (_hr : r < 256) (A : Option Addr) (c : Nat) (l : List AC) (hacts : ActsAt w A l) (hl : l.length ≤ 9223372036854775807) (hf : ∀ a ∈ l, a.fine) (s : Int) (_hs : -9223372036854775808 ≤ s ∧ s ≤ 9223372036854775807) (at_ : Int) (_hat : -9223372036854775808 ≤ at_ ∧ at_ ≤ 9223372036854775807) (m : Int) (_hm : -9223372036854775808 ≤ m ∧ m ≤ 9223372036854775807) (hok : okB l = false) :
    Calls Try.prog 9 #[.int .u8 (r : Int), .slice A l.length c, .int .i64 s, .int .i64 at_, .int .i64 m] w fun e w' => e = .returned (.bool true) ∧ Chg (fun _ => False) w w' := by
  have HO := Lib.hid (fun w (h : ActsAt w A l) => ok_ok A c l w h hl (fun a ha => (hf a ha).1))
  rw [hok] at HO
  have HA := Lib.hid hacts
  clear hacts hf hok
  go_enter Try.func9, Try.ntmps9
  go_wp2_with (fail)
  refine (head_ok _).mono ?_
  rintro e w1 ⟨rfl, c1⟩
  have C1 := Lib.hid c1
  clear c1
  go_wp2_with (fail)
  refine (HO.out _ (HA.out.kept C1.out)).mono ?_
  rintro e w2 ⟨rfl, rfl⟩
  go_wp2
  go_ret
  exact ⟨rfl, C1.out⟩

set_option maxRecDepth 100000 in
set_option maxHeartbeats 8000000 in
theorem damage_yes {w : World} (r : Nat) (hr : r < 256) (A : Option Addr) (c : Nat) (l : List AC) (hacts : ActsAt w A l) (hl : l.length ≤ 9223372036854775807) (hf : ∀ a ∈ l, a.fine) (s : Int) (_hs : -9223372036854775808 ≤ s ∧ s ≤ 9223372036854775807) (at_ : Int) (_hat : -9223372036854775808 ≤ at_ ∧ at_ ≤ 9223372036854775807) (m : Int) (_hm : -9223372036854775808 ≤ m ∧ m ≤ 9223372036854775807) (hok : okB l = true) :
    Calls Try.prog 9 #[.int .u8 (r : Int), .slice A l.length c, .int .i64 s, .int .i64 at_, .int .i64 m] w fun e w' => e = .returned (.bool true) ∧ Chg (fun _ => False) w w' := by
  have HO := Lib.hid (fun w (h : ActsAt w A l) => ok_ok A c l w h hl (fun a ha => (hf a ha).1))
  rw [hok] at HO
  have HA := Lib.hid hacts
  have hlen := okB_len hok
  have Htx := Lib.hid (okB_text hok)
  have Hf := Lib.hid hf
  obtain ⟨n, hn⟩ : ∃ n, n = 1 + r % 12 := ⟨_, rfl⟩
  have HS := Lib.hid (fun w => size_ok r w hr)
  rw [← hn] at HS
  have hn1 : 1 ≤ n := by omega
  have hn2 : n ≤ 12 := by omega
  clear hn hacts hf hok
  go_enter Try.func9, Try.ntmps9
  go_wp2_with (fail)
  refine (head_ok _).mono ?_
  rintro e w1 ⟨rfl, c1⟩
  have C1 := Lib.hid c1
  clear c1
  go_wp2_with (fail)
  refine (HO.out _ (HA.out.kept C1.out)).mono ?_
  rintro e w2 ⟨rfl, rfl⟩
  go_wp2_with (fail)
  refine (HS.out _).mono ?_
  rintro e w2 ⟨rfl, rfl⟩
  go_wp2_with (fail)
  refine (live_new w _ C1.out n hn1 (by omega)).mono ?_
  rintro e w2 ⟨b1, rfl, l1⟩
  have R0 : ActRel w n l b1 0 w2 := l1
  clear l1
  go_wp2
  go_loopw [14] (fun i wr => ∃ k : Nat, k ≤ l.length ∧ i = .int .i64 k ∧ ActRel w n l b1 k wr) (fun i _ => l.length - (intOf i).toNat)
  case atStart => exact ⟨0, Nat.zero_le _, rfl, R0⟩
  case round =>
    obtain ⟨k, hk, rfl, rel⟩ := hrel
    by_cases hlt : k < l.length
    · obtain ⟨ab, off, rfl, seen⟩ := (HA.out.kept (Live.chg rel)).seen k hlt
      have hq : ((DS.new n).acts (l.take k)).q.length < 1000 := by
        have h1 := DS.acts_len (DS.new n) (l.take k)
        rw [List.length_take] at h1
        have h2 : (DS.new n).q.length = 0 := rfl
        omega
      have hmem := List.getElem_mem hlt
      have ht := Htx.out _ hmem
      have hfi := (Hf.out _ hmem).2.2.2
      have e : (DS.new n).acts (l.take (k + 1)) = (((DS.new n).acts (l.take k)).act l[k]).2 := by rw [take_snoc' l k hlt, DS.acts_snoc]
      obtain ⟨D, hD⟩ : ∃ D, D = (DS.new n).acts (l.take k) := ⟨_, rfl⟩
      rw [← hD] at hq e
      have rel' : Live w wr b1 D := by rw [hD]; exact rel
      obtain ⟨a, ha⟩ : ∃ a, a = l[k] := ⟨_, rfl⟩
      rw [← ha] at seen ht hfi e
      have E := Lib.hid e
      have Ha := Lib.hid ha
      obtain ⟨c0, c1, c2, c3, c4, c5, blt⟩ := seen
      have REL := Lib.hid rel'
      clear rel rel' e hD ha hmem R0
      obtain ⟨k1, s1, y1, t1, o1, f1⟩ := a
      dsimp only at c0 c1 c2 c3 c4 c5 ht hfi
      go_wp2_with (fail)
      refine (REL.out.act ⟨k1, s1, y1, t1, o1, f1⟩ hq ht hfi).mono ?_
      rintro e w5 ⟨rfl, rel5⟩
      have REL5 := Lib.hid rel5
      clear rel5
      go_wp2
      go_roundw
      case rel => exact ⟨k + 1, by omega, by go_num, by unfold ActRel; rw [E.out]; exact REL5.out⟩
      case measure => simp [intOf]; omega
    · have ek : k = l.length := by omega
      have rel' : Live w wr b1 ((DS.new n).acts l) := by
        have := rel
        unfold ActRel at this
        rw [ek, List.take_length] at this
        exact this
      have hq : ((DS.new n).acts l).q.length ≤ 60 := by
        have h1 := DS.acts_len (DS.new n) l
        have h2 : (DS.new n).q.length = 0 := rfl
        omega
      have hnn : ((DS.new n).acts l).n = n := DS.n_acts _ _
      clear R0 rel
      obtain ⟨B, hB⟩ : ∃ B, B = ((DS.new n).acts l).start := ⟨_, rfl⟩
      have hBo : B.off = false := by rw [hB]; rfl
      have hBa : B.arm = none := by rw [hB]; rfl
      have hBq : B.q.length ≤ 60 := by rw [hB]; exact hq
      have hBn : B.n = n := by rw [hB]; exact hnn
      have HB := Lib.hid hB; have REL := Lib.hid rel'.x
      have SB := Lib.hid (DS.sync_started B hBo hBa)
      obtain ⟨C, hC⟩ : ∃ C, C = B.clean := ⟨_, rfl⟩
      rw [← hC] at SB
      have Co := Lib.hid (show C.off = false by rw [hC]; show (B.settle B.q).off = false; rw [(DS.settle_rest _ _).2.2.1]; exact hBo)
      have Cq := Lib.hid (show C.q = [] by rw [hC]; rfl)
      have Cn := Lib.hid (show C.n = n by rw [hC]; show (B.settle B.q).n = n; rw [(DS.settle_rest _ _).2.1]; exact hBn)
      have HBo := Lib.hid hBo; have HBa := Lib.hid hBa; have HBn := Lib.hid hBn
      clear rel' hB hnn ek hBo hBa hBn hC
      go_wp2_with (fail)
      refine (REL.out.start).mono ?_
      rintro e w4 ⟨rfl, r4⟩
      rw [← HB.out] at r4
      have R4 := Lib.hid r4
      clear r4
      go_wp2_with (fail)
      refine (R4.out.sync (by omega)).mono ?_
      rintro e w5 ⟨rfl, r5⟩
      rw [SB.out]
      rw [SB.out] at r5
      have R5 := Lib.hid r5
      have CW := Lib.hid r5.wf
      clear r5
      obtain ⟨E, hE⟩ : ∃ E, E = C.rot s at_ m := ⟨_, rfl⟩
      have HE := Lib.hid hE
      have EE := Lib.hid (show E.rot s at_ m = C by rw [hE]; exact CW.out.rot_rot s at_ m)
      have Eo := Lib.hid (show E.off = false by rw [hE, (DS.rot_rest _ _ _ _).2.2.1]; exact Co.out)
      have Eq := Lib.hid (show E.q = [] by rw [hE, (DS.rot_rest _ _ _ _).1]; exact Cq.out)
      have LYE := Lib.hid (show E.wf by rw [hE]; exact CW.out.rot s at_ m)
      have En := Lib.hid (show E.n = n by rw [hE, (DS.rot_rest _ _ _ _).2.1]; exact Cn.out)
      obtain ⟨S, hS⟩ : ∃ S, S = C.stale s := ⟨_, rfl⟩
      have HS2 := Lib.hid hS
      have SS := Lib.hid (show S.stale s = S by rw [hS]; exact DS.stale_stale C s)
      have So := Lib.hid (show S.off = false by rw [hS, (DS.stale_rest _ _).2.2.1]; exact Co.out)
      have Sq := Lib.hid (show S.q = [] by rw [hS, (DS.stale_rest _ _).1]; exact Cq.out)
      have Sn := Lib.hid (show S.n = n by rw [hS, (DS.stale_rest _ _).2.1]; exact Cn.out)
      clear hE hS
      go_wp2_with (fail)
      refine (R5.out.contents Co.out (by rw [Cq.out]; exact Nat.zero_le _) Cn.out).mono ?_
      rintro e w6 ⟨g1, cp1, O1, rfl, G1, P1⟩
      go_wp2_with (fail)
      refine (P1.out.rot s at_ m).mono ?_
      rintro e w7 ⟨rfl, r7⟩
      rw [← HE.out] at r7
      have R7 := Lib.hid r7
      clear r7
      go_wp2_with (fail)
      refine (R7.out.contents Eo.out (by rw [Eq.out]; exact Nat.zero_le _) En.out).mono ?_
      rintro e w8 ⟨g2, cp2, O2, rfl, G2, P2⟩
      go_wp2_with (fail)
      refine (P2.out.rot s at_ m).mono ?_
      rintro e w9 ⟨rfl, r9⟩
      rw [EE.out] at r9
      have R9 := Lib.hid r9
      clear r9
      go_wp2_with (fail)
      refine (R9.out.contents Co.out (by rw [Cq.out]; exact Nat.zero_le _) Cn.out).mono ?_
      rintro e w10 ⟨g3, cp3, O3, rfl, G3, P3⟩
      have a := same_ok (some ⟨g1, 0, none⟩) (some ⟨g3, 0, none⟩) cp1 cp3 C.conts C.conts w10 (P3.out.strs (by simp) G1.out) (P3.out.strs (by simp) G3.out) (by rw [DS.conts_length, Cn.out]; omega) (by rw [DS.conts_length, Cn.out]; omega)
      rw [DS.conts_length, Cn.out, show decide (C.conts = C.conts) = true from decide_eq_true rfl] at a
      have SMa := Lib.hid a
      clear a
      go_wp2_with (fail)
      refine SMa.out.mono ?_
      rintro e w11 ⟨rfl, cca⟩
      have Qa := Lib.hid (P3.out.kept cca)
      clear cca
      have t0 : True := trivial
      go_upto_region 20 with (fail)
      obtain ⟨V, hV⟩ : ∃ V : Bool, V = decide (C.rotOk s at_ m) := ⟨_, rfl⟩
      have HV := Lib.hid hV
      go_cut [21] (fun v wx => v = .bool V ∧ wx = w11)
      case first =>
        have e6 : V = (decide (0 ≤ s) && decide (s < (n : Int)) && decide (0 ≤ at_) && decide (at_ < 64) && decide (1 ≤ m) && decide (m ≤ 255)) := by
          rw [hV]
          refine and6 _ ?_
          unfold DS.rotOk DS.bad
          rw [Cn.out]
          simp only [Bool.or_eq_false_iff, decide_eq_false_iff_not]
          constructor
          · rintro ⟨⟨h1, h2⟩, h3, h4, h5, h6⟩; omega
          · rintro ⟨h1, h2, h3, h4, h5, h6⟩; omega
        clear hV
        have E6 := Lib.hid e6
        clear e6
        by_cases h1 : 0 ≤ s
        · have t1 : decide (0 ≤ s) = true := by simpa using h1
          by_cases h2 : s < n
          · have t2 : decide (s < (n : Int)) = true := by simpa using h2
            by_cases h3 : 0 ≤ at_
            · have t3 : decide (0 ≤ at_) = true := by simpa using h3
              by_cases h4 : at_ < 64
              · have t4 : decide (at_ < 64) = true := by simpa using h4
                by_cases h5 : 1 ≤ m
                · have t5 : decide (1 ≤ m) = true := by simpa using h5
                  go_wp2
                  go_meet
                  refine ⟨?_, rfl⟩
                  have := E6.out
                  simp [*]
                · have t5 : decide (1 ≤ m) = false := by simpa using h5
                  go_wp2
                  go_meet
                  refine ⟨?_, rfl⟩
                  have := E6.out
                  simp [*]
              · have t4 : decide (at_ < 64) = false := by simpa using h4
                go_wp2
                go_meet
                refine ⟨?_, rfl⟩
                have := E6.out
                simp [*]
            · have t3 : decide (0 ≤ at_) = false := by simpa using h3
              go_wp2
              go_meet
              refine ⟨?_, rfl⟩
              have := E6.out
              simp [*]
          · have t2 : decide (s < (n : Int)) = false := by simpa using h2
            go_wp2
            go_meet
            refine ⟨?_, rfl⟩
            have := E6.out
            simp [*]
        · have t1 : decide (0 ≤ s) = false := by simpa using h1
          go_wp2
          go_meet
          refine ⟨?_, rfl⟩
          have := E6.out
          simp [*]
      case rest =>
        obtain ⟨rfl, rfl⟩ := hcut
        clear hV
        have T0 : Two w wc b1 C g1 g2 C.conts E.conts := ⟨Qa.out.live, Qa.out.strs (by simp) G1.out, Qa.out.strs (by simp) G2.out⟩
        have QA := Lib.hid Qa.out
        go_wp2
        go_loopw [22, 23, 24] (fun iv _ _ wr => ∃ i : Nat, i ≤ n ∧ iv = .int .i64 i ∧ LiveX w wr b1 C [(g3, O3), (g2, O2), (g1, O1)]) (fun iv _ _ _ => n - (intOf iv).toNat)
        case atStart => exact ⟨0, Nat.zero_le _, rfl, QA.out⟩
        case round =>
          obtain ⟨i, hi, rfl, lx⟩ := hrel
          have LX := Lib.hid lx
          clear lx T0
          by_cases hlt : i < n
          · obtain ⟨wo, rfl⟩ : ∃ wo : World, wo = wr := ⟨_, rfl⟩
            go_wp2
            go_loopw [23, 24] (fun kv _ wr => ∃ k : Nat, k ≤ 64 ∧ kv = .int .i64 k ∧ LiveX w wr b1 C [(g3, O3), (g2, O2), (g1, O1)]) (fun kv _ _ => 64 - (intOf kv).toNat)
            case atStart => exact ⟨0, Nat.zero_le _, rfl, LX.out⟩
            case round =>
              obtain ⟨k, hk, rfl, lx⟩ := hrel
              have LY := Lib.hid lx
              clear lx
              by_cases hlt2 : k < 64
              · have hci : i < C.conts.length := by rw [DS.conts_length, Cn.out]; exact hlt
                have hei : i < E.conts.length := by rw [DS.conts_length, En.out]; exact hlt
                obtain ⟨x, hx⟩ : ∃ x, C.conts[i] = x := ⟨_, rfl⟩
                obtain ⟨y, hy⟩ : ∃ y, E.conts[i] = y := ⟨_, rfl⟩
                have cx := (LY.out.strs (by simp) G1.out).get i hci hx
                have cy := (LY.out.strs (by simp) G2.out).get i hei hy
                have ex : ba x = C.st i := by rw [← hx, DS.conts_nil C Cq.out, ba_mkB]
                have ey : ba y = E.st i := by rw [← hy, DS.conts_nil E Eq.out, ba_mkB]
                have sx : k < x.size := by rw [← ba_length, ex, CW.out.stl]; exact hlt2
                have sy : k < y.size := by rw [← ba_length, ey, LYE.out.stl]; exact hlt2
                have bx := idx_str x k sx _ (by rw [ex])
                have bY := idx_str y k sy _ (by rw [ey])
                have hz := CW.out.rot_bits s at_ m i k hlt2
                rw [← HE.out] at hz
                obtain ⟨X, hX⟩ : ∃ X : Int, (((C.st i).getD k 0).toNat : Int) = X := ⟨_, rfl⟩
                obtain ⟨Y, hY⟩ : ∃ Y : Int, (((E.st i).getD k 0).toNat : Int) = Y := ⟨_, rfl⟩
                rw [hX] at bx hz
                rw [hY] at bY hz
                unfold rotBits at hz
                clear hX hY hx hy ex ey sx sy hci hei
                have hv := HV.out
                cases V with
                | false =>
                  have hno : ¬ C.rotOk s at_ m := of_decide_eq_false hv.symm
                  rw [if_neg (fun hh => hno hh.1)] at hz
                  clear hv hno
                  go_wp2
                  go_quiet (fail)
                  go_wp2
                  go_roundw
                  case rel => exact ⟨k + 1, by omega, by go_num, LY.out.drewN _⟩
                  case measure => simp [intOf]; omega
                | true =>
                  have hyes : C.rotOk s at_ m := of_decide_eq_true hv.symm
                  have m0 : IntKind.i64.wrap m = m := IntWalk.i64_in _ (by obtain ⟨_, _, _, h5, h6⟩ := hyes; omega)
                  clear hv
                  by_cases his : (i : Int) = s
                  · have tI : ((i : Int) == s) = true := by simpa using his
                    by_cases hka : (k : Int) = at_
                    · have tK : ((k : Int) == at_) = true := by simpa using hka
                      rw [if_pos ⟨hyes, his, hka⟩] at hz
                      clear hyes his hka
                      go_wp2
                      go_quiet (fail)
                      go_wp2
                      go_roundw
                      case rel => exact ⟨k + 1, by omega, by go_num, LY.out.drewN _⟩
                      case measure => simp [intOf]; omega
                    · have tK : ((k : Int) == at_) = false := by simpa using hka
                      rw [if_neg (fun hh => hka hh.2.2)] at hz
                      clear hyes his hka
                      go_wp2
                      go_quiet (fail)
                      go_wp2
                      go_roundw
                      case rel => exact ⟨k + 1, by omega, by go_num, LY.out.drewN _⟩
                      case measure => simp [intOf]; omega
                  · have tI : ((i : Int) == s) = false := by simpa using his
                    rw [if_neg (fun hh => his hh.2.1)] at hz
                    clear hyes his
                    go_wp2
                    go_quiet (fail)
                    go_wp2
                    go_roundw
                    case rel => exact ⟨k + 1, by omega, by go_num, LY.out.drewN _⟩
                    case measure => simp [intOf]; omega
              · go_wp2
                go_roundw
                case rel => exact ⟨i + 1, by omega, by go_num, LY.out⟩
                case measure => simp [intOf]; omega
          · have t9 : True := trivial
            go_wp2_with (fail)
            refine (LX.out.stale s).mono ?_
            rintro e v1 ⟨rfl, r1⟩
            rw [← HS2.out] at r1
            have T1 := Lib.hid r1
            clear r1
            go_wp2_with (fail)
            refine (T1.out.contents So.out (by rw [Sq.out]; exact Nat.zero_le _) Sn.out).mono ?_
            rintro e v2 ⟨g4, cp4, O4, rfl, G4, P4⟩
            go_wp2_with (fail)
            refine (P4.out.stale s).mono ?_
            rintro e v3 ⟨rfl, r3⟩
            rw [SS.out] at r3
            have T3 := Lib.hid r3
            clear r3
            go_wp2_with (fail)
            refine (T3.out.contents So.out (by rw [Sq.out]; exact Nat.zero_le _) Sn.out).mono ?_
            rintro e v4 ⟨g5, cp5, O5, rfl, G5, P5⟩
            have b := same_ok (some ⟨g4, 0, none⟩) (some ⟨g5, 0, none⟩) cp4 cp5 S.conts S.conts v4 (P5.out.strs (by simp) G4.out) (P5.out.strs (by simp) G5.out) (by rw [DS.conts_length, Sn.out]; omega) (by rw [DS.conts_length, Sn.out]; omega)
            rw [DS.conts_length, Sn.out, show decide (S.conts = S.conts) = true from decide_eq_true rfl] at b
            have SMb := Lib.hid b
            clear b
            go_wp2_with (fail)
            refine SMb.out.mono ?_
            rintro e v5 ⟨rfl, ccb⟩
            have Qb := Lib.hid (P5.out.kept ccb)
            clear ccb
            have Z0 : LiveX w v5 b1 S [(g5, O5), (g4, O4), (g3, O3), (g2, O2), (g1, O1)] := Qb.out
            have QB := Lib.hid Z0
            clear Z0
            go_wp2
            go_loopw [29] (fun iv wr => ∃ i : Nat, i ≤ n ∧ iv = .int .i64 i ∧ LiveX w wr b1 S [(g5, O5), (g4, O4), (g3, O3), (g2, O2), (g1, O1)]) (fun iv _ => n - (intOf iv).toNat)
            case atStart => exact ⟨0, Nat.zero_le _, rfl, QB.out⟩
            case round =>
              obtain ⟨j, hj, rfl, lx⟩ := hrel
              have LZ := Lib.hid lx
              clear lx
              by_cases hlt3 : j < n
              · have hci : j < C.conts.length := by rw [DS.conts_length, Cn.out]; exact hlt3
                have hsi : j < S.conts.length := by rw [DS.conts_length, Sn.out]; exact hlt3
                obtain ⟨x, hx⟩ : ∃ x, C.conts[j] = x := ⟨_, rfl⟩
                by_cases hjs : (j : Int) = s
                · have tJ : ((j : Int) != s) = false := by simpa using hjs
                  clear hjs
                  go_wp2
                  go_quiet (fail)
                  go_wp2
                  go_roundw
                  case rel => exact ⟨j + 1, by omega, by go_num, LZ.out.drewN _⟩
                  case measure => simp [intOf]; omega
                · have tJ : ((j : Int) != s) = true := by simpa using hjs
                  have cx := (LZ.out.strs (by simp) G1.out).get j hci hx
                  have cy := (LZ.out.strs (by simp) G4.out).get j hsi (x := x) (by rw [← hx, DS.conts_nil C Cq.out, DS.conts_nil S Sq.out, HS2.out, DS.stale_other C s j hjs])
                  clear hjs hx
                  go_wp2
                  go_quiet (fail)
                  go_wp2
                  go_roundw
                  case rel => exact ⟨j + 1, by omega, by go_num, LZ.out.drewN _⟩
                  case measure => simp [intOf]; omega
              · go_wp2
                go_ret
                exact ⟨rfl, LZ.out.chg⟩

theorem damage_walk {w : World} (r : Nat) (hr : r < 256) (A : Option Addr) (c : Nat) (l : List AC) (hacts : ActsAt w A l) (hl : l.length ≤ 9223372036854775807) (hf : ∀ a ∈ l, a.fine) (s : Int) (_hs : -9223372036854775808 ≤ s ∧ s ≤ 9223372036854775807) (at_ : Int) (_hat : -9223372036854775808 ≤ at_ ∧ at_ ≤ 9223372036854775807) (m : Int) (_hm : -9223372036854775808 ≤ m ∧ m ≤ 9223372036854775807) (w' : World) (hw : w' = w := by rfl) :
    Calls Try.prog 9 #[.int .u8 (r : Int), .slice A l.length c, .int .i64 s, .int .i64 at_, .int .i64 m] w' fun e w'' => e = .returned (.bool true) ∧ Chg (fun _ => False) w' w'' := by
  subst hw
  cases hok : okB l with
  | false => exact damage_no0 r hr A c l hacts hl hf s _hs at_ _hat m _hm hok
  | true => exact damage_yes r hr A c l hacts hl hf s _hs at_ _hat m _hm hok

end Go.Proofs.Ytageboekobkdcaa

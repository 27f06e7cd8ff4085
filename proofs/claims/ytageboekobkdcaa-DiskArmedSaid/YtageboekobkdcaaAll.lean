/- DiskAll, walked. -/
import Derived.Test.YtageboekobkdcaaS
namespace Go.Proofs.Ytageboekobkdcaa
open Go.RowKit

theorem cut_big (m : Nat) (h : m ≤ 60) : cut 60 m = m := by unfold cut; omega
theorem cut_zero (m : Nat) : cut 0 m = 0 := by unfold cut; omega
/-- What the two disks come to. -/
theorem all_eq (D : DS) (ho : D.off = false) (ha : D.arm = none) (hq : D.q.length ≤ 60) (bytes more : Int) :
    ((D.fail 60 bytes).fail more bytes).start = ((D.sync.2).fail 0 bytes).start := by
  have e1 : D.fail 60 bytes = (D.settle D.q).down := by
    unfold DS.fail
    rw [ho, cut_big _ hq, List.take_length, List.getElem?_eq_none (Nat.le_refl _)]
    rfl
  have e2 : (D.fail 60 bytes).fail more bytes = (D.settle D.q).down := by
    rw [e1]; unfold DS.fail; rfl
  rw [e2, DS.sync_started D ho ha]
  unfold DS.fail
  have h0 : D.clean.off = false := by show (D.settle D.q).off = false; rw [(DS.settle_rest _ _).2.2.1]; exact ho
  rw [h0, cut_zero]
  rfl

def AllRel (W : World) (n : Nat) (l : List AC) (b1 b2 k : Nat) (wr : World) : Prop := Duo W wr b1 ((DS.new n).acts (l.take k)) b2 ((DS.new n).acts (l.take k))

set_option maxRecDepth 100000 in
set_option maxHeartbeats 4000000 in
theorem all_no (r : Nat) (A : Option Addr) (c : Nat) (l : List AC) (bytes more : Int) (w : World) (hacts : ActsAt w A l) (hl : l.length ≤ 9223372036854775807) (hf : ∀ a ∈ l, a.fine) (hok : okB l = false) :
    Calls Try.prog 7 #[.int .u8 (r : Int), .slice A l.length c, .int .i64 bytes, .int .i64 more] w fun e w' => e = .returned (.bool true) ∧ Chg (fun _ => False) w w' := by
  have HO := Lib.hid (fun w (h : ActsAt w A l) => ok_ok A c l w h hl (fun a ha => (hf a ha).1))
  rw [hok] at HO
  have HA := Lib.hid hacts
  clear hacts hf hok
  go_enter Try.func7, Try.ntmps7
  go_wp2_with (first | (go_at_call 10; refine (head_ok _).mono ?_; rintro e w1 ⟨rfl, c1⟩; have C1 := Lib.hid c1; clear c1) | (go_at_call 11; refine (HO.out _ (HA.out.kept C1.out)).mono ?_; rintro e w2 ⟨rfl, rfl⟩))
  go_ret
  exact ⟨rfl, C1.out⟩

set_option maxRecDepth 100000 in
set_option maxHeartbeats 4000000 in
theorem all_yes (r : Nat) (hr : r < 256) (A : Option Addr) (c : Nat) (l : List AC) (bytes more : Int) (w : World) (hacts : ActsAt w A l) (hl : l.length ≤ 9223372036854775807) (hf : ∀ a ∈ l, a.fine) (hok : okB l = true) :
    Calls Try.prog 7 #[.int .u8 (r : Int), .slice A l.length c, .int .i64 bytes, .int .i64 more] w fun e w' => e = .returned (.bool true) ∧ Chg (fun _ => False) w w' := by
  have HO := Lib.hid (fun w (h : ActsAt w A l) => ok_ok A c l w h hl (fun a ha => (hf a ha).1))
  rw [hok] at HO
  have HA := Lib.hid hacts
  have hlen := okB_len hok
  have htx := okB_text hok
  obtain ⟨n, hn⟩ : ∃ n, n = 1 + r % 12 := ⟨_, rfl⟩
  have HS := Lib.hid (fun w => size_ok r w hr)
  rw [← hn] at HS
  have hn1 : 1 ≤ n := by omega
  have hn2 : n ≤ 12 := by omega
  have Hf := Lib.hid hf; have Htx := Lib.hid htx
  clear hacts hf hok htx hn
  go_enter Try.func7, Try.ntmps7
  go_wp2_with (fail)
  refine (head_ok _).mono ?_
  rintro e w1 ⟨rfl, c1⟩
  have C1 := Lib.hid c1
  clear c1
  go_wp2_with (fail)
  refine (HO.out _ (HA.out.kept C1.out)).mono ?_
  rintro e w2 ⟨rfl, rfl⟩
  go_wp2_with (fail)
  refine (HS.out _).mono ?_
  rintro e w2 ⟨rfl, rfl⟩
  go_wp2_with (fail)
  refine (live_new w _ C1.out n hn1 (by omega)).mono ?_
  rintro e w2 ⟨b1, rfl, l1⟩
  have L1 := Lib.hid l1
  clear l1
  go_wp2_with (fail)
  refine (L1.out.new' n hn1 (by omega)).mono ?_
  rintro e w3 ⟨b2, rfl, l1⟩
  have R0 : AllRel w n l b1 b2 0 w3 := l1
  clear l1 L1
  go_wp2
  go_loopw [13] (fun i wr => ∃ k : Nat, k ≤ l.length ∧ i = .int .i64 k ∧ AllRel w n l b1 b2 k wr) (fun i _ => l.length - (intOf i).toNat)
  case atStart => exact ⟨0, Nat.zero_le _, rfl, R0⟩
  case round =>
    obtain ⟨k, hk, rfl, rel⟩ := hrel
    by_cases hlt : k < l.length
    · obtain ⟨ab, off, rfl, seen⟩ := (HA.out.kept (Duo.chg rel)).seen k hlt
      have hq : ((DS.new n).acts (l.take k)).q.length < 1000 := by
        have h1 := DS.acts_len (DS.new n) (l.take k)
        rw [List.length_take] at h1
        have h2 : (DS.new n).q.length = 0 := rfl
        omega
      have hmem := List.getElem_mem hlt
      have ht := Htx.out _ hmem
      have hfi := (Hf.out _ hmem).2.2.2
      have e : (DS.new n).acts (l.take (k + 1)) = (((DS.new n).acts (l.take k)).act l[k]).2 := by rw [take_snoc' l k hlt, DS.acts_snoc]
      obtain ⟨D, hD⟩ : ∃ D, D = (DS.new n).acts (l.take k) := ⟨_, rfl⟩
      rw [← hD] at hq e
      have rel' : Duo w wr b1 D b2 D := by rw [hD]; exact rel
      obtain ⟨a, ha⟩ : ∃ a, a = l[k] := ⟨_, rfl⟩
      rw [← ha] at seen ht hfi e
      have E := Lib.hid e
      have Ha := Lib.hid ha
      obtain ⟨c0, c1, c2, c3, c4, c5, blt⟩ := seen
      have REL := Lib.hid rel'
      clear rel rel' e hD ha hmem R0
      obtain ⟨k1, s1, y1, t1, o1, f1⟩ := a
      dsimp only at c0 c1 c2 c3 c4 c5 ht hfi
      go_wp2_with (fail)
      refine (REL.out.act ⟨k1, s1, y1, t1, o1, f1⟩ hq ht hfi).mono ?_
      rintro e w4 ⟨rfl, rel4⟩
      clear c0 c1 c2 c3 c4 c5 blt
      obtain ⟨c0, c1, c2, c3, c4, c5, blt⟩ := (HA.out.kept (Duo.chg rel4)).seen' k hlt Ha
      dsimp only at c0 c1 c2 c3 c4 c5
      have REL4 := Lib.hid rel4.symm
      clear rel4
      go_wp2_with (fail)
      refine (REL4.out.act ⟨k1, s1, y1, t1, o1, f1⟩ hq ht hfi).mono ?_
      rintro e w5 ⟨rfl, rel5⟩
      have REL5 := Lib.hid rel5.symm
      clear rel5
      go_wp2
      go_roundw
      case rel => exact ⟨k + 1, by omega, by go_num, by unfold AllRel; rw [E.out]; exact REL5.out⟩
      case measure => simp [intOf]; omega
    · have ek : k = l.length := by omega
      have rel' : Duo w wr b1 ((DS.new n).acts l) b2 ((DS.new n).acts l) := by
        have := rel
        unfold AllRel at this
        rw [ek, List.take_length] at this
        exact this
      have hq : ((DS.new n).acts l).q.length ≤ 60 := by
        have h1 := DS.acts_len (DS.new n) l
        have h2 : (DS.new n).q.length = 0 := rfl
        omega
      have hnn : ((DS.new n).acts l).n = n := DS.n_acts _ _
      obtain ⟨D, hD⟩ : ∃ D, D = ((DS.new n).acts l).start := ⟨_, rfl⟩
      have hDo : D.off = false := by rw [hD]; rfl
      have hDa : D.arm = none := by rw [hD]; rfl
      have hDq : D.q.length ≤ 60 := by rw [hD]; exact hq
      have hDn : D.n = n := by rw [hD]; exact hnn
      have eqs := all_eq D hDo hDa hDq bytes more
      have hs := DS.sync_started D hDo hDa
      have hn1' : (((D.fail 60 bytes).fail more bytes).start).n = n := by show ((D.fail 60 bytes).fail more bytes).n = n; rw [DS.n_fail, DS.n_fail, hDn]
      have q1 : (D.fail 60 bytes).q.length ≤ 1000 := Nat.le_trans (DS.len_fail _ _ _) (by omega)
      have q2 : ((D.fail 60 bytes).fail more bytes).q.length ≤ 1000 := Nat.le_trans (DS.len_fail _ _ _) q1
      have q3 : D.sync.2.q.length ≤ 1000 := Nat.le_trans (DS.len_sync _) (by omega)
      have HD := Lib.hid hD; have REL := Lib.hid rel'; have EQ := Lib.hid eqs; have SY := Lib.hid hs; have HN := Lib.hid hn1'
      clear rel rel' hD eqs hs hn1' R0 hnn ek hDo hDa hDn
      go_wp2_with (fail)
      refine (REL.out.start).mono ?_
      rintro e w4 ⟨rfl, r4⟩
      rw [← HD.out] at r4
      have R4 := Lib.hid r4.symm
      clear r4
      go_wp2_with (fail)
      refine (R4.out.start).mono ?_
      rintro e w5 ⟨rfl, r5⟩
      rw [← HD.out] at r5
      have R5 := Lib.hid r5.symm
      clear r5
      go_wp2_with (fail)
      refine (R5.out.fail 60 bytes (by omega)).mono ?_
      rintro e w6 ⟨rfl, r6⟩
      have R6 := Lib.hid r6
      clear r6
      go_wp2_with (fail)
      refine (R6.out.fail more bytes q1).mono ?_
      rintro e w7 ⟨rfl, r7⟩
      have R7 := Lib.hid r7.symm
      clear r7
      go_wp2_with (fail)
      refine (R7.out.sync (by omega)).mono ?_
      rintro e w8 ⟨rfl, r8⟩
      have R8 := Lib.hid r8
      rw [SY.out]
      clear r8
      go_wp2_with (fail)
      refine (R8.out.fail 0 bytes q3).mono ?_
      rintro e w9 ⟨rfl, r9⟩
      have R9 := Lib.hid r9.symm
      clear r9
      go_wp2_with (fail)
      refine (R9.out.start).mono ?_
      rintro e w10 ⟨rfl, r10⟩
      have R10 := Lib.hid r10.symm
      clear r10
      go_wp2_with (fail)
      refine (R10.out.start).mono ?_
      rintro e w11 ⟨rfl, r11⟩
      have R11 := Lib.hid r11.symm
      clear r11
      go_wp2_with (fail)
      refine (R11.out.start).mono ?_
      rintro e w12 ⟨rfl, r12⟩
      rw [← EQ.out] at r12
      obtain ⟨F, hF⟩ : ∃ F, F = ((D.fail 60 bytes).fail more bytes).start := ⟨_, rfl⟩
      have hFF : F.start = F := by rw [hF]; rfl
      rw [← hF, hFF] at r12
      have hFo : F.off = false := by rw [hF]; rfl
      have hFn : F.n = n := by rw [hF]; exact HN.out
      have hFq : F.q.length ≤ 1000 := by rw [hF]; exact q2
      have R12 := Lib.hid r12; have FO := Lib.hid hFo; have FN := Lib.hid hFn
      clear r12 hF hFF hFo hFn
      go_wp2_with (fail)
      refine (R12.out.contents FO.out hFq FN.out).mono ?_
      rintro e w13 ⟨g1, cp1, rfl, got1, r13⟩
      have G1 := Lib.hid got1
      have R13 := Lib.hid r13.out.2.symm
      clear got1 r13
      go_wp2_with (fail)
      refine (R13.out.contents FO.out hFq FN.out).mono ?_
      rintro e w14 ⟨g2, cp2, rfl, got2, r14⟩
      have sm := same_ok (some ⟨g1, 0, none⟩) (some ⟨g2, 0, none⟩) cp1 cp2 F.conts F.conts w14 (G1.out.at_.out.kept r14.out.1) got2.at_.out (by rw [DS.conts_length, FN.out]; omega) (by rw [DS.conts_length, FN.out]; omega)
      rw [DS.conts_length, FN.out, show decide (F.conts = F.conts) = true from decide_eq_true rfl] at sm
      have SM := Lib.hid sm
      have R14 := Lib.hid r14.out.2
      clear sm got2 r14
      go_wp2_with (fail)
      refine SM.out.mono ?_
      rintro e w15 ⟨rfl, c15⟩
      have C15 := Lib.hid (R14.out.chg.trans c15 (fun _ _ h => h))
      clear c15
      go_wp2
      go_ret
      exact ⟨rfl, C15.out⟩

theorem all_walk (r : Nat) (hr : r < 256) (A : Option Addr) (c : Nat) (l : List AC) {w : World} (hacts : ActsAt w A l) (hl : l.length ≤ 9223372036854775807) (hf : ∀ a ∈ l, a.fine) (bytes : Int) (_hb : -9223372036854775808 ≤ bytes ∧ bytes ≤ 9223372036854775807) (more : Int) (_hm : -9223372036854775808 ≤ more ∧ more ≤ 9223372036854775807) (w' : World) (hw : w' = w := by rfl) :
    Calls Try.prog 7 #[.int .u8 (r : Int), .slice A l.length c, .int .i64 bytes, .int .i64 more] w' fun e w'' => e = .returned (.bool true) ∧ Chg (fun _ => False) w' w'' := by
  subst hw
  cases hok : okB l with
  | false => exact all_no r A c l bytes more w' hacts hl hf hok
  | true => exact all_yes r hr A c l bytes more w' hacts hl hf hok
end Go.Proofs.Ytageboekobkdcaa

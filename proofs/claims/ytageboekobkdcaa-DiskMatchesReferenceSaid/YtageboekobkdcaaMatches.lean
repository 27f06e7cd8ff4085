/- DiskMatchesReference, walked. -/
import Derived.Test.YtageboekobkdcaaRN
import Derived.Deep.DeepCutAuto
namespace Go.Proofs.Ytageboekobkdcaa
open Go.RowKit

set_option maxRecDepth 100000 in
set_option maxHeartbeats 8000000 in
theorem matches_no0 {w : World} (r : Nat) (_hr : r < 256) (z : Int) (_hz : -9223372036854775808 ≤ z ∧ z ≤ 9223372036854775807) (A : Option Addr) (c : Nat) (l : List AC) (hacts : ActsAt w A l) (hl : l.length ≤ 9223372036854775807) (hf : ∀ a ∈ l, a.fine) (hok : okB l = false) :
    Calls Try.prog 3 #[.int .u8 (r : Int), .int .i64 z, .slice A l.length c] w fun e w' => e = .returned (.bool true) ∧ Chg (fun _ => False) w w' := by
  have HO := Lib.hid (fun w (h : ActsAt w A l) => ok_ok A c l w h hl (fun a ha => (hf a ha).1))
  rw [hok] at HO
  have HA := Lib.hid hacts
  clear hacts hf hok
  go_enter Try.func3, Try.ntmps3
  go_wp2_with (fail)
  refine (head_ok _).mono ?_
  rintro e w1 ⟨rfl, c1⟩
  have C1 := Lib.hid c1
  clear c1
  go_wp2_with (fail)
  refine (HO.out _ (HA.out.kept C1.out)).mono ?_
  rintro e w2 ⟨rfl, rfl⟩
  go_wp2
  go_ret
  exact ⟨rfl, C1.out⟩

set_option maxRecDepth 100000 in
set_option maxHeartbeats 8000000 in
theorem matches_yes {w : World} (r : Nat) (hr : r < 256) (z : Int) (_hz : -9223372036854775808 ≤ z ∧ z ≤ 9223372036854775807) (A : Option Addr) (c : Nat) (l : List AC) (hacts : ActsAt w A l) (hl : l.length ≤ 9223372036854775807) (hf : ∀ a ∈ l, a.fine) (hok : okB l = true) :
    Calls Try.prog 3 #[.int .u8 (r : Int), .int .i64 z, .slice A l.length c] w fun e w' => e = .returned (.bool true) ∧ Chg (fun _ => False) w w' := by
  have HO := Lib.hid (fun w (h : ActsAt w A l) => ok_ok A c l w h hl (fun a ha => (hf a ha).1))
  rw [hok] at HO
  have HA := Lib.hid hacts
  have hlen := okB_len hok
  have Htx := Lib.hid (okB_text hok)
  have Hf := Lib.hid hf
  obtain ⟨n, hn⟩ : ∃ n, n = 1 + r % 12 := ⟨_, rfl⟩
  have HS := Lib.hid (fun w => size_ok r w hr)
  rw [← hn] at HS
  have hn1 : 1 ≤ n := by omega
  have hn2 : n ≤ 12 := by omega
  clear hn hacts hf hok
  go_enter Try.func3, Try.ntmps3
  go_wp2_with (fail)
  refine (head_ok _).mono ?_
  rintro e w1 ⟨rfl, c1⟩
  have C1 := Lib.hid c1
  clear c1
  go_wp2_with (fail)
  refine (HO.out _ (HA.out.kept C1.out)).mono ?_
  rintro e w2 ⟨rfl, rfl⟩
  go_upto_region 4 with (fail)
  go_cut [34] (fun v wx => v = .bool false ∧ Hid (Chg (fun _ => False) w wx))
  case first =>
    by_cases hz1 : z < 1
    · have u1 : decide (z < 1) = true := by simpa using hz1
      go_wp2_with (fail)
      refine (new_any z _).mono ?_
      rintro e w3 ⟨p, rfl, hp, c3⟩
      obtain rfl : p = none := by
        cases p with
        | none => rfl
        | some q => rw [u1] at hp; simp at hp
      have C3 := Lib.hid (C1.out.trans c3.out (fun _ _ h => h))
      clear hp
      go_wp2
      go_meet
      exact ⟨rfl, C3.out⟩
    · have u1 : decide (z < 1) = false := by simpa using hz1
      by_cases hz2 : 4000 < z
      · have u2 : decide (4000 < z) = true := by simpa using hz2
        go_wp2_with (fail)
        refine (new_any z _).mono ?_
        rintro e w3 ⟨p, rfl, hp, c3⟩
        obtain rfl : p = none := by
          cases p with
          | none => rfl
          | some q => rw [u1, u2] at hp; simp at hp
        have C3 := Lib.hid (C1.out.trans c3.out (fun _ _ h => h))
        clear hp
        go_wp2
        go_meet
        exact ⟨rfl, C3.out⟩
      · have u2 : decide (4000 < z) = false := by simpa using hz2
        go_wp2_with (fail)
        refine (new_any z _).mono ?_
        rintro e w3 ⟨p, rfl, hp, c3⟩
        obtain ⟨q, rfl⟩ : ∃ q, p = some q := by
          cases p with
          | none => rw [u1, u2] at hp; simp at hp
          | some q => exact ⟨q, rfl⟩
        have C3 := Lib.hid (C1.out.trans c3.out (fun _ _ h => h))
        clear hp
        go_wp2
        go_meet
        exact ⟨rfl, C3.out⟩
  case rest =>
    obtain ⟨rfl, C4⟩ := hcut
    go_wp2_with (fail)
    refine (HS.out _).mono ?_
    rintro e w2 ⟨rfl, rfl⟩
    go_wp2_with (fail)
    refine (live_new w _ C4.out n hn1 (by omega)).mono ?_
    rintro e w2 ⟨b1, rfl, l1⟩
    have L1 := Lib.hid l1
    clear l1
    go_wp2_with (fail)
    refine (HS.out _).mono ?_
    rintro e w3 ⟨rfl, rfl⟩
    go_wp2_with (fail)
    refine (L1.out.rnew n hn1 (by omega)).mono ?_
    rintro e w3 ⟨rb, rfl, l1⟩
    have R0 : MatRel w n l b1 rb 0 w3 := l1
    clear l1 L1
    go_wp2
    go_loopw [10, 11, 12, 13, 14] (fun i _ _ _ _ wr => ∃ k : Nat, k ≤ l.length ∧ i = .int .i64 k ∧ MatRel w n l b1 rb k wr) (fun i _ _ _ _ _ => l.length - (intOf i).toNat)
    case atStart => exact ⟨0, Nat.zero_le _, rfl, R0⟩
    case round =>
      obtain ⟨k, hk, rfl, rel⟩ := hrel
      by_cases hlt : k < l.length
      · obtain ⟨ab, off, rfl, seen⟩ := (HA.out.kept (DuoR.chg rel)).seen k hlt
        have hq : ((DS.new n).acts (l.take k)).q.length < 1000 := by
          have h1 := DS.acts_len (DS.new n) (l.take k)
          rw [List.length_take] at h1
          have h2 : (DS.new n).q.length = 0 := rfl
          omega
        have hmem := List.getElem_mem hlt
        have ht := Htx.out _ hmem
        have hfi := (Hf.out _ hmem).2.2.2
        have e : (DS.new n).acts (l.take (k + 1)) = (((DS.new n).acts (l.take k)).act l[k]).2 := by rw [take_snoc' l k hlt, DS.acts_snoc]
        obtain ⟨D, hD⟩ : ∃ D, D = (DS.new n).acts (l.take k) := ⟨_, rfl⟩
        rw [← hD] at hq e
        have rel' : DuoR w wr b1 rb D D := by rw [hD]; exact rel
        obtain ⟨a, ha⟩ : ∃ a, a = l[k] := ⟨_, rfl⟩
        rw [← ha] at seen ht hfi e
        have E := Lib.hid e
        have Ha := Lib.hid ha
        obtain ⟨c0, c1, c2, c3, c4, c5, blt⟩ := seen
        have REL := Lib.hid rel'
        clear rel rel' e hD ha hmem R0
        obtain ⟨k1, s1, y1, t1, o1, f1⟩ := a
        dsimp only at c0 c1 c2 c3 c4 c5 ht hfi
        go_wp2_with (fail)
        refine (REL.out.act ⟨k1, s1, y1, t1, o1, f1⟩ hq ht hfi).mono ?_
        rintro e w4 ⟨rfl, rel4⟩
        clear c0 c1 c2 c3 c4 c5 blt
        obtain ⟨c0, c1, c2, c3, c4, c5, blt⟩ := (HA.out.kept (DuoR.chg rel4)).seen' k hlt Ha
        dsimp only at c0 c1 c2 c3 c4 c5
        have REL4 := Lib.hid rel4
        clear rel4
        go_wp2_with (fail)
        refine (REL4.out.want ⟨k1, s1, y1, t1, o1, f1⟩ hq ht hfi).mono ?_
        rintro e w5 ⟨rfl, rel5⟩
        have REL5 := Lib.hid rel5
        clear rel5
        go_wp2
        go_roundw
        case rel => exact ⟨k + 1, by omega, by go_num, by unfold MatRel; rw [E.out]; exact REL5.out⟩
        case measure => simp [intOf]; omega
      · have ek : k = l.length := by omega
        have rel' : DuoR w wr b1 rb ((DS.new n).acts l) ((DS.new n).acts l) := by
          have := rel
          unfold MatRel at this
          rw [ek, List.take_length] at this
          exact this
        have hq : ((DS.new n).acts l).q.length ≤ 60 := by
          have h1 := DS.acts_len (DS.new n) l
          have h2 : (DS.new n).q.length = 0 := rfl
          omega
        have hnn : ((DS.new n).acts l).n = n := DS.n_acts _ _
        clear R0 rel
        obtain ⟨B, hB⟩ : ∃ B, B = (DS.new n).acts l := ⟨_, rfl⟩
        rw [← hB] at hq rel'
        have REL := Lib.hid rel'
        have hb1000 : B.q.length ≤ 1000 := by omega
        clear rel' hB hnn ek
        go_wp2
        go_loopw [15, 16, 17, 18, 19] (fun i _ _ _ _ wr => ∃ k : Nat, k ≤ n ∧ i = .int .i64 k ∧ DuoR w wr b1 rb B B) (fun i _ _ _ _ _ => n - (intOf i).toNat)
        case atStart => exact ⟨0, Nat.zero_le _, rfl, REL.out⟩
        case round =>
          obtain ⟨j, hj, rfl, dr⟩ := hrel
          have DR := Lib.hid dr
          clear dr
          go_wp2_with (fail)
          refine (HS.out _).mono ?_
          rintro e w6 ⟨rfl, rfl⟩
          by_cases hlt3 : j < n
          · go_wp2_with (fail)
            refine (DR.out.read (j : Int) hb1000).mono ?_
            rintro e w7 ⟨rfl, r7⟩
            have R7 := Lib.hid r7
            clear r7
            go_wp2_with (fail)
            refine (R7.out.rread (j : Int) hb1000).mono ?_
            rintro e w8 ⟨rfl, r8⟩
            have R8 := Lib.hid r8
            clear r8
            go_wp2
            go_roundw
            case rel => exact ⟨j + 1, by omega, by go_num, R8.out⟩
            case measure => simp [intOf]; omega
          · go_wp2
            go_ret
            exact ⟨rfl, DR.out.chg⟩

theorem matches_walk {w : World} (r : Nat) (hr : r < 256) (z : Int) (_hz : -9223372036854775808 ≤ z ∧ z ≤ 9223372036854775807) (A : Option Addr) (c : Nat) (l : List AC) (hacts : ActsAt w A l) (hl : l.length ≤ 9223372036854775807) (hf : ∀ a ∈ l, a.fine) (w' : World) (hw : w' = w := by rfl) :
    Calls Try.prog 3 #[.int .u8 (r : Int), .int .i64 z, .slice A l.length c] w' fun e w'' => e = .returned (.bool true) ∧ Chg (fun _ => False) w' w'' := by
  subst hw
  cases hok : okB l with
  | false => exact matches_no0 r hr z _hz A c l hacts hl hf hok
  | true => exact matches_yes r hr z _hz A c l hacts hl hf hok

end Go.Proofs.Ytageboekobkdcaa

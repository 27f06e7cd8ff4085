/- value.content of a text in double quotes: contract. Conditions: none. -/
import Derived.Test.YtfifnemnihcijaaGreatDoorKVi
import Derived.WalkSpells
import Derived.Deep.Onto
import Derived.WalkLawsBesides
set_option linter.unusedSimpArgs false
set_option linter.unusedVariables false
namespace Go.Proofs.YtfifnemnihcijaaGreatDoor
open Go.RowKit

def byteV (c : UInt8) : Value := .int .u8 (c.toNat : Int)
/-- Where the loop over the content stands. -/
structure CRel (W1 : World) (b : Nat) (L : List UInt8) (k : Nat) (esc : Bool) (wr : World) : Prop where
  go : ∃ out, unesc L false [] = unesc (L.drop k) esc out ∧ out.length ≤ k ∧ BAt W1.heap.size b (out.map byteV) wr
  kept : KeptBut W1.heap.size b W1 wr

theorem kept_same {w W1 wr : World} (s : Same w W1) (h : KeptBut W1.heap.size w.heap.size W1 wr) : Same w wr :=
  ⟨h.os.trans s.os, h.tape.trans s.tape, h.output.trans s.output, Nat.le_trans s.size h.size, fun k hk => (h.block k (Nat.lt_of_lt_of_le hk s.size) (by omega)).trans (s.block k hk)⟩
set_option maxHeartbeats 4000000 in
set_option maxRecDepth 100000 in
theorem content_good (s : ByteArray) (w : World) (hs : s.size ≤ 1000000) (h0 : 2 ≤ s.size) (e1 : s[0]'(by omega) = 34) (e2 : s[s.size - 1]'(by omega) = 34) :
    Calls Tryz.prog 146 #[.string s] w fun e w' => e = .returned (.tuple #[.string (mkB (contentV (ba s)).1), .bool (contentV (ba s)).2]) ∧ Same w w' := by
  have t1 : (((s[0]'(by omega)).toNat : Int) != 34) = false := by rw [e1]; rfl
  have t2 : (((s[s.size - 1]'(by omega)).toNat : Int) != 34) = false := by rw [e2]; rfl
  have h1 : ¬ s.size < 2 := by omega
  have kc := fun (w : World) (s : ByteArray) => Lib.run_convert_string_bytes (P := Tryz.prog) w 9 193 5 s Tryz.underlying9 Tryz.underlying193 Tryz.underlying5
  have HC : Hid (contentV (ba s) = match unesc (ba (s.extract 1 (s.size - 1))) false [] with | none => ([], false) | some (out, esc) => (out, !esc)) := by
    show contentV (ba s) = _
    have hx : ba (s.extract 1 (s.size - 1)) = ((ba s).drop 1).take ((ba s).length - 2) := by
      rw [ba_length, show s.size - 2 = s.size - 1 - 1 by omega]
      exact Lib.extract_data s 1 (s.size - 1)
    unfold contentV
    rw [hx, ba_length, getB s 0 (by omega), getB s (s.size - 1) (by omega), e1, e2, decide_eq_false h1]
    rfl
  clear e1 e2
  go_enter Tryz.func146, Tryz.ntmps146
  go_wp2_with (fail)
  obtain ⟨inner, hin⟩ : ∃ inner, inner = s.extract 1 (s.size - 1) := ⟨_, rfl⟩
  obtain ⟨W1, hW1⟩ : ∃ W1, W1 = Lib.bytesWorld (w.alloc (.cells #[.pointer none, .slice none 0 0] 195)) 5 (s.extract 1 (s.size - 1)) := ⟨_, rfl⟩
  have hsz : inner.size = s.size - 1 - 1 := by rw [hin]; simp
  have hz1 : W1.heap.size = w.heap.size + 2 := by rw [hW1, Lib.bytesWorld_size]; simp
  have hbytes : ∀ k (hk : k < inner.size), W1.cell? ⟨w.heap.size + 1, k, none⟩ = some (.int .u8 (((ba inner)[k]'(by rw [ba_length]; exact hk)).toNat : Int)) := by
    intro k hk
    have h := Lib.bytesWorld_cell (w.alloc (.cells #[.pointer none, .slice none 0 0] 195)) 5 inner k hk
    rw [show (w.alloc (.cells #[.pointer none, .slice none 0 0] 195)).heap.size = w.heap.size + 1 by simp] at h
    have hk2 : k < (ba inner).length := by rw [ba_length]; exact hk
    have hg : (ba inner).getD k 0 = (ba inner)[k] := by rw [List.getD_eq_getElem?_getD, List.getElem?_eq_getElem hk2]; rfl
    rw [hW1, ← hin, h, ← hg]
    rfl
  have hb : BAt W1.heap.size w.heap.size [] W1 := by
    refine ⟨_, _, .inl rfl, ?_, ⟨rfl, .inl ⟨rfl, rfl⟩⟩⟩
    rw [hW1]
    exact ((Lib.bytesWorld_below _ _ _).block w.heap.size (by simp)).trans (Blk.new w _ _)
  have hs1 : Same w W1 := by rw [hW1]; exact ((Same.refl w).alloc _).trans (Lib.bytesWorld_below _ _ _)
  rw [← hW1]
  rw [← hin] at HC
  obtain ⟨L, hL⟩ : ∃ L, L = ba inner := ⟨_, rfl⟩
  have hLl : L.length = s.size - 1 - 1 := by rw [hL, ba_length, hsz]
  have HB : Hid (∀ k (hk : k < L.length), W1.cell? ⟨w.heap.size + 1, k, none⟩ = some (.int .u8 (L[k].toNat : Int))) := by
    subst hL
    intro k hk
    exact hbytes k (by rw [← ba_length]; exact hk)
  have R0 : CRel W1 w.heap.size L 0 false W1 := ⟨⟨[], by simp, by simp, hb⟩, KeptBut.refl _ _ _⟩
  have HL := Lib.hid hL
  have HS1 := Lib.hid hs1
  clear hL hs1 hb hbytes hW1 kc t1 t2
  go_loopw [6, 33] (fun ev i wr => ∃ (k : Nat) (esc : Bool), k ≤ L.length ∧ i = .int .i64 k ∧ ev = .bool esc ∧ Hid (CRel W1 w.heap.size L k esc wr)) (fun _ i _ => L.length - (intOf i).toNat)
  case atStart => exact ⟨0, false, Nat.zero_le _, rfl, rfl, R0⟩
  case round =>
    obtain ⟨k, esc, hk, rfl, rfl, R⟩ := hrel
    by_cases hlt : k < L.length
    · obtain ⟨c, hc⟩ : ∃ c, c = L[k] := ⟨_, rfl⟩
      have hcell : wr.cell? ⟨w.heap.size + 1, k, none⟩ = some (.int .u8 (c.toNat : Int)) := by rw [hc]; exact (World.cell?_of_block (a := ⟨w.heap.size + 1, k, none⟩) (R.out.kept.block (w.heap.size + 1) (by omega) (by omega))).trans (HB.out k hlt)
      have hdrop : L.drop k = c :: L.drop (k + 1) := by rw [hc]; exact List.drop_eq_getElem_cons hlt
      obtain ⟨⟨o, ho, hol, hbt⟩, hkp⟩ := R.out
      rw [hdrop] at ho
      have HO := Lib.hid ho
      have HKP := Lib.hid hkp
      have HWB := Lib.hid (fun v => wb_ok W1.heap.size w.heap.size (o.map byteV) v wr hbt (by omega) (by simp; omega) hkp.size)
      have HBT := Lib.hid hbt
      have hlt2 : k < s.size - 1 - 1 := by omega
      have nat : ∀ (d : UInt8), ((c.toNat : Int) == (d.toNat : Int)) = decide (c = d) := by
        intro d
        rw [Bool.eq_iff_iff]
        simp [← UInt8.toNat_inj]
        omega
      have NAT := Lib.hid nat
      clear hdrop ho hkp hbt nat hc R
      cases esc with
      | true =>
        by_cases h110 : c = 110
        · have q110 : ((c.toNat : Int) == 110) = true := (NAT.out 110).trans (decide_eq_true h110)
          have HU : Hid (unesc L false [] = unesc (L.drop (k + 1)) false (o ++ [10])) := by show _ = _; rw [HO.out]; simp [unesc, h110]
          clear h110
          go_wp2_with (go_at_call 154; refine (HWB.out 10).mono ?_; rintro e w2 ⟨rfl, b2, k2⟩; have B2 := Lib.hid b2; have K2 := Lib.hid (HKP.out.trans k2); clear b2 k2)
          go_roundw
          case rel => exact ⟨k + 1, false, by omega, by go_num, rfl, ⟨⟨o ++ [10], HU.out, by simp; omega, by rw [List.map_append]; exact B2.out⟩, K2.out⟩⟩
          case measure => simp [intOf]; omega
        by_cases h34 : c = 34
        · have q110 : ((c.toNat : Int) == 110) = false := (NAT.out 110).trans (decide_eq_false h110)
          have q34 : ((c.toNat : Int) == 34) = true := (NAT.out 34).trans (decide_eq_true h34)
          have HU : Hid (unesc L false [] = unesc (L.drop (k + 1)) false (o ++ [c])) := by show _ = _; rw [HO.out]; simp [unesc, h110, h34]
          clear h110 h34
          go_wp2_with (go_at_call 154; refine (HWB.out (c.toNat : Int)).mono ?_; rintro e w2 ⟨rfl, b2, k2⟩; have B2 := Lib.hid b2; have K2 := Lib.hid (HKP.out.trans k2); clear b2 k2)
          go_roundw
          case rel => exact ⟨k + 1, false, by omega, by go_num, rfl, ⟨⟨o ++ [c], HU.out, by simp; omega, by rw [List.map_append]; exact B2.out⟩, K2.out⟩⟩
          case measure => simp [intOf]; omega
        by_cases h92 : c = 92
        · have q110 : ((c.toNat : Int) == 110) = false := (NAT.out 110).trans (decide_eq_false h110)
          have q34 : ((c.toNat : Int) == 34) = false := (NAT.out 34).trans (decide_eq_false h34)
          have q92 : ((c.toNat : Int) == 92) = true := (NAT.out 92).trans (decide_eq_true h92)
          have HU : Hid (unesc L false [] = unesc (L.drop (k + 1)) false (o ++ [c])) := by show _ = _; rw [HO.out]; simp [unesc, h110, h34, h92]
          clear h110 h34 h92
          go_wp2_with (go_at_call 154; refine (HWB.out (c.toNat : Int)).mono ?_; rintro e w2 ⟨rfl, b2, k2⟩; have B2 := Lib.hid b2; have K2 := Lib.hid (HKP.out.trans k2); clear b2 k2)
          go_roundw
          case rel => exact ⟨k + 1, false, by omega, by go_num, rfl, ⟨⟨o ++ [c], HU.out, by simp; omega, by rw [List.map_append]; exact B2.out⟩, K2.out⟩⟩
          case measure => simp [intOf]; omega
        have q110 : ((c.toNat : Int) == 110) = false := (NAT.out 110).trans (decide_eq_false h110)
        have q34 : ((c.toNat : Int) == 34) = false := (NAT.out 34).trans (decide_eq_false h34)
        have q92 : ((c.toNat : Int) == 92) = false := (NAT.out 92).trans (decide_eq_false h92)
        have HU : Hid (unesc L false [] = none) := by show _ = none; rw [HO.out]; simp [unesc, h110, h34, h92]
        clear h110 h34 h92
        go_wp2_with (fail)
        go_ret2
        exact ⟨by rw [HC.out, ← HL.out, HU.out]; rfl, kept_same HS1.out HKP.out⟩
      | false =>
        by_cases h92 : c = 92
        · have q92 : ((c.toNat : Int) == 92) = true := (NAT.out 92).trans (decide_eq_true h92)
          have HU : Hid (unesc L false [] = unesc (L.drop (k + 1)) true o) := by show _ = _; rw [HO.out]; simp [unesc, h92]
          clear h92
          go_wp2_with (fail)
          go_roundw
          case rel => exact ⟨k + 1, true, by omega, by go_num, rfl, ⟨⟨o, HU.out, by omega, HBT.out⟩, HKP.out⟩⟩
          case measure => simp [intOf]; omega
        by_cases h34 : c = 34
        · have q92 : ((c.toNat : Int) == 92) = false := (NAT.out 92).trans (decide_eq_false h92)
          have q34 : ((c.toNat : Int) == 34) = true := (NAT.out 34).trans (decide_eq_true h34)
          have HU : Hid (unesc L false [] = none) := by show _ = none; rw [HO.out]; simp [unesc, h92, h34]
          clear h92 h34
          go_wp2_with (fail)
          go_ret2
          exact ⟨by rw [HC.out, ← HL.out, HU.out]; rfl, kept_same HS1.out HKP.out⟩
        by_cases h10 : c = 10
        · have q92 : ((c.toNat : Int) == 92) = false := (NAT.out 92).trans (decide_eq_false h92)
          have q34 : ((c.toNat : Int) == 34) = false := (NAT.out 34).trans (decide_eq_false h34)
          have q10 : ((c.toNat : Int) == 10) = true := (NAT.out 10).trans (decide_eq_true h10)
          have HU : Hid (unesc L false [] = none) := by show _ = none; rw [HO.out]; simp [unesc, h92, h34, h10]
          clear h92 h34 h10
          go_wp2_with (fail)
          go_ret2
          exact ⟨by rw [HC.out, ← HL.out, HU.out]; rfl, kept_same HS1.out HKP.out⟩
        have q92 : ((c.toNat : Int) == 92) = false := (NAT.out 92).trans (decide_eq_false h92)
        have q34 : ((c.toNat : Int) == 34) = false := (NAT.out 34).trans (decide_eq_false h34)
        have q10 : ((c.toNat : Int) == 10) = false := (NAT.out 10).trans (decide_eq_false h10)
        have HU : Hid (unesc L false [] = unesc (L.drop (k + 1)) false (o ++ [c])) := by show _ = _; rw [HO.out]; simp [unesc, h92, h34, h10]
        clear h92 h34 h10
        go_wp2_with (go_at_call 154; refine (HWB.out (c.toNat : Int)).mono ?_; rintro e w2 ⟨rfl, b2, k2⟩; have B2 := Lib.hid b2; have K2 := Lib.hid (HKP.out.trans k2); clear b2 k2)
        go_roundw
        case rel => exact ⟨k + 1, false, by omega, by go_num, rfl, ⟨⟨o ++ [c], HU.out, by simp; omega, by rw [List.map_append]; exact B2.out⟩, K2.out⟩⟩
        case measure => simp [intOf]; omega
    · have ek : k = L.length := by omega
      obtain ⟨⟨o, ho, hol, hbt⟩, hkp⟩ := R.out
      rw [ek, List.drop_length] at ho
      have HU : Hid (unesc L false [] = some (o, esc)) := by show _ = _; rw [ho]; cases esc <;> rfl
      have HKP := Lib.hid hkp
      have hib : Lib.IsBuilder 195 5 w.heap.size w.heap.size (Lib.byteCells o) wr := by
        obtain ⟨p, v, hp, hk2, ho2⟩ := hbt
        have ho3 : wr.ownsRow w.heap.size 5 1 v (o.map byteV).length (o.map byteV) := ho2.mono (by omega)
        have hnb := own_off ho2 (b := w.heap.size) (by omega)
        rcases hp with rfl | rfl
        · exact .inl ⟨Nat.le_refl _, v, hk2, ho3, hnb⟩
        · exact .inr ⟨Nat.le_refl _, v, hk2, ho3, hnb⟩
      have HS := Lib.hid (Tryz.Builder_String_any w.heap.size w.heap.size o wr hib (by have := hkp.size; omega))
      clear ho hbt hkp hib R
      go_wp2_with (go_at_call 155; refine HS.out.mono ?_; rintro e w2 ⟨rfl, b2⟩; have B2 := Lib.hid b2; clear b2)
      go_ret2
      exact ⟨by rw [HC.out, ← HL.out, HU.out]; rfl, Below.trans (kept_same HS1.out HKP.out) B2.out⟩

theorem content_ok (s : ByteArray) (w : World) (hs : s.size ≤ 1000000) :
    Calls Tryz.prog 146 #[.string s] w fun e w' => e = .returned (.tuple #[.string (mkB (contentV (ba s)).1), .bool (contentV (ba s)).2]) ∧ Same w w' := by
  cases h : (decide (s.size < 2) || !decide ((ba s).getD 0 0 = 34) || !decide ((ba s).getD (s.size - 1) 0 = 34)) with
  | true =>
    have e : contentV (ba s) = ([], false) := by unfold contentV; rw [ba_length, if_pos h]
    rw [e]
    exact content_bad s w hs h
  | false =>
    simp only [Bool.or_eq_false_iff, decide_eq_false_iff_not, Bool.not_eq_false', decide_eq_true_eq] at h
    obtain ⟨⟨h1, h2⟩, h3⟩ := h
    rw [getB s 0 (by omega)] at h2
    rw [getB s (s.size - 1) (by omega)] at h3
    exact content_good s w hs (by omega) h2 h3
end Go.Proofs.YtfifnemnihcijaaGreatDoor

/- prefix: the contents behind the first writes that succeed. -/
import Derived.Test.YtageboekobkdcaaY
namespace Go.Proofs.Ytageboekobkdcaa
open Go.RowKit

/-- The disk behind the operations, a start and a Sync. -/
def cleanOf (n : Nat) (l : List AC) : DS := (((DS.new n).acts l).start).clean
theorem Got.rebase {w0 w w' : World} {g c : Nat} {l : List ByteArray} (h : Got w w' g c l) (hs : w0.heap.size ≤ w.heap.size) : Got w0 w' g c l := by
  have ho : StrsOwn w' w.heap.size (.slice (some ⟨g, 0, none⟩) l.length c) l := h.own.out
  refine ⟨?_, h.at_, Nat.le_trans hs h.lo, h.hi⟩
  obtain ⟨h1, h2⟩ := ho
  refine ⟨h1, ?_⟩
  rcases h2 with h2 | ⟨g2, cap, cur, e, hb, h3⟩
  · exact .inl h2
  · exact .inr ⟨g2, cap, cur, e, Nat.le_trans hs hb, h3⟩
/-- What prefix leaves. -/
def PrefixPost (n : Nat) (l more : List AC) (writes : Nat) (w : World) (e : Ending) (w' : World) : Prop :=
  ∃ g c, e = .returned (.tuple #[.slice (some ⟨g, 0, none⟩) n c, .bool true]) ∧ Hid (Got w w' g c ((cleanOf n l).withq (ents ((goods n more).take writes))).conts) ∧ Hid (Chg (fun _ => False) w w')
/-- What holds at the head of its loop of writes. -/
def PreRel (W wr : World) (b n : Nat) (C : DS) (more : List AC) (writes k d : Nat) : Prop :=
  LiveX W wr b (C.withq (ents (goods n (more.take k)))) [] ∧ d = (goods n (more.take k)).length ∧ d ≤ writes

set_option maxRecDepth 100000 in
set_option maxHeartbeats 8000000 in
theorem prefix_ok {w : World} (n : Nat) (hn1 : 1 ≤ n) (hn2 : n ≤ 12) (A : Option Addr) (c : Nat) (l : List AC) (hacts : ActsAt w A l) (hf : ∀ a ∈ l, a.fine) (A' : Option Addr) (c' : Nat) (more : List AC) (hacts' : ActsAt w A' more) (hlen : l.length ≤ 60) (hlen' : more.length ≤ 60) (htx : ∀ a ∈ l, a.text.size ≤ 100) (htx' : ∀ a ∈ more, a.text.size ≤ 100) (writes : Nat) (hwr : writes ≤ 60) :
    Calls Try.prog 25 #[.int .i64 (n : Int), .slice A l.length c, .slice A' more.length c', .int .i64 (writes : Int)] w (PrefixPost n l more writes w) := by
  have HA := Lib.hid hacts
  have Htx := Lib.hid htx
  have Hf := Lib.hid hf
  have HA' := Lib.hid hacts'
  have Htx' := Lib.hid htx'
  clear hacts hf hacts' htx htx'
  go_enter Try.func25, Try.ntmps25
  go_wp2_with (fail)
  refine (live_new w _ (Chg.refl _ _) n hn1 (by omega)).mono ?_
  rintro e w2 ⟨b1, rfl, l1⟩
  have R0 : ActRel w n l b1 0 w2 := l1
  clear l1
  go_wp2
  go_loopw [11] (fun i wr => ∃ k : Nat, k ≤ l.length ∧ i = .int .i64 k ∧ ActRel w n l b1 k wr) (fun i _ => l.length - (intOf i).toNat)
  case atStart => exact ⟨0, Nat.zero_le _, rfl, R0⟩
  case round =>
    obtain ⟨k, hk, rfl, rel⟩ := hrel
    by_cases hlt : k < l.length
    · obtain ⟨ab, off, rfl, seen⟩ := (HA.out.kept (Live.chg rel)).seen k hlt
      have hq : ((DS.new n).acts (l.take k)).q.length < 1000 := by
        have h1 := DS.acts_len (DS.new n) (l.take k)
        rw [List.length_take] at h1
        have h2 : (DS.new n).q.length = 0 := rfl
        omega
      have hmem := List.getElem_mem hlt
      have ht := Htx.out _ hmem
      have hfi := (Hf.out _ hmem).2.2.2
      have e : (DS.new n).acts (l.take (k + 1)) = (((DS.new n).acts (l.take k)).act l[k]).2 := by rw [take_snoc' l k hlt, DS.acts_snoc]
      obtain ⟨D, hD⟩ : ∃ D, D = (DS.new n).acts (l.take k) := ⟨_, rfl⟩
      rw [← hD] at hq e
      have rel' : Live w wr b1 D := by rw [hD]; exact rel
      obtain ⟨a, ha⟩ : ∃ a, a = l[k] := ⟨_, rfl⟩
      rw [← ha] at seen ht hfi e
      have E := Lib.hid e
      have Ha := Lib.hid ha
      obtain ⟨c0, c1, c2, c3, c4, c5, blt⟩ := seen
      have REL := Lib.hid rel'
      clear rel rel' e hD ha hmem R0
      obtain ⟨k1, s1, y1, t1, o1, f1⟩ := a
      dsimp only at c0 c1 c2 c3 c4 c5 ht hfi
      go_wp2_with (fail)
      refine (REL.out.act ⟨k1, s1, y1, t1, o1, f1⟩ hq ht hfi).mono ?_
      rintro e w5 ⟨rfl, rel5⟩
      have REL5 := Lib.hid rel5
      clear rel5
      go_wp2
      go_roundw
      case rel => exact ⟨k + 1, by omega, by go_num, by unfold ActRel; rw [E.out]; exact REL5.out⟩
      case measure => simp [intOf]; omega
    · have ek : k = l.length := by omega
      have rel' : Live w wr b1 ((DS.new n).acts l) := by
        have := rel
        unfold ActRel at this
        rw [ek, List.take_length] at this
        exact this
      have hq : ((DS.new n).acts l).q.length ≤ 60 := by
        have h1 := DS.acts_len (DS.new n) l
        have h2 : (DS.new n).q.length = 0 := rfl
        omega
      have hnn : ((DS.new n).acts l).n = n := DS.n_acts _ _
      clear R0 rel
      obtain ⟨B, hB⟩ : ∃ B, B = ((DS.new n).acts l).start := ⟨_, rfl⟩
      have hBo : B.off = false := by rw [hB]; rfl
      have hBa : B.arm = none := by rw [hB]; rfl
      have hBq : B.q.length ≤ 60 := by rw [hB]; exact hq
      have hBn : B.n = n := by rw [hB]; exact hnn
      have HB := Lib.hid hB; have REL := Lib.hid rel'.x
      have SB := Lib.hid (DS.sync_started B hBo hBa)
      obtain ⟨C, hC⟩ : ∃ C, C = B.clean := ⟨_, rfl⟩
      have CE := Lib.hid (show C = cleanOf n l by rw [hC, hB]; rfl)
      rw [← hC] at SB
      have Co := Lib.hid (show C.off = false by rw [hC]; show (B.settle B.q).off = false; rw [(DS.settle_rest _ _).2.2.1]; exact hBo)
      have Ca := Lib.hid (show C.arm = none by rw [hC]; show (B.settle B.q).arm = none; rw [(DS.settle_rest _ _).2.2.2]; exact hBa)
      have Cq := Lib.hid (show C.q = [] by rw [hC]; rfl)
      have Cn := Lib.hid (show C.n = n by rw [hC]; show (B.settle B.q).n = n; rw [(DS.settle_rest _ _).2.1]; exact hBn)
      have HBo := Lib.hid hBo; have HBa := Lib.hid hBa; have HBn := Lib.hid hBn
      clear rel' hB hnn ek hBo hBa hBn hC
      go_wp2_with (fail)
      refine (REL.out.start).mono ?_
      rintro e w4 ⟨rfl, r4⟩
      rw [← HB.out] at r4
      have R4 := Lib.hid r4
      clear r4
      go_wp2_with (fail)
      refine (R4.out.sync (by omega)).mono ?_
      rintro e w5 ⟨rfl, r5⟩
      rw [SB.out]
      rw [SB.out] at r5
      have R5 := Lib.hid r5
      clear r5
      have A0 : PreRel w w5 b1 n C more writes 0 0 := ⟨by
        have := R5.out
        rw [DS.withq_self C Cq.out] at this
        exact this, rfl, Nat.zero_le _⟩
      go_wp2
      go_loopw [12, 13] (fun dv iv wr => ∃ k d : Nat, k ≤ more.length ∧ iv = .int .i64 k ∧ dv = .int .i64 d ∧ PreRel w wr b1 n C more writes k d) (fun _ iv _ => more.length - (intOf iv).toNat)
      case atStart => exact ⟨0, 0, Nat.zero_le _, rfl, rfl, A0⟩
      case round =>
        obtain ⟨k2, d, hk2, rfl, rfl, lx, hd, hdw⟩ := hrel
        clear A0
        have LX := Lib.hid lx
        have hd60 : d ≤ 60 := by omega
        have Hd := Lib.hid hd
        obtain ⟨D, hD⟩ : ∃ D, D = C.withq (ents (goods n (more.take k2))) := ⟨_, rfl⟩
        have hDq : D.q.length ≤ 60 := by rw [hD]; show (ents _).length ≤ 60; rw [ents_length]; omega
        have HD := Lib.hid hD
        have LX : Hid (LiveX w wr b1 D []) := by rw [hD]; exact LX
        have Do := Lib.hid (show D.off = false by rw [hD]; exact Co.out)
        have Da := Lib.hid (show D.arm = none by rw [hD]; exact Ca.out)
        have Dn := Lib.hid (show D.n = n by rw [hD]; exact Cn.out)
        clear lx hD hd
        by_cases hlt2 : k2 < more.length
        · have tl : decide ((k2 : Int) < (more.length : Int)) = true := by simp; omega
          by_cases hdl : d < writes
          · have td : decide ((d : Int) < (writes : Int)) = true := by simp; omega
            obtain ⟨ab2, off2, rfl, seen0⟩ := HA'.out.seen k2 hlt2
            have hmem := List.getElem_mem hlt2
            have ht2 := Htx'.out _ hmem
            have hsn := goods_snoc n more k2 hlt2
            obtain ⟨a, ha⟩ : ∃ a, a = more[k2] := ⟨_, rfl⟩
            rw [← ha] at seen0 ht2 hsn
            have SEEN := Lib.hid (Lib.hid seen0)
            clear ha hmem seen0
            obtain ⟨c0, c1, c2, c3, c4, c5, blt⟩ := SEEN.out.out.kept LX.out.chg
            have wb := DS.write_good D Do.out Da.out Dn.out a
            cases hg : goodB n a with
            | false =>
              rw [hg, if_neg (by decide)] at wb
              rw [hg, if_neg (by decide), List.append_nil] at hsn
              have WB := Lib.hid wb
              have SN := Lib.hid hsn
              clear wb hsn hg
              go_wp2_with (fail)
              go_region_held3 (fun w' => w'.cell? ⟨ab2, off2 + k2 * 6, none⟩ = some (.int .i64 a.kind) ∧ w'.cell? ⟨ab2, off2 + k2 * 6 + 1, none⟩ = some (.int .i64 a.sector) ∧ w'.cell? ⟨ab2, off2 + k2 * 6 + 2, none⟩ = some (.int .i64 a.bytes) ∧ w'.cell? ⟨ab2, off2 + k2 * 6 + 3, none⟩ = some (.string a.text) ∧ w'.cell? ⟨ab2, off2 + k2 * 6 + 4, none⟩ = some (.bool a.odd) ∧ w'.cell? ⟨ab2, off2 + k2 * 6 + 5, none⟩ = some (.int .i64 a.after)) (first | go_keep | simp [*])
                (first | (go_at_call 23; refine (LiveX.textL LX.out SEEN.out ht2 ?_).mono ?_; exact (Chg.refl _ _).drew; rintro e u1t ⟨rfl, ⟨c0, c1, c2, c3, c4, c5, blt⟩, Q1t⟩) | (go_at_call 22; refine (LiveX.writeL Q1t.out SEEN.out ht2 (by omega)).mono ?_; rintro e u1 ⟨rfl, ⟨c0, c1, c2, c3, c4, c5, blt⟩, Q1⟩))
              rw [WB.out] at Q1
              rw [WB.out]
              go_wp2
              go_roundw
              case rel =>
                refine ⟨k2 + 1, d, by omega, by go_num, rfl, ?_, ?_, by omega⟩
                · rw [SN.out, ← HD.out]; exact Q1.out
                · rw [SN.out]; exact Hd.out
              case measure => simp [intOf]; omega
            | true =>
              rw [hg, if_pos rfl] at wb
              rw [hg, if_pos rfl] at hsn
              have WB := Lib.hid wb
              have SN := Lib.hid hsn
              clear wb hsn hg
              go_wp2_with (fail)
              go_region_held3 (fun w' => w'.cell? ⟨ab2, off2 + k2 * 6, none⟩ = some (.int .i64 a.kind) ∧ w'.cell? ⟨ab2, off2 + k2 * 6 + 1, none⟩ = some (.int .i64 a.sector) ∧ w'.cell? ⟨ab2, off2 + k2 * 6 + 2, none⟩ = some (.int .i64 a.bytes) ∧ w'.cell? ⟨ab2, off2 + k2 * 6 + 3, none⟩ = some (.string a.text) ∧ w'.cell? ⟨ab2, off2 + k2 * 6 + 4, none⟩ = some (.bool a.odd) ∧ w'.cell? ⟨ab2, off2 + k2 * 6 + 5, none⟩ = some (.int .i64 a.after)) (first | go_keep | simp [*])
                (first | (go_at_call 23; refine (LiveX.textL LX.out SEEN.out ht2 ?_).mono ?_; exact (Chg.refl _ _).drew; rintro e u1t ⟨rfl, ⟨c0, c1, c2, c3, c4, c5, blt⟩, Q1t⟩) | (go_at_call 22; refine (LiveX.writeL Q1t.out SEEN.out ht2 (by omega)).mono ?_; rintro e u1 ⟨rfl, ⟨c0, c1, c2, c3, c4, c5, blt⟩, Q1⟩))
              rw [WB.out] at Q1
              rw [WB.out]
              go_wp2
              go_roundw
              case rel =>
                refine ⟨k2 + 1, d + 1, by omega, by go_num, by go_num, ?_, ?_, by omega⟩
                · rw [SN.out, ← DS.push_withq, ← HD.out]; exact Q1.out
                · rw [SN.out, List.length_append, ← Hd.out]; rfl
              case measure => simp [intOf]; omega
          · have td : decide ((d : Int) < (writes : Int)) = false := by simp; omega
            have hfin : goods n (more.take k2) = (goods n more).take writes := by
              have := goods_take n more k2
              rw [← Hd.out] at this
              rw [this, show d = writes by omega]
            have HF := Lib.hid (show D = (cleanOf n l).withq (ents ((goods n more).take writes)) by rw [HD.out, hfin, CE.out])
            clear hfin
            go_wp2_with (fail)
            refine (LX.out.live.contents Do.out (by omega) Dn.out).mono ?_
            rintro e v3 ⟨g2, cp2, rfl, got, P2⟩
            rw [HF.out] at got
            have GOT := Lib.hid got
            clear got
            go_wp2
            go_ret2; exact ⟨g2, cp2, rfl, GOT.out.rebase LX.out.chg.size, P2.out.2.chg⟩
        · have tl : decide ((k2 : Int) < (more.length : Int)) = false := by simp; omega
          have hfin : goods n (more.take k2) = (goods n more).take writes := by
            rw [show k2 = more.length by omega, List.take_length]
            have := Hd.out
            rw [show k2 = more.length by omega, List.take_length] at this
            rw [List.take_of_length_le (by omega)]
          have HF := Lib.hid (show D = (cleanOf n l).withq (ents ((goods n more).take writes)) by rw [HD.out, hfin, CE.out])
          clear hfin
          go_wp2_with (fail)
          refine (LX.out.live.contents Do.out (by omega) Dn.out).mono ?_
          rintro e v3 ⟨g2, cp2, rfl, got, P2⟩
          rw [HF.out] at got
          have GOT := Lib.hid got
          clear got
          go_wp2
          go_ret2; exact ⟨g2, cp2, rfl, GOT.out.rebase LX.out.chg.size, P2.out.2.chg⟩

end Go.Proofs.Ytageboekobkdcaa

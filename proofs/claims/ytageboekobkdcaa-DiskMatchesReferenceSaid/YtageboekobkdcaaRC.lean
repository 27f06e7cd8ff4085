/- The reference disk: settle. -/
import Derived.Test.YtageboekobkdcaaRB
namespace Go.Proofs.Ytageboekobkdcaa
open Go.RowKit

def RSettleRel (w : World) (h : RH) (D : DS) (k : Nat) (wr : World) : Prop := RefAt wr h (D.settle (D.q.take k)) ∧ Chg h.own w wr
theorem DS.put_set (D : DS) (w : D.wf) (i : Nat) (s : ByteArray) (hs : s.size = 64) : D.put i (ba s) = D.set i (ba s) := by
  unfold DS.put DS.set
  rw [over_full _ _ (by rw [ba_length, hs, w.stl])]

set_option maxHeartbeats 2000000 in
theorem rsettle_ok (h : RH) (D : DS) (m : Nat) (w : World) (d : RefAt w h D) (hm : m ≤ D.q.length) (hml : D.q.length ≤ 1000) :
    Calls Try.prog 45 #[.pointer (some ⟨h.b, 0, none⟩), .int .i64 (m : Int)] w fun e w' => e = .returned (.tuple #[]) ∧ Hid (RefAt w' h (D.settle (D.q.take m)) ∧ Chg h.own w w') := by
  have HR : RSettleRel w h D 0 w := ⟨by simpa [DS.settle] using d, Chg.refl _ _⟩
  have hqok := Lib.hid d.wf.qok
  obtain ⟨a, c, hq, _, hform⟩ := d.qform
  have Hq := Lib.hid hq
  have Hform := Lib.hid hform
  clear hq hform d
  go_enter Try.func45, Try.ntmps45
  go_wp2
  go_loopw [4] (fun i wr => ∃ k : Nat, k ≤ m ∧ i = .int .i64 k ∧ RSettleRel w h D k wr) (fun i _ => m - (intOf i).toNat)
  case atStart => exact ⟨0, Nat.zero_le _, rfl, HR⟩
  case round =>
    obtain ⟨k, hk, rfl, dk, ck⟩ := hrel
    have HRk := Lib.hid ck
    have DK := Lib.hid dk
    clear HR
    by_cases hlt : k < m
    · have hkq : k < D.q.length := by omega
      have hqr := DS.settle_rest (D.q.take k) D
      obtain ⟨g, rfl⟩ : ∃ g, a = some ⟨g, 0, none⟩ := by
        rcases Hform.out with ⟨_, h0⟩ | h0
        · rw [h0] at hkq; simp at hkq
        · exact h0
      obtain ⟨q0, q1⟩ := rque_cell dk (g := g) (c := c) (by rw [hqr.1]; exact Hq.out) k (by rw [hqr.1]; exact hkq)
      simp only [hqr.1] at q0 q1
      obtain ⟨i, s, hp⟩ : ∃ i s, D.q[k] = (i, s) := ⟨_, _, rfl⟩
      obtain ⟨hin, hss⟩ := hqok.out (i, s) (by rw [← hp]; exact List.getElem_mem hkq)
      simp only at hin hss
      rw [hp] at q0 q1
      simp only at q0 q1
      obtain ⟨E, hE⟩ : ∃ E, E = D.settle (D.q.take k) := ⟨_, rfl⟩
      rw [← hE] at dk
      have Htk := Lib.hid (show E.put i (ba s) = D.settle (D.q.take (k + 1)) by
        rw [DS.put_set E dk.wf i s hss, List.take_succ_eq_append_getElem hkq, hp, DS.settle_snoc, hE])
      have hin' : i < E.n := by rw [hE, hqr.2.1]; exact hin
      have c2 := dk.c2
      rw [Hq.out] at c2
      have hb := dk.hb
      have D2 := Lib.hid (dk.kept (S := fun _ => False) ((Chg.refl _ _).drew) (fun _ _ h => h))
      have Hss := Lib.hid (show (ba s).length = 64 by rw [ba_length]; exact hss)
      clear hp hqr hss dk hE ck hin
      go_wp2
      go_still_tail 17, (by kernel_rfl)
      change wpList _ _ _ _ _ wr.drew
      go_wp2_with (go_at_call 46; refine (rset_ok h E i (ba s) _ D2.out hin' Hss.out s (mkB_ba s).symm).mono ?_; rintro e w' ⟨rfl, hd1⟩)
      go_roundw
      case rel => exact ⟨k + 1, by omega, by go_num, by rw [← Htk.out]; exact hd1.out.1, (HRk.out.drew).trans hd1.out.2 (fun _ _ h => h)⟩
      case measure => simp [intOf]; omega
    · have e : k = m := by omega
      go_wp2
      go_end0
      subst e
      exact ⟨rfl, DK.out, HRk.out⟩
end Go.Proofs.Ytageboekobkdcaa

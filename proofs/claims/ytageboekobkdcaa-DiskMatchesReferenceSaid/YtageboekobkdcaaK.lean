/- The law's helpers: ok, same, contents, do. -/
import Derived.Test.YtageboekobkdcaaJ
namespace Go.Proofs.Ytageboekobkdcaa
open Go.RowKit

/-- A slice of operations that lies in memory. -/
def ActsAt (w : World) (A : Option Addr) (l : List AC) : Prop :=
  ∀ k (hk : k < l.length), ∃ b off, A = some ⟨b, off, none⟩ ∧ ∀ j u, (l[k].cells)[j]? = some u → w.cell? ⟨b, off + k * 6 + j, none⟩ = some u
theorem ActsAt.kept {w w' : World} {A : Option Addr} {l : List AC} (h : ActsAt w A l) (c : Chg (fun _ => False) w w') : ActsAt w' A l := by
  intro k hk
  obtain ⟨b, off, hA, hc⟩ := h k hk
  refine ⟨b, off, hA, fun j u hu => ?_⟩
  have h1 := hc j u hu
  exact (World.cell?_of_block (c.block b (World.block_lt_of_cell? _ _ h1) (fun h => h))).trans h1
def okB (l : List AC) : Bool := decide ((l.length : Int) ≤ 60) && l.all fun a => decide (a.text.size ≤ 100)

set_option maxHeartbeats 1000000 in
theorem ok_ok (A : Option Addr) (c : Nat) (l : List AC) (w : World) (h : ActsAt w A l) (hl : l.length ≤ 9223372036854775807) (ht : ∀ a ∈ l, a.text.size ≤ 9223372036854775807) :
    Calls Try.prog 11 #[.slice A l.length c] w fun e w' => e = .returned (.bool (okB l)) ∧ w = w' := by
  have H := Lib.hid h
  have Ht := Lib.hid ht
  clear h ht
  go_enter Try.func11, Try.ntmps11
  go_wp2
  go_loop [3] (fun i => ∃ k : Nat, k ≤ l.length ∧ i = .int .i64 k ∧ Hid (∀ j (hj : j < l.length), j < k → (l[j]).text.size ≤ 100)) (fun i => l.length - (intOf i).toNat)
  case atStart => exact ⟨0, Nat.zero_le _, rfl, fun j hj h0 => by omega⟩
  case round =>
    obtain ⟨k, hk, rfl, hall⟩ := hrel
    by_cases hlt : k < l.length
    · obtain ⟨b, off, rfl, hc⟩ := H.out k hlt
      have c3 := hc 3 (.string (l[k]).text) rfl
      have hs := Ht.out _ (List.getElem_mem hlt)
      obtain ⟨s, hsv⟩ : ∃ s, s = (l[k]).text := ⟨_, rfl⟩
      rw [← hsv] at c3 hs
      have HS := Lib.hid hsv
      clear hsv hc
      by_cases hsz : s.size ≤ 100
      · go_wp2
        go_round
        case rel =>
          refine ⟨k + 1, by omega, by go_num, ?_⟩
          intro j hj hjk
          rcases Nat.lt_or_ge j k with h1 | h1
          · exact hall.out j hj h1
          · obtain rfl : j = k := by omega
            rw [← HS.out]; exact hsz
        case measure => simp [intOf]; omega
      · have e : okB l = false := by
          unfold okB
          rw [Bool.and_eq_false_iff]
          right
          rw [List.all_eq_false]
          exact ⟨l[k], List.getElem_mem hlt, by rw [← HS.out]; simpa using hsz⟩
        have E := Lib.hid e
        clear e
        go_wp2
        go_ret
        rw [E.out]
        exact ⟨rfl, rfl⟩
    · have e : okB l = decide ((l.length : Int) ≤ 60) := by
        unfold okB
        have : (l.all fun a => decide (a.text.size ≤ 100)) = true := by
          rw [List.all_eq_true]
          intro a ha
          obtain ⟨j, hj, rfl⟩ := List.mem_iff_getElem.1 ha
          simpa using hall.out j hj (by omega)
        rw [this, Bool.and_true]
      have E := Lib.hid e
      clear e
      go_wp2
      go_ret
      rw [E.out]
      exact ⟨rfl, rfl⟩

theorem okB_len {l : List AC} (h : okB l = true) : l.length ≤ 60 := by unfold okB at h; rw [Bool.and_eq_true] at h; have := of_decide_eq_true h.1; omega
theorem okB_text {l : List AC} (h : okB l = true) : ∀ a ∈ l, a.text.size ≤ 100 := by
  intro a ha
  unfold okB at h; rw [Bool.and_eq_true] at h
  exact of_decide_eq_true (List.all_eq_true.1 h.2 a ha)

/-- A slice of strings that lies in memory. -/
def StrsAt (w : World) (A : Option Addr) (l : List ByteArray) : Prop :=
  ∀ k (hk : k < l.length), ∃ b off, A = some ⟨b, off, none⟩ ∧ w.cell? ⟨b, off + k, none⟩ = some (.string l[k])
theorem StrsAt.kept {w w' : World} {A : Option Addr} {l : List ByteArray} (h : StrsAt w A l) (c : Chg (fun _ => False) w w') : StrsAt w' A l := by
  intro k hk
  obtain ⟨b, off, hA, h1⟩ := h k hk
  exact ⟨b, off, hA, (World.cell?_of_block (c.block b (World.block_lt_of_cell? _ _ h1) (fun h => h))).trans h1⟩

/-- How far two lists have been compared. -/
def SameRel (w : World) (xs ys : List ByteArray) (k : Nat) (wr : World) : Prop := Chg (fun _ => False) w wr ∧ ∀ j (hx : j < xs.length) (hy : j < ys.length), j < k → xs[j] = ys[j]

set_option maxHeartbeats 1000000 in
theorem same_ok (A B : Option Addr) (c c' : Nat) (xs ys : List ByteArray) (w : World) (hx : StrsAt w A xs) (hy : StrsAt w B ys) (hl : xs.length ≤ 100000) (_hl2 : ys.length ≤ 100000) :
    Calls Try.prog 26 #[.slice A xs.length c, .slice B ys.length c'] w fun e w' => e = .returned (.bool (decide (xs = ys))) ∧ Chg (fun _ => False) w w' := by
  by_cases hne : xs.length = ys.length
  · have t : ((xs.length : Int) != (ys.length : Int)) = false := by rw [hne]; simp
    have R0 : SameRel w xs ys 0 w := ⟨Chg.refl _ _, fun j _ _ h => by omega⟩
    have Hx := Lib.hid hx; have Hy := Lib.hid hy; have Hne := Lib.hid hne
    obtain ⟨n, hn⟩ : ∃ n, n = ys.length := ⟨_, rfl⟩
    have hxn : xs.length = n := by rw [hn, hne]
    rw [← hn, hxn] at t
    rw [← hn, hxn]
    have Hn := Lib.hid hn; have Hxn := Lib.hid hxn
    have hnl : n ≤ 100000 := by omega
    clear hx hy hne hn hxn hl _hl2
    go_enter Try.func26, Try.ntmps26
    go_wp2
    go_loopw [5] (fun i wr => ∃ k : Nat, k ≤ n ∧ i = .int .i64 k ∧ SameRel w xs ys k wr) (fun i _ => n - (intOf i).toNat)
    case atStart => exact ⟨0, Nat.zero_le _, rfl, R0⟩
    case round =>
      obtain ⟨k, hk, rfl, ch, hall⟩ := hrel
      by_cases hlt : k < n
      · have hkx : k < xs.length := by rw [Hxn.out]; exact hlt
        have hky : k < ys.length := by rw [← Hn.out]; exact hlt
        obtain ⟨b, off, rfl, cx⟩ := (Hx.out.kept ch) k hkx
        obtain ⟨b', off', rfl, cy⟩ := (Hy.out.kept ch) k hky
        obtain ⟨x, hxk⟩ : ∃ x, x = xs[k] := ⟨_, rfl⟩
        obtain ⟨y, hyk⟩ : ∃ y, y = ys[k] := ⟨_, rfl⟩
        rw [← hxk] at cx; rw [← hyk] at cy
        have HX := Lib.hid hxk; have HY := Lib.hid hyk; have CH := Lib.hid ch; have HA := Lib.hid hall
        clear hxk hyk ch hall R0
        by_cases he : x = y
        · subst he
          go_wp2
          go_quiet (fail)
          go_wp2
          go_roundw
          case rel =>
            refine ⟨k + 1, by omega, by go_num, CH.out.drewN _, ?_⟩
            intro j hx hy hj
            rcases Nat.lt_or_ge j k with h1 | h1
            · exact HA.out j hx hy h1
            · obtain rfl : j = k := by omega
              rw [← HX.out, ← HY.out]
          case measure => simp [intOf]; omega
        · have t5 : (x.toList == y.toList) = false := by
            rw [ByteArray.toList_eq, ByteArray.toList_eq, beq_eq_false_iff_ne]
            exact fun e => he (eq_of_ba e)
          have hne : decide (xs = ys) = false := by
            rw [decide_eq_false_iff_not]
            intro e
            subst e
            exact he (by rw [HX.out, HY.out])
          have Hne2 := Lib.hid hne
          clear he hne
          go_wp2
          go_quiet (fail)
          go_wp2
          go_ret
          rw [Hne2.out]
          exact ⟨rfl, CH.out.drewN _⟩
      · have e : xs = ys := by
          apply List.ext_getElem
          · exact Hne.out
          · intro j h1 h2
            exact hall j h1 h2 (by have := Hxn.out; omega)
        have E := Lib.hid (show decide (xs = ys) = true by rw [decide_eq_true_eq]; exact e)
        have CH := Lib.hid ch
        clear e hall ch R0
        go_wp2
        go_ret
        rw [E.out]
        exact ⟨rfl, CH.out⟩
  · have t : ((xs.length : Int) != (ys.length : Int)) = true := by rw [bne_iff_ne]; omega
    have e : decide (xs = ys) = false := by
      rw [decide_eq_false_iff_not]
      intro e; exact hne (by rw [e])
    have E := Lib.hid e
    clear hx hy hne e
    go_enter Try.func26, Try.ntmps26
    go_wp2
    go_ret
    rw [E.out]
    exact ⟨rfl, Chg.refl _ _⟩

end Go.Proofs.Ytageboekobkdcaa

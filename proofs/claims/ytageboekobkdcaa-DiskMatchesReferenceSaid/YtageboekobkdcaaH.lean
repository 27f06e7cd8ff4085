/- Disk: Read. -/
import Derived.Test.YtageboekobkdcaaG
namespace Go.Proofs.Ytageboekobkdcaa
open Go.RowKit

set_option maxHeartbeats 1000000 in
theorem read_off (h : DH) (D : DS) (i : Int) (w : World) (d : DiskAt w h D) (ho : D.off = true) :
    Calls Try.prog 17 #[.pointer (some ⟨h.b, 0, none⟩), .int .i64 i] w fun e w' => e = .returned (.tuple #[.string ByteArray.empty, .int .i64 19]) ∧ Hid (Chg (fun _ => False) w w') := by
  have HA := Lib.hid (at_off h D i w d ho)
  clear d ho
  go_enter Try.func17, Try.ntmps17
  go_wp2_with (go_at_call 39; refine HA.out.mono ?_; rintro e w1 ⟨rfl, ⟨mc, mf, mz, mh⟩⟩)
  go_ret2
  exact ⟨rfl, mh.out.alloc _⟩

set_option maxHeartbeats 1000000 in
theorem read_bad (h : DH) (D : DS) (i : Int) (w : World) (d : DiskAt w h D) (ho : D.off = false) (hb : D.bad i = true) :
    Calls Try.prog 17 #[.pointer (some ⟨h.b, 0, none⟩), .int .i64 i] w fun e w' => e = .returned (.tuple #[.string ByteArray.empty, .int .i64 1]) ∧ Hid (Chg (fun _ => False) w w') := by
  have HA := Lib.hid (at_bad h D i w d ho hb)
  clear d ho hb
  go_enter Try.func17, Try.ntmps17
  go_wp2_with (go_at_call 39; refine HA.out.mono ?_; rintro e w1 ⟨rfl, ⟨mc, mf, mz, mh⟩⟩)
  go_ret2
  exact ⟨rfl, mh.out.alloc _⟩

theorem foldl_push (l : List UInt8) : ∀ acc : ByteArray, (l.map fun b => (b.toNat : Int)).foldl (fun r n => r.push (UInt8.ofNat n.toNat)) acc = mkB (ba acc ++ l) := by
  induction l with
  | nil => intro acc; simp [mkB_ba]
  | cons b l ih =>
    intro acc
    rw [List.map_cons, List.foldl_cons, ih]
    have : ba (acc.push (UInt8.ofNat (b.toNat : Int).toNat)) = ba acc ++ [b] := by
      simp [ba, ByteArray.push]
    rw [this]; simp
theorem convert_sector {W : World} {h : DH} {D : DS} (d : DiskAt W h D) (i : Nat) (hi : i < D.n) (c : Nat) :
    (convert 57 9 (.slice (some ⟨h.bs, i * 64, none⟩) 64 c)).run Try.prog W = .ok (.string (mkB (D.st i))) W := by
  rw [run_convert_bytes_string W 57 9 5 _ _ _ Try.underlying57 Try.underlying5 Try.underlying9]
  rw [run_bytesToString W ⟨h.bs, i * 64, none⟩ 64 c ((D.st i).map fun b => (b.toNat : Int)) ?_]
  · rw [foldl_push]; rfl
  · have hl := run_loadCells_list (P := Try.prog) W ⟨h.bs, i * 64, none⟩ ((D.st i).map byteV) ?_
    · rw [List.length_map, d.wf.stl] at hl
      rw [hl]
      simp [byteV, List.map_map, Function.comp_def]
    · intro j v hv
      have hj : j < 64 := by
        have := (List.getElem?_eq_some_iff.1 hv).1
        simpa [d.wf.stl] using this
      have : (⟨h.bs, i * 64, none⟩ : Addr).add j = ⟨h.bs, i * 64 + j, none⟩ := by unfold Addr.add; split <;> simp_all
      rw [this, cell_of_blk d.sblk, List.getElem?_toArray, flat_get D.st d.wf.stl D.n i j hi hj, ← hv, List.getElem?_map, List.getElem?_eq_getElem (by rw [d.wf.stl]; exact hj)]
      simp [List.getD_eq_getElem?_getD, d.wf.stl, hj]

theorem Chg.drewN {S : Nat → Prop} {a b : World} (h : Chg S a b) (n : Nat) : Chg S a (b.drewN n) := ⟨h.os, h.tape, h.output, h.size, h.block⟩
theorem lastOf_hit (q : List (Nat × ByteArray)) (i k : Nat) (hk : k < q.length) (h : (q[k]).1 = i) (ho : ∀ j (hj : j < q.length), k < j → (q[j]).1 ≠ i) : lastOf q i = some (q[k]).2 := by
  have e : q = q.take k ++ q[k] :: q.drop (k + 1) := by simp
  have hn : (q.drop (k + 1)).reverse.find? (fun p => p.1 == i) = none := by
    rw [List.find?_eq_none]
    intro p hp
    rw [List.mem_reverse, List.mem_iff_getElem] at hp
    obtain ⟨j, hj, rfl⟩ := hp
    rw [List.getElem_drop]
    simp only [List.length_drop] at hj
    simpa using ho (k + 1 + j) (by omega) (by omega)
  unfold lastOf
  conv => lhs; rw [e]
  rw [List.reverse_append, List.reverse_cons, List.append_assoc, List.find?_append, hn]
  simp [h]
theorem lastOf_miss (q : List (Nat × ByteArray)) (i : Nat) (ho : ∀ j (hj : j < q.length), (q[j]).1 ≠ i) : lastOf q i = none := by
  unfold lastOf
  have : q.reverse.find? (fun p => p.1 == i) = none := by
    rw [List.find?_eq_none]
    intro p hp
    rw [List.mem_reverse, List.mem_iff_getElem] at hp
    obtain ⟨j, hj, rfl⟩ := hp
    simpa using ho j hj
  rw [this]; rfl

/-- How far the search has come. -/
def ReadRel (W : World) (D : DS) (i k : Nat) (wr : World) : Prop := Chg (fun _ => False) W wr ∧ ∀ j (hj : j < D.q.length), k ≤ j → (D.q[j]).1 ≠ i

/-- What the walk wants to know in a round. -/
structure ReadSeen (wr : World) (h : DH) (D : DS) (i g1 : Nat) (a : Option Addr) (c : Nat) : Prop where
  c0 : wr.cell? ⟨h.b, 0, none⟩ = some (.slice (some ⟨h.bs, 0, none⟩) (D.n * 64) (D.n * 64))
  c2 : wr.cell? ⟨h.b, 2, none⟩ = some (.slice a D.q.length c)
  s0 : wr.cell? ⟨g1, 0, none⟩ = some (.int .i64 ((i : Int) * 64))
  s1 : wr.cell? ⟨g1, 1, none⟩ = some (.int .i64 ((i : Int) * 64 + 64))
theorem ReadSeen.of {W wr : World} {h : DH} {D : DS} {i g1 : Nat} {a : Option Addr} {c : Nat} (d : DiskAt W h D) (hq : h.qv = .slice a D.q.length c) (hg : W.heap[g1]? = some (.cells #[.int .i64 ((i : Int) * 64), .int .i64 ((i : Int) * 64 + 64)] 67 (0, 0))) (ch : Chg (fun _ => False) W wr) : ReadSeen wr h D i g1 a c := by
  have d' := d.kept ch (fun _ _ h => h)
  have hg' := (ch.block _ (lt_of_heap hg) (fun h => h)).trans hg
  exact ⟨d'.c0, by rw [d'.c2, hq], by rw [cell_of_blk hg']; rfl, by rw [cell_of_blk hg']; rfl⟩

set_option maxHeartbeats 2000000 in
theorem read_good (h : DH) (D : DS) (i : Nat) (w : World) (d : DiskAt w h D) (ho : D.off = false) (hi : i < D.n) (hml : D.q.length ≤ 1000) :
    Calls Try.prog 17 #[.pointer (some ⟨h.b, 0, none⟩), .int .i64 (i : Int)] w fun e w' => e = .returned (.tuple #[.string (D.peek i), .int .i64 0]) ∧ Hid (Chg (fun _ => False) w w') := by
  have HA := Lib.hid (at_ok h D i w d ho (by simp [DS.bad]; omega))
  have hb2 := d.hb
  have c0 := d.c0; have c2 := d.c2
  obtain ⟨a, c, hq, hlc, hform⟩ := d.qform
  rw [hq] at c2
  have Hd := Lib.hid d
  have Hq := Lib.hid hq
  have Hform := Lib.hid hform
  clear d ho hq hform
  have hsl := fun g w => run_slice_ij (P := Try.prog) 57 Try.underlying57 _ rfl rfl g D.n i hi w
  go_enter Try.func17, Try.ntmps17
  go_wp2_with (go_at_call 39; refine HA.out.mono ?_; rintro e w1 ⟨rfl, ⟨mc, mf, mz, mh⟩⟩; have hb3 := Nat.lt_of_lt_of_le hb2 mz)
  obtain ⟨W, hW⟩ : ∃ W, W = w1.alloc (.cells #[.int .i64 ((i : Int) * 64), .int .i64 ((i : Int) * 64 + 64)] 67) := ⟨_, rfl⟩
  obtain ⟨g1, hg1⟩ : ∃ g1, g1 = w1.heap.size := ⟨_, rfl⟩
  have HC := Lib.hid (show Chg (fun _ => False) w W by rw [hW]; exact mh.out.alloc _)
  have HG := Lib.hid (show W.heap[g1]? = some (.cells #[.int .i64 ((i : Int) * 64), .int .i64 ((i : Int) * 64 + 64)] 67 (0, 0)) by rw [hW, hg1]; exact heap_alloc_new _ _)
  have HD := Lib.hid (Hd.out.kept HC.out (fun _ _ h => h))
  have hR : ReadRel W D i D.q.length W := ⟨Chg.refl _ _, fun j hj hk => by omega⟩
  rw [← hW, ← hg1]
  clear hW mc mf mz mh hb3 hg1
  go_loopw [8] (fun i' wr => ∃ k : Nat, k ≤ D.q.length ∧ i' = .int .i64 ((k : Int) - 1) ∧ ReadRel W D i k wr) (fun i' _ => (intOf i' + 1).toNat)
  case atStart => exact ⟨D.q.length, Nat.le_refl _, rfl, hR⟩
  case round =>
    obtain ⟨k, hk, rfl, ch, hno⟩ := hrel
    obtain ⟨s0, s2, s3, s4⟩ := ReadSeen.of HD.out Hq.out HG.out ch
    have hbr := World.block_lt_of_cell? wr _ s0
    cases k with
    | zero =>
      have hcv := fun nq => convert_sector ((HD.out.kept ch (fun _ _ h => h)).kept (S := fun _ => False) ((Chg.refl _ _).drewN nq) (fun _ _ h => h)) i hi
      have HP := Lib.hid (show D.peek i = mkB (D.st i) by unfold DS.peek; rw [lastOf_miss _ _ (fun j hj => hno j hj (Nat.zero_le _))]; rfl)
      have CH := Lib.hid ch
      clear hno hR ch
      obtain ⟨S, hS⟩ : ∃ S, mkB (D.st i) = S := ⟨_, rfl⟩
      rw [hS] at HP
      simp only [hS] at hcv
      have HS := Lib.hid hS
      clear hS
      rw [show ((0 : Nat) : Int) - 1 = -1 from rfl]
      go_wp2
      go_quiet (fail)
      go_wp2
      go_ret2
      exact ⟨by rw [HP.out]; rfl, (HC.out.trans CH.out (fun _ _ h => h)).drewN _⟩
    | succ n =>
      have hn : n < D.q.length := by omega
      have d' := HD.out.kept ch (fun _ _ h => h)
      obtain ⟨g, rfl⟩ : ∃ g, a = some ⟨g, 0, none⟩ := by
        rcases Hform.out with ⟨_, h0⟩ | h0
        · rw [h0] at hn; simp at hn
        · exact h0
      obtain ⟨q0, q1, q2⟩ := que_cell d' (g := g) (c := c) Hq.out n hn
      have hgl := World.block_lt_of_cell? wr _ q0
      have ek : ((n + 1 : Nat) : Int) - 1 = (n : Int) := by omega
      rw [ek]
      obtain ⟨j, s, hp⟩ : ∃ j s, D.q[n] = (j, s) := ⟨_, _, rfl⟩
      rw [hp] at q0 q1 q2
      simp only at q0 q1 q2
      have CH := Lib.hid ch
      by_cases hji : j = i
      · have HP := Lib.hid (show D.peek i = s by
          unfold DS.peek
          rw [lastOf_hit D.q i n hn (by rw [hp]; exact hji) (fun j hj hk => hno j hj (by omega)), hp]; rfl)
        have t : (((j : Int) * 64) == ((i : Int) * 64)) = true := by rw [hji]; simp
        have Hp := Lib.hid hp
        subst hji
        clear hp hno hR d' ek ch
        go_wp2
        go_quiet (fail)
        go_wp2
        go_ret2
        exact ⟨by rw [HP.out]; rfl, (HC.out.trans CH.out (fun _ _ h => h)).drewN _⟩
      · have t : (((j : Int) * 64) == ((i : Int) * 64)) = false := by
          rw [beq_eq_false_iff_ne]; omega
        have HN := Lib.hid (show ∀ j (hj : j < D.q.length), n ≤ j → (D.q[j]).1 ≠ i from fun j' hj' hk' => by
          rcases Nat.lt_or_ge n j' with h1 | h1
          · exact hno j' hj' (by omega)
          · obtain rfl : n = j' := by omega
            rw [hp]; exact hji)
        clear hp hno hR d' ek ch
        go_wp2
        go_quiet (fail)
        go_wp2
        go_roundw
        case rel => exact ⟨n, by omega, rfl, CH.out.drewN _, HN.out⟩
        case measure => simp [intOf]

theorem read_ok (h : DH) (D : DS) (i : Int) (w : World) (d : DiskAt w h D) (hml : D.q.length ≤ 1000) :
    Calls Try.prog 17 #[.pointer (some ⟨h.b, 0, none⟩), .int .i64 i] w fun e w' => e = .returned (.tuple #[.string (D.read i).1, .int .i64 (D.read i).2]) ∧ Chg (fun _ => False) w w' := by
  by_cases ho : D.off = true
  · have e : D.read i = (ByteArray.empty, 19) := by simp [DS.read, ho]
    rw [e]; exact read_off h D i w d ho
  · have ho' : D.off = false := by simpa using ho
    by_cases hb : D.bad i = true
    · have e : D.read i = (ByteArray.empty, 1) := by simp [DS.read, ho', hb]
      rw [e]; exact read_bad h D i w d ho' hb
    · have hb' : D.bad i = false := by simpa using hb
      have := DS.bad_false hb'
      obtain ⟨n, rfl⟩ := Int.eq_ofNat_of_zero_le this.1
      have e : D.read n = (D.peek n, 0) := by simp [DS.read, ho', hb']
      rw [e]; exact read_good h D n w d ho' (by omega) hml

end Go.Proofs.Ytageboekobkdcaa

/- slices.Delete of one element, at attributes and at values: contracts. Conditions: none. | What a drop does to a table: contract. Conditions: none. -/
import Derived.Test.YtfifnemnihcijaaGreatDoorKTa
import Derived.Test.YtfifnemnihcijaaGreatDoorKMb
import Derived.Lib.SliceRun
set_option linter.unusedSimpArgs false
set_option linter.unusedVariables false
namespace Go.Proofs.YtfifnemnihcijaaGreatDoor
open Go.RowKit

set_option maxHeartbeats 4000000 in
set_option maxRecDepth 100000 in
theorem delA_ok (B g n c i j : Nat) (xs : List Value) (w : World) (own : w.ownsRow B 82 6 (.slice (some ⟨g, 0, none⟩) n c) n xs) (h1 : ∀ u ∈ xs, u.oneCell' = true) (hi : i < n) (hj : j = i + 1) (hn : n ≤ 1000000) :
    Calls Tryz.prog 108 #[.slice (some ⟨g, 0, none⟩) n c, .int .i64 i, .int .i64 j] w fun e w' => e = .returned (.slice (some ⟨g, 0, none⟩) (n - 1) c) ∧ w'.ownsRow B 82 6 (.slice (some ⟨g, 0, none⟩) (n - 1) c) (n - 1) (xs.take (i * 6) ++ xs.drop ((i + 1) * 6)) ∧ w.grownBy w' (some g) := by
  obtain ⟨i0, hi0, hiz0, hiz1, hiz2⟩ := info_parts Tryz.infoCA
  have OD := Lib.hid (own_del own.drew hi [.string ByteArray.empty, .int .i64 0, .slice none 0 0, .int .i64 0, .int .i64 0, .string ByteArray.empty] rfl)
  obtain ⟨g', cur, hA, hb, hk, hs, hnc, hcm, ht⟩ := own_blk own (by omega)
  injection hA with hA
  injection hA with e1
  subst e1
  have hxl := own.1
  have q1 : j * 6 ≤ n * 6 := Nat.mul_le_mul_right _ (by omega)
  have q2 : n * 6 ≤ c * 6 := Nat.mul_le_mul_right _ hnc
  have hcl : cur.toList.length = c * 6 := by simp [hs]
  obtain ⟨news, hnews⟩ : ∃ news, news = xs.drop (j * 6) := ⟨_, rfl⟩
  have hlen : news.length = (n - j) * 6 := by rw [hnews, List.length_drop, hxl, Nat.sub_mul]
  have hcell : ∀ t u, news[t]? = some u → w.cell? ⟨g, j * 6 + t, none⟩ = some u := by
    intro t u hu
    rw [hnews, List.getElem?_drop, ← ht, List.getElem?_take] at hu
    split at hu
    · rw [hk.cell]; simpa using hu
    · cases hu
  obtain ⟨A, hA, hsrc⟩ : ∃ A : Addr, (if c = j then (some (⟨g, 0, none⟩ : Addr)) else some ⟨g, j * 6, none⟩) = some A ∧ Hid (∀ t u, news[t]? = some u → w.drew.cell? (A.add t) = some u) := by
    by_cases h : c = j
    · refine ⟨⟨g, 0, none⟩, by simp [h], fun t u hu => ?_⟩
      have h0 : news.length = 0 := by rw [hlen, show n - j = 0 by omega, Nat.zero_mul]
      rw [List.length_eq_zero_iff.1 h0] at hu
      simp at hu
    · refine ⟨⟨g, j * 6, none⟩, by simp [h], fun t u hu => ?_⟩
      rw [show (⟨g, j * 6, none⟩ : Addr).add t = ⟨g, j * 6 + t, none⟩ by unfold Addr.add; split <;> simp_all]
      exact hcell t u hu
  have s1 : Hid (news.length = (n - j) * 6) := hlen
  have s2 : Hid (∀ u ∈ news, u.oneCell' = true) := by
    intro u hu
    rw [hnews] at hu
    exact h1 u (List.mem_of_mem_drop hu)
  have s3 : Hid (∀ t, t < news.length → (w.drew.cell? ⟨g, 0 + i * 6 + t, none⟩).isSome = true ∧ w.drew.frozen? ⟨g, 0 + i * 6 + t, none⟩ = false) := by
    intro t ht'
    rw [hlen] at ht'
    have q3 : j * 6 = i * 6 + 6 := by rw [hj, Nat.add_mul, Nat.one_mul]
    have q4 : (n - j) * 6 = n * 6 - j * 6 := Nat.sub_mul _ _ _
    rw [Nat.zero_add]
    refine ⟨?_, hk.drew.frozen _⟩
    rw [hk.drew.cell, Array.getElem?_eq_getElem (by omega)]
    rfl
  obtain ⟨W1, hW1⟩ : ∃ W1, W1 = w.drew.setCells g (0 + i * 6) news := ⟨_, rfl⟩
  have hk' : Blk w.drew g 82 cur.toList.toArray := by simpa using hk.drew
  have b1 := blk_setCells news (0 + i * 6) cur.toList w.drew hk' (by
    have q3 : j * 6 = i * 6 + 6 := by rw [hj, Nat.add_mul, Nat.one_mul]
    have q4 : (n - j) * 6 = n * 6 - j * 6 := Nat.sub_mul _ _ _
    rw [hlen]; omega)
  rw [← hW1] at b1
  have l1 : (putL cur.toList (0 + i * 6) news).length = c * 6 := by
    have q3 : j * 6 = i * 6 + 6 := by rw [hj, Nat.add_mul, Nat.one_mul]
    have q4 : (n - j) * 6 = n * 6 - j * 6 := Nat.sub_mul _ _ _
    rw [putL_length _ _ _ (by rw [hlen]; omega), hcl]
  have hcl2 : ∀ ty, (Builtin.clear_ #[41] ty #[.slice (some ⟨g, (i + (n - j)) * 6, none⟩) (n - (i + (n - j))) (c - (i + (n - j)))]).run Tryz.prog W1 = .ok (.tuple #[]) (W1.setCells g ((i + (n - j)) * 6) [.string ByteArray.empty, .int .i64 0, .slice none 0 0, .int .i64 0, .int .i64 0, .string ByteArray.empty]) := by
    intro ty
    rw [show n - (i + (n - j)) = 1 by omega]
    have q5 : (i + (n - j)) * 6 + 6 ≤ c * 6 := by
      have : (i + (n - j) + 1) * 6 ≤ c * 6 := Nat.mul_le_mul_right _ (by omega)
      rw [Nat.add_mul] at this; omega
    refine run_clear_one W1 _ 82 ty (.agg #[.string ByteArray.empty, .int .i64 0, .slice none 0 0, .int .i64 0, .int .i64 0, .string ByteArray.empty]) [.string ByteArray.empty, .int .i64 0, .slice none 0 0, .int .i64 0, .int .i64 0, .string ByteArray.empty] Tryz.underlying41 (fun _ => by kernel_rfl) rfl (by intro u hu; simp at hu; rcases hu with rfl | rfl | rfl | rfl | rfl | rfl <;> rfl) g _ _ (fun t ht' => ?_) (fun t _ => b1.frozen _)
    rw [b1.cell, List.getElem?_toArray, List.getElem?_eq_getElem (by rw [l1]; simp at ht'; omega)]
    rfl
  have hW : Hid (W1 = w.drew.setCells g (0 + i * 6) news) := hW1
  have hic : i ≤ c := by omega
  have hjc : j ≤ c := by omega
  have hjn : j ≤ n := by omega
  have hij : i ≤ j := by omega
  have hij2 : ((i : Int) == (j : Int)) = false := by simp; omega
  have hcne : ¬ c = i + (n - j) := by omega
  have hcm' : c ≤ 9223372036854775807 := by unfold maxLen at hcm; exact hcm
  have HJ := Lib.hid hj
  have HN := Lib.hid hnews
  have GR : Hid (w.grownBy W1 (some g)) := by
    show w.grownBy W1 (some g)
    rw [hW1]
    exact same_grown (Same.refl w).drew (grown_setCells g news _ _)
  clear own hcell hnews hlen hW1 b1 l1 hk hk' ht hs hcl q1 q2 hxl hcm hj h1
  go_enter Tryz.func108, Tryz.ntmps108
  go_wp2_with fail
  go_region_law (refine step_append_room rfl (.tmp 22) (.tmp 25) 41 rfl 82 i0 6 Tryz.underlying41 hi0 hiz1 g 0 i c (by simp [Act.eval, Act.put]) A (n - j) (c - j) news (by simp [Act.eval, Act.put]) s1.out hsrc.out s2.out (by omega) s3.out ?_; rw [← hW.out])
  go_wp2
  go_ret
  have e9 : i + (n - j) = n - 1 := by have := HJ.out; omega
  refine ⟨by rw [e9]; rfl, ?_, ?_⟩
  · have := OD.out
    rw [← HJ.out, ← HN.out] at this
    have h9 := hW.out
    rw [Nat.zero_add] at h9
    rw [← h9] at this
    rw [e9, ← HJ.out, ← HN.out]
    exact this
  · have g2 := grown_setCells g [.string ByteArray.empty, .int .i64 0, .slice none 0 0, .int .i64 0, .int .i64 0, .string ByteArray.empty] ((i + (n - j)) * 6) W1
    exact ⟨g2.os.trans GR.out.os, g2.tape.trans GR.out.tape, g2.output.trans GR.out.output, Nat.le_trans GR.out.size g2.size, fun k hk hne => (g2.block k (Nat.lt_of_lt_of_le hk GR.out.size) hne).trans (GR.out.block k hk hne)⟩

set_option maxHeartbeats 4000000 in
set_option maxRecDepth 100000 in
theorem delV_ok (B g n c i j : Nat) (xs : List Value) (w : World) (own : w.ownsRow B 26 3 (.slice (some ⟨g, 0, none⟩) n c) n xs) (h1 : ∀ u ∈ xs, u.oneCell' = true) (hi : i < n) (hj : j = i + 1) (hn : n ≤ 1000000) :
    Calls Tryz.prog 110 #[.slice (some ⟨g, 0, none⟩) n c, .int .i64 i, .int .i64 j] w fun e w' => e = .returned (.slice (some ⟨g, 0, none⟩) (n - 1) c) ∧ w'.ownsRow B 26 3 (.slice (some ⟨g, 0, none⟩) (n - 1) c) (n - 1) (xs.take (i * 3) ++ xs.drop ((i + 1) * 3)) ∧ w.grownBy w' (some g) := by
  obtain ⟨i0, hi0, hiz0, hiz1, hiz2⟩ := info_parts Tryz.infoCV
  have OD := Lib.hid (own_del own.drew hi [.int .i64 0, .int .i64 0, .string ByteArray.empty] rfl)
  obtain ⟨g', cur, hA, hb, hk, hs, hnc, hcm, ht⟩ := own_blk own (by omega)
  injection hA with hA
  injection hA with e1
  subst e1
  have hxl := own.1
  have q1 : j * 3 ≤ n * 3 := Nat.mul_le_mul_right _ (by omega)
  have q2 : n * 3 ≤ c * 3 := Nat.mul_le_mul_right _ hnc
  have hcl : cur.toList.length = c * 3 := by simp [hs]
  obtain ⟨news, hnews⟩ : ∃ news, news = xs.drop (j * 3) := ⟨_, rfl⟩
  have hlen : news.length = (n - j) * 3 := by rw [hnews, List.length_drop, hxl, Nat.sub_mul]
  have hcell : ∀ t u, news[t]? = some u → w.cell? ⟨g, j * 3 + t, none⟩ = some u := by
    intro t u hu
    rw [hnews, List.getElem?_drop, ← ht, List.getElem?_take] at hu
    split at hu
    · rw [hk.cell]; simpa using hu
    · cases hu
  obtain ⟨A, hA, hsrc⟩ : ∃ A : Addr, (if c = j then (some (⟨g, 0, none⟩ : Addr)) else some ⟨g, j * 3, none⟩) = some A ∧ Hid (∀ t u, news[t]? = some u → w.drew.cell? (A.add t) = some u) := by
    by_cases h : c = j
    · refine ⟨⟨g, 0, none⟩, by simp [h], fun t u hu => ?_⟩
      have h0 : news.length = 0 := by rw [hlen, show n - j = 0 by omega, Nat.zero_mul]
      rw [List.length_eq_zero_iff.1 h0] at hu
      simp at hu
    · refine ⟨⟨g, j * 3, none⟩, by simp [h], fun t u hu => ?_⟩
      rw [show (⟨g, j * 3, none⟩ : Addr).add t = ⟨g, j * 3 + t, none⟩ by unfold Addr.add; split <;> simp_all]
      exact hcell t u hu
  have s1 : Hid (news.length = (n - j) * 3) := hlen
  have s2 : Hid (∀ u ∈ news, u.oneCell' = true) := by
    intro u hu
    rw [hnews] at hu
    exact h1 u (List.mem_of_mem_drop hu)
  have s3 : Hid (∀ t, t < news.length → (w.drew.cell? ⟨g, 0 + i * 3 + t, none⟩).isSome = true ∧ w.drew.frozen? ⟨g, 0 + i * 3 + t, none⟩ = false) := by
    intro t ht'
    rw [hlen] at ht'
    have q3 : j * 3 = i * 3 + 3 := by rw [hj, Nat.add_mul, Nat.one_mul]
    have q4 : (n - j) * 3 = n * 3 - j * 3 := Nat.sub_mul _ _ _
    rw [Nat.zero_add]
    refine ⟨?_, hk.drew.frozen _⟩
    rw [hk.drew.cell, Array.getElem?_eq_getElem (by omega)]
    rfl
  obtain ⟨W1, hW1⟩ : ∃ W1, W1 = w.drew.setCells g (0 + i * 3) news := ⟨_, rfl⟩
  have hk' : Blk w.drew g 26 cur.toList.toArray := by simpa using hk.drew
  have b1 := blk_setCells news (0 + i * 3) cur.toList w.drew hk' (by
    have q3 : j * 3 = i * 3 + 3 := by rw [hj, Nat.add_mul, Nat.one_mul]
    have q4 : (n - j) * 3 = n * 3 - j * 3 := Nat.sub_mul _ _ _
    rw [hlen]; omega)
  rw [← hW1] at b1
  have l1 : (putL cur.toList (0 + i * 3) news).length = c * 3 := by
    have q3 : j * 3 = i * 3 + 3 := by rw [hj, Nat.add_mul, Nat.one_mul]
    have q4 : (n - j) * 3 = n * 3 - j * 3 := Nat.sub_mul _ _ _
    rw [putL_length _ _ _ (by rw [hlen]; omega), hcl]
  have hcl2 : ∀ ty, (Builtin.clear_ #[29] ty #[.slice (some ⟨g, (i + (n - j)) * 3, none⟩) (n - (i + (n - j))) (c - (i + (n - j)))]).run Tryz.prog W1 = .ok (.tuple #[]) (W1.setCells g ((i + (n - j)) * 3) [.int .i64 0, .int .i64 0, .string ByteArray.empty]) := by
    intro ty
    rw [show n - (i + (n - j)) = 1 by omega]
    have q5 : (i + (n - j)) * 3 + 3 ≤ c * 3 := by
      have : (i + (n - j) + 1) * 3 ≤ c * 3 := Nat.mul_le_mul_right _ (by omega)
      rw [Nat.add_mul] at this; omega
    refine run_clear_one W1 _ 26 ty (.agg #[.int .i64 0, .int .i64 0, .string ByteArray.empty]) [.int .i64 0, .int .i64 0, .string ByteArray.empty] Tryz.underlying29 (fun _ => by kernel_rfl) rfl (by intro u hu; simp at hu; rcases hu with rfl | rfl | rfl <;> rfl) g _ _ (fun t ht' => ?_) (fun t _ => b1.frozen _)
    rw [b1.cell, List.getElem?_toArray, List.getElem?_eq_getElem (by rw [l1]; simp at ht'; omega)]
    rfl
  have hW : Hid (W1 = w.drew.setCells g (0 + i * 3) news) := hW1
  have hic : i ≤ c := by omega
  have hjc : j ≤ c := by omega
  have hjn : j ≤ n := by omega
  have hij : i ≤ j := by omega
  have hij2 : ((i : Int) == (j : Int)) = false := by simp; omega
  have hcne : ¬ c = i + (n - j) := by omega
  have hcm' : c ≤ 9223372036854775807 := by unfold maxLen at hcm; exact hcm
  have HJ := Lib.hid hj
  have HN := Lib.hid hnews
  have GR : Hid (w.grownBy W1 (some g)) := by
    show w.grownBy W1 (some g)
    rw [hW1]
    exact same_grown (Same.refl w).drew (grown_setCells g news _ _)
  clear own hcell hnews hlen hW1 b1 l1 hk hk' ht hs hcl q1 q2 hxl hcm hj h1
  go_enter Tryz.func110, Tryz.ntmps110
  go_wp2_with fail
  go_region_law (refine step_append_room rfl (.tmp 22) (.tmp 25) 29 rfl 26 i0 3 Tryz.underlying29 hi0 hiz1 g 0 i c (by simp [Act.eval, Act.put]) A (n - j) (c - j) news (by simp [Act.eval, Act.put]) s1.out hsrc.out s2.out (by omega) s3.out ?_; rw [← hW.out])
  go_wp2
  go_ret
  have e9 : i + (n - j) = n - 1 := by have := HJ.out; omega
  refine ⟨by rw [e9]; rfl, ?_, ?_⟩
  · have := OD.out
    rw [← HJ.out, ← HN.out] at this
    have h9 := hW.out
    rw [Nat.zero_add] at h9
    rw [← h9] at this
    rw [e9, ← HJ.out, ← HN.out]
    exact this
  · have g2 := grown_setCells g [.int .i64 0, .int .i64 0, .string ByteArray.empty] ((i + (n - j)) * 3) W1
    exact ⟨g2.os.trans GR.out.os, g2.tape.trans GR.out.tape, g2.output.trans GR.out.output, Nat.le_trans GR.out.size g2.size, fun k hk hne => (g2.block k (Nat.lt_of_lt_of_le hk GR.out.size) hne).trans (GR.out.block k hk hne)⟩
end Go.Proofs.YtfifnemnihcijaaGreatDoor
namespace Go.Proofs.YtfifnemnihcijaaGreatDoor
open Go.RowKit

/-- A key on its way: its first k indices are lowered. -/
def lowK (a : Nat) (q : Int) : Int := if (a : Int) < q then q - 1 else q
def keyTo (a : Nat) (l : List Int) (k : Nat) : List Int := (l.take k).map (lowK a) ++ l.drop k
theorem keyTo_zero (a : Nat) (l : List Int) : keyTo a l 0 = l := by simp [keyTo]
theorem keyTo_all (a : Nat) (l : List Int) : keyTo a l l.length = l.map (lowK a) := by simp [keyTo]
theorem keyTo_length (a : Nat) (l : List Int) (k : Nat) : (keyTo a l k).length = l.length := by simp [keyTo]; omega
theorem keyTo_get (a : Nat) (l : List Int) (k : Nat) (hk : k < l.length) : (keyTo a l k)[k]'(by rw [keyTo_length]; exact hk) = l[k] := by
  simp only [keyTo]
  rw [List.getElem_append_right (by simp; omega)]
  simp [Nat.min_eq_left (Nat.le_of_lt hk)]
theorem keyTo_succ (a : Nat) (l : List Int) (k : Nat) (hk : k < l.length) : keyTo a l (k + 1) = (keyTo a l k).set k (lowK a l[k]) := by
  unfold keyTo
  rw [List.take_succ_eq_append_getElem hk, List.map_append, List.drop_eq_getElem_cons hk, List.set_append_right _ _ (by simp; omega)]
  have e : k - (List.map (lowK a) (List.take k l)).length = 0 := by simp; omega
  rw [e]
  simp
  rw [List.drop_eq_getElem_cons hk]
  rfl
theorem keyTo_same (a : Nat) (l : List Int) (k : Nat) (hk : k < l.length) (h : lowK a l[k] = l[k]) : keyTo a l (k + 1) = keyTo a l k := by
  rw [keyTo_succ a l k hk, h]
  apply List.ext_getElem (by simp)
  intro j h1 h2
  by_cases e : k = j
  · subst e; rw [List.getElem_set_self, keyTo_get]
  · rw [List.getElem_set_ne e]
section
variable {W0 w w' : World} {g c i : Nat} {ts : List RT} {t : RT}
theorem TabState.cell (S : TabState W0 w g c ts i t) (j : Nat) (hj : j < 3) : w.cell? ⟨g, i * 3 + j, none⟩ = t.cells[j]? := by
  have := own_cell RT.clen S.row rfl i S.lt j hj
  rw [S.get] at this
  exact this
theorem TabState.free (S : TabState W0 w g c ts i t) (j : Nat) : w.frozen? ⟨g, j, none⟩ = false := by
  obtain ⟨g', cur, hA, _, hk, _⟩ := own_blk S.row (Nat.lt_of_le_of_lt (Nat.zero_le _) S.lt)
  injection hA with hA
  injection hA with e
  subst e
  exact hk.frozen j
theorem TabState.haBlk (S : TabState W0 w g c ts i t) (h : 0 < t.ra.length) : ∃ ga ca, t.ha = ⟨some ⟨ga, 0, none⟩, t.ra.length, ca⟩ ∧ W0.heap.size ≤ ga ∧ ga < w.heap.size ∧ g ≠ ga ∧ (∀ j, w.frozen? ⟨ga, j, none⟩ = false) ∧ w.ownsRow W0.heap.size 82 6 (.slice (some ⟨ga, 0, none⟩) t.ra.length ca) t.ra.length (t.ra.flatMap RA.cells) := by
  have har := S.ar
  obtain ⟨⟨A, n, ca⟩, hha⟩ : ∃ h, t.ha = h := ⟨_, rfl⟩
  have hn : n = t.ra.length := by have := S.an; rw [hha] at this; exact this
  subst hn
  have hv : (⟨A, t.ra.length, ca⟩ : Hd).val = .slice A t.ra.length ca := rfl
  rw [hha, hv] at har
  obtain ⟨ga, cur, hA, hb, hk, _⟩ := own_blk har h
  subst hA
  exact ⟨ga, ca, hha, hb, hk.lt, fun e => row_ne S.row har (by decide) (by simp [Value.ownBlock, e]), fun j => hk.frozen j, har⟩
theorem TabState.hkBlk (S : TabState W0 w g c ts i t) (h : 0 < t.key.length) : ∃ gk ck, t.hk = ⟨some ⟨gk, 0, none⟩, t.key.length, ck⟩ ∧ W0.heap.size ≤ gk ∧ gk < w.heap.size ∧ g ≠ gk ∧ (∀ j, w.frozen? ⟨gk, j, none⟩ = false) ∧ ∀ j (hj : j < t.key.length), w.cell? ⟨gk, j, none⟩ = some (.int .i64 t.key[j]) := by
  have har := S.kr
  obtain ⟨⟨A, n, ca⟩, hha⟩ : ∃ h, t.hk = h := ⟨_, rfl⟩
  have hn : n = t.key.length := by have := S.kn; rw [hha] at this; exact this
  subst hn
  have hv : (⟨A, t.key.length, ca⟩ : Hd).val = .slice A t.key.length ca := rfl
  rw [hha, hv] at har
  obtain ⟨ga, cur, hA, hb, hk, _⟩ := own_blk har h
  subst hA
  refine ⟨ga, ca, hha, hb, hk.lt, fun e => row_ne S.row har (by decide) (by simp [Value.ownBlock, e]), fun j => hk.frozen j, fun j hj => ?_⟩
  have := own_cell (enc := intCell) (m := 1) (fun _ => rfl) har rfl j hj 0 Nat.one_pos
  simpa [intCell] using this
end

set_option maxHeartbeats 2000000 in
set_option maxRecDepth 100000 in
theorem drop2_state (W0 w : World) (g c i a : Nat) (ts : List RT) (t : RT) (k to_ dk dn : Int) (tt aa nn ds : ByteArray) (S : TabState W0 w g c ts i t) (ha : a < t.ra.length) (hl : t.ra.length ≤ 1000000) (hkl : t.key.length ≤ 1000000) (hkb : ∀ q ∈ t.key, 0 ≤ q ∧ q ≤ 1000000) :
    Calls Tryz.prog 107 #[.pointer (some ⟨g, i * 3, none⟩), .agg #[.int .i64 k, .string tt, .string aa, .string nn, .int .i64 to_, .int .i64 dk, .int .i64 dn, .string ds], .int .i64 a] w fun e w' => e = .returned (.tuple #[]) ∧
      (∃ h', TabState W0 w' g c (ts.set i { t with ra := t.ra.eraseIdx a, ha := h', key := t.key.map (lowK a) }) i { t with ra := t.ra.eraseIdx a, ha := h', key := t.key.map (lowK a) }) ∧ KeepT w w' := by
  obtain ⟨ga, ca, hha, hgb, hgl, hne, hfr, har⟩ := S.haBlk (by omega)
  have x1 : w.cell? ⟨g, i * 3 + 1, none⟩ = some (.slice (some ⟨ga, 0, none⟩) t.ra.length ca) := by
    have := S.cell 1 (by omega)
    rw [this]
    show some t.ha.val = _
    rw [hha]; rfl
  obtain ⟨⟨B, nk, ck⟩, hhk⟩ : ∃ h, t.hk = h := ⟨_, rfl⟩
  have hnk : nk = t.key.length := by have := S.kn; rw [hhk] at this; exact this
  subst hnk
  have x2 : w.cell? ⟨g, i * 3 + 2, none⟩ = some (.slice B t.key.length ck) := by
    have := S.cell 2 (by omega)
    rw [this]
    show some t.hk.val = _
    rw [hhk]; rfl
  have xf1 : w.frozen? ⟨g, i * 3 + 1, none⟩ = false := S.free _
  have hg := S.g_le.2
  have hz : g ≠ w.heap.size := by omega
  have h1 : ∀ u ∈ t.ra.flatMap RA.cells, u.oneCell' = true := by
    intro u hu
    obtain ⟨r, _, hr⟩ := List.mem_flatMap.1 hu
    simp only [RA.cells, List.mem_cons, List.not_mem_nil, or_false] at hr
    rcases hr with rfl | rfl | rfl | rfl | rfl | rfl <;> rfl
  obtain ⟨bx, hbx⟩ : ∃ bx, bx = Obj.cells #[.int .i64 k, .string tt, .string aa, .string nn, .int .i64 to_, .int .i64 dk, .int .i64 dn, .string ds] 28 := ⟨_, rfl⟩
  have HD : Hid (Calls Tryz.prog 108 #[.slice (some ⟨ga, 0, none⟩) t.ra.length ca, .int .i64 a, .int .i64 ((a : Int) + 1)] (w.alloc bx) fun e w' => e = .returned (.slice (some ⟨ga, 0, none⟩) (t.ra.length - 1) ca) ∧ w'.ownsRow W0.heap.size 82 6 (.slice (some ⟨ga, 0, none⟩) (t.ra.length - 1) ca) (t.ra.length - 1) ((t.ra.flatMap RA.cells).take (a * 6) ++ (t.ra.flatMap RA.cells).drop ((a + 1) * 6)) ∧ (w.alloc bx).grownBy w' (some ga)) :=
    delA_ok W0.heap.size ga t.ra.length ca a (a + 1) _ (w.alloc bx) (har.alloc bx) h1 ha rfl hl
  have HS := Lib.hid S
  have HAR := Lib.hid har
  rw [hbx] at HD
  clear S har h1 hbx
  have ha' : (a : Int) + 1 ≤ 1000000 := by omega
  go_enter Tryz.func107, Tryz.ntmps107
  go_wp2_with (fail)
  refine HD.out.mono ?_
  rintro e w2 ⟨rfl, o2, g2⟩
  have hgb2 := g2.block g (by simp; omega) (fun e => hne (by injection e))
  have gc : ∀ j, w2.cell? ⟨g, j, none⟩ = w.cell? ⟨g, j, none⟩ := fun j => (World.cell?_of_block (a := ⟨g, j, none⟩) hgb2).trans (((Same.refl w).alloc _).cells g j hg)
  have gf : ∀ j, w2.frozen? ⟨g, j, none⟩ = w.frozen? ⟨g, j, none⟩ := fun j => (World.frozen?_of_block (a := ⟨g, j, none⟩) hgb2).trans (((Same.refl w).alloc _).frees g j hg)
  have y1 := (gc (i * 3 + 1)).trans x1
  have yf1 := (gf (i * 3 + 1)).trans xf1
  have y2 := (gc (i * 3 + 2)).trans x2
  clear gc gf hgb2
  have hlen : (t.ra.eraseIdx a).length = t.ra.length - 1 := by rw [List.length_eraseIdx, if_pos ha]
  have S2 : TabState W0 (w2.setCell ⟨g, i * 3 + 1, none⟩ (.slice (some ⟨ga, 0, none⟩) (t.ra.length - 1) ca)) g c (ts.set i { t with ra := t.ra.eraseIdx a, ha := ⟨some ⟨ga, 0, none⟩, t.ra.length - 1, ca⟩ }) i { t with ra := t.ra.eraseIdx a, ha := ⟨some ⟨ga, 0, none⟩, t.ra.length - 1, ca⟩ } := by
    have := (HS.out.alloc _).newA (w1 := w2) (A := some ⟨ga, 0, none⟩) (ca := ca) (ra := t.ra.eraseIdx a) (by rw [hha]; exact g2) (by rw [hlen, ← flat_erase RA.clen t.ra a ha]; exact o2)
    rw [hlen] at this
    exact this
  have KP2 : KeepT w (w2.setCell ⟨g, i * 3 + 1, none⟩ (.slice (some ⟨ga, 0, none⟩) (t.ra.length - 1) ca)) := by
    have k1 : KeepT w w2 := ((KeepT.refl w).alloc _).grown (HAR.out.alloc _) (.inr (.inl rfl)) g2
    obtain ⟨g', cur, hA, _, hk, _⟩ := own_blk (HS.out.alloc _ |>.row.kept g2 (.inr (fun e => hne (by simpa [Value.ownBlock] using e)))) (Nat.lt_of_le_of_lt (Nat.zero_le _) HS.out.lt)
    injection hA with hA
    injection hA with e
    subst e
    exact k1.set hk (.inl rfl) _ _
  have HS2 := Lib.hid S2
  have HKP2 := Lib.hid KP2
  clear S2 o2 g2 KP2
  go_wp2
  obtain ⟨W2, hW2⟩ : ∃ W2, W2 = w2.setCell ⟨g, i * 3 + 1, none⟩ (.slice (some ⟨ga, 0, none⟩) (t.ra.length - 1) ca) := ⟨_, rfl⟩
  rw [← hW2]
  rw [← hW2] at HS2 HKP2
  obtain ⟨t2, ht2⟩ : ∃ t2 : RT, t2 = { t with ra := t.ra.eraseIdx a, ha := ⟨some ⟨ga, 0, none⟩, t.ra.length - 1, ca⟩ } := ⟨_, rfl⟩
  rw [← ht2] at HS2
  have hk2 : t2.key = t.key := by rw [ht2]
  have hh2 : t2.hk = ⟨B, t.key.length, ck⟩ := by rw [ht2]; exact hhk
  have HK2 := Lib.hid hk2
  have HH2 := Lib.hid hh2
  have HT2 := Lib.hid ht2
  have HKB := Lib.hid hkb
  have hkl' : t.key.length ≤ 1000000 := hkl
  clear hW2 ht2 y1 y2 yf1 x1 x2 xf1 HD hk2 hh2 hhk hha hkb hfr HS
  go_loopw [23] (fun q wr => ∃ j : Nat, j ≤ t.key.length ∧ q = .int .i64 j ∧ Hid (TabState W0 wr g c (ts.set i { t2 with key := keyTo a t.key j }) i { t2 with key := keyTo a t.key j }) ∧ Hid (KeepT w wr)) (fun q _ => t.key.length - (intOf q).toNat)
  case atStart => exact ⟨0, Nat.zero_le _, rfl, by rw [keyTo_zero, ← HK2.out]; exact HS2.out, HKP2.out⟩
  case round =>
    obtain ⟨j, hj, rfl, SJ, KJ⟩ := hrel
    by_cases hlt : j < t.key.length
    · have hlk : (keyTo a t.key j).length = t.key.length := keyTo_length _ _ _
      obtain ⟨gk, ck', hhk', hkb1, hkb2, hgk, hfk, hcell⟩ := SJ.out.hkBlk (show 0 < (keyTo a t.key j).length by omega)
      have hhk'' : (⟨B, t.key.length, ck⟩ : Hd) = ⟨some ⟨gk, 0, none⟩, (keyTo a t.key j).length, ck'⟩ := HH2.out.symm.trans hhk'
      injection hhk'' with eB eN eC
      have c0 : wr.cell? ⟨gk, j, none⟩ = some (.int .i64 t.key[j]) := by
        have := hcell j (show j < (keyTo a t.key j).length by omega)
        rw [this]
        exact congrArg (fun x => some (Value.int .i64 x)) (keyTo_get a t.key j hlt)
      have f0 := hfk j
      have z2 : wr.cell? ⟨g, i * 3 + 2, none⟩ = some (.slice (some ⟨gk, 0, none⟩) t.key.length ck) := by
        have := SJ.out.cell 2 (by omega)
        rw [this]
        show some t2.hk.val = _
        rw [HH2.out, eB]; rfl
      have hkj := HKB.out t.key[j] (List.getElem_mem hlt)
      have SK : Hid (∀ v, TabState W0 (wr.setCell ⟨gk, j, none⟩ (.int .i64 v)) g c (ts.set i { t2 with key := (keyTo a t.key j).set j v }) i { t2 with key := (keyTo a t.key j).set j v }) := by
        intro v
        have := SJ.out.setK (gk := gk) (ck := ck) (by rw [HH2.out, eB]) (by rw [HH2.out]) j (show j < (keyTo a t.key j).length by omega) v
        simpa [List.set_set] using this
      have KQ : Hid (∀ v, KeepT w (wr.setCell ⟨gk, j, none⟩ (.int .i64 v))) := by
        intro v
        have hkr := SJ.out.kr
        have hval : ({ t2 with key := keyTo a t.key j } : RT).hk.val = .slice (some ⟨gk, 0, none⟩) t.key.length ck := by
          show t2.hk.val = _
          rw [HH2.out, eB]; rfl
        rw [hval] at hkr
        have hkr' : wr.ownsRow W0.heap.size 3 1 (.slice (some ⟨gk, 0, none⟩) t.key.length ck) t.key.length ((keyTo a t.key j).flatMap intCell) := by
          have : (keyTo a t.key j).length = t.key.length := keyTo_length _ _ _
          rw [← this]; rw [← this] at hkr; exact hkr
        obtain ⟨g', cur, hA, _, hk, _⟩ := own_blk hkr' (by omega)
        injection hA with hA
        injection hA with e
        subst e
        exact KJ.out.set hk (.inr (.inr rfl)) _ _
      have KS : Hid (keyTo a t.key (j + 1) = (keyTo a t.key j).set j (lowK a t.key[j])) := keyTo_succ a t.key j hlt
      have KM : Hid (lowK a t.key[j] = t.key[j] → keyTo a t.key (j + 1) = keyTo a t.key j) := keyTo_same a t.key j hlt
      obtain ⟨q, hq⟩ : ∃ q, q = t.key[j] := ⟨_, rfl⟩
      rw [← hq] at c0 hkj KS KM
      obtain ⟨hq0, hq1⟩ := hkj
      clear hq hcell hfk hhk' eB eN eC hlk
      by_cases hqa : (a : Int) < q
      · have KS' : Hid (keyTo a t.key (j + 1) = (keyTo a t.key j).set j (q - 1)) := by show _ = _; rw [KS.out]; unfold lowK; rw [if_pos hqa]
        clear KS KM
        go_wp2
        go_roundw
        case rel => exact ⟨j + 1, by omega, by go_num, by rw [KS'.out]; exact SK.out (q - 1), KQ.out (q - 1)⟩
        case measure => simp [intOf]; omega
      · have KM' : Hid (keyTo a t.key (j + 1) = keyTo a t.key j) := KM.out (by unfold lowK; rw [if_neg hqa])
        clear KS KM
        go_wp2
        go_roundw
        case rel => exact ⟨j + 1, by omega, by go_num, by rw [KM'.out]; exact SJ.out, KJ.out⟩
        case measure => simp [intOf]; omega
    · have ej : j = t.key.length := by omega
      have SF : Hid (TabState W0 wr g c (ts.set i { t2 with key := t.key.map (lowK a) }) i { t2 with key := t.key.map (lowK a) }) := by
        have := SJ.out
        rw [ej, keyTo_all] at this
        exact this
      clear ej SJ
      go_wp2
      go_end0
      exact ⟨rfl, ⟨_, by have := SF.out; rw [HT2.out] at this; exact this⟩, KJ.out⟩
end Go.Proofs.YtfifnemnihcijaaGreatDoor

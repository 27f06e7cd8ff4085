/- Disk: base lemmas. -/
import Derived.Test.YtageboekobkdcaaProg
import Derived.Test.YtageboekobkdcaaM
import Derived.WalkKit
import Derived.WalkSpells
import Derived.WalkLawsBesides
import Derived.BigQuiet
import Derived.Deep.QuietTactic
import Derived.Lib.Hide
import Derived.StillTailTactics
import Derived.Deep.DeepFit
import Derived.Deep.RegionLaw
import Derived.Deep.RegionHeld3
import Derived.Deep.DeepCutAuto
import Derived.Laws.CopyOwn
namespace Go.Proofs.Ytageboekobkdcaa
open Go.RowKit

theorem run_slice_ij {P : Program} (t : TypeId) (ht : P.underlying t = some (.slice (P.elem t))) (i0 : TypeInfo) (hq : P.info? (P.elem t) = some i0) (hs : i0.size = 1) (g n i : Nat) (hi : i < n) (w : World) :
    (Instr.slice t (.slice (some ⟨g, 0, none⟩) (n * 64) (n * 64)) (some (.int .i64 ((i : Int) * 64))) (some (.int .i64 ((i : Int) * 64 + 64))) none).run P w = .ok (.slice (some ⟨g, i * 64, none⟩) 64 (n * 64 - i * 64)) w := by
  rw [run_slice_lh _ _ _ _ _ ht _ _ _ _ (by omega) (by omega) (by omega)]
  have e1 : ((i : Int) * 64 + 64).toNat = i * 64 + 64 := by omega
  have e2 : ((i : Int) * 64).toNat = i * 64 := by omega
  have hne : ¬ (n * 64 = i * 64) := by omega
  have hz : (sizeOf (P.elem t)).run P w = .ok 1 w := by simp [sizeOf, typeInfo, hq, hs]
  rw [hz]
  simp [Result.andThen, sliced, e1, e2, hne, Addr.add]
  omega

theorem Try.info5 : (Try.prog.info? 5).map (fun i => (i.zero, i.size, i.bytes)) = some (some (.int .u8 0), 1, 1) := by kernel_rfl

theorem run_copy_str {P : Program} (w : World) (dT sT ty elem : TypeId) (g o dLen dCap : Nat) (s : ByteArray) (cur : List Value) (t : TypeId)
    (hu : P.underlying dT = some (.slice elem)) (hs : (P.info? elem).map (·.size) = some 1)
    (hg : w.heap[g]? = some (.cells cur.toArray t (0, 0))) (hle : s.size ≤ dLen) (hfit : o + s.size ≤ cur.length) :
    (Builtin.copy_ #[dT, sT] ty #[.slice (some ⟨g, o, none⟩) dLen dCap, .string s]).run P w =
      .ok (goInt s.size) (w.setRow g (splice cur o (strCells s)).toArray) := by
  have hl : (strCells s).length = s.size := by simp [strCells, ba]
  have h1 : ∀ v ∈ strCells s, v.oneCell' = true := by
    intro v hv
    simp only [strCells, List.mem_map] at hv
    obtain ⟨b, _, rfl⟩ := hv
    rfl
  have hst := run_storeCells_at P g o t (strCells s) 0 cur.toArray w hg (by simp [hl]; omega) h1
  have hm : Nat.min s.size dLen = s.size := Nat.min_eq_left hle
  cases hq : P.info? elem with
  | none => simp [hq] at hs
  | some i =>
    have hi : i.size = 1 := by simpa [hq] using hs
    simp only [Nat.add_zero] at hst
    simp [Builtin.copy_, run_underlying hu, Builtin.lenOf, Builtin.firstCells, sizeOf, typeInfo, hq, hm]
    have ht : List.take s.size (List.map (fun b : UInt8 => Value.int IntKind.u8 ↑b.toNat) s.data.toList) = strCells s := by
      rw [List.take_of_length_le (by simp)]; rfl
    rw [ht, hst]
    simp [splice]

theorem Try.size5 : (Try.prog.info? 5).map (·.size) = some 1 := by kernel_rfl

theorem cell?_setRow_far (w : World) (g : Nat) (cs : Array Value) (a : Addr) (h : a.block ≠ g) : (w.setRow g cs).cell? a = w.cell? a :=
  World.cell?_of_block (setRow_other w g a.block cs h)
theorem size_setRow (w : World) (g : Nat) (cs : Array Value) : (w.setRow g cs).heap.size = w.heap.size := by simp [World.setRow]

theorem heap_drew (w : World) : w.drew.heap = w.heap := rfl

set_option maxHeartbeats 1000000 in
theorem set_low (b bs be n : Nat) (qv ov av : Value) (S E : List Value) (i : Nat) (s : ByteArray) (w : World) (hi : i < n) (hsz : s.size ≤ 64)
  (hS : S.length = n * 64) (hE : E.length = n * 64) (oS : ∀ v ∈ S, v.oneCell' = true)
  (hb : w.heap[b]? = some (.cells #[.slice (some ⟨bs, 0, none⟩) (n * 64) (n * 64), .slice (some ⟨be, 0, none⟩) (n * 64) (n * 64), qv, ov, av] 61 (0, 0)))
  (hs : w.heap[bs]? = some (.cells S.toArray 5 (0, 0))) (he : w.heap[be]? = some (.cells E.toArray 5 (0, 0))) (d1 : b ≠ bs) (d2 : b ≠ be) (d3 : bs ≠ be) :
    Calls Try.prog 42 #[.pointer (some ⟨b, 0, none⟩), .agg #[.int .i64 ((i : Int) * 64), .int .i64 ((i : Int) * 64 + 64)], .string s] w fun e w' => e = .returned (.tuple #[]) ∧
      w'.heap[bs]? = some (.cells (splice S (i * 64) (strCells s)).toArray 5 (0, 0)) ∧ w'.heap[be]? = some (.cells (splice E (i * 64) ((S.drop (i * 64)).take 64)).toArray 5 (0, 0)) ∧ Chg (fun k => k = bs ∨ k = be) w w' := by
  have hblt := (Array.getElem?_eq_some_iff.1 hb).1
  have hslt := (Array.getElem?_eq_some_iff.1 hs).1
  have helt := (Array.getElem?_eq_some_iff.1 he).1
  -- the worlds
  obtain ⟨w1, hw1⟩ : ∃ w1, w1 = (w.alloc (.cells #[.int .i64 ((i : Int) * 64), .int .i64 ((i : Int) * 64 + 64)] 67)).drew := ⟨_, rfl⟩
  have b1 : ∀ k, k < w.heap.size → w1.heap[k]? = w.heap[k]? := by
    intro k hk; rw [hw1, heap_drew]; exact Below.heap_alloc _ _ _ hk
  have hc1 : ∀ ty, (Builtin.copy_ #[57, 57] ty #[.slice (some ⟨be, i * 64, none⟩) 64 (n * 64 - i * 64), .slice (some ⟨bs, i * 64, none⟩) 64 (n * 64 - i * 64)]).run Try.prog w1 = .ok (goInt 64) (w1.setRow be (splice E (i * 64) ((S.drop (i * 64)).take 64)).toArray) := by
    intro ty
    have h := run_copy_row (P := Try.prog) w1 57 57 ty 5 be (i * 64) 64 (n * 64 - i * 64) ⟨bs, i * 64, none⟩ 64 (n * 64 - i * 64) E.toArray 5 ((S.drop (i * 64)).take 64) Try.underlying57 Try.size5 ((b1 be helt).trans he) (by simp; omega) ?_ (by simp; omega) ?_
    · have hl : ((S.drop (i * 64)).take 64).length = 64 := by simp; omega
      rw [hl] at h
      rw [h]
      simp [splice, hl]
    · intro j v hv
      rw [List.getElem?_take] at hv
      split at hv
      · rw [List.getElem?_drop] at hv
        have : (⟨bs, i * 64, none⟩ : Addr).add j = ⟨bs, i * 64 + j, none⟩ := by unfold Addr.add; split <;> simp_all
        rw [this]
        simp [World.cell?, b1 bs hslt, hs, hv]
      · cases hv
    · intro v hv
      exact oS v (List.mem_of_mem_drop (List.mem_of_mem_take hv))
  have c0 : w.cell? ⟨b, 0, none⟩ = some (.slice (some ⟨bs, 0, none⟩) (n * 64) (n * 64)) := by simp [World.cell?, hb]
  have c1 : w.cell? ⟨b, 1, none⟩ = some (.slice (some ⟨be, 0, none⟩) (n * 64) (n * 64)) := by simp [World.cell?, hb]
  have hsl := fun g w => run_slice_ij (P := Try.prog) 57 Try.underlying57 _ rfl rfl g n i hi w
  obtain ⟨w2, hw2⟩ : ∃ w2, w2 = (w1.setRow be (splice E (i * 64) ((S.drop (i * 64)).take 64)).toArray).drew := ⟨_, rfl⟩
  have b2 : ∀ k, k < w.heap.size → k ≠ be → w2.heap[k]? = w.heap[k]? := by
    intro k hk hne; rw [hw2, heap_drew, setRow_other _ _ _ _ hne, b1 k hk]
  have hc2 : ∀ ty, (Builtin.copy_ #[57, 9] ty #[.slice (some ⟨bs, i * 64, none⟩) 64 (n * 64 - i * 64), .string s]).run Try.prog w2 = .ok (goInt s.size) (w2.setRow bs (splice S (i * 64) (strCells s)).toArray) := by
    intro ty
    exact run_copy_str (P := Try.prog) w2 57 9 ty 5 bs (i * 64) 64 (n * 64 - i * 64) s S 5 Try.underlying57 Try.size5 ((b2 bs hslt d3).trans hs) hsz (by omega)
  have post : (w2.setRow bs (splice S (i * 64) (strCells s)).toArray).heap[bs]? = some (.cells (splice S (i * 64) (strCells s)).toArray 5 (0, 0)) ∧
      (w2.setRow bs (splice S (i * 64) (strCells s)).toArray).heap[be]? = some (.cells (splice E (i * 64) ((S.drop (i * 64)).take 64)).toArray 5 (0, 0)) ∧ Chg (fun k => k = bs ∨ k = be) w (w2.setRow bs (splice S (i * 64) (strCells s)).toArray) := by
    refine ⟨setRow_heap _ _ _ _ _ _ ((b2 bs hslt d3).trans hs), ?_, ?_⟩
    · rw [setRow_other _ _ _ _ (Ne.symm d3), hw2, heap_drew]
      exact setRow_heap _ _ _ _ _ _ ((b1 be helt).trans he)
    · refine ⟨by rw [hw2, hw1]; rfl, by rw [hw2, hw1]; rfl, by rw [hw2, hw1]; rfl, by rw [size_setRow, hw2, heap_drew, size_setRow, hw1, heap_drew]; simp, ?_⟩
      intro k hk hne
      rw [setRow_other _ _ _ _ (fun h => hne (.inl h)), b2 k hk (fun h => hne (.inr h))]
  have Hb := Lib.hid hb; have Hs := Lib.hid hs; have He := Lib.hid he; have HS := Lib.hid hS; have HE := Lib.hid hE; have Hw1 := Lib.hid hw1; have B1 := Lib.hid b1
  have Post := Lib.hid post
  clear hb hs he hS hE b1 b2 post
  subst hw2
  subst hw1
  go_enter Try.func42, Try.ntmps42
  go_wp2
  go_region_held3 (fun w' => w'.cell? ⟨b, 0, none⟩ = some (.slice (some ⟨bs, 0, none⟩) (n * 64) (n * 64)) ∧ w'.cell? ⟨b, 1, none⟩ = some (.slice (some ⟨be, 0, none⟩) (n * 64) (n * 64)) ∧ w'.cell? ⟨w.heap.size, 0, none⟩ = some (.int .i64 (i * 64)) ∧ w'.cell? ⟨w.heap.size, 1, none⟩ = some (.int .i64 (i * 64 + 64))) (first | go_keep | simp [*, cell?_setRow_far, Nat.ne_of_gt])
    (first | (fail))
  go_wp2
  go_region_held3 (fun w' => w'.cell? ⟨b, 0, none⟩ = some (.slice (some ⟨bs, 0, none⟩) (n * 64) (n * 64)) ∧ w'.cell? ⟨b, 1, none⟩ = some (.slice (some ⟨be, 0, none⟩) (n * 64) (n * 64)) ∧ w'.cell? ⟨w.heap.size, 0, none⟩ = some (.int .i64 (i * 64)) ∧ w'.cell? ⟨w.heap.size, 1, none⟩ = some (.int .i64 (i * 64 + 64))) (first | go_keep | simp [*, cell?_setRow_far, Nat.ne_of_gt])
    (first | (fail))
  go_wp2
  go_end0
  exact ⟨rfl, Post.out⟩

theorem set_ok (h : DH) (D : DS) (i : Nat) (s : ByteArray) (w : World) (d : DiskAt w h D) (hi : i < D.n) (hsz : s.size ≤ 64) :
    Calls Try.prog 42 #[.pointer (some ⟨h.b, 0, none⟩), .agg #[.int .i64 ((i : Int) * 64), .int .i64 ((i : Int) * 64 + 64)], .string s] w fun e w' => e = .returned (.tuple #[]) ∧
      DiskAt w' h (D.set i (ba s)) ∧ Chg h.own w w' := by
  refine (set_low h.b h.bs h.be D.n h.qv (.bool D.off) (ptr? h.av) (flat D.st D.n) (flat D.el D.n) i s w hi hsz (flat_length _ d.wf.stl _) (flat_length _ d.wf.ell _) (flat_oneCell _ _) d.blk d.sblk d.eblk d.ap.s d.ap.e d.ap.se).mono ?_
  rintro e w' ⟨he, h1, h2, h3⟩
  refine ⟨he, ?_, h3.mono fun k _ hk => hk.elim (fun e => .inr (.inl e)) (fun e => .inr (.inr (.inl e)))⟩
  have hw := d.wf.set i (ba s) (by rw [ba_length]; exact hsz)
  have q1 : ∀ k, h.qv.ownBlock = some k → w'.heap[k]? = w.heap[k]? := fun k hk => h3.block k (d.que.lt k hk).2 (fun e => by have := d.ap.q k hk; rcases e with e | e <;> simp_all)
  refine ⟨?_, ?_, ?_, ownsRow_of_block d.que q1, ?_, d.ap, hw⟩
  · rw [h3.block _ (lt_of_heap d.blk) (fun e => by have := d.ap.s; have := d.ap.e; rcases e with e | e <;> simp_all)]; exact d.blk
  · rw [h1]; simp only [strCells, flat_splice _ d.wf.stl _ _ hi _ (show (ba s).length ≤ 64 by rw [ba_length]; exact hsz)]; rfl
  · rw [h2, flat_sector _ d.wf.stl _ _ hi, flat_splice _ d.wf.ell _ _ hi _ (by rw [d.wf.stl]; exact Nat.le_refl _)]
    have : over (D.st i) (D.el i) = D.st i := by unfold over; rw [List.drop_of_length_le (by rw [d.wf.stl, d.wf.ell]; exact Nat.le_refl _)]; simp
    rw [this]; rfl
  · have ha := d.alm
    cases hav : h.av with
    | none => rw [hav] at ha; cases hD : D.arm with
      | none => simp [DS.set, hD, armAt]
      | some t => rw [hD] at ha; exact ha.elim
    | some k =>
      rw [hav] at ha
      cases hD : D.arm with
      | none => rw [hD] at ha; exact ha.elim
      | some t =>
        rw [hD] at ha
        show armAt w' (some k) (D.set i (ba s)).arm
        have e2 : (D.set i (ba s)).arm = some t := hD
        rw [e2]
        exact (h3.block k (lt_of_heap ha) (fun e => by have := d.ap.a k hav; rcases e with e | e <;> simp_all)).trans ha

/-- What the loop of settle has come to. -/
def SettleRel (w : World) (h : DH) (D : DS) (k : Nat) (wr : World) : Prop := DiskAt wr h (D.settle (D.q.take k)) ∧ Chg h.own w wr

theorem que_cell {w : World} {h : DH} {D : DS} (d : DiskAt w h D) {g c : Nat} (hq : h.qv = .slice (some ⟨g, 0, none⟩) D.q.length c) (k : Nat) (hk : k < D.q.length) :
    w.cell? ⟨g, k * 3, none⟩ = some (.int .i64 (((D.q[k]).1 : Int) * 64)) ∧ w.cell? ⟨g, k * 3 + 1, none⟩ = some (.int .i64 (((D.q[k]).1 : Int) * 64 + 64)) ∧ w.cell? ⟨g, k * 3 + 2, none⟩ = some (.string (D.q[k]).2) := by
  have hc := fun j hj => (World.ownsRow.cellAt (g := g) (cap := c) (by have := d.que; rw [hq] at this; exact this) j hj)
  have gen : ∀ (q : List (Nat × ByteArray)) (k : Nat) (hk : k < q.length) (j : Nat), j < 3 → (q.flatMap entry)[k * 3 + j]? = (entry q[k])[j]? := by
    intro q
    induction q with
    | nil => intro k hk; simp at hk
    | cons p q ih =>
      intro k hk j hj
      cases k with
      | zero =>
        rw [List.flatMap_cons, List.getElem?_append_left (by simp [entry]; omega)]
        simp
      | succ k =>
        rw [List.flatMap_cons, List.getElem?_append_right (by simp [entry]; omega)]
        have : (k + 1) * 3 + j - (entry p).length = k * 3 + j := by simp [entry]; omega
        rw [this, ih k (by simpa using hk) j hj]
        simp
  refine ⟨?_, ?_, ?_⟩
  · rw [hc _ (by omega)]; exact gen D.q k hk 0 (by omega)
  · rw [hc _ (by omega)]; exact gen D.q k hk 1 (by omega)
  · rw [hc _ (by omega)]; exact gen D.q k hk 2 (by omega)

set_option maxHeartbeats 1000000 in
theorem settle_ok (h : DH) (D : DS) (m c : Nat) (g : Nat) (w : World) (d : DiskAt w h D) (hm : m ≤ D.q.length) (hq : h.qv = .slice (some ⟨g, 0, none⟩) D.q.length c) (hml : D.q.length ≤ 1000) :
    Calls Try.prog 41 #[.pointer (some ⟨h.b, 0, none⟩), .slice (some ⟨g, 0, none⟩) m c] w fun e w' => e = .returned (.tuple #[]) ∧ DiskAt w' h (D.settle (D.q.take m)) ∧ Chg h.own w w' := by
  have HR : SettleRel w h D 0 w := ⟨by simpa [DS.settle] using d, Chg.refl _ _⟩
  have Hq := Lib.hid hq
  have hqok := d.wf.qok
  clear hq
  go_enter Try.func41, Try.ntmps41
  go_wp2
  go_loopw [8] (fun i wr => ∃ k : Nat, k ≤ m ∧ i = .int .i64 k ∧ SettleRel w h D k wr) (fun i _ => m - (intOf i).toNat)
  case atStart => exact ⟨0, Nat.zero_le _, rfl, HR⟩
  case round =>
    obtain ⟨k, hk, rfl, HRk⟩ := hrel
    by_cases hlt : k < m
    · have hkq : k < D.q.length := by omega
      obtain ⟨dk, ck⟩ := HRk
      have hqr := DS.settle_rest (D.q.take k) D
      obtain ⟨c0, c1, c2⟩ := que_cell dk (g := g) (c := c) (by rw [hqr.1]; exact Hq.out) k (by rw [hqr.1]; exact hkq)
      simp only [hqr.1] at c0 c1 c2
      obtain ⟨i, s, hp⟩ : ∃ i s, D.q[k] = (i, s) := ⟨_, _, rfl⟩
      have hmem : (i, s) ∈ D.q := by rw [← hp]; exact List.getElem_mem hkq
      obtain ⟨hin, hss⟩ := hqok _ hmem
      simp only at hin hss
      rw [hp] at c0 c1 c2
      simp only at c0 c1 c2
      have htk : (D.settle (D.q.take k)).set i (ba s) = D.settle (D.q.take (k + 1)) := by
        rw [List.take_succ_eq_append_getElem hkq, hp, DS.settle_snoc]
      have Htk := Lib.hid htk; have Hp := Lib.hid hp; have Hqr := Lib.hid hqr; have Hss := Lib.hid hss
      have hin' : i < (D.settle (D.q.take k)).n := by rw [hqr.2.1]; exact hin
      have hqok' := Lib.hid hqok
      have DK : ∀ o, DiskAt (wr.alloc o) h (D.settle (D.q.take k)) := fun o => dk.kept (S := fun _ => False) ((Chg.refl _ _).alloc o) (fun _ _ h => h)
      have CK : ∀ o, Chg h.own w (wr.alloc o) := fun o => ck.alloc o
      have hsz : s.size ≤ 64 := by omega
      have gl : g < wr.heap.size := World.block_lt_of_cell? wr _ c0
      clear htk hp hqr hss hqok dk ck d HR hmem
      go_wp2_with (go_at_call 42; refine (set_ok h (D.settle (D.q.take k)) i s _ (DK _) hin' hsz).mono ?_; rintro e w' ⟨rfl, hd1, hc1⟩)
      go_roundw
      case rel => exact ⟨k + 1, by omega, by go_num, by rw [← Htk.out]; exact hd1, (CK _).trans hc1 (fun _ _ h => h)⟩
      case measure => simp [intOf]; omega
    · have e : k = m := by omega
      obtain ⟨dk, ck⟩ := HRk
      clear HR hqok d
      go_wp2
      go_end0
      subst e
      exact ⟨rfl, dk, ck⟩

end Go.Proofs.Ytageboekobkdcaa

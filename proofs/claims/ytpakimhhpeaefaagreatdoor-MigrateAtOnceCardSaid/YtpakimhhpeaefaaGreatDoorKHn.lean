/- The law's play: contract. Conditions: none. -/
import Derived.Test.YtpakimhhpeaefaaGreatDoorKHk
import Derived.Test.YtpakimhhpeaefaaGreatDoorKHb
import Derived.Test.YtpakimhhpeaefaaGreatDoorKWl
set_option linter.unusedSimpArgs false
set_option linter.unusedVariables false
namespace Go.Proofs.YtpakimhhpeaefaaGreatDoor
open Go.RowKit

theorem reads_blk {w : World} {b : Nat} {t : TypeId} {x : Value} (h : Blk w b t #[x]) : Reads w (b + 1) 1 (some ⟨b, 0, none⟩) 1 [x] := by
  refine ⟨rfl, fun _ => ⟨_, rfl, Nat.lt_succ_self _, fun j u hu => ?_⟩⟩
  have h := h.cell j
  have e : (⟨b, 0, none⟩ : Addr).add j = ⟨b, j, none⟩ := by unfold Addr.add; split <;> simp_all
  rw [e, h]
  simpa using hu
theorem own_empty {w : World} {b B : Nat} {t : TypeId} (h : Blk w b t #[]) (hB : B ≤ b) : w.ownsRow B t 1 (.slice (some ⟨b, 0, none⟩) 0 0) 0 [] :=
  blk_own hB h rfl (Nat.le_refl _) (Nat.zero_le _) (by simp) rfl
theorem rows_le {M : Mg} {n : Nat} (h : ∀ rows ∈ M.tabs, rows.length ≤ n) : M.rows.length ≤ n := by
  unfold Mg.rows
  rw [List.getD_eq_getElem?_getD]
  cases e : M.tabs[M.ti]? with
  | none => simp
  | some r => exact h r (List.mem_of_getElem? e)
theorem PlayAt.more {W wr : World} {B g : Nat} {m M : Mg} {lo hi : Nat} {h : Hd} {tb : List Tbl} {q q' : Nat} (d : PlayAt W B wr g m M lo hi h tb q) (hq : q ≤ q') : PlayAt W B wr g m M lo hi h tb q' :=
  ⟨d.live, d.own, d.rows, d.low, d.s, d.c, d.ti, d.closed, fun rows hr => Nat.le_trans (d.few rows hr) (by omega)⟩
set_option maxHeartbeats 8000000 in
set_option maxRecDepth 100000 in
theorem play_ok {U w : World} {g : Nat} {m : Mg} {lo hi : Nat} (L : LiveX U w g m lo hi (fun _ => False)) (hdone : m.done = []) (hcl : m.closed = false) (hlo : U.heap.size ≤ lo) (hlw : lo ≤ w.heap.size) (ht : Hd) (tbs : List Tbl) (ho : Hd) (ops : List Opn) (tt : TablesAt U (fun k => k < U.heap.size) ht tbs) (hm : m.tabs = rowsOf tbs) (oo : OpsAt U (fun k => k < U.heap.size) ho ops) (hr : ∀ rows ∈ m.tabs, rows.length ≤ 20) (h6 : tbs.length ≤ 6) (h20 : ops.length ≤ 20) :
    Calls Tryz.prog 24 #[.pointer (some ⟨g, 0, none⟩), ht.val, ho.val] w fun e w' => ∃ (A : Option Addr) (c : Nat) (M : Mg) (hi' : Nat) (tb : List Tbl), e = .returned (.slice A tbs.length c) ∧ PlayAt U w.heap.size w' g m M lo hi' ⟨A, tbs.length, c⟩ tb 20 := by
  obtain ⟨i0, hi0, hiz0, hiz1, hiz2⟩ := info_parts Tryz.infoVals
  obtain ⟨j0, hj0, hjz0, hjz1, hjz2⟩ := info_parts Tryz.infoRows
  have HSU := Lib.hid L.same
  have HGB : Hid (g < w.heap.size) := L.lt
  have HT := Lib.hid tt
  have HO := Lib.hid oo
  have HFW : Hid (∀ t ∈ tbs, t.h.n ≤ 20) := Lib.hid fun t ht' => by
    have e1 := (tt.2.2 t ht').1.1
    have e2 := hr t.rows (by rw [hm]; exact List.mem_map_of_mem ht')
    simp only [Tbl.rows, List.length_map] at e2
    omega
  have HST : Hid (∀ wr h, CopyAt w wr h tbs tbs.length → ∃ tb, tb.length = tbs.length ∧ PlayAt U w.heap.size wr g m m lo wr.heap.size h tb 0) := Lib.hid fun wr h C =>
    play_start L hdone hcl hm (fun t ht' r hr' => (tt.2.2 t ht').2.2 r hr') hr C
  have HB : Hid (lo ≤ w.heap.size ∧ U.heap.size ≤ lo ∧ U.heap.size ≤ w.heap.size) := ⟨hlw, hlo, Nat.le_trans hlo hlw⟩
  have htl : tbs.length = ht.n := tt.1.1
  have hol : ops.length = ho.n := oo.1.1
  obtain ⟨At_, tm, tc⟩ := ht
  obtain ⟨Ao, om, oc⟩ := ho
  have htl' : tbs.length = tm := htl
  have hol' : ops.length = om := hol
  subst htl' hol'
  clear htl hol tt oo hr hm hdone hcl hlo hlw L
  have f6 : tbs.length ≤ 9223372036854775807 := by omega
  have f20 : ops.length ≤ 9223372036854775807 := by omega
  obtain ⟨POST, hPOST⟩ : ∃ POST : Ending → World → Prop, POST = fun e w' => ∃ (A : Option Addr) (c : Nat) (M : Mg) (hi' : Nat) (tb : List Tbl), e = .returned (.slice A tbs.length c) ∧ PlayAt U w.heap.size w' g m M lo hi' ⟨A, tbs.length, c⟩ tb 20 := ⟨_, rfl⟩
  show Calls Tryz.prog 24 #[.pointer (some ⟨g, 0, none⟩), .slice At_ tbs.length tc, .slice Ao ops.length oc] w _
  rw [← hPOST]
  have HP := Lib.hid hPOST
  clear hPOST
  go_enter Tryz.func24, Tryz.ntmps24
  go_wp2_with (fail)
  go_loopw [7, 8] (fun ov iv wr => ∃ (k : Nat) (Ah : Option Addr) (ch : Nat), k ≤ tbs.length ∧ ov = .slice Ah k ch ∧ iv = .int .i64 k ∧ Hid (CopyAt w wr ⟨Ah, k, ch⟩ tbs k)) (fun _ iv _ => tbs.length - (intOf iv).toNat)
  case atStart => exact ⟨0, none, 0, Nat.zero_le _, rfl, rfl, copy_start w tbs⟩
  case round =>
    obtain ⟨k, Ah, ch, hk, rfl, rfl, C⟩ := hrel
    by_cases hlt : k < tbs.length
    · obtain ⟨tb, hl, O, S, R⟩ := C.out
      have SU : Hid (Same U wr) := HSU.out.trans S
      obtain ⟨b, off, hA, blt, c0⟩ := HT.out.1.one k hlt (v := tbs[k].h.val) rfl
      have hA' : At_ = some ⟨b, off, none⟩ := hA
      have HRD : Hid (Reads wr wr.heap.size 1 tbs[k].h.a tbs[k].h.n (tbs[k].rs.flatMap Rw.cell)) := lies_reads Rw.clen ((HT.out.2.2 _ (List.getElem_mem hlt)).1.same SU.out)
      have hx20 : tbs[k].h.n ≤ 20 := HFW.out _ (List.getElem_mem hlt)
      have hxl : tbs[k].h.n = tbs[k].rs.length := (HT.out.2.2 _ (List.getElem_mem hlt)).1.1.symm
      have HX1 : Hid (∀ u ∈ tbs[k].rs.flatMap Rw.cell, u.oneCell' = true) := Lib.hid fun u hu => by
        obtain ⟨r, _, hr⟩ := List.mem_flatMap.1 hu
        simp [Rw.cell] at hr
        rw [hr]; rfl
      have HO2 : Hid (∀ w1 ob, Same wr w1 → (w1.alloc ob).ownsRow w.heap.size 55 1 (.slice Ah k ch) k (tb.flatMap Tbl.cell)) := Lib.hid fun w1 ob s => (own_same s (by have := O.oo; rw [hl] at this; exact this)).alloc ob
      have HF := Lib.hid (fun (w1 w2 : World) (A1 : Option Addr) (c1 n1 : Nat) (A3 : Option Addr) (n c3 : Nat) (ob : Obj) (s1 : Same wr w1) (hn : n1 = tbs[k].rs.length) (o1 : w1.ownsRow wr.heap.size 40 1 (.slice A1 n1 c1) tbs[k].rs.length (tbs[k].rs.flatMap Rw.cell)) (G : (w1.alloc ob).grownBy w2 (Value.slice Ah k ch).ownBlock) (o2 : w2.ownsRow w.heap.size 55 1 (.slice A3 n c3) (k + 1) (tb.flatMap Tbl.cell ++ [.slice A1 n1 c1])) => copy_push hlt hl O S R s1 hn o1 G o2)
      rw [← hxl] at HF
      have HWB : Hid (w.heap.size ≤ wr.heap.size) := S.size
      obtain ⟨XS, hXS⟩ : ∃ XS, XS = tb.flatMap Tbl.cell := ⟨_, rfl⟩
      obtain ⟨XR, hXR⟩ : ∃ XR, XR = tbs[k].rs.flatMap Rw.cell := ⟨_, rfl⟩
      rw [← hXS] at HO2 HF
      rw [← hXR] at HRD HX1 HF
      obtain ⟨hh, hhh⟩ : ∃ hh, hh = tbs[k].h := ⟨_, rfl⟩
      rw [← hhh] at c0 HRD hx20 HF
      clear hhh hXS hXR hA hxl O S R hl C
      obtain ⟨A2, n2, c2⟩ := hh
      have x0 : wr.cell? ⟨b, off + k, none⟩ = some (.slice A2 n2 c2) := (SU.out.cells _ _ blt).trans c0
      have x0' : ∀ o, (wr.alloc o).cell? ⟨b, off + k, none⟩ = some (.slice A2 n2 c2) := fun o => (World.cell?_alloc_lt wr o _ (Nat.lt_of_lt_of_le blt SU.out.size)).trans x0
      have hx20' : n2 ≤ 20 := hx20
      have HRD' : Hid (Reads wr wr.heap.size 1 A2 n2 XR) := HRD
      clear c0 hx20 HRD
      subst hA'
      go_wp2_with (at_builtin; first
        | (refine wpList_append_any _ rfl (.tmp 17) (.tmp 21) 55 rfl wr.heap.size 40 i0 _ 1 24 Tryz.underlying55 hi0 hiz0 hiz1 hiz2 rfl (by decide) (.slice (some ⟨wr.heap.size, 0, none⟩) 0 0) 0 [] rfl (ownsRow_new wr _ _) wr.heap.size A2 n2 c2 XR rfl (HRD'.out.alloc (Nat.le_refl _) _) HX1.out (by simp only [maxLen]; omega) (by omega) (by simp) ?_; intro v1 w1 hown1 hg1 hat1; rw [Nat.zero_add, List.nil_append] at hown1; obtain ⟨A1, c1, hv⟩ := own_val hown1; subst hv; have OWN1 := Lib.hid hown1; have S1 : Hid (Same wr w1) := Below.grown ((Same.refl wr).alloc _) hg1 (by simp) (fun k hk => by simp [Value.ownBlock] at hk; omega); clear hown1 hg1 hat1)
        | (refine wpList_append_any _ rfl (.tmp 16) (.tmp 23) 29 rfl w.heap.size 55 j0 _ 1 24 Tryz.underlying29 hj0 hjz0 hjz1 hjz2 rfl (by decide) (.slice Ah k ch) k XS rfl (HO2.out w1 _ S1.out) (w1.heap.size + 1) (some ⟨w1.heap.size, 0, none⟩) 1 1 [.slice A1 n2 c1] rfl (reads_new w1 _ _) (by intro u hu; simp at hu; rw [hu]; rfl) (by simp only [maxLen]; omega) (by omega) (Nat.le_trans HWB.out (Nat.le_trans S1.out.size (by simp))) ?_; intro v2 w2 hown2 hg2 hat2; obtain ⟨A3, c3, hv⟩ := own_val hown2; subst hv; have HFF := Lib.hid (HF.out w1 w2 A1 c1 n2 A3 (k + 1) c3 _ S1.out rfl OWN1.out hg2 hown2); clear hown2 hg2 hat2))
      go_roundw
      case rel => exact ⟨k + 1, A3, c3, by omega, rfl, by go_num, HFF⟩
      case measure => simp [intOf]; omega
    · have ek : k = tbs.length := by omega
      subst ek
      obtain ⟨tb0, htb0, P0⟩ := HST.out wr _ C.out
      have HGO : Hid (∀ go, Ah = some ⟨go, 0, none⟩ → go < wr.heap.size) := Lib.hid fun go e => (P0.own.lt (.inl (by rw [e]; rfl))).2
      have HP0 := Lib.hid P0
      obtain ⟨hj, hhj⟩ : ∃ hj, hj = wr.heap.size := ⟨_, rfl⟩
      rw [← hhj] at HGO HP0
      clear P0 C hhj htb0 HST
      go_wp2_with (fail)
      go_loopw [9] (fun iv wr => ∃ (q : Nat) (M : Mg) (tb : List Tbl), q ≤ ops.length ∧ iv = .int .i64 q ∧ Hid (PlayAt U w.heap.size wr g m M lo hj ⟨Ah, tbs.length, ch⟩ tb q)) (fun iv _ => ops.length - (intOf iv).toNat)
      case atStart => exact ⟨0, m, tb0, Nat.zero_le _, rfl, HP0⟩
      case round =>
        obtain ⟨q, M, tb, hk, rfl, D⟩ := hrel
        clear HP0
        by_cases hlq : q < ops.length
        · obtain ⟨b5, o5, hB, blt5, hc5⟩ := HO.out.1.2.2 q hlq
          have hB' : Ao = some ⟨b5, o5, none⟩ := hB
          have HOF := Lib.hid (HO.out.2 _ (List.getElem_mem hlq))
          obtain ⟨x, hx⟩ : ∃ x, x = ops[q] := ⟨_, rfl⟩
          rw [← hx] at hc5 HOF
          clear hx hB
          obtain ⟨xk, xn, ⟨⟨Ar, rn, rc⟩, row⟩⟩ := x
          have SUr : Hid (Same U wr) := D.out.live.same
          have z0 : U.cell? ⟨b5, o5 + q * 3, none⟩ = some (.int .u8 xk) := hc5 0 _ rfl
          have z1 : U.cell? ⟨b5, o5 + q * 3 + 1, none⟩ = some (.int .i64 xn) := hc5 1 _ rfl
          have z2 : U.cell? ⟨b5, o5 + q * 3 + 2, none⟩ = some (.slice Ar rn rc) := hc5 2 _ rfl
          have u0 := (SUr.out.cells _ _ blt5).trans z0
          have u1 := (SUr.out.cells _ _ blt5).trans z1
          have u2 := (SUr.out.cells _ _ blt5).trans z2
          have hk2 : xk < 256 := HOF.out.2.k
          have hq20 : q < 20 := by omega
          clear hc5 z0
          subst hB'
          rcases Nat.mod_two_eq_zero_or_one xk with hp | hp
          · have p : (xk : Int) % 2 = 0 := by omega
            have HST2 := Lib.hid (D.out.live.step xn (by have := rows_le D.out.few; omega) HOF.out.2.n1 HOF.out.2.n2)
            clear hp
            go_wp2_with (fail)
            refine HST2.out.mono ?_
            rintro e w5 ⟨rfl, lv, c5⟩
            have D5 := Lib.hid (D.out.step xn lv c5)
            clear lv c5 u0 u1 u2
            go_wp2_with (fail)
            go_roundw
            case rel => exact ⟨q + 1, M.step xn, tb, by omega, by go_num, D5⟩
            case measure => simp [intOf]; omega
          · have p : (xk : Int) % 2 = 1 := by omega
            have HPU : Hid (∀ W, Same wr W → Calls Tryz.prog 16 #[.pointer (some ⟨g, 0, none⟩), .int .i64 xn, .slice Ar rn rc] W fun e w' => e = .returned (.int .i64 (M.putE xn row)) ∧ (LiveX U w' g (M.put xn row) lo hj (ownX ⟨Ah, tbs.length, ch⟩ tb) ∧ Chg (fun k => ¬ ownX ⟨Ah, tbs.length, ch⟩ tb k) wr w')) := Lib.hid fun W s =>
              ((D.out.live.grow s (fun k hk => .inl hk)).put xn (hr := ⟨Ar, rn, rc⟩) (row := row) (HOF.out.1.1.same (SUr.out.trans s)) HOF.out.1.2 HB.out.2.1 (fun rows hr => by have := D.out.few rows hr; omega)).mono fun e w' ⟨he, l, c⟩ => ⟨he, l, (Chg.of_same s).trans c (fun _ _ h => h)⟩
            clear hp
            by_cases hE : M.putE xn row = 0
            case neg =>
              obtain ⟨E, hEE⟩ : ∃ E, E = M.putE xn row := ⟨_, rfl⟩
              have HNO : Hid (M.put xn row = M) := put_no hE
              rw [← hEE] at HPU hE
              have t0 : (E == 0) = false := by simp; exact hE
              clear hEE hE
              go_wp2_with (fail)
              refine wp_region_last (opsP := ?opsPa) (S := (fun w' => w'.cell? ⟨b5, o5 + q * 3 + 1, none⟩ = some (.int .i64 xn) ∧ w'.cell? ⟨b5, o5 + q * 3 + 2, none⟩ = some (.slice Ar rn rc))) (n := 12) (by kernel_rfl) (lastOk_of (by kernel_rfl)) ?hpa ?wka
              case hpa => simp only [List.pop_toArray, List.dropLast_cons_cons, List.dropLast_singleton]; rfl
              case wka =>
                have SMwd : Hid (Same wr wr.drew) := (Same.refl wr).drew
                have SUd : Hid (Same U wr.drew) := SUr.out.drew
                generalize wr.drew = wd at SMwd SUd ⊢
                have d1 := (SUd.out.cells _ _ blt5).trans z1
                have d2 := (SUd.out.cells _ _ blt5).trans z2
                have hHeld : (fun w' => w'.cell? ⟨b5, o5 + q * 3 + 1, none⟩ = some (.int .i64 xn) ∧ w'.cell? ⟨b5, o5 + q * 3 + 2, none⟩ = some (.slice Ar rn rc)) wd := ⟨d1, d2⟩
                refine wpAnyH_take (i := 0) (oi := ?oi1a) (v := ?v1a) ?hi1a (by kernel_rfl) (by kernel_rfl) (by kernel_rfl) ?hQ1a (Or.inl ⟨?hw1a, ?hy1a⟩) hHeld ?rest1a
                case hi1a => simp only [List.getElem?_toArray, List.getElem?_cons_succ, List.getElem?_cons_zero]; rfl
                case hQ1a => exact fun _ _ _ h => h
                case hw1a => rfl
                case hy1a =>
                  intro w' hSw
                  obtain ⟨y1z, y2z⟩ := hSw
                  go_simp
                  try with_reducible rfl
                try simp only [Act.put, List.setIfInBounds_toArray, List.set_cons_zero, List.set_cons_succ]
                refine wpAnyH_take (i := 1) (oi := ?oi2a) (v := ?v2a) ?hi2a (by kernel_rfl) (by kernel_rfl) (by kernel_rfl) ?hQ2a (Or.inl ⟨?hw2a, ?hy2a⟩) hHeld ?rest2a
                case hi2a => simp only [List.getElem?_toArray, List.getElem?_cons_succ, List.getElem?_cons_zero]; rfl
                case hQ2a => exact fun _ _ _ h => h
                case hw2a => rfl
                case hy2a =>
                  intro w' hSw
                  obtain ⟨y1z, y2z⟩ := hSw
                  go_simp
                  try with_reducible rfl
                try simp only [Act.put, List.setIfInBounds_toArray, List.set_cons_zero, List.set_cons_succ]
                refine wpAnyH_take (i := 2) (oi := ?oi3a) (v := ?v3a) ?hi3a (by kernel_rfl) (by kernel_rfl) (by kernel_rfl) ?hQ3a (Or.inl ⟨?hw3a, ?hy3a⟩) hHeld ?rest3a
                case hi3a => simp only [List.getElem?_toArray, List.getElem?_cons_succ, List.getElem?_cons_zero]; rfl
                case hQ3a => exact fun _ _ _ h => h
                case hw3a => rfl
                case hy3a =>
                  intro w' hSw
                  obtain ⟨y1z, y2z⟩ := hSw
                  go_simp
                  try with_reducible rfl
                try simp only [Act.put, List.setIfInBounds_toArray, List.set_cons_zero, List.set_cons_succ]
                refine wpAnyH_take (i := 3) (oi := ?oi4a) (v := ?v4a) ?hi4a (by kernel_rfl) (by kernel_rfl) (by kernel_rfl) ?hQ4a (Or.inl ⟨?hw4a, ?hy4a⟩) hHeld ?rest4a
                case hi4a => simp only [List.getElem?_toArray, List.getElem?_cons_succ, List.getElem?_cons_zero]; rfl
                case hQ4a => exact fun _ _ _ h => h
                case hw4a => rfl
                case hy4a =>
                  intro w' hSw
                  obtain ⟨y1z, y2z⟩ := hSw
                  go_simp
                  try with_reducible rfl
                try simp only [Act.put, List.setIfInBounds_toArray, List.set_cons_zero, List.set_cons_succ]
                refine wpAnyH_take (i := 4) (oi := ?oi5a) (v := ?v5a) ?hi5a (by kernel_rfl) (by kernel_rfl) (by kernel_rfl) ?hQ5a (Or.inl ⟨?hw5a, ?hy5a⟩) hHeld ?rest5a
                case hi5a => simp only [List.getElem?_toArray, List.getElem?_cons_succ, List.getElem?_cons_zero]; rfl
                case hQ5a => exact fun _ _ _ h => h
                case hw5a => rfl
                case hy5a =>
                  intro w' hSw
                  obtain ⟨y1z, y2z⟩ := hSw
                  go_simp
                  try with_reducible rfl
                try simp only [Act.put, List.setIfInBounds_toArray, List.set_cons_zero, List.set_cons_succ]
                refine wpAnyH_take (i := 5) (oi := ?oi6a) (v := ?v6a) ?hi6a (by kernel_rfl) (by kernel_rfl) (by kernel_rfl) ?hQ6a (Or.inl ⟨?hw6a, ?hy6a⟩) hHeld ?rest6a
                case hi6a => simp only [List.getElem?_toArray, List.getElem?_cons_succ, List.getElem?_cons_zero]; rfl
                case hQ6a => exact fun _ _ _ h => h
                case hw6a => rfl
                case hy6a =>
                  intro w' hSw
                  obtain ⟨y1z, y2z⟩ := hSw
                  go_simp
                  try with_reducible rfl
                try simp only [Act.put, List.setIfInBounds_toArray, List.set_cons_zero, List.set_cons_succ]
                refine wpAnyH_take (i := 6) (oi := ?oi7a) (v := ?v7a) ?hi7a (by kernel_rfl) (by kernel_rfl) (by kernel_rfl) ?hQ7a (Or.inl ⟨?hw7a, ?hy7a⟩) hHeld ?rest7a
                case hi7a => simp only [List.getElem?_toArray, List.getElem?_cons_succ, List.getElem?_cons_zero]; rfl
                case hQ7a => exact fun _ _ _ h => h
                case hw7a => rfl
                case hy7a =>
                  intro w' hSw
                  obtain ⟨y1z, y2z⟩ := hSw
                  go_simp
                  try with_reducible rfl
                try simp only [Act.put, List.setIfInBounds_toArray, List.set_cons_zero, List.set_cons_succ]
                refine wpAnyH_take (i := 7) (oi := ?oi8a) (v := ?v8a) ?hi8a (by kernel_rfl) (by kernel_rfl) (by kernel_rfl) ?hQ8a (Or.inl ⟨?hw8a, ?hy8a⟩) hHeld ?rest8a
                case hi8a => simp only [List.getElem?_toArray, List.getElem?_cons_succ, List.getElem?_cons_zero]; rfl
                case hQ8a => exact fun _ _ _ h => h
                case hw8a => rfl
                case hy8a =>
                  intro w' hSw
                  obtain ⟨y1z, y2z⟩ := hSw
                  go_simp
                  try with_reducible rfl
                try simp only [Act.put, List.setIfInBounds_toArray, List.set_cons_zero, List.set_cons_succ]
                refine wpAnyH_take (i := 8) (oi := ?oi9a) (v := ?v9a) ?hi9a (by kernel_rfl) (by kernel_rfl) (by kernel_rfl) ?hQ9a (Or.inl ⟨?hw9a, ?hy9a⟩) hHeld ?rest9a
                case hi9a => simp only [List.getElem?_toArray, List.getElem?_cons_succ, List.getElem?_cons_zero]; rfl
                case hQ9a => exact fun _ _ _ h => h
                case hw9a => rfl
                case hy9a =>
                  intro w' hSw
                  obtain ⟨y1z, y2z⟩ := hSw
                  go_simp
                  try with_reducible rfl
                try simp only [Act.put, List.setIfInBounds_toArray, List.set_cons_zero, List.set_cons_succ]
                refine wpAnyH_take (i := 9) (oi := ?oi10a) (v := ?v10a) ?hi10a (by kernel_rfl) (by kernel_rfl) (by kernel_rfl) ?hQ10a (Or.inl ⟨?hw10a, ?hy10a⟩) hHeld ?rest10a
                case hi10a => simp only [List.getElem?_toArray, List.getElem?_cons_succ, List.getElem?_cons_zero]; rfl
                case hQ10a => exact fun _ _ _ h => h
                case hw10a => rfl
                case hy10a =>
                  intro w' hSw
                  obtain ⟨y1z, y2z⟩ := hSw
                  go_simp
                  try with_reducible rfl
                try simp only [Act.put, List.setIfInBounds_toArray, List.set_cons_zero, List.set_cons_succ]
                refine wpAnyH_take (i := 10) (oi := ?oi11a) (v := ?v11a) ?hi11a (by kernel_rfl) (by kernel_rfl) (by kernel_rfl) ?hQ11a (Or.inl ⟨?hw11a, ?hy11a⟩) hHeld ?rest11a
                case hi11a => simp only [List.getElem?_toArray, List.getElem?_cons_succ, List.getElem?_cons_zero]; rfl
                case hQ11a => exact fun _ _ _ h => h
                case hw11a => rfl
                case hy11a =>
                  intro w' hSw
                  obtain ⟨y1z, y2z⟩ := hSw
                  go_simp
                  try with_reducible rfl
                try simp only [Act.put, List.setIfInBounds_toArray, List.set_cons_zero, List.set_cons_succ]
                refine wpAnyH_ready (rs := [11]) (by kernel_rfl) (by simp) ?_
                refine AllReadyH.cons (o := ?oo12a) ?ho12a (fun K hK => ?st12a) ?more12a
                case ho12a => simp only [List.getElem?_toArray, List.getElem?_cons_succ, List.getElem?_cons_zero]; rfl
                case more12a => exact AllReadyH.nil
                rw [if_pos (by rfl)]
                go_simp
                refine (HPU.out _ SMwd.out).mono ?_
                rintro e w5 ⟨rfl, lv5, c5⟩
                have SU5 : Hid (Same U w5) := lv5.same
                have v1 := (SU5.out.cells _ _ blt5).trans z1
                have v2 := (SU5.out.cells _ _ blt5).trans z2
                have LV5 := Lib.hid lv5
                have CC5 := Lib.hid c5
                clear lv5 c5
                try go_simp
                refine hK.out _ _ ⟨v1, v2⟩ (fun hHeld => ?_)
                clear hK K d1 d2
                try simp only [Act.put, List.setIfInBounds_toArray, List.set_cons_zero, List.set_cons_succ]
                refine wpAnyH_done (by kernel_rfl) ?_ _
                refine lastQ_of (o := ?oz13a) ?hz13a ?gz13a ?sz13a
                case hz13a => simp only [List.getElem?_toArray, List.getElem?_cons_succ, List.getElem?_cons_zero]; rfl
                case gz13a => rfl
                intro K hK
                go_simp
                refine hK.out _ _ ?_
                clear hK K
                try simp only [Act.put, List.setIfInBounds_toArray, List.set_cons_zero, List.set_cons_succ]
                have D5 := Lib.hid (D.out.still (by have := LV5.out; rw [HNO.out] at this; exact this) CC5.out)
                clear u0 u1 u2 v1 v2 z1 z2
                go_wp2_with (fail)
                go_roundw
                case rel => exact ⟨q + 1, M, tb, by omega, by go_num, D5⟩
                case measure => simp [intOf]; omega
            case pos =>
              obtain ⟨N, hN, hNl⟩ := putE_in D.out.live.fine hE
              subst hN
              have hNt : N < tb.length := by rw [D.out.len]; exact hNl
              have hoh : tbs.length = tb.length := D.out.own.oh
              obtain ⟨go, c6, hh6, hBg, hgl, hgf⟩ := D.out.own.head (by omega)
              obtain ⟨hA6, -, -⟩ : Ah = some ⟨go, 0, none⟩ ∧ tbs.length = tb.length ∧ ch = c6 := by injection hh6 with h1 h2 h3; exact ⟨h1, h2, h3⟩
              have hgo := HGO.out go hA6
              subst hA6
              have hNI : (N : Int) < (tbs.length : Int) := by omega
              have hN0 : (0 : Int) ≤ (N : Int) := by omega
              have HX1 : Hid (∀ u ∈ tb[N].rs.flatMap Rw.cell, u.oneCell' = true) := Lib.hid fun u hu => by
                obtain ⟨r, _, hr⟩ := List.mem_flatMap.1 hu
                simp [Rw.cell] at hr
                rw [hr]; rfl
              have hti : tb[N].h.n = tb[N].rs.length := (D.out.own.oi _ (List.getElem_mem hNt)).2
              have htl40 : tb[N].h.n ≤ 40 := by
                have e1 : tb[N].rows ∈ M.tabs := by rw [← D.out.rows]; exact List.mem_map_of_mem (List.getElem_mem hNt)
                have := D.out.few _ e1
                simp only [Tbl.rows, List.length_map] at this
                omega
              have HAFT := Lib.hid (fun (w5 : World) (l : LiveX U w5 g (M.put (N : Int) row) lo hj (ownX ⟨some ⟨go, 0, none⟩, tbs.length, ch⟩ tb)) (cc : Chg (fun k => ¬ ownX ⟨some ⟨go, 0, none⟩, tbs.length, ch⟩ tb k) wr w5) =>
                have O5 := D.out.own.chgX cc (fun k hk hn => hn hk)
                (show w5.cell? ⟨go, N, none⟩ = some tb[N].h.val ∧ go < w5.heap.size ∧ (∀ W, Same w5 W → Reads W w5.heap.size 1 tb[N].h.a tb[N].h.n (tb[N].rs.flatMap Rw.cell)) ∧ (∀ W, Same w5 W → W.frozen? ⟨go, N, none⟩ = false) ∧ (∀ (X : World) (A2 : Option Addr) (n2 c2 : Nat), Same w5 X → X.ownsRow w5.heap.size 40 1 (.slice A2 n2 c2) (tb[N].rs.length + 1) (tb[N].rs.flatMap Rw.cell ++ [.slice Ar rn rc]) → PlayAt U w.heap.size (X.setCell ⟨go, N, none⟩ (.slice A2 n2 c2)) g m (M.put (N : Int) row) lo hj ⟨some ⟨go, 0, none⟩, tbs.length, ch⟩ (tb.set N ⟨⟨A2, n2, c2⟩, tb[N].rs ++ [⟨⟨Ar, rn, rc⟩, row⟩]⟩) (q + 1)) from
                  ⟨by have := O5; rw [hoh] at this; exact this.get N hNt, Nat.lt_of_lt_of_le hgl cc.size, fun W s => by
                    have r := lies_reads Rw.clen (O5.inner (List.getElem_mem hNt))
                    exact r.below s, fun W s => by
                    obtain ⟨_, cs, hb⟩ := row_ty (O5.same s).oo (k := go) rfl
                    exact hb.frozen N, fun X A2 n2 c2 s o => D.out.put HGB.out HB.out.1 HB.out.2.2 hgo hE hNt l cc s o HOF.out.1⟩))
              rw [← hti] at HAFT
              obtain ⟨XR, hXR⟩ : ∃ XR, XR = tb[N].rs.flatMap Rw.cell := ⟨_, rfl⟩
              rw [← hXR] at HAFT HX1
              obtain ⟨rs6, hrs6⟩ : ∃ rs6, rs6 = tb[N].rs := ⟨_, rfl⟩
              rw [← hrs6] at HAFT
              obtain ⟨th, hth⟩ : ∃ th, th = tb[N].h := ⟨_, rfl⟩
              rw [← hth] at HAFT htl40
              rw [hE] at HPU
              clear hti hXR hrs6 hth hE hoh hh6
              obtain ⟨Ai, tl, tc⟩ := th
              have htl : tl ≤ 40 := htl40
              go_wp2_with (fail)
              refine wp_region_last (opsP := ?opsPb) (S := (fun w' => w'.cell? ⟨b5, o5 + q * 3 + 1, none⟩ = some (.int .i64 (N : Int)) ∧ w'.cell? ⟨b5, o5 + q * 3 + 2, none⟩ = some (.slice Ar rn rc))) (n := 12) (by kernel_rfl) (lastOk_of (by kernel_rfl)) ?hpb ?wkb
              case hpb => simp only [List.pop_toArray, List.dropLast_cons_cons, List.dropLast_singleton]; rfl
              case wkb =>
                have SMwd : Hid (Same wr wr.drew) := (Same.refl wr).drew
                have SUd : Hid (Same U wr.drew) := SUr.out.drew
                generalize wr.drew = wd at SMwd SUd ⊢
                have d1 := (SUd.out.cells _ _ blt5).trans z1
                have d2 := (SUd.out.cells _ _ blt5).trans z2
                have hHeld : (fun w' => w'.cell? ⟨b5, o5 + q * 3 + 1, none⟩ = some (.int .i64 (N : Int)) ∧ w'.cell? ⟨b5, o5 + q * 3 + 2, none⟩ = some (.slice Ar rn rc)) wd := ⟨d1, d2⟩
                refine wpAnyH_take (i := 0) (oi := ?oi1b) (v := ?v1b) ?hi1b (by kernel_rfl) (by kernel_rfl) (by kernel_rfl) ?hQ1b (Or.inl ⟨?hw1b, ?hy1b⟩) hHeld ?rest1b
                case hi1b => simp only [List.getElem?_toArray, List.getElem?_cons_succ, List.getElem?_cons_zero]; rfl
                case hQ1b => exact fun _ _ _ h => h
                case hw1b => rfl
                case hy1b =>
                  intro w' hSw
                  obtain ⟨y1z, y2z⟩ := hSw
                  go_simp
                  try with_reducible rfl
                try simp only [Act.put, List.setIfInBounds_toArray, List.set_cons_zero, List.set_cons_succ]
                refine wpAnyH_take (i := 1) (oi := ?oi2b) (v := ?v2b) ?hi2b (by kernel_rfl) (by kernel_rfl) (by kernel_rfl) ?hQ2b (Or.inl ⟨?hw2b, ?hy2b⟩) hHeld ?rest2b
                case hi2b => simp only [List.getElem?_toArray, List.getElem?_cons_succ, List.getElem?_cons_zero]; rfl
                case hQ2b => exact fun _ _ _ h => h
                case hw2b => rfl
                case hy2b =>
                  intro w' hSw
                  obtain ⟨y1z, y2z⟩ := hSw
                  go_simp
                  try with_reducible rfl
                try simp only [Act.put, List.setIfInBounds_toArray, List.set_cons_zero, List.set_cons_succ]
                refine wpAnyH_take (i := 2) (oi := ?oi3b) (v := ?v3b) ?hi3b (by kernel_rfl) (by kernel_rfl) (by kernel_rfl) ?hQ3b (Or.inl ⟨?hw3b, ?hy3b⟩) hHeld ?rest3b
                case hi3b => simp only [List.getElem?_toArray, List.getElem?_cons_succ, List.getElem?_cons_zero]; rfl
                case hQ3b => exact fun _ _ _ h => h
                case hw3b => rfl
                case hy3b =>
                  intro w' hSw
                  obtain ⟨y1z, y2z⟩ := hSw
                  go_simp
                  try with_reducible rfl
                try simp only [Act.put, List.setIfInBounds_toArray, List.set_cons_zero, List.set_cons_succ]
                refine wpAnyH_take (i := 3) (oi := ?oi4b) (v := ?v4b) ?hi4b (by kernel_rfl) (by kernel_rfl) (by kernel_rfl) ?hQ4b (Or.inl ⟨?hw4b, ?hy4b⟩) hHeld ?rest4b
                case hi4b => simp only [List.getElem?_toArray, List.getElem?_cons_succ, List.getElem?_cons_zero]; rfl
                case hQ4b => exact fun _ _ _ h => h
                case hw4b => rfl
                case hy4b =>
                  intro w' hSw
                  obtain ⟨y1z, y2z⟩ := hSw
                  go_simp
                  try with_reducible rfl
                try simp only [Act.put, List.setIfInBounds_toArray, List.set_cons_zero, List.set_cons_succ]
                refine wpAnyH_take (i := 4) (oi := ?oi5b) (v := ?v5b) ?hi5b (by kernel_rfl) (by kernel_rfl) (by kernel_rfl) ?hQ5b (Or.inl ⟨?hw5b, ?hy5b⟩) hHeld ?rest5b
                case hi5b => simp only [List.getElem?_toArray, List.getElem?_cons_succ, List.getElem?_cons_zero]; rfl
                case hQ5b => exact fun _ _ _ h => h
                case hw5b => rfl
                case hy5b =>
                  intro w' hSw
                  obtain ⟨y1z, y2z⟩ := hSw
                  go_simp
                  try with_reducible rfl
                try simp only [Act.put, List.setIfInBounds_toArray, List.set_cons_zero, List.set_cons_succ]
                refine wpAnyH_take (i := 5) (oi := ?oi6b) (v := ?v6b) ?hi6b (by kernel_rfl) (by kernel_rfl) (by kernel_rfl) ?hQ6b (Or.inl ⟨?hw6b, ?hy6b⟩) hHeld ?rest6b
                case hi6b => simp only [List.getElem?_toArray, List.getElem?_cons_succ, List.getElem?_cons_zero]; rfl
                case hQ6b => exact fun _ _ _ h => h
                case hw6b => rfl
                case hy6b =>
                  intro w' hSw
                  obtain ⟨y1z, y2z⟩ := hSw
                  go_simp
                  try with_reducible rfl
                try simp only [Act.put, List.setIfInBounds_toArray, List.set_cons_zero, List.set_cons_succ]
                refine wpAnyH_take (i := 6) (oi := ?oi7b) (v := ?v7b) ?hi7b (by kernel_rfl) (by kernel_rfl) (by kernel_rfl) ?hQ7b (Or.inl ⟨?hw7b, ?hy7b⟩) hHeld ?rest7b
                case hi7b => simp only [List.getElem?_toArray, List.getElem?_cons_succ, List.getElem?_cons_zero]; rfl
                case hQ7b => exact fun _ _ _ h => h
                case hw7b => rfl
                case hy7b =>
                  intro w' hSw
                  obtain ⟨y1z, y2z⟩ := hSw
                  go_simp
                  try with_reducible rfl
                try simp only [Act.put, List.setIfInBounds_toArray, List.set_cons_zero, List.set_cons_succ]
                refine wpAnyH_take (i := 7) (oi := ?oi8b) (v := ?v8b) ?hi8b (by kernel_rfl) (by kernel_rfl) (by kernel_rfl) ?hQ8b (Or.inl ⟨?hw8b, ?hy8b⟩) hHeld ?rest8b
                case hi8b => simp only [List.getElem?_toArray, List.getElem?_cons_succ, List.getElem?_cons_zero]; rfl
                case hQ8b => exact fun _ _ _ h => h
                case hw8b => rfl
                case hy8b =>
                  intro w' hSw
                  obtain ⟨y1z, y2z⟩ := hSw
                  go_simp
                  try with_reducible rfl
                try simp only [Act.put, List.setIfInBounds_toArray, List.set_cons_zero, List.set_cons_succ]
                refine wpAnyH_take (i := 8) (oi := ?oi9b) (v := ?v9b) ?hi9b (by kernel_rfl) (by kernel_rfl) (by kernel_rfl) ?hQ9b (Or.inl ⟨?hw9b, ?hy9b⟩) hHeld ?rest9b
                case hi9b => simp only [List.getElem?_toArray, List.getElem?_cons_succ, List.getElem?_cons_zero]; rfl
                case hQ9b => exact fun _ _ _ h => h
                case hw9b => rfl
                case hy9b =>
                  intro w' hSw
                  obtain ⟨y1z, y2z⟩ := hSw
                  go_simp
                  try with_reducible rfl
                try simp only [Act.put, List.setIfInBounds_toArray, List.set_cons_zero, List.set_cons_succ]
                refine wpAnyH_take (i := 9) (oi := ?oi10b) (v := ?v10b) ?hi10b (by kernel_rfl) (by kernel_rfl) (by kernel_rfl) ?hQ10b (Or.inl ⟨?hw10b, ?hy10b⟩) hHeld ?rest10b
                case hi10b => simp only [List.getElem?_toArray, List.getElem?_cons_succ, List.getElem?_cons_zero]; rfl
                case hQ10b => exact fun _ _ _ h => h
                case hw10b => rfl
                case hy10b =>
                  intro w' hSw
                  obtain ⟨y1z, y2z⟩ := hSw
                  go_simp
                  try with_reducible rfl
                try simp only [Act.put, List.setIfInBounds_toArray, List.set_cons_zero, List.set_cons_succ]
                refine wpAnyH_take (i := 10) (oi := ?oi11b) (v := ?v11b) ?hi11b (by kernel_rfl) (by kernel_rfl) (by kernel_rfl) ?hQ11b (Or.inl ⟨?hw11b, ?hy11b⟩) hHeld ?rest11b
                case hi11b => simp only [List.getElem?_toArray, List.getElem?_cons_succ, List.getElem?_cons_zero]; rfl
                case hQ11b => exact fun _ _ _ h => h
                case hw11b => rfl
                case hy11b =>
                  intro w' hSw
                  obtain ⟨y1z, y2z⟩ := hSw
                  go_simp
                  try with_reducible rfl
                try simp only [Act.put, List.setIfInBounds_toArray, List.set_cons_zero, List.set_cons_succ]
                refine wpAnyH_ready (rs := [11]) (by kernel_rfl) (by simp) ?_
                refine AllReadyH.cons (o := ?oo12b) ?ho12b (fun K hK => ?st12b) ?more12b
                case ho12b => simp only [List.getElem?_toArray, List.getElem?_cons_succ, List.getElem?_cons_zero]; rfl
                case more12b => exact AllReadyH.nil
                rw [if_pos (by rfl)]
                go_simp
                refine (HPU.out _ SMwd.out).mono ?_
                rintro e w5 ⟨rfl, lv5, c5⟩
                have SU5 : Hid (Same U w5) := lv5.same
                have v1 := (SU5.out.cells _ _ blt5).trans z1
                have v2 := (SU5.out.cells _ _ blt5).trans z2
                have LV5 := Lib.hid lv5
                have CC5 := Lib.hid c5
                clear lv5 c5
                try go_simp
                refine hK.out _ _ ⟨v1, v2⟩ (fun hHeld => ?_)
                clear hK K d1 d2
                try simp only [Act.put, List.setIfInBounds_toArray, List.set_cons_zero, List.set_cons_succ]
                refine wpAnyH_done (by kernel_rfl) ?_ _
                refine lastQ_of (o := ?oz13b) ?hz13b ?gz13b ?sz13b
                case hz13b => simp only [List.getElem?_toArray, List.getElem?_cons_succ, List.getElem?_cons_zero]; rfl
                case gz13b => rfl
                intro K hK
                go_simp
                refine hK.out _ _ ?_
                clear hK K
                try simp only [Act.put, List.setIfInBounds_toArray, List.set_cons_zero, List.set_cons_succ]
                have HA := Lib.hid (HAFT.out w5 LV5.out CC5.out)
                have y1 := v1
                have y2 := v2
                have y3 : w5.cell? ⟨go, N, none⟩ = some (.slice Ai tl tc) := HA.out.1
                have lgo := HA.out.2.1
                have l5 : b5 < w5.heap.size := Nat.lt_of_lt_of_le blt5 SU5.out.size
                have HRD : Hid (∀ W, Same w5 W → Reads W w5.heap.size 1 Ai tl XR) := Lib.hid HA.out.2.2.1
                have HFZ : Hid (∀ W, Same w5 W → W.frozen? ⟨go, N, none⟩ = false) := Lib.hid HA.out.2.2.2.1
                have HPY : Hid (∀ (X : World) (A2 : Option Addr) (c2 : Nat), Same w5 X → X.ownsRow w5.heap.size 40 1 (.slice A2 (tl + 1) c2) (tl + 1) (XR ++ [.slice Ar rn rc]) → PlayAt U w.heap.size (X.setCell ⟨go, N, none⟩ (.slice A2 (tl + 1) c2)) g m (M.put (N : Int) row) lo hj ⟨some ⟨go, 0, none⟩, tbs.length, ch⟩ (tb.set N ⟨⟨A2, tl + 1, c2⟩, rs6 ++ [⟨⟨Ar, rn, rc⟩, row⟩]⟩) (q + 1)) := Lib.hid fun X A2 c2 s o => HA.out.2.2.2.2 X A2 (tl + 1) c2 s o
                clear u0 u1 u2 v1 v2 z1 z2 HA HAFT HPU
                go_wp2_with (fail)
                refine wp_region_last (opsP := ?opsPc) (S := (fun w' => w'.cell? ⟨b5, o5 + q * 3 + 1, none⟩ = some (.int .i64 (N : Int)) ∧ w'.cell? ⟨b5, o5 + q * 3 + 2, none⟩ = some (.slice Ar rn rc) ∧ w'.cell? ⟨go, N, none⟩ = some (.slice Ai tl tc))) (n := 24) (by kernel_rfl) (lastOk_of (by kernel_rfl)) ?hpc ?wkc
                case hpc => simp only [List.pop_toArray, List.dropLast_cons_cons, List.dropLast_singleton]; rfl
                case wkc =>
                  have SMwd : Hid (Same w5 w5.drew) := (Same.refl w5).drew
                  generalize w5.drew = wd at SMwd ⊢
                  have y1wd := (SMwd.out.cells _ _ l5).trans y1
                  have y2wd := (SMwd.out.cells _ _ l5).trans y2
                  have y3wd := (SMwd.out.cells _ _ lgo).trans y3
                  have hHeld : (fun w' => w'.cell? ⟨b5, o5 + q * 3 + 1, none⟩ = some (.int .i64 (N : Int)) ∧ w'.cell? ⟨b5, o5 + q * 3 + 2, none⟩ = some (.slice Ar rn rc) ∧ w'.cell? ⟨go, N, none⟩ = some (.slice Ai tl tc)) wd := ⟨y1wd, y2wd, y3wd⟩
                  refine wpAnyH_take (i := 0) (oi := ?oi1c) (v := ?v1c) ?hi1c (by kernel_rfl) (by kernel_rfl) (by kernel_rfl) ?hQ1c (Or.inl ⟨?hw1c, ?hy1c⟩) hHeld ?rest1c
                  case hi1c => simp only [List.getElem?_toArray, List.getElem?_cons_succ, List.getElem?_cons_zero]; rfl
                  case hQ1c => exact fun _ _ _ h => h
                  case hw1c => rfl
                  case hy1c =>
                    intro w' hSw
                    obtain ⟨y1z, y2z, y3z⟩ := hSw
                    go_simp
                    try with_reducible rfl
                  try simp only [Act.put, List.setIfInBounds_toArray, List.set_cons_zero, List.set_cons_succ]
                  refine wpAnyH_take (i := 1) (oi := ?oi2c) (v := ?v2c) ?hi2c (by kernel_rfl) (by kernel_rfl) (by kernel_rfl) ?hQ2c (Or.inl ⟨?hw2c, ?hy2c⟩) hHeld ?rest2c
                  case hi2c => simp only [List.getElem?_toArray, List.getElem?_cons_succ, List.getElem?_cons_zero]; rfl
                  case hQ2c => exact fun _ _ _ h => h
                  case hw2c => rfl
                  case hy2c =>
                    intro w' hSw
                    obtain ⟨y1z, y2z, y3z⟩ := hSw
                    go_simp
                    try with_reducible rfl
                  try simp only [Act.put, List.setIfInBounds_toArray, List.set_cons_zero, List.set_cons_succ]
                  refine wpAnyH_take (i := 2) (oi := ?oi3c) (v := ?v3c) ?hi3c (by kernel_rfl) (by kernel_rfl) (by kernel_rfl) ?hQ3c (Or.inl ⟨?hw3c, ?hy3c⟩) hHeld ?rest3c
                  case hi3c => simp only [List.getElem?_toArray, List.getElem?_cons_succ, List.getElem?_cons_zero]; rfl
                  case hQ3c => exact fun _ _ _ h => h
                  case hw3c => rfl
                  case hy3c =>
                    intro w' hSw
                    obtain ⟨y1z, y2z, y3z⟩ := hSw
                    go_simp
                    try with_reducible rfl
                  try simp only [Act.put, List.setIfInBounds_toArray, List.set_cons_zero, List.set_cons_succ]
                  refine wpAnyH_take (i := 3) (oi := ?oi4c) (v := ?v4c) ?hi4c (by kernel_rfl) (by kernel_rfl) (by kernel_rfl) ?hQ4c (Or.inl ⟨?hw4c, ?hy4c⟩) hHeld ?rest4c
                  case hi4c => simp only [List.getElem?_toArray, List.getElem?_cons_succ, List.getElem?_cons_zero]; rfl
                  case hQ4c => exact fun _ _ _ h => h
                  case hw4c => rfl
                  case hy4c =>
                    intro w' hSw
                    obtain ⟨y1z, y2z, y3z⟩ := hSw
                    go_simp
                    try with_reducible rfl
                  try simp only [Act.put, List.setIfInBounds_toArray, List.set_cons_zero, List.set_cons_succ]
                  refine wpAnyH_take (i := 4) (oi := ?oi5c) (v := ?v5c) ?hi5c (by kernel_rfl) (by kernel_rfl) (by kernel_rfl) ?hQ5c (Or.inl ⟨?hw5c, ?hy5c⟩) hHeld ?rest5c
                  case hi5c => simp only [List.getElem?_toArray, List.getElem?_cons_succ, List.getElem?_cons_zero]; rfl
                  case hQ5c => exact fun _ _ _ h => h
                  case hw5c => rfl
                  case hy5c =>
                    intro w' hSw
                    obtain ⟨y1z, y2z, y3z⟩ := hSw
                    go_simp
                    try with_reducible rfl
                  try simp only [Act.put, List.setIfInBounds_toArray, List.set_cons_zero, List.set_cons_succ]
                  refine wpAnyH_take (i := 5) (oi := ?oi6c) (v := ?v6c) ?hi6c (by kernel_rfl) (by kernel_rfl) (by kernel_rfl) ?hQ6c (Or.inl ⟨?hw6c, ?hy6c⟩) hHeld ?rest6c
                  case hi6c => simp only [List.getElem?_toArray, List.getElem?_cons_succ, List.getElem?_cons_zero]; rfl
                  case hQ6c => exact fun _ _ _ h => h
                  case hw6c => rfl
                  case hy6c =>
                    intro w' hSw
                    obtain ⟨y1z, y2z, y3z⟩ := hSw
                    go_simp
                    try with_reducible rfl
                  try simp only [Act.put, List.setIfInBounds_toArray, List.set_cons_zero, List.set_cons_succ]
                  refine wpAnyH_take (i := 7) (oi := ?oi7c) (v := ?v7c) ?hi7c (by kernel_rfl) (by kernel_rfl) (by kernel_rfl) ?hQ7c (Or.inl ⟨?hw7c, ?hy7c⟩) hHeld ?rest7c
                  case hi7c => simp only [List.getElem?_toArray, List.getElem?_cons_succ, List.getElem?_cons_zero]; rfl
                  case hQ7c => exact fun _ _ _ h => h
                  case hw7c => rfl
                  case hy7c =>
                    intro w' hSw
                    obtain ⟨y1z, y2z, y3z⟩ := hSw
                    go_simp
                    try with_reducible rfl
                  try simp only [Act.put, List.setIfInBounds_toArray, List.set_cons_zero, List.set_cons_succ]
                  refine wpAnyH_take (i := 8) (oi := ?oi8c) (v := ?v8c) ?hi8c (by kernel_rfl) (by kernel_rfl) (by kernel_rfl) ?hQ8c (Or.inl ⟨?hw8c, ?hy8c⟩) hHeld ?rest8c
                  case hi8c => simp only [List.getElem?_toArray, List.getElem?_cons_succ, List.getElem?_cons_zero]; rfl
                  case hQ8c => exact fun _ _ _ h => h
                  case hw8c => rfl
                  case hy8c =>
                    intro w' hSw
                    obtain ⟨y1z, y2z, y3z⟩ := hSw
                    go_simp
                    try with_reducible rfl
                  try simp only [Act.put, List.setIfInBounds_toArray, List.set_cons_zero, List.set_cons_succ]
                  refine wpAnyH_take (i := 9) (oi := ?oi9c) (v := ?v9c) ?hi9c (by kernel_rfl) (by kernel_rfl) (by kernel_rfl) ?hQ9c (Or.inl ⟨?hw9c, ?hy9c⟩) hHeld ?rest9c
                  case hi9c => simp only [List.getElem?_toArray, List.getElem?_cons_succ, List.getElem?_cons_zero]; rfl
                  case hQ9c => exact fun _ _ _ h => h
                  case hw9c => rfl
                  case hy9c =>
                    intro w' hSw
                    obtain ⟨y1z, y2z, y3z⟩ := hSw
                    go_simp
                    try with_reducible rfl
                  try simp only [Act.put, List.setIfInBounds_toArray, List.set_cons_zero, List.set_cons_succ]
                  refine wpAnyH_take (i := 10) (oi := ?oi10c) (v := ?v10c) ?hi10c (by kernel_rfl) (by kernel_rfl) (by kernel_rfl) ?hQ10c (Or.inl ⟨?hw10c, ?hy10c⟩) hHeld ?rest10c
                  case hi10c => simp only [List.getElem?_toArray, List.getElem?_cons_succ, List.getElem?_cons_zero]; rfl
                  case hQ10c => exact fun _ _ _ h => h
                  case hw10c => rfl
                  case hy10c =>
                    intro w' hSw
                    obtain ⟨y1z, y2z, y3z⟩ := hSw
                    go_simp
                    try with_reducible rfl
                  try simp only [Act.put, List.setIfInBounds_toArray, List.set_cons_zero, List.set_cons_succ]
                  refine wpAnyH_take (i := 11) (oi := ?oi11c) (v := ?v11c) ?hi11c (by kernel_rfl) (by kernel_rfl) (by kernel_rfl) ?hQ11c (Or.inl ⟨?hw11c, ?hy11c⟩) hHeld ?rest11c
                  case hi11c => simp only [List.getElem?_toArray, List.getElem?_cons_succ, List.getElem?_cons_zero]; rfl
                  case hQ11c => exact fun _ _ _ h => h
                  case hw11c => rfl
                  case hy11c =>
                    intro w' hSw
                    obtain ⟨y1z, y2z, y3z⟩ := hSw
                    go_simp
                    try with_reducible rfl
                  try simp only [Act.put, List.setIfInBounds_toArray, List.set_cons_zero, List.set_cons_succ]
                  refine wpAnyH_take (i := 12) (oi := ?oi12c) (v := ?v12c) ?hi12c (by kernel_rfl) (by kernel_rfl) (by kernel_rfl) ?hQ12c (Or.inl ⟨?hw12c, ?hy12c⟩) hHeld ?rest12c
                  case hi12c => simp only [List.getElem?_toArray, List.getElem?_cons_succ, List.getElem?_cons_zero]; rfl
                  case hQ12c => exact fun _ _ _ h => h
                  case hw12c => rfl
                  case hy12c =>
                    intro w' hSw
                    obtain ⟨y1z, y2z, y3z⟩ := hSw
                    go_simp
                    try with_reducible rfl
                  try simp only [Act.put, List.setIfInBounds_toArray, List.set_cons_zero, List.set_cons_succ]
                  refine wpAnyH_take (i := 13) (oi := ?oi13c) (v := ?v13c) ?hi13c (by kernel_rfl) (by kernel_rfl) (by kernel_rfl) ?hQ13c (Or.inl ⟨?hw13c, ?hy13c⟩) hHeld ?rest13c
                  case hi13c => simp only [List.getElem?_toArray, List.getElem?_cons_succ, List.getElem?_cons_zero]; rfl
                  case hQ13c => exact fun _ _ _ h => h
                  case hw13c => rfl
                  case hy13c =>
                    intro w' hSw
                    obtain ⟨y1z, y2z, y3z⟩ := hSw
                    go_simp
                    try with_reducible rfl
                  try simp only [Act.put, List.setIfInBounds_toArray, List.set_cons_zero, List.set_cons_succ]
                  refine wpAnyH_take (i := 14) (oi := ?oi14c) (v := ?v14c) ?hi14c (by kernel_rfl) (by kernel_rfl) (by kernel_rfl) ?hQ14c (Or.inl ⟨?hw14c, ?hy14c⟩) hHeld ?rest14c
                  case hi14c => simp only [List.getElem?_toArray, List.getElem?_cons_succ, List.getElem?_cons_zero]; rfl
                  case hQ14c => exact fun _ _ _ h => h
                  case hw14c => rfl
                  case hy14c =>
                    intro w' hSw
                    obtain ⟨y1z, y2z, y3z⟩ := hSw
                    go_simp
                    try with_reducible rfl
                  try simp only [Act.put, List.setIfInBounds_toArray, List.set_cons_zero, List.set_cons_succ]
                  refine wpAnyH_take (i := 16) (oi := ?oi15c) (v := ?v15c) ?hi15c (by kernel_rfl) (by kernel_rfl) (by kernel_rfl) ?hQ15c (Or.inl ⟨?hw15c, ?hy15c⟩) hHeld ?rest15c
                  case hi15c => simp only [List.getElem?_toArray, List.getElem?_cons_succ, List.getElem?_cons_zero]; rfl
                  case hQ15c => exact fun _ _ _ h => h
                  case hw15c => rfl
                  case hy15c =>
                    intro w' hSw
                    obtain ⟨y1z, y2z, y3z⟩ := hSw
                    go_simp
                    try with_reducible rfl
                  try simp only [Act.put, List.setIfInBounds_toArray, List.set_cons_zero, List.set_cons_succ]
                  refine wpAnyH_take (i := 17) (oi := ?oi16c) (v := ?v16c) ?hi16c (by kernel_rfl) (by kernel_rfl) (by kernel_rfl) ?hQ16c (Or.inl ⟨?hw16c, ?hy16c⟩) hHeld ?rest16c
                  case hi16c => simp only [List.getElem?_toArray, List.getElem?_cons_succ, List.getElem?_cons_zero]; rfl
                  case hQ16c => exact fun _ _ _ h => h
                  case hw16c => rfl
                  case hy16c =>
                    intro w' hSw
                    obtain ⟨y1z, y2z, y3z⟩ := hSw
                    go_simp
                    try with_reducible rfl
                  try simp only [Act.put, List.setIfInBounds_toArray, List.set_cons_zero, List.set_cons_succ]
                  refine wpAnyH_take (i := 18) (oi := ?oi17c) (v := ?v17c) ?hi17c (by kernel_rfl) (by kernel_rfl) (by kernel_rfl) ?hQ17c (Or.inl ⟨?hw17c, ?hy17c⟩) hHeld ?rest17c
                  case hi17c => simp only [List.getElem?_toArray, List.getElem?_cons_succ, List.getElem?_cons_zero]; rfl
                  case hQ17c => exact fun _ _ _ h => h
                  case hw17c => rfl
                  case hy17c =>
                    intro w' hSw
                    obtain ⟨y1z, y2z, y3z⟩ := hSw
                    go_simp
                    try with_reducible rfl
                  try simp only [Act.put, List.setIfInBounds_toArray, List.set_cons_zero, List.set_cons_succ]
                  refine wpAnyH_take (i := 19) (oi := ?oi18c) (v := ?v18c) ?hi18c (by kernel_rfl) (by kernel_rfl) (by kernel_rfl) ?hQ18c (Or.inl ⟨?hw18c, ?hy18c⟩) hHeld ?rest18c
                  case hi18c => simp only [List.getElem?_toArray, List.getElem?_cons_succ, List.getElem?_cons_zero]; rfl
                  case hQ18c => exact fun _ _ _ h => h
                  case hw18c => rfl
                  case hy18c =>
                    intro w' hSw
                    obtain ⟨y1z, y2z, y3z⟩ := hSw
                    go_simp
                    try with_reducible rfl
                  try simp only [Act.put, List.setIfInBounds_toArray, List.set_cons_zero, List.set_cons_succ]
                  refine wpAnyH_take (i := 20) (oi := ?oi19c) (v := ?v19c) ?hi19c (by kernel_rfl) (by kernel_rfl) (by kernel_rfl) ?hQ19c (Or.inl ⟨?hw19c, ?hy19c⟩) hHeld ?rest19c
                  case hi19c => simp only [List.getElem?_toArray, List.getElem?_cons_succ, List.getElem?_cons_zero]; rfl
                  case hQ19c => exact fun _ _ _ h => h
                  case hw19c => rfl
                  case hy19c =>
                    intro w' hSw
                    obtain ⟨y1z, y2z, y3z⟩ := hSw
                    go_simp
                    try with_reducible rfl
                  try simp only [Act.put, List.setIfInBounds_toArray, List.set_cons_zero, List.set_cons_succ]
                  refine wpAnyH_ready (rs := [6, 21]) (by kernel_rfl) (by simp) ?_
                  refine AllReadyH.cons (o := ?oo20_0c) ?ho20_0c (fun K hK => ?st20_0c) ?more20_0c
                  case ho20_0c => simp only [List.getElem?_toArray, List.getElem?_cons_succ, List.getElem?_cons_zero]; rfl
                  case st20_0c =>
                    rw [if_pos (by rfl)]
                    go_simp
                    obtain ⟨wa1, hwa1⟩ : ∃ wa1, wa1 = wd.alloc (.cells #[] 40) := ⟨_, rfl⟩
                    have swa1 : Same wd wa1 := by rw [hwa1]; exact (Same.refl _).alloc _
                    have Bwa1 : Hid (Blk wa1 wd.heap.size 40 #[]) := by rw [hwa1]; exact Lib.hid (Blk.new _ _ _)
                    have lbwa1 : w5.heap.size ≤ wd.heap.size := SMwd.out.size
                    rw [← hwa1]
                    have SMwa1 : Hid (Same w5 wa1) := SMwd.out.trans swa1
                    have y1wa1 := (SMwa1.out.cells _ _ l5).trans y1
                    have y2wa1 := (SMwa1.out.cells _ _ l5).trans y2
                    have y3wa1 := (SMwa1.out.cells _ _ lgo).trans y3
                    clear hwa1 swa1
                    refine hK.out _ _ ⟨y1wa1, y2wa1, y3wa1⟩ (fun hHeld => ?_)
                    clear hK K
                    try simp only [Act.put, List.setIfInBounds_toArray, List.set_cons_zero, List.set_cons_succ]
                    refine wpAnyH_ready (rs := [15, 21]) (by kernel_rfl) (by simp) ?_
                    refine AllReadyH.cons (o := ?oo21_0c) ?ho21_0c (fun K hK => ?st21_0c) ?more21_0c
                    case ho21_0c => simp only [List.getElem?_toArray, List.getElem?_cons_succ, List.getElem?_cons_zero]; rfl
                    case st21_0c =>
                      refine step_append_any _ rfl (.tmp 64) (.tmp 72) 55 rfl w5.heap.size 40 i0 _ 1 24 Tryz.underlying55 hi0 hiz0 hiz1 hiz2 rfl (by decide) (.slice (some ⟨wd.heap.size, 0, none⟩) 0 0) 0 [] rfl (own_empty Bwa1.out lbwa1) w5.heap.size Ai tl tc XR rfl (HRD.out _ SMwa1.out) HX1.out (by simp only [maxLen]; omega) (by omega) SMwa1.out.size ?_
                      intro v1 wb2 hown1 hg1 hat1
                      rw [Nat.zero_add, List.nil_append] at hown1
                      obtain ⟨A1, c1, hv⟩ := own_val hown1
                      subst hv
                      have Owb2 := Lib.hid hown1
                      have swb2 : Same w5 wb2 := Below.grown SMwa1.out hg1 SMwa1.out.size (fun k hk => by simp [Value.ownBlock] at hk; have := lbwa1; omega)
                      have SMwb2 : Hid (Same w5 wb2) := swb2
                      have y1wb2 := (SMwb2.out.cells _ _ l5).trans y1
                      have y2wb2 := (SMwb2.out.cells _ _ l5).trans y2
                      have y3wb2 := (SMwb2.out.cells _ _ lgo).trans y3
                      clear hown1 hg1 hat1 swb2
                      refine hK.out _ _ ⟨y1wb2, y2wb2, y3wb2⟩ (fun hHeld => ?_)
                      clear hK K
                      try simp only [Act.put, List.setIfInBounds_toArray, List.set_cons_zero, List.set_cons_succ]
                      refine wpAnyH_ready (rs := [21]) (by kernel_rfl) (by simp) ?_
                      refine AllReadyH.cons (o := ?oo22_0c) ?ho22_0c (fun K hK => ?st22_0c) ?more22_0c
                      case ho22_0c => simp only [List.getElem?_toArray, List.getElem?_cons_succ, List.getElem?_cons_zero]; rfl
                      case st22_0c =>
                        rw [if_pos (by rfl)]
                        go_simp
                        obtain ⟨wa3, hwa3⟩ : ∃ wa3, wa3 = wb2.alloc (.cells #[.slice Ar rn rc] 40) := ⟨_, rfl⟩
                        have swa3 : Same wb2 wa3 := by rw [hwa3]; exact (Same.refl _).alloc _
                        have Bwa3 : Hid (Blk wa3 wb2.heap.size 40 #[.slice Ar rn rc]) := by rw [hwa3]; exact Lib.hid (Blk.new _ _ _)
                        have lbwa3 : w5.heap.size ≤ wb2.heap.size := SMwb2.out.size
                        rw [← hwa3]
                        have Owa3 := Lib.hid (own_same swa3 Owb2.out)
                        have SMwa3 : Hid (Same w5 wa3) := SMwb2.out.trans swa3
                        have y1wa3 := (SMwa3.out.cells _ _ l5).trans y1
                        have y2wa3 := (SMwa3.out.cells _ _ l5).trans y2
                        have y3wa3 := (SMwa3.out.cells _ _ lgo).trans y3
                        clear hwa3 swa3
                        refine hK.out _ _ ⟨y1wa3, y2wa3, y3wa3⟩ (fun hHeld => ?_)
                        clear hK K
                        try simp only [Act.put, List.setIfInBounds_toArray, List.set_cons_zero, List.set_cons_succ]
                        refine wpAnyH_ready (rs := [22]) (by kernel_rfl) (by simp) ?_
                        refine AllReadyH.cons (o := ?oo23_0c) ?ho23_0c (fun K hK => ?st23_0c) ?more23_0c
                        case ho23_0c => simp only [List.getElem?_toArray, List.getElem?_cons_succ, List.getElem?_cons_zero]; rfl
                        case st23_0c =>
                          refine step_append_any _ rfl (.tmp 73) (.tmp 79) 55 rfl w5.heap.size 40 i0 _ 1 24 Tryz.underlying55 hi0 hiz0 hiz1 hiz2 rfl (by decide) (.slice A1 tl c1) tl XR rfl Owa3.out (wb2.heap.size + 1) (some ⟨wb2.heap.size, 0, none⟩) 1 1 [.slice Ar rn rc] rfl (reads_blk Bwa3.out) (by intro u hu; simp at hu; rw [hu]; rfl) (by simp only [maxLen]; omega) (by omega) SMwa3.out.size ?_
                          intro v2 wc4 hown2 hg2 hat2
                          obtain ⟨A2, c2, hv⟩ := own_val hown2
                          subst hv
                          have swc4 : Same w5 wc4 := Below.grown SMwa3.out hg2 SMwa3.out.size (fun k hk => (row_ty Owa3.out hk).1)
                          have HFIN := Lib.hid (HPY.out wc4 A2 c2 swc4 hown2)
                          have fz := HFZ.out wc4 swc4
                          have SMwc4 : Hid (Same w5 wc4) := swc4
                          have y1wc4 := (SMwc4.out.cells _ _ l5).trans y1
                          have y2wc4 := (SMwc4.out.cells _ _ l5).trans y2
                          have y3wc4 := (SMwc4.out.cells _ _ lgo).trans y3
                          clear hown2 hg2 hat2 swc4
                          refine hK.out _ _ ⟨y1wc4, y2wc4, y3wc4⟩ (fun hHeld => ?_)
                          clear hK K
                          try simp only [Act.put, List.setIfInBounds_toArray, List.set_cons_zero, List.set_cons_succ]
                          refine wpAnyH_take (i := 23) (oi := ?oi24c) (v := ?v24c) ?hi24c (by kernel_rfl) (by kernel_rfl) (by kernel_rfl) ?hQ24c (Or.inl ⟨?hw24c, ?hy24c⟩) hHeld ?rest24c
                          case hi24c => simp only [List.getElem?_toArray, List.getElem?_cons_succ, List.getElem?_cons_zero]; rfl
                          case hQ24c => exact fun _ _ _ h => h
                          case hw24c => rfl
                          case hy24c =>
                            intro w' hSw
                            obtain ⟨y1z, y2z, y3z⟩ := hSw
                            go_simp
                            try with_reducible rfl
                          try simp only [Act.put, List.setIfInBounds_toArray, List.set_cons_zero, List.set_cons_succ]
                          refine wpAnyH_done (by kernel_rfl) ?_ _
                          refine lastQ_of (o := ?oz25c) ?hz25c ?gz25c ?sz25c
                          case hz25c => simp only [List.getElem?_toArray, List.getElem?_cons_succ, List.getElem?_cons_zero]; rfl
                          case gz25c => rfl
                          intro K hK
                          go_simp
                          refine hK.out _ _ ?_
                          clear hK K
                          try simp only [Act.put, List.setIfInBounds_toArray, List.set_cons_zero, List.set_cons_succ]
                          go_wp2_with (fail)
                          go_roundw
                          case rel =>
                            first
                              | exact ⟨q + 1, M.put (N : Int) row, _, by omega, by go_num, HFIN⟩
                              | exact ⟨q + 1, by omega, by go_num, M.put (N : Int) row, _, HFIN⟩
                              | exact ⟨q + 1, by omega, ⟨by go_num, M.put (N : Int) row, _, HFIN⟩⟩
                          case measure => simp [intOf]; omega
                        case more23_0c =>
                          exact AllReadyH.nil
                      case more22_0c =>
                        exact AllReadyH.nil
                    case more21_0c =>
                      refine AllReadyH.cons (o := ?oo21_1c) ?ho21_1c (fun K hK => ?st21_1c) ?more21_1c
                      case ho21_1c => simp only [List.getElem?_toArray, List.getElem?_cons_succ, List.getElem?_cons_zero]; rfl
                      case st21_1c =>
                        rw [if_pos (by rfl)]
                        go_simp
                        obtain ⟨wa5, hwa5⟩ : ∃ wa5, wa5 = wa1.alloc (.cells #[.slice Ar rn rc] 40) := ⟨_, rfl⟩
                        have swa5 : Same wa1 wa5 := by rw [hwa5]; exact (Same.refl _).alloc _
                        have Bwa5 : Hid (Blk wa5 wa1.heap.size 40 #[.slice Ar rn rc]) := by rw [hwa5]; exact Lib.hid (Blk.new _ _ _)
                        have lbwa5 : w5.heap.size ≤ wa1.heap.size := SMwa1.out.size
                        rw [← hwa5]
                        have Bwa5E : Hid (Blk wa5 wd.heap.size 40 #[]) := by rw [hwa5]; exact Lib.hid (Bwa1.out.alloc _)
                        have newa5 : wd.heap.size < wa1.heap.size := Bwa1.out.lt
                        have SMwa5 : Hid (Same w5 wa5) := SMwa1.out.trans swa5
                        have y1wa5 := (SMwa5.out.cells _ _ l5).trans y1
                        have y2wa5 := (SMwa5.out.cells _ _ l5).trans y2
                        have y3wa5 := (SMwa5.out.cells _ _ lgo).trans y3
                        clear hwa5 swa5
                        refine hK.out _ _ ⟨y1wa5, y2wa5, y3wa5⟩ (fun hHeld => ?_)
                        clear hK K
                        try simp only [Act.put, List.setIfInBounds_toArray, List.set_cons_zero, List.set_cons_succ]
                        refine wpAnyH_ready (rs := [15]) (by kernel_rfl) (by simp) ?_
                        refine AllReadyH.cons (o := ?oo26_0c) ?ho26_0c (fun K hK => ?st26_0c) ?more26_0c
                        case ho26_0c => simp only [List.getElem?_toArray, List.getElem?_cons_succ, List.getElem?_cons_zero]; rfl
                        case st26_0c =>
                          refine step_append_any _ rfl (.tmp 64) (.tmp 72) 55 rfl w5.heap.size 40 i0 _ 1 24 Tryz.underlying55 hi0 hiz0 hiz1 hiz2 rfl (by decide) (.slice (some ⟨wd.heap.size, 0, none⟩) 0 0) 0 [] rfl (own_empty Bwa5E.out lbwa1) w5.heap.size Ai tl tc XR rfl (HRD.out _ SMwa5.out) HX1.out (by simp only [maxLen]; omega) (by omega) SMwa5.out.size ?_
                          intro v1 wb6 hown1 hg1 hat1
                          rw [Nat.zero_add, List.nil_append] at hown1
                          obtain ⟨A1, c1, hv⟩ := own_val hown1
                          subst hv
                          have Owb6 := Lib.hid hown1
                          have swb6 : Same w5 wb6 := Below.grown SMwa5.out hg1 SMwa5.out.size (fun k hk => by simp [Value.ownBlock] at hk; have := lbwa1; omega)
                          have Bwb6 : Hid (Blk wb6 wa1.heap.size 40 #[.slice Ar rn rc]) := Lib.hid (Bwa5.out.grown hg1 (fun e => by simp [Value.ownBlock] at e; have := newa5; omega))
                          have SMwb6 : Hid (Same w5 wb6) := swb6
                          have y1wb6 := (SMwb6.out.cells _ _ l5).trans y1
                          have y2wb6 := (SMwb6.out.cells _ _ l5).trans y2
                          have y3wb6 := (SMwb6.out.cells _ _ lgo).trans y3
                          clear hown1 hg1 hat1 swb6
                          refine hK.out _ _ ⟨y1wb6, y2wb6, y3wb6⟩ (fun hHeld => ?_)
                          clear hK K
                          try simp only [Act.put, List.setIfInBounds_toArray, List.set_cons_zero, List.set_cons_succ]
                          refine wpAnyH_ready (rs := [22]) (by kernel_rfl) (by simp) ?_
                          refine AllReadyH.cons (o := ?oo27_0c) ?ho27_0c (fun K hK => ?st27_0c) ?more27_0c
                          case ho27_0c => simp only [List.getElem?_toArray, List.getElem?_cons_succ, List.getElem?_cons_zero]; rfl
                          case st27_0c =>
                            refine step_append_any _ rfl (.tmp 73) (.tmp 79) 55 rfl w5.heap.size 40 i0 _ 1 24 Tryz.underlying55 hi0 hiz0 hiz1 hiz2 rfl (by decide) (.slice A1 tl c1) tl XR rfl Owb6.out (wa1.heap.size + 1) (some ⟨wa1.heap.size, 0, none⟩) 1 1 [.slice Ar rn rc] rfl (reads_blk Bwb6.out) (by intro u hu; simp at hu; rw [hu]; rfl) (by simp only [maxLen]; omega) (by omega) SMwb6.out.size ?_
                            intro v2 wc7 hown2 hg2 hat2
                            obtain ⟨A2, c2, hv⟩ := own_val hown2
                            subst hv
                            have swc7 : Same w5 wc7 := Below.grown SMwb6.out hg2 SMwb6.out.size (fun k hk => (row_ty Owb6.out hk).1)
                            have HFIN := Lib.hid (HPY.out wc7 A2 c2 swc7 hown2)
                            have fz := HFZ.out wc7 swc7
                            have SMwc7 : Hid (Same w5 wc7) := swc7
                            have y1wc7 := (SMwc7.out.cells _ _ l5).trans y1
                            have y2wc7 := (SMwc7.out.cells _ _ l5).trans y2
                            have y3wc7 := (SMwc7.out.cells _ _ lgo).trans y3
                            clear hown2 hg2 hat2 swc7
                            refine hK.out _ _ ⟨y1wc7, y2wc7, y3wc7⟩ (fun hHeld => ?_)
                            clear hK K
                            try simp only [Act.put, List.setIfInBounds_toArray, List.set_cons_zero, List.set_cons_succ]
                            refine wpAnyH_take (i := 23) (oi := ?oi28c) (v := ?v28c) ?hi28c (by kernel_rfl) (by kernel_rfl) (by kernel_rfl) ?hQ28c (Or.inl ⟨?hw28c, ?hy28c⟩) hHeld ?rest28c
                            case hi28c => simp only [List.getElem?_toArray, List.getElem?_cons_succ, List.getElem?_cons_zero]; rfl
                            case hQ28c => exact fun _ _ _ h => h
                            case hw28c => rfl
                            case hy28c =>
                              intro w' hSw
                              obtain ⟨y1z, y2z, y3z⟩ := hSw
                              go_simp
                              try with_reducible rfl
                            try simp only [Act.put, List.setIfInBounds_toArray, List.set_cons_zero, List.set_cons_succ]
                            refine wpAnyH_done (by kernel_rfl) ?_ _
                            refine lastQ_of (o := ?oz29c) ?hz29c ?gz29c ?sz29c
                            case hz29c => simp only [List.getElem?_toArray, List.getElem?_cons_succ, List.getElem?_cons_zero]; rfl
                            case gz29c => rfl
                            intro K hK
                            go_simp
                            refine hK.out _ _ ?_
                            clear hK K
                            try simp only [Act.put, List.setIfInBounds_toArray, List.set_cons_zero, List.set_cons_succ]
                            go_wp2_with (fail)
                            go_roundw
                            case rel =>
                              first
                                | exact ⟨q + 1, M.put (N : Int) row, _, by omega, by go_num, HFIN⟩
                                | exact ⟨q + 1, by omega, by go_num, M.put (N : Int) row, _, HFIN⟩
                                | exact ⟨q + 1, by omega, ⟨by go_num, M.put (N : Int) row, _, HFIN⟩⟩
                            case measure => simp [intOf]; omega
                          case more27_0c =>
                            exact AllReadyH.nil
                        case more26_0c =>
                          exact AllReadyH.nil
                      case more21_1c =>
                        exact AllReadyH.nil
                  case more20_0c =>
                    refine AllReadyH.cons (o := ?oo20_1c) ?ho20_1c (fun K hK => ?st20_1c) ?more20_1c
                    case ho20_1c => simp only [List.getElem?_toArray, List.getElem?_cons_succ, List.getElem?_cons_zero]; rfl
                    case st20_1c =>
                      rw [if_pos (by rfl)]
                      go_simp
                      obtain ⟨wa8, hwa8⟩ : ∃ wa8, wa8 = wd.alloc (.cells #[.slice Ar rn rc] 40) := ⟨_, rfl⟩
                      have swa8 : Same wd wa8 := by rw [hwa8]; exact (Same.refl _).alloc _
                      have Bwa8 : Hid (Blk wa8 wd.heap.size 40 #[.slice Ar rn rc]) := by rw [hwa8]; exact Lib.hid (Blk.new _ _ _)
                      have lbwa8 : w5.heap.size ≤ wd.heap.size := SMwd.out.size
                      rw [← hwa8]
                      have SMwa8 : Hid (Same w5 wa8) := SMwd.out.trans swa8
                      have y1wa8 := (SMwa8.out.cells _ _ l5).trans y1
                      have y2wa8 := (SMwa8.out.cells _ _ l5).trans y2
                      have y3wa8 := (SMwa8.out.cells _ _ lgo).trans y3
                      clear hwa8 swa8
                      refine hK.out _ _ ⟨y1wa8, y2wa8, y3wa8⟩ (fun hHeld => ?_)
                      clear hK K
                      try simp only [Act.put, List.setIfInBounds_toArray, List.set_cons_zero, List.set_cons_succ]
                      refine wpAnyH_ready (rs := [6]) (by kernel_rfl) (by simp) ?_
                      refine AllReadyH.cons (o := ?oo30_0c) ?ho30_0c (fun K hK => ?st30_0c) ?more30_0c
                      case ho30_0c => simp only [List.getElem?_toArray, List.getElem?_cons_succ, List.getElem?_cons_zero]; rfl
                      case st30_0c =>
                        rw [if_pos (by rfl)]
                        go_simp
                        obtain ⟨wa9, hwa9⟩ : ∃ wa9, wa9 = wa8.alloc (.cells #[] 40) := ⟨_, rfl⟩
                        have swa9 : Same wa8 wa9 := by rw [hwa9]; exact (Same.refl _).alloc _
                        have Bwa9 : Hid (Blk wa9 wa8.heap.size 40 #[]) := by rw [hwa9]; exact Lib.hid (Blk.new _ _ _)
                        have lbwa9 : w5.heap.size ≤ wa8.heap.size := SMwa8.out.size
                        rw [← hwa9]
                        have Bwa9N : Hid (Blk wa9 wd.heap.size 40 #[.slice Ar rn rc]) := by rw [hwa9]; exact Lib.hid (Bwa8.out.alloc _)
                        have newa9 : wd.heap.size < wa8.heap.size := Bwa8.out.lt
                        have SMwa9 : Hid (Same w5 wa9) := SMwa8.out.trans swa9
                        have y1wa9 := (SMwa9.out.cells _ _ l5).trans y1
                        have y2wa9 := (SMwa9.out.cells _ _ l5).trans y2
                        have y3wa9 := (SMwa9.out.cells _ _ lgo).trans y3
                        clear hwa9 swa9
                        refine hK.out _ _ ⟨y1wa9, y2wa9, y3wa9⟩ (fun hHeld => ?_)
                        clear hK K
                        try simp only [Act.put, List.setIfInBounds_toArray, List.set_cons_zero, List.set_cons_succ]
                        refine wpAnyH_ready (rs := [15]) (by kernel_rfl) (by simp) ?_
                        refine AllReadyH.cons (o := ?oo31_0c) ?ho31_0c (fun K hK => ?st31_0c) ?more31_0c
                        case ho31_0c => simp only [List.getElem?_toArray, List.getElem?_cons_succ, List.getElem?_cons_zero]; rfl
                        case st31_0c =>
                          refine step_append_any _ rfl (.tmp 64) (.tmp 72) 55 rfl w5.heap.size 40 i0 _ 1 24 Tryz.underlying55 hi0 hiz0 hiz1 hiz2 rfl (by decide) (.slice (some ⟨wa8.heap.size, 0, none⟩) 0 0) 0 [] rfl (own_empty Bwa9.out lbwa9) w5.heap.size Ai tl tc XR rfl (HRD.out _ SMwa9.out) HX1.out (by simp only [maxLen]; omega) (by omega) SMwa9.out.size ?_
                          intro v1 wb10 hown1 hg1 hat1
                          rw [Nat.zero_add, List.nil_append] at hown1
                          obtain ⟨A1, c1, hv⟩ := own_val hown1
                          subst hv
                          have Owb10 := Lib.hid hown1
                          have swb10 : Same w5 wb10 := Below.grown SMwa9.out hg1 SMwa9.out.size (fun k hk => by simp [Value.ownBlock] at hk; have := lbwa9; omega)
                          have Bwb10 : Hid (Blk wb10 wd.heap.size 40 #[.slice Ar rn rc]) := Lib.hid (Bwa9N.out.grown hg1 (fun e => by simp [Value.ownBlock] at e; have := newa9; omega))
                          have SMwb10 : Hid (Same w5 wb10) := swb10
                          have y1wb10 := (SMwb10.out.cells _ _ l5).trans y1
                          have y2wb10 := (SMwb10.out.cells _ _ l5).trans y2
                          have y3wb10 := (SMwb10.out.cells _ _ lgo).trans y3
                          clear hown1 hg1 hat1 swb10
                          refine hK.out _ _ ⟨y1wb10, y2wb10, y3wb10⟩ (fun hHeld => ?_)
                          clear hK K
                          try simp only [Act.put, List.setIfInBounds_toArray, List.set_cons_zero, List.set_cons_succ]
                          refine wpAnyH_ready (rs := [22]) (by kernel_rfl) (by simp) ?_
                          refine AllReadyH.cons (o := ?oo32_0c) ?ho32_0c (fun K hK => ?st32_0c) ?more32_0c
                          case ho32_0c => simp only [List.getElem?_toArray, List.getElem?_cons_succ, List.getElem?_cons_zero]; rfl
                          case st32_0c =>
                            refine step_append_any _ rfl (.tmp 73) (.tmp 79) 55 rfl w5.heap.size 40 i0 _ 1 24 Tryz.underlying55 hi0 hiz0 hiz1 hiz2 rfl (by decide) (.slice A1 tl c1) tl XR rfl Owb10.out (wd.heap.size + 1) (some ⟨wd.heap.size, 0, none⟩) 1 1 [.slice Ar rn rc] rfl (reads_blk Bwb10.out) (by intro u hu; simp at hu; rw [hu]; rfl) (by simp only [maxLen]; omega) (by omega) SMwb10.out.size ?_
                            intro v2 wc11 hown2 hg2 hat2
                            obtain ⟨A2, c2, hv⟩ := own_val hown2
                            subst hv
                            have swc11 : Same w5 wc11 := Below.grown SMwb10.out hg2 SMwb10.out.size (fun k hk => (row_ty Owb10.out hk).1)
                            have HFIN := Lib.hid (HPY.out wc11 A2 c2 swc11 hown2)
                            have fz := HFZ.out wc11 swc11
                            have SMwc11 : Hid (Same w5 wc11) := swc11
                            have y1wc11 := (SMwc11.out.cells _ _ l5).trans y1
                            have y2wc11 := (SMwc11.out.cells _ _ l5).trans y2
                            have y3wc11 := (SMwc11.out.cells _ _ lgo).trans y3
                            clear hown2 hg2 hat2 swc11
                            refine hK.out _ _ ⟨y1wc11, y2wc11, y3wc11⟩ (fun hHeld => ?_)
                            clear hK K
                            try simp only [Act.put, List.setIfInBounds_toArray, List.set_cons_zero, List.set_cons_succ]
                            refine wpAnyH_take (i := 23) (oi := ?oi33c) (v := ?v33c) ?hi33c (by kernel_rfl) (by kernel_rfl) (by kernel_rfl) ?hQ33c (Or.inl ⟨?hw33c, ?hy33c⟩) hHeld ?rest33c
                            case hi33c => simp only [List.getElem?_toArray, List.getElem?_cons_succ, List.getElem?_cons_zero]; rfl
                            case hQ33c => exact fun _ _ _ h => h
                            case hw33c => rfl
                            case hy33c =>
                              intro w' hSw
                              obtain ⟨y1z, y2z, y3z⟩ := hSw
                              go_simp
                              try with_reducible rfl
                            try simp only [Act.put, List.setIfInBounds_toArray, List.set_cons_zero, List.set_cons_succ]
                            refine wpAnyH_done (by kernel_rfl) ?_ _
                            refine lastQ_of (o := ?oz34c) ?hz34c ?gz34c ?sz34c
                            case hz34c => simp only [List.getElem?_toArray, List.getElem?_cons_succ, List.getElem?_cons_zero]; rfl
                            case gz34c => rfl
                            intro K hK
                            go_simp
                            refine hK.out _ _ ?_
                            clear hK K
                            try simp only [Act.put, List.setIfInBounds_toArray, List.set_cons_zero, List.set_cons_succ]
                            go_wp2_with (fail)
                            go_roundw
                            case rel =>
                              first
                                | exact ⟨q + 1, M.put (N : Int) row, _, by omega, by go_num, HFIN⟩
                                | exact ⟨q + 1, by omega, by go_num, M.put (N : Int) row, _, HFIN⟩
                                | exact ⟨q + 1, by omega, ⟨by go_num, M.put (N : Int) row, _, HFIN⟩⟩
                            case measure => simp [intOf]; omega
                          case more32_0c =>
                            exact AllReadyH.nil
                        case more31_0c =>
                          exact AllReadyH.nil
                      case more30_0c =>
                        exact AllReadyH.nil
                    case more20_1c =>
                      exact AllReadyH.nil
        · go_wp2_with (fail)
          show POST (Ending.returned (.slice Ah tbs.length ch)) wr
          rw [HP.out]
          exact ⟨Ah, ch, M, hj, tb, rfl, D.out.more (by omega)⟩
end Go.Proofs.YtpakimhhpeaefaaGreatDoor

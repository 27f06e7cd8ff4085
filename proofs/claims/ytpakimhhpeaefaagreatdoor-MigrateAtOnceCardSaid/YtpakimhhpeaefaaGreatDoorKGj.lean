/- migrate.Step: contract. Conditions: none. -/
import Derived.Test.YtpakimhhpeaefaaGreatDoorKGf
import Derived.WalkMore
set_option linter.unusedSimpArgs false
set_option linter.unusedVariables false
namespace Go.Proofs.YtpakimhhpeaefaaGreatDoor
open Go.RowKit

/-- A migration somewhere behind a world, at its pointer. -/
def Went (w w' : World) (p : MH) (m' : Mg) : Prop := MTurn w w' p m'
theorem step_closed {w : World} {p : MH} {m : Mg} (d : MgAt w p m) (n : Int) (hc : m.closed = true) :
    Calls Tryz.prog 14 #[.pointer (some ⟨p.g, 0, none⟩), .int .i64 n] w fun e w' => e = .returned (.tuple #[.int .i64 0, .int .i64 22]) ∧ w = w' := by
  have HU := Lib.hid (usable_ok d)
  have e : m.abE = 22 := by unfold Mg.abE; rw [if_pos hc]
  rw [e] at HU
  obtain ⟨g, hg⟩ : ∃ g, g = p.g := ⟨_, rfl⟩
  rw [← hg] at HU ⊢
  clear e d hc hg
  go_enter Tryz.func14, Tryz.ntmps14
  go_wp2_with (fail)
  go_step3
  go_wp2_with (fail)
  refine HU.out.mono ?_
  rintro e w' ⟨rfl, rfl⟩
  go_wp2_with (fail)
  try rw [Exit.noGoto_ret]
  go_ret2
  exact ⟨rfl, rfl⟩
theorem step_none (w : World) (n : Int) :
    Calls Tryz.prog 14 #[.pointer none, .int .i64 n] w fun e w' => e = .returned (.tuple #[.int .i64 0, .int .i64 1]) ∧ w = w' := by
  go_enter Tryz.func14, Tryz.ntmps14
  go_wp2_with (fail)
  go_step3
  go_wp2_with (fail)
  refine (usable_none w).mono ?_
  rintro e w' ⟨rfl, rfl⟩
  go_wp2_with (fail)
  try rw [Exit.noGoto_ret]
  go_ret2
  exact ⟨rfl, rfl⟩
theorem Tryz.infoVals : (Tryz.prog.info? 40).map (fun i => (i.zero, i.size, i.bytes)) = some (some (.slice none 0 0), 1, 24) := by kernel_rfl
set_option maxHeartbeats 8000000 in
set_option maxRecDepth 100000 in
theorem step_open {w : World} {p : MH} {m : Mg} (d : MgAt w p m) (n : Int) (hc : m.closed = false) (hb : m.rows.length ≤ 1000000) (hn1 : -9223372036854775808 ≤ n) (hn2 : n ≤ 9223372036854775807) :
    Calls Tryz.prog 14 #[.pointer (some ⟨p.g, 0, none⟩), .int .i64 n] w fun e w' => e = .returned (.tuple #[.int .i64 ((m.steps (m.count n)).left : Int), .int .i64 (if (m.steps (m.count n)).failed then 15 else 0)]) ∧ MTurn w w' p (m.steps (m.count n)) := by
  obtain ⟨i0, hi0, hiz0, hiz1, hiz2⟩ := info_parts Tryz.infoVals
  have HU := Lib.hid (usable_ok d)
  have e : m.abE = 0 := by unfold Mg.abE; rw [if_neg (by rw [hc]; simp)]
  rw [e] at HU
  have HLF := Lib.hid (left_ok d)
  have hlb : m.left ≤ 1000000 := by unfold Mg.left; omega
  obtain ⟨cnt, hcnt⟩ : ∃ cnt, cnt = m.count n := ⟨_, rfl⟩
  have HCN : Hid (cnt = min (max n 0).toNat m.left) := hcnt
  have hcl : cnt ≤ m.left := by rw [hcnt]; exact m.count_le n
  rw [← hcnt]
  obtain ⟨lf, hlf⟩ : ∃ lf, lf = m.left := ⟨_, rfl⟩
  have HB := Lib.hid hb
  have HD := Lib.hid d
  obtain ⟨g, hg⟩ : ∃ g, g = p.g := ⟨_, rfl⟩
  rw [← hg] at HU HLF ⊢
  rw [← hlf] at HLF HCN hlb hcl
  have HG := Lib.hid hg
  have HLE := Lib.hid hlf
  have FIN : Hid (∀ w', MTurn w w' p (m.steps cnt) → ∀ lv fv, lv = ((m.steps cnt).left : Int) → fv = (if (m.steps cnt).failed then (15 : Int) else 0) → Ending.returned (.tuple #[.int .i64 lv, .int .i64 fv]) = .returned (.tuple #[.int .i64 ((m.steps cnt).left : Int), .int .i64 (if (m.steps cnt).failed then 15 else 0)]) ∧ MTurn w w' p (m.steps cnt)) := fun w' t lv fv h1 h2 => ⟨by rw [h1, h2], t⟩
  obtain ⟨POST, hPOST⟩ : ∃ POST : Ending → World → Prop, POST = fun e w' => e = .returned (.tuple #[.int .i64 ((m.steps cnt).left : Int), .int .i64 (if (m.steps cnt).failed then 15 else 0)]) ∧ MTurn w w' p (m.steps cnt) := ⟨_, rfl⟩
  have HP := Lib.hid hPOST
  rw [← hPOST]
  clear e d hc hb hg hlf hcnt hPOST
  go_enter Tryz.func14, Tryz.ntmps14
  go_wp2_with (fail)
  go_step3
  go_wp2_with (fail)
  refine HU.out.mono ?_
  rintro e w' ⟨rfl, rfl⟩
  go_wp2_with (fail)
  go_step3
  go_upto_region 4 with (fail)
  go_cut [18, 19] (fun v i wx => v = .int .i64 (cnt : Int) ∧ i = .int .i64 0 ∧ Hid (Same w wx))
  case first =>
    go_wp2_with (refine HLF.out.mono ?_; rintro e w0 ⟨rfl, s0⟩; have S0 := Lib.hid s0; clear s0)
    all_goals go_meet
    all_goals exact ⟨congrArg (Value.int IntKind.i64) (by have := HCN.out; omega), rfl, S0⟩
  case rest =>
    obtain ⟨rfl, rfl, S0⟩ := hcut
    obtain ⟨w0, rfl⟩ : ∃ w0 : World, w0 = wc := ⟨_, rfl⟩
    have HT0 : Hid (MTurn w w0 p (m.steps 0)) := Lib.hid (MTurn.same HD.out S0.out)
    clear S0 HU HLF
    go_wp2_with (fail)
    go_loopw [19] (fun i wr => ∃ j : Nat, j ≤ cnt ∧ i = .int .i64 j ∧ Hid (MTurn w wr p (m.steps j))) (fun i _ => cnt - (intOf i).toNat)
    case atStart => exact ⟨0, Nat.zero_le _, rfl, HT0⟩
    case round =>
      obtain ⟨j, hj, rfl, T⟩ := hrel
      obtain ⟨p1, d1, hg1, hW1, hB1, c1, o1⟩ := T.out
      have D1 := Lib.hid d1
      have PT : Hid (p1.g = p.g ∧ p1.W0 = p.W0 ∧ MH.Like p1 p ∧ Chg p.own w wr ∧ ∀ k, p1.own k → p.own k ∨ w.heap.size ≤ k) := ⟨hg1, hW1, hB1, c1, o1⟩
      have EG : Hid (p1.g = g) := hg1.trans HG.out.symm
      obtain ⟨m1, hm1⟩ : ∃ m1, m1 = m.steps j := ⟨_, rfl⟩
      rw [← hm1] at D1
      have HM1 := Lib.hid hm1
      have k6 : wr.cell? ⟨g, 6, none⟩ = some (.bool m1.failed) := by have := D1.out.cell 6; rw [EG.out] at this; exact this
      have f6 : wr.frozen? ⟨g, 6, none⟩ = false := by have := D1.out.blk.frozen 6; rw [EG.out] at this; exact this
      have lg : g < wr.heap.size := by have := D1.out.blk.lt; rw [EG.out] at this; exact this
      have HLF : Hid (∀ W, Same wr W → Calls Tryz.prog 50 #[.pointer (some ⟨g, 0, none⟩)] W fun e w' => e = .returned (.int .i64 (m1.left : Int)) ∧ Same W w') := Lib.hid fun W s => by
        have h := left_ok (D1.out.next s)
        rw [EG.out] at h
        exact h
      have TS : Hid (∀ W, Same wr W → MTurn w W p m1) := Lib.hid fun W s => MTurn.trans hg1 hW1 hB1 c1 o1 (MTurn.same D1.out s)
      clear d1 hg1 hW1 hB1 c1 o1 hm1 T
      by_cases hlt : j < cnt
      case neg =>
        have ej : j = cnt := by omega
        have HE : Hid (m.steps cnt = m1) := by rw [← ej]; exact Lib.hid HM1.out.symm
        clear ej
        obtain ⟨lv, hlv⟩ : ∃ lv, lv = m1.left := ⟨_, rfl⟩
        rw [← hlv] at HLF
        have HLV := Lib.hid hlv
        clear hlv
        cases hf : m1.failed with
        | true =>
          rw [hf] at k6
          have HFV := Lib.hid hf
          clear hf
          go_wp2_with (fail)
          refine (HLF.out _ (Same.refl _)).mono ?_
          rintro e w2 ⟨rfl, s2⟩
          have S2 := Lib.hid s2
          clear s2 k6 f6 lg
          go_wp2_with (fail)
          show POST (Ending.returned (.tuple #[.int .i64 (lv : Int), .int .i64 15])) w2
          rw [HP.out]
          refine FIN.out _ ?_ _ _ ?_ ?_
          · rw [HE.out]; exact TS.out _ S2.out
          · rw [HE.out, HLV.out]
          · rw [HE.out, HFV.out]; rfl
        | false =>
          rw [hf] at k6
          have HFV := Lib.hid hf
          clear hf
          go_wp2_with (fail)
          refine (HLF.out _ (Same.refl _)).mono ?_
          rintro e w2 ⟨rfl, s2⟩
          have S2 := Lib.hid s2
          clear s2 k6 f6 lg
          go_wp2_with (fail)
          show POST (Ending.returned (.tuple #[.int .i64 (lv : Int), .int .i64 0])) w2
          rw [HP.out]
          refine FIN.out _ ?_ _ _ ?_ ?_
          · rw [HE.out]; exact TS.out _ S2.out
          · rw [HE.out, HLV.out]
          · rw [HE.out, HFV.out]; rfl
      cases hf : m1.failed with
      | true =>
        have HE : Hid (m.steps cnt = m1) := by
          rw [HM1.out]
          exact Lib.hid (Mg.steps_stop hj (by rw [← HM1.out]; exact hf))
        obtain ⟨lv, hlv⟩ : ∃ lv, lv = m1.left := ⟨_, rfl⟩
        rw [← hlv] at HLF
        have HLV := Lib.hid hlv
        rw [hf] at k6
        have HFV := Lib.hid hf
        clear hf hlv
        go_wp2_with (fail)
        refine (HLF.out _ (Same.refl _)).mono ?_
        rintro e w2 ⟨rfl, s2⟩
        have S2 := Lib.hid s2
        clear s2 k6 f6 lg
        go_wp2_with (fail)
        show POST (Ending.returned (.tuple #[.int .i64 (lv : Int), .int .i64 15])) w2
        rw [HP.out]
        refine FIN.out _ ?_ _ _ ?_ ?_
        · rw [HE.out]; exact TS.out _ S2.out
        · rw [HE.out, HLV.out]
        · rw [HE.out, HFV.out]; rfl
      | false =>
        rw [hf] at k6
        have HFV := Lib.hid hf
        have hl : m1.done.length < m1.rows.length := by
          have h1 := (Mg.steps_left j m HD.out.fine (by have := HLE.out; omega)).2.2 (by rw [← HM1.out]; exact hf)
          have h2 := HLE.out
          rw [← HM1.out] at h1
          unfold Mg.left at h1 h2
          omega
        clear hf HLF
        obtain ⟨go, oc, tn, gi, ic, rl, dl, dc, rn, rc, Ad, Ar, ⟨k2, k3, k4, k5⟩, ⟨k7, k8⟩, ⟨b1, b2, b3, b4⟩, hhd, hdl, hdm, hin⟩ := D1.out.round hl
        rw [EG.out] at k2 k3 k4 k5
        have k5' : wr.cell? ⟨g, 5, none⟩ = some (.func (.func 47) #[] #[.pointer (some ⟨p1.gs, 0, none⟩), .pointer (some ⟨p1.gc, 0, none⟩), .pointer (some ⟨p1.gm, 0, none⟩)]) := k5
        have HHD := Lib.hid (And.intro hhd (And.intro hdl hdm))
        have HIN := Lib.hid hin
        have HL := Lib.hid hl
        have hrlen : (m1.rows[m1.done.length]).length ≤ 12 := D1.out.row_len (List.getElem_mem hl)
        have HC := Lib.hid (fun W (s : Same wr W) => conv1_ok (D1.out.next s) (hr := ⟨Ar, rn, rc⟩) (row := m1.rows[m1.done.length]) (hin.1.same s) (by omega))
        obtain ⟨ti, hti⟩ : ∃ ti, ti = m1.ti := ⟨_, rfl⟩
        rw [← hti] at k2 k7 b1 HC
        obtain ⟨cv, hcv⟩ : ∃ cv, cv = convS m1.s m1.c ti m1.rows[m1.done.length] := ⟨_, rfl⟩
        rw [← hcv] at HC
        have HCV : Hid (cv = convS m1.s m1.c m1.ti m1.rows[m1.done.length]) := by rw [← hti]; exact hcv
        obtain ⟨E, hE⟩ : ∃ E, E = cv.2 := ⟨_, rfl⟩
        rw [← hE] at HC
        have HE2 := Lib.hid hE
        obtain ⟨gs, hgs⟩ : ∃ gs, gs = p1.gs := ⟨_, rfl⟩
        obtain ⟨gc, hgc⟩ : ∃ gc, gc = p1.gc := ⟨_, rfl⟩
        obtain ⟨gm, hgm⟩ : ∃ gm, gm = p1.gm := ⟨_, rfl⟩
        rw [← hgs, ← hgc, ← hgm] at k5' HC
        have HC' : Hid (∀ W, Same wr W → Calls Tryz.prog 47 #[.slice Ar rn rc, .pointer (some ⟨gs, 0, none⟩), .pointer (some ⟨gc, 0, none⟩), .pointer (some ⟨gm, 0, none⟩)] W fun e w' => ∃ A' n' c', e = .returned (.tuple #[.slice A' n' c', .int .i64 E]) ∧ (RowAt w' ⟨A', n', c'⟩ cv.1 ∧ Fresh wr.heap.size ⟨A', n', c'⟩) ∧ Same W w') := Lib.hid fun W s => by
          refine (HC.out W s).mono ?_
          rintro e w' ⟨A', n', c', he, ⟨h1, h2⟩, h3⟩
          exact ⟨A', n', c', he, ⟨h1, fun a ha => Nat.le_trans s.size (h2 a ha)⟩, h3⟩
        have l2 := World.block_lt_of_cell? wr _ k7
        have l3 := World.block_lt_of_cell? wr _ k8
        have l2' : go < wr.heap.size := l2
        have l3' : gi < wr.heap.size := l3
        have ti0 : (0 : Int) ≤ (ti : Int) := by omega
        have tiI : (ti : Int) < (tn : Int) := by omega
        have dl0 : (0 : Int) ≤ (dl : Int) := by omega
        have dlI : (dl : Int) < (rl : Int) := by omega
        clear k5 hhd hdl hdm hin hrlen hti hcv hE hgs hgc hgm l2 l3 HC
        have HOD : Hid (∀ W (o : Obj), Same wr W → (W.alloc o).ownsRow p1.B 40 1 (.slice Ad dl dc) dl (p1.dr.flatMap Rw.cell)) := Lib.hid fun W o s => by
          have h := (own_same s D1.out.od).alloc o
          rw [HHD.out.1, ← HHD.out.2.1] at h
          exact h
        have HG4 := Lib.hid (fun (W : World) (o : Obj) (w2 : World) (s : Same wr W) (G : (W.alloc o).grownBy w2 (Value.slice Ad dl dc).ownBlock) => D1.out.done_cell HHD.out.1 W o w2 s G)
        have HPB : Hid (∀ W, Same wr W → p1.B ≤ W.heap.size) := Lib.hid fun W s => by
          have h1 := D1.out.st.gB
          have h2 := D1.out.blk.lt
          have h3 := s.size
          omega
        have hdb : dl ≤ 1000000 := by
          have h1 := HHD.out.2.2
          have h2 := HB.out
          have h3 : m1.rows = m.rows := by rw [HM1.out]; exact Mg.steps_rows j m
          rw [h3] at hl
          omega
        obtain ⟨BB, hBB⟩ : ∃ BB, BB = p1.B := ⟨_, rfl⟩
        obtain ⟨XS, hXS⟩ : ∃ XS, XS = p1.dr.flatMap Rw.cell := ⟨_, rfl⟩
        rw [← hBB, ← hXS] at HOD
        rw [← hBB] at HPB
        rw [EG.out] at HG4
        have HBX := Lib.hid (And.intro hBB hXS)
        have HPU := Lib.hid (fun (w1 w2 : World) (s1 : Same wr w1) (hz : cv.2 = 0) (A' : Option Addr) (n' c' : Nat) (R : RowAt w1 ⟨A', n', c'⟩ cv.1) (F : Fresh wr.heap.size ⟨A', n', c'⟩) (o : Obj) (A2 : Option Addr) (n2 c2 : Nat) (G : (w1.alloc o).grownBy w2 (Value.slice Ad dl dc).ownBlock) (own : w2.ownsRow p1.B 40 1 (.slice A2 n2 c2) (dl + 1) (p1.dr.flatMap Rw.cell ++ [.slice A' n' c'])) (hat : (Value.slice A2 n2 c2).ownBlock = (Value.slice Ad dl dc).ownBlock ∨ (Value.slice A2 n2 c2).ownBlock = some (w1.alloc o).heap.size) => D1.out.push' HFV.out HL.out s1 HCV.out hz R F HHD.out.1 HHD.out.2.1 G own hat)
        have HFA := Lib.hid (fun (w1 : World) (s1 : Same wr w1) (hz : cv.2 ≠ 0) => D1.out.fail' HFV.out HL.out s1 HCV.out hz)
        rw [EG.out] at HPU HFA
        clear hBB hXS
        by_cases hz : E = 0
        case neg =>
          have tE : (E != 0) = true := by simp; exact hz
          have HZ : Hid (cv.2 ≠ 0) := by rw [← HE2.out]; exact Lib.hid hz
          clear hz HOD HG4 HPB hdb HPU
          go_wp2_with (fail)
          go_region_held3 (fun w' => w'.cell? ⟨g, 2, none⟩ = some (.int .i64 ti) ∧ w'.cell? ⟨g, 3, none⟩ = some (.slice (some ⟨go, 0, none⟩) tn oc) ∧ w'.cell? ⟨g, 4, none⟩ = some (.slice Ad dl dc) ∧ w'.cell? ⟨g, 5, none⟩ = some (.func (.func 47) #[] #[.pointer (some ⟨gs, 0, none⟩), .pointer (some ⟨gc, 0, none⟩), .pointer (some ⟨gm, 0, none⟩)]) ∧ w'.cell? ⟨go, ti, none⟩ = some (.slice (some ⟨gi, 0, none⟩) rl ic) ∧ w'.cell? ⟨gi, dl, none⟩ = some (.slice Ar rn rc)) (first | (simp [*]; done) | ((repeat' apply And.intro) <;> (first | assumption | go_keep)))
            ((refine (HC'.out _ ?_).mono ?_; exact (Same.refl wr).drew; rintro e w1 ⟨A', n', c', rfl, hR, s1⟩; have S1 : Hid (Same wr w1) := Same.trans ((Same.refl wr).drew) s1; have u2 := (S1.out.cells _ 2 lg).trans k2; have u3 := (S1.out.cells _ 3 lg).trans k3; have u4 := (S1.out.cells _ 4 lg).trans k4; have u5 := (S1.out.cells _ 5 lg).trans k5'; have u6 := (S1.out.cells _ 6 lg).trans k6; have v6 := (S1.out.frees _ 6 lg).trans f6; have u7 := (S1.out.cells _ ti l2').trans k7; have u8 := (S1.out.cells _ dl l3').trans k8; clear s1 hR))
          all_goals
            have D2 := Lib.hid (HFA.out w1 S1.out HZ.out)
            have HLF := Lib.hid (left_ok D2.out.1)
            rw [EG.out] at HLF
            obtain ⟨lv, hlv⟩ : ∃ lv, lv = m1.one.left := ⟨_, rfl⟩
            rw [← hlv] at HLF
            have HLV := Lib.hid hlv
            clear hlv k2 k3 k4 k5' k6 f6 lg k7 k8
            go_wp2_with (fail)
            refine HLF.out.mono ?_
            rintro e w3 ⟨rfl, s3⟩
            have S3 := Lib.hid s3
            clear s3
            go_wp2_with (fail)
            show POST (Ending.returned (.tuple #[.int .i64 (lv : Int), .int .i64 15])) w3
            have HE : m.steps cnt = m1.one := by
              have h1 : m.steps (j + 1) = m1.one := by rw [Mg.steps_succ, ← HM1.out]
              rw [← h1]
              exact Mg.steps_stop (by omega) (by rw [h1]; exact D2.out.2.2.1)
            rw [HP.out]
            refine FIN.out _ ?_ _ _ ?_ ?_
            · rw [HE]
              exact MTurn.then_ PT.out.1 PT.out.2.1 PT.out.2.2.1 PT.out.2.2.2.1 PT.out.2.2.2.2 (D2.out.1.next S3.out) rfl rfl (MH.Like.refl _) (D2.out.2.1.then_same S3.out) (fun _ hk => .inl hk)
            · rw [HE, HLV.out]
            · rw [HE, D2.out.2.2.1]; rfl
        case pos =>
          subst hz
          have HZ : Hid (cv.2 = 0) := Lib.hid HE2.out.symm
          clear HFA
          go_wp2_with (fail)
          go_region_held3 (fun w' => w'.cell? ⟨g, 2, none⟩ = some (.int .i64 ti) ∧ w'.cell? ⟨g, 3, none⟩ = some (.slice (some ⟨go, 0, none⟩) tn oc) ∧ w'.cell? ⟨g, 4, none⟩ = some (.slice Ad dl dc) ∧ w'.cell? ⟨g, 5, none⟩ = some (.func (.func 47) #[] #[.pointer (some ⟨gs, 0, none⟩), .pointer (some ⟨gc, 0, none⟩), .pointer (some ⟨gm, 0, none⟩)]) ∧ w'.cell? ⟨go, ti, none⟩ = some (.slice (some ⟨gi, 0, none⟩) rl ic) ∧ w'.cell? ⟨gi, dl, none⟩ = some (.slice Ar rn rc)) (first | (simp [*]; done) | ((repeat' apply And.intro) <;> (first | assumption | go_keep)))
            ((refine (HC'.out _ ?_).mono ?_; exact (Same.refl wr).drew; rintro e w1 ⟨A', n', c', rfl, hR, s1⟩; have S1 : Hid (Same wr w1) := Same.trans ((Same.refl wr).drew) s1; have u2 := (S1.out.cells _ 2 lg).trans k2; have u3 := (S1.out.cells _ 3 lg).trans k3; have u4 := (S1.out.cells _ 4 lg).trans k4; have u5 := (S1.out.cells _ 5 lg).trans k5'; have u7 := (S1.out.cells _ ti l2').trans k7; have u8 := (S1.out.cells _ dl l3').trans k8; have RR := Lib.hid hR; clear s1 hR))
          all_goals
            have l1g : g < w1.heap.size := Nat.lt_of_lt_of_le lg S1.out.size
            have OD := Lib.hid (HOD.out w1 (.cells #[.slice A' n' c'] 40) S1.out)
            have G4 := Lib.hid (fun w2 => HG4.out w1 (.cells #[.slice A' n' c'] 40) w2 S1.out)
            have PB1 := HPB.out w1 S1.out
            clear k2 k3 k4 k5' k6 f6 lg k7 k8 u2 u3 u5 u7 u8
            go_wp2_with (at_builtin; refine wpList_append_any _ rfl (.tmp 59) (.tmp 61) 55 rfl BB 40 i0 _ 1 24 Tryz.underlying55 hi0 hiz0 hiz1 hiz2 rfl (by decide) (.slice Ad dl dc) dl XS rfl OD.out (w1.heap.size + 1) (some ⟨w1.heap.size, 0, none⟩) 1 1 [.slice A' n' c'] rfl (reads_new w1 _ _) (by intro u hu; simp at hu; rw [hu]; rfl) (by simp only [maxLen]; omega) (by omega) (by simp; omega) ?_; intro v1 w2 hown1 hg1 hat1; obtain ⟨A2, c2, hv⟩ := own_val hown1; subst hv; have g4 := (G4.out w2 hg1).1; have f4 := (G4.out w2 hg1).2; have P2 := Lib.hid (And.intro hown1 (And.intro hg1 hat1)); clear hown1 hg1 hat1)
            go_roundw
            case rel =>
              refine ⟨j + 1, by omega, by go_num, ?_⟩
              obtain ⟨p2, d2, e1, e2, e3, c2', o2⟩ := HPU.out w1 w2 S1.out HZ.out A' n' c' RR.out.1 RR.out.2 _ A2 (dl + 1) c2 P2.out.2.1 (by rw [← HBX.out.1, ← HBX.out.2]; exact P2.out.1) P2.out.2.2
              have h1 : m.steps (j + 1) = m1.one := by rw [Mg.steps_succ, ← HM1.out]
              rw [h1]
              exact MTurn.then_ PT.out.1 PT.out.2.1 PT.out.2.2.1 PT.out.2.2.2.1 PT.out.2.2.2.2 d2 (e1.trans EG.out.symm) e2 e3 c2' o2
            case measure => simp [intOf]; omega
theorem step_ok {w : World} {p : MH} {m : Mg} (d : MgAt w p m) (n : Int) (hb : m.rows.length ≤ 1000000) (hn1 : -9223372036854775808 ≤ n) (hn2 : n ≤ 9223372036854775807) :
    Calls Tryz.prog 14 #[.pointer (some ⟨p.g, 0, none⟩), .int .i64 n] w fun e w' => e = .returned (.tuple #[.int .i64 (m.stepN n), .int .i64 (m.stepE n)]) ∧ MTurn w w' p (m.step n) := by
  cases hc : m.closed with
  | true =>
    refine (step_closed d n hc).mono ?_
    rintro e w' ⟨he, rfl⟩
    have e1 : m.step n = m := by unfold Mg.step; rw [if_pos hc]
    refine ⟨?_, by rw [e1]; exact MTurn.same d (Same.refl _)⟩
    rw [he]
    unfold Mg.stepN Mg.stepE
    rw [if_pos hc, if_pos hc]
    rfl
  | false =>
    refine (step_open d n hc hb hn1 hn2).mono ?_
    rintro e w' ⟨he, t⟩
    have h : ¬ m.closed = true := by rw [hc]; simp
    have e1 : m.step n = m.steps (m.count n) := by unfold Mg.step; rw [if_neg h]
    refine ⟨?_, by rw [e1]; exact t⟩
    rw [he]
    unfold Mg.stepN Mg.stepE
    rw [if_neg h, if_neg h, e1]
end Go.Proofs.YtpakimhhpeaefaaGreatDoor

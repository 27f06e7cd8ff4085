/- How few and short: cleanseref43's Short and Few: contracts. Conditions: none. | Operations on a migration, in memory; the law's small: contract. Conditions: none. -/
import Derived.Test.YtpakimhhpeaefaaGreatDoorKGa
import Derived.Test.YtpakimhhpeaefaaGreatDoorKRc
set_option linter.unusedSimpArgs false
set_option linter.unusedVariables false
namespace Go.Proofs.YtpakimhhpeaefaaGreatDoor
open Go.RowKit

def shortV (v : V) : Bool := decide (v.s.size ≤ 300)
def shortB (row : Row) : Bool := row.all shortV && decide (row.length ≤ 20)
def fewRows (rows : List Row) : Bool := decide (rows.length ≤ 20) && rows.all shortB
def fewB (tabs : List (List Row)) : Bool := decide (tabs.length ≤ 6) && tabs.all fewRows
theorem all_bad {α : Type} {p : α → Bool} {l : List α} (k : Nat) (hk : k < l.length) (h : p l[k] = false) : l.all p = false := by
  cases ha : l.all p with
  | false => rfl
  | true =>
    rw [List.all_eq_true] at ha
    rw [ha _ (List.getElem_mem hk)] at h; cases h
theorem all_good {α : Type} {p : α → Bool} {l : List α} (h : ∀ j (hj : j < l.length), p l[j] = true) : l.all p = true := by
  rw [List.all_eq_true]
  intro x hx
  obtain ⟨j, hj, rfl⟩ := List.mem_iff_getElem.1 hx
  exact h j hj
theorem all_step {α : Type} {p : α → Bool} {l : List α} {k : Nat} (hk : k < l.length) (hq : p l[k] = true) (h : ∀ j (hj : j < l.length), j < k → p l[j] = true) : ∀ j (hj : j < l.length), j < k + 1 → p l[j] = true := by
  intro j hj h2
  by_cases e : j = k
  · subst e; exact hq
  · exact h j hj (by omega)
set_option maxHeartbeats 1000000 in
theorem short_ok (h : Hd) (row : Row) (w : World) (a : RowAt w h row) :
    Calls Tryz.prog 44 #[h.val] w fun e w' => e = .returned (.bool (shortB row)) ∧ w = w' := by
  have hl : row.length = h.n := a.1.1
  have hb : h.n ≤ 9223372036854775807 := a.1.2.1
  obtain ⟨A, n, c⟩ := h
  simp only at hl hb
  subst hl
  have HL := Lib.hid a
  clear a
  show Calls Tryz.prog 44 #[.slice A row.length c] w _
  go_enter Tryz.func44, Tryz.ntmps44
  go_wp2
  go_loop [3] (fun i => ∃ k : Nat, k ≤ row.length ∧ i = .int .i64 k ∧ Hid (∀ j (hj : j < row.length), j < k → shortV row[j] = true)) (fun i => row.length - (intOf i).toNat)
  case atStart => exact ⟨0, Nat.zero_le _, rfl, fun j _ hj => absurd hj (Nat.not_lt_zero _)⟩
  case round =>
    obtain ⟨k, hk, rfl, N⟩ := hrel
    by_cases hlt : k < row.length
    · obtain ⟨b, off, hA, blt, hc⟩ := HL.out.1.2.2 k hlt
      have hA' : A = some ⟨b, off, none⟩ := hA
      have hsz : okS row[k].s := HL.out.2 _ (List.getElem_mem hlt)
      obtain ⟨v, hv⟩ : ∃ v, v = row[k] := ⟨_, rfl⟩
      rw [← hv] at hc hsz
      have HV := Lib.hid hv
      clear hv hA
      obtain ⟨v0, v1, v2⟩ := v
      have c2 := hc 2 (.string v2) rfl
      have hsz' : v2.size ≤ 9223372036854775807 := hsz
      clear hc hsz
      subst hA'
      by_cases hq : v2.size ≤ 300
      · have hq2 : decide (300 < v2.size) = false := decide_eq_false (by omega)
        have hq3 : decide ((300 : Int) < (v2.size : Int)) = false := decide_eq_false (by omega)
        have HQ : Hid (shortV row[k] = true) := by rw [← HV.out]; exact Lib.hid (decide_eq_true hq)
        clear hq
        go_wp2
        go_round
        case rel => exact ⟨k + 1, by omega, by go_num, all_step hlt HQ.out N.out⟩
        case measure => simp [intOf]; omega
      · have hq2 : decide (300 < v2.size) = true := decide_eq_true (by omega)
        have hq3 : decide ((300 : Int) < (v2.size : Int)) = true := decide_eq_true (by omega)
        have HQ : Hid (shortV row[k] = false) := by rw [← HV.out]; exact Lib.hid (decide_eq_false hq)
        clear hq
        go_wp2
        go_ret
        refine ⟨ret_bool ?_, rfl⟩
        unfold shortB
        rw [all_bad k hlt HQ.out]; rfl
    · have HQ : Hid (row.all shortV = true) := Lib.hid (all_good fun j hj => N.out j hj (by omega))
      by_cases h20 : row.length ≤ 20
      · have t1 : decide (row.length ≤ 20) = true := decide_eq_true h20
        have t2 : decide ((row.length : Int) ≤ 20) = true := decide_eq_true (by omega)
        have HE : Hid (shortB row = true) := by show _ = _; unfold shortB; rw [HQ.out, t1]; rfl
        clear h20
        go_wp2
        go_ret
        exact ⟨ret_bool HE.out.symm, rfl⟩
      · have t1 : decide (row.length ≤ 20) = false := decide_eq_false h20
        have t2 : decide ((row.length : Int) ≤ 20) = false := decide_eq_false (by omega)
        have HE : Hid (shortB row = false) := by show _ = _; unfold shortB; rw [HQ.out, t1]; rfl
        clear h20
        go_wp2
        go_ret
        exact ⟨ret_bool HE.out.symm, rfl⟩
set_option maxHeartbeats 2000000 in
set_option maxRecDepth 100000 in
theorem few_ok {K : Nat → Prop} (h : Hd) (ts : List Tbl) (w : World) (a : TablesAt w K h ts) :
    Calls Tryz.prog 43 #[h.val] w fun e w' => e = .returned (.bool (fewB (rowsOf ts))) ∧ w = w' := by
  have hl : ts.length = h.n := a.1.1
  have hb : h.n ≤ 9223372036854775807 := a.1.2.1
  obtain ⟨A, n, c⟩ := h
  simp only at hl hb
  subst hl
  have HL := Lib.hid a
  have hm : (rowsOf ts).length = ts.length := by simp [rowsOf]
  have HM := Lib.hid hm
  clear a hm
  show Calls Tryz.prog 43 #[.slice A ts.length c] w _
  by_cases h6 : ts.length ≤ 6
  case neg =>
    have t1 : decide (6 < ts.length) = true := decide_eq_true (by omega)
    have t2 : decide ((6 : Int) < (ts.length : Int)) = true := decide_eq_true (by omega)
    have HE : Hid (fewB (rowsOf ts) = false) := by show _ = _; unfold fewB; rw [HM.out, decide_eq_false h6]; rfl
    clear h6
    go_enter Tryz.func43, Tryz.ntmps43
    go_wp2
    go_ret
    exact ⟨ret_bool HE.out.symm, rfl⟩
  have t1 : decide (6 < ts.length) = false := decide_eq_false (by omega)
  have t2 : decide ((6 : Int) < (ts.length : Int)) = false := decide_eq_false (by omega)
  have H6 : Hid (decide ((rowsOf ts).length ≤ 6) = true) := by rw [HM.out]; exact Lib.hid (decide_eq_true h6)
  clear h6
  go_enter Tryz.func43, Tryz.ntmps43
  go_wp2
  clear t1 t2
  go_loop [3] (fun i => ∃ k : Nat, k ≤ ts.length ∧ i = .int .i64 k ∧ Hid (∀ j (hj : j < (rowsOf ts).length), j < k → fewRows (rowsOf ts)[j] = true)) (fun i => ts.length - (intOf i).toNat)
  case atStart => exact ⟨0, Nat.zero_le _, rfl, fun j _ hj => absurd hj (Nat.not_lt_zero _)⟩
  case round =>
    obtain ⟨k, hk, rfl, N⟩ := hrel
    by_cases hlt : k < ts.length
    · obtain ⟨b, off, hA, blt, c0⟩ := HL.out.1.one k hlt (v := ts[k].h.val) rfl
      have hA' : A = some ⟨b, off, none⟩ := hA
      have HR : Hid (RowsAt w K ts[k]) := HL.out.2.2 _ (List.getElem_mem hlt)
      have hkm : k < (rowsOf ts).length := by rw [HM.out]; exact hlt
      have HE2 : Hid ((rowsOf ts)[k] = ts[k].rows) := by show _ = _; simp [rowsOf]
      obtain ⟨t, ht⟩ : ∃ t, t = ts[k] := ⟨_, rfl⟩
      rw [← ht] at c0 HR HE2
      clear ht hA
      obtain ⟨⟨B, p, d⟩, rs⟩ := t
      have hp : rs.length = p := HR.out.1.1
      have hpb : p ≤ 9223372036854775807 := HR.out.1.2.1
      subst hp
      have c0' : w.cell? ⟨b, off + k, none⟩ = some (.slice B rs.length d) := c0
      have hrl : (Tbl.rows ⟨⟨B, rs.length, d⟩, rs⟩).length = rs.length := by simp [Tbl.rows]
      have HRL := Lib.hid hrl
      clear c0 hrl
      subst hA'
      by_cases h20 : rs.length ≤ 20
      case neg =>
        have t1 : decide (20 < rs.length) = true := decide_eq_true (by omega)
        have t2 : decide ((20 : Int) < (rs.length : Int)) = true := decide_eq_true (by omega)
        have HE : Hid (fewB (rowsOf ts) = false) := by
          show _ = _
          unfold fewB
          rw [all_bad (p := fewRows) k hkm (by rw [HE2.out]; unfold fewRows; rw [HRL.out, decide_eq_false h20]; rfl), Bool.and_false]
        clear h20
        go_wp2
        go_ret
        exact ⟨ret_bool HE.out.symm, rfl⟩
      have t1 : decide (20 < rs.length) = false := decide_eq_false (by omega)
      have t2 : decide ((20 : Int) < (rs.length : Int)) = false := decide_eq_false (by omega)
      have H20 : Hid (decide ((Tbl.rows ⟨⟨B, rs.length, d⟩, rs⟩).length ≤ 20) = true) := by rw [HRL.out]; exact Lib.hid (decide_eq_true h20)
      clear h20
      go_wp2
      clear t1 t2
      go_loop [4] (fun i => ∃ q : Nat, q ≤ rs.length ∧ i = .int .i64 q ∧ Hid (∀ j (hj : j < rs.length), j < q → shortB rs[j].v = true)) (fun i => rs.length - (intOf i).toNat)
      case atStart => exact ⟨0, Nat.zero_le _, rfl, fun j _ hj => absurd hj (Nat.not_lt_zero _)⟩
      case round =>
        obtain ⟨q, hq, rfl, N2⟩ := hrel
        by_cases hlq : q < rs.length
        · obtain ⟨b2, off2, hB, blt2, c1⟩ := HR.out.1.one q hlq (v := rs[q].h.val) rfl
          have hB' : B = some ⟨b2, off2, none⟩ := hB
          have HS := Lib.hid (short_ok rs[q].h rs[q].v w (HR.out.2.2 _ (List.getElem_mem hlq)).1)
          obtain ⟨sb, hsb⟩ : ∃ sb, sb = shortB rs[q].v := ⟨_, rfl⟩
          rw [← hsb] at HS
          have HSB := Lib.hid hsb
          obtain ⟨rh, hrh⟩ : ∃ rh, rh = rs[q].h := ⟨_, rfl⟩
          rw [← hrh] at HS c1
          clear hsb hrh hB
          obtain ⟨A3, n3, c3⟩ := rh
          have HS' : Hid (Calls Tryz.prog 44 #[.slice A3 n3 c3] w fun e w' => e = .returned (.bool sb) ∧ w = w') := HS
          have c1' : w.cell? ⟨b2, off2 + q, none⟩ = some (.slice A3 n3 c3) := c1
          clear HS c1
          subst hB'
          cases sb with
          | true =>
            go_wp2_with (fail)
            refine HS'.out.mono ?_
            rintro e w' ⟨rfl, rfl⟩
            go_wp2_with (fail)
            go_round
            case rel => exact ⟨q + 1, by omega, by go_num, fun j hj h2 => (by
              by_cases e : j = q
              · subst e; exact HSB.out.symm
              · exact N2.out j hj (by omega))⟩
            case measure => simp [intOf]; omega
          | false =>
            have HE : Hid (fewB (rowsOf ts) = false) := by
              show _ = _
              unfold fewB
              have hbad : (Tbl.rows ⟨⟨some ⟨b2, off2, none⟩, rs.length, d⟩, rs⟩).all shortB = false := by
                refine all_bad q (by simp [Tbl.rows]; exact hlq) ?_
                simp only [Tbl.rows, List.getElem_map]
                exact HSB.out.symm
              rw [all_bad (p := fewRows) k hkm (by rw [HE2.out]; unfold fewRows; rw [hbad, Bool.and_false]), Bool.and_false]
            go_wp2_with (fail)
            refine HS'.out.mono ?_
            rintro e w' ⟨rfl, rfl⟩
            go_wp2_with (fail)
            go_ret
            exact ⟨ret_bool HE.out.symm, rfl⟩
        · have HGK : Hid (fewRows (rowsOf ts)[k] = true) := by
            rw [HE2.out]
            show fewRows _ = true
            unfold fewRows
            rw [H20.out, Bool.true_and]
            refine all_good fun j hj => ?_
            have hj' : j < rs.length := by simpa [Tbl.rows] using hj
            simp only [Tbl.rows, List.getElem_map]
            exact N2.out j hj' (by omega)
          go_wp2
          go_round
          case rel => exact ⟨k + 1, by omega, by go_num, fun j hj h2 => (by
            by_cases e : j = k
            · subst e; exact HGK.out
            · exact N.out j hj (by omega))⟩
          case measure => simp [intOf]; omega
    · have HE : Hid (fewB (rowsOf ts) = true) := by
        show _ = _
        unfold fewB
        rw [H6.out, Bool.true_and]
        exact all_good fun j hj => N.out j hj (by rw [HM.out] at hj; omega)
      go_wp2
      go_ret
      exact ⟨ret_bool HE.out.symm, rfl⟩
end Go.Proofs.YtpakimhhpeaefaaGreatDoor
namespace Go.Proofs.YtpakimhhpeaefaaGreatDoor
open Go.RowKit

/-- An operation: its kind, its number, its row. -/
structure Opn where
  k : Nat
  n : Int
  r : Rw
def Opn.cells (o : Opn) : List Value := [.int .u8 o.k, .int .i64 o.n, o.r.h.val]
structure Opn.Fine (o : Opn) : Prop where
  k : o.k < 256
  n1 : -9223372036854775808 ≤ o.n
  n2 : o.n ≤ 9223372036854775807
def OpsAt (w : World) (K : Nat → Prop) (h : Hd) (ops : List Opn) : Prop := Lies w 3 h Opn.cells ops ∧ ∀ o ∈ ops, RowIn w K o.r ∧ o.Fine
theorem OpsAt.same {w w' : World} {K : Nat → Prop} {h : Hd} {ops : List Opn} (l : OpsAt w K h ops) (s : Same w w') : OpsAt w' K h ops := ⟨l.1.same s, fun o ho => ⟨(l.2 o ho).1.same s, (l.2 o ho).2⟩⟩
def shortO (o : Opn) : Bool := shortB o.r.v
def smallM (s : List Tb) (tabs : List (List Row)) (ops : List Opn) : Bool := smallS s && (fewB tabs && (decide (ops.length ≤ 20) && ops.all shortO))
set_option maxHeartbeats 2000000 in
set_option maxRecDepth 100000 in
theorem smallM_ok {K K' : Nat → Prop} (h ht ho : Hd) (ts : List RT) (tbs : List Tbl) (ops : List Opn) (w : World) (a : TabsAt w h ts) (t : TablesAt w K ht tbs) (o : OpsAt w K' ho ops) :
    Calls Tryz.prog 11 #[.agg #[h.val], ht.val, ho.val] w fun e w' => e = .returned (.bool (smallM (ts.map RT.tb) (rowsOf tbs) ops)) ∧ Same w w' := by
  have hS := fun W (s : Same w W) => smallS_ok h ts W (a.same s)
  have hF := fun W (s : Same w W) => few_ok ht tbs W (t.same s)
  have hl : ops.length = ho.n := o.1.1
  have hb : ho.n ≤ 9223372036854775807 := o.1.2.1
  obtain ⟨A, n, c⟩ := h
  obtain ⟨At_, tm, tc⟩ := ht
  obtain ⟨Ao, on, oc⟩ := ho
  simp only at hl hb
  subst hl
  have HL := Lib.hid o
  obtain ⟨sb, hsb⟩ : ∃ sb, sb = smallS (ts.map RT.tb) := ⟨_, rfl⟩
  obtain ⟨fb, hfb⟩ : ∃ fb, fb = fewB (rowsOf tbs) := ⟨_, rfl⟩
  rw [← hsb] at hS
  rw [← hfb] at hF
  have HE : Hid (smallM (ts.map RT.tb) (rowsOf tbs) ops = (sb && (fb && (decide (ops.length ≤ 20) && ops.all shortO)))) := by show _ = _; unfold smallM; rw [hsb, hfb]
  obtain ⟨r, hr⟩ : ∃ r, r = smallM (ts.map RT.tb) (rowsOf tbs) ops := ⟨_, rfl⟩
  rw [← hr] at HE ⊢
  clear hr hsb hfb a t o
  have HS : Hid (∀ W, Same w W → Calls Tryz.prog 42 #[.agg #[.slice A n c]] W fun e w' => e = .returned (.bool sb) ∧ Same W w') := Lib.hid hS
  have HF : Hid (∀ W, Same w W → Calls Tryz.prog 43 #[.slice At_ tm tc] W fun e w' => e = .returned (.bool fb) ∧ W = w') := Lib.hid hF
  clear hS hF
  show Calls Tryz.prog 11 #[.agg #[.slice A n c], .slice At_ tm tc, .slice Ao ops.length oc] w _
  go_enter Tryz.func11, Tryz.ntmps11
  go_wp2_with (fail)
  refine (HS.out _ ((Same.refl w).alloc _)).mono ?_
  rintro e w1 ⟨rfl, s1⟩
  have S1 : Hid (Same w w1) := ((Same.refl w).alloc _).trans s1
  clear s1
  cases sb with
  | false =>
    go_wp2_with (fail)
    go_ret
    exact ⟨ret_bool HE.out.symm, S1.out⟩
  | true =>
  go_wp2_with (fail)
  refine (HF.out _ S1.out).mono ?_
  rintro e w' ⟨rfl, rfl⟩
  cases fb with
  | false =>
    go_wp2_with (fail)
    go_ret
    exact ⟨ret_bool HE.out.symm, S1.out⟩
  | true =>
  by_cases h20 : ops.length ≤ 20
  case neg =>
    have t1 : decide (20 < ops.length) = true := decide_eq_true (by omega)
    have t2 : decide ((20 : Int) < (ops.length : Int)) = true := decide_eq_true (by omega)
    have HE2 : Hid (r = false) := by show _ = _; rw [HE.out, decide_eq_false h20]; rfl
    clear h20
    go_wp2_with (fail)
    go_ret
    exact ⟨ret_bool HE2.out.symm, S1.out⟩
  have t1 : decide (20 < ops.length) = false := decide_eq_false (by omega)
  have t2 : decide ((20 : Int) < (ops.length : Int)) = false := decide_eq_false (by omega)
  have HE2 : Hid (r = ops.all shortO) := by show _ = _; rw [HE.out, decide_eq_true h20]; rfl
  clear h20
  go_wp2_with (fail)
  clear t1 t2
  go_loop [7] (fun i => ∃ q : Nat, q ≤ ops.length ∧ i = .int .i64 q ∧ Hid (∀ j (hj : j < ops.length), j < q → shortO ops[j] = true)) (fun i => ops.length - (intOf i).toNat)
  case atStart => exact ⟨0, Nat.zero_le _, rfl, fun j _ hj => absurd hj (Nat.not_lt_zero _)⟩
  case round =>
    obtain ⟨q, hq, rfl, N2⟩ := hrel
    by_cases hlq : q < ops.length
    · obtain ⟨b2, off2, hB, blt2, hc⟩ := (HL.out.1.same S1.out).2.2 q hlq
      have hB' : Ao = some ⟨b2, off2, none⟩ := hB
      have HSh := Lib.hid (short_ok ops[q].r.h ops[q].r.v w1 ((HL.out.2 _ (List.getElem_mem hlq)).1.1.same S1.out))
      obtain ⟨sb, hsb⟩ : ∃ sb, sb = shortB ops[q].r.v := ⟨_, rfl⟩
      rw [← hsb] at HSh
      have HSB : Hid (sb = shortO ops[q]) := hsb
      obtain ⟨x, hx⟩ : ∃ x, x = ops[q] := ⟨_, rfl⟩
      rw [← hx] at HSh hc HSB
      have HX := Lib.hid hx
      clear hsb hx hB
      obtain ⟨xk, xn, ⟨⟨A3, n3, c3⟩, rv⟩⟩ := x
      have HS' : Hid (Calls Tryz.prog 44 #[.slice A3 n3 c3] w1 fun e w' => e = .returned (.bool sb) ∧ w1 = w') := HSh
      have c1 := hc 2 (.slice A3 n3 c3) rfl
      clear HSh hc
      subst hB'
      cases sb with
      | true =>
        go_wp2_with (fail)
        refine HS'.out.mono ?_
        rintro e w' ⟨rfl, rfl⟩
        go_wp2_with (fail)
        go_round
        case rel => exact ⟨q + 1, by omega, by go_num, all_step hlq (by rw [← HX.out]; exact HSB.out.symm) N2.out⟩
        case measure => simp [intOf]; omega
      | false =>
        have HE3 : Hid (r = false) := by
          show _ = _
          rw [HE2.out]
          exact all_bad q hlq (by rw [← HX.out]; exact HSB.out.symm)
        go_wp2_with (fail)
        refine HS'.out.mono ?_
        rintro e w' ⟨rfl, rfl⟩
        go_wp2_with (fail)
        go_ret
        exact ⟨ret_bool HE3.out.symm, S1.out⟩
    · have HE3 : Hid (r = true) := by
        show _ = _
        rw [HE2.out]
        exact all_good fun j hj => N2.out j hj (by omega)
      go_wp2_with (fail)
      go_ret
      exact ⟨ret_bool HE3.out.symm, S1.out⟩
end Go.Proofs.YtpakimhhpeaefaaGreatDoor

/- migrate.Put: contract. Conditions: none. | migrate.Abandon: contract. Conditions: none. -/
import Derived.Test.YtpakimhhpeaefaaGreatDoorKGf
import Derived.Test.YtpakimhhpeaefaaGreatDoorKGj
import Derived.Test.YtpakimhhpeaefaaGreatDoorKWl
import Derived.Test.YtpakimhhpeaefaaGreatDoorKSm
set_option linter.unusedSimpArgs false
set_option linter.unusedVariables false
namespace Go.Proofs.YtpakimhhpeaefaaGreatDoor
open Go.RowKit

theorem put_none (w : World) (t : Int) (A : Option Addr) (n c : Nat) :
    Calls Tryz.prog 16 #[.pointer none, .int .i64 t, .slice A n c] w fun e w' => e = .returned (.int .i64 1) ∧ w = w' := by
  go_enter Tryz.func16, Tryz.ntmps16
  go_wp2_with (fail)
  refine (usable_none w).mono ?_
  rintro e w' ⟨rfl, rfl⟩
  go_wp2_with (fail)
  go_ret
  exact ⟨rfl, rfl⟩
theorem put_closed {w : World} {p : MH} {m : Mg} (d : MgAt w p m) (t : Int) (A : Option Addr) (n c : Nat) (hc : m.closed = true) :
    Calls Tryz.prog 16 #[.pointer (some ⟨p.g, 0, none⟩), .int .i64 t, .slice A n c] w fun e w' => e = .returned (.int .i64 22) ∧ w = w' := by
  have HU := Lib.hid (usable_ok d)
  have e : m.abE = 22 := by unfold Mg.abE; rw [if_pos hc]
  rw [e] at HU
  obtain ⟨g, hg⟩ : ∃ g, g = p.g := ⟨_, rfl⟩
  rw [← hg] at HU ⊢
  clear e d hc hg
  go_enter Tryz.func16, Tryz.ntmps16
  go_wp2_with (fail)
  refine HU.out.mono ?_
  rintro e w' ⟨rfl, rfl⟩
  go_wp2_with (fail)
  go_ret
  exact ⟨rfl, rfl⟩
theorem put_low {w : World} {p : MH} {m : Mg} (d : MgAt w p m) (t : Int) (A : Option Addr) (n c : Nat) (hc : m.closed = false) (ht : t < 0 ∨ (m.s.length : Int) ≤ t) :
    Calls Tryz.prog 16 #[.pointer (some ⟨p.g, 0, none⟩), .int .i64 t, .slice A n c] w fun e w' => e = .returned (.int .i64 1) ∧ w = w' := by
  have HU := Lib.hid (usable_ok d)
  have e : m.abE = 0 := by unfold Mg.abE; rw [if_neg (by rw [hc]; simp)]
  rw [e] at HU
  obtain ⟨go, oc, ho, -, -⟩ := d.outer
  have k3 : w.cell? ⟨p.g, 3, none⟩ = some (.slice (some ⟨go, 0, none⟩) p.tb.length oc) := by
    have h3 : w.cell? ⟨p.g, 3, none⟩ = some p.ho.val := d.cell 3
    rw [h3, ho]; rfl
  have hl := d.tbl.1
  rw [← hl] at ht
  obtain ⟨tn, htn⟩ : ∃ tn, tn = p.tb.length := ⟨_, rfl⟩
  obtain ⟨g, hg⟩ : ∃ g, g = p.g := ⟨_, rfl⟩
  rw [← hg] at HU k3 ⊢
  rw [← htn] at k3 ht
  clear e d hc hg htn hl ho
  by_cases h0 : t < 0
  · have t1 : decide (t < 0) = true := decide_eq_true h0
    clear h0 ht
    go_enter Tryz.func16, Tryz.ntmps16
    go_wp2_with (fail)
    refine HU.out.mono ?_
    rintro e w' ⟨rfl, rfl⟩
    go_wp2_with (fail)
    go_ret
    exact ⟨rfl, rfl⟩
  · have t1 : decide (t < 0) = false := decide_eq_false h0
    have t2 : (tn : Int) ≤ t := ht.resolve_left h0
    have t3 : decide ((tn : Int) ≤ t) = true := decide_eq_true t2
    clear h0 ht
    go_enter Tryz.func16, Tryz.ntmps16
    go_wp2_with (fail)
    refine HU.out.mono ?_
    rintro e w' ⟨rfl, rfl⟩
    go_wp2_with (fail)
    go_ret
    exact ⟨rfl, rfl⟩
theorem MgAt.put_cells {wr : World} {p : MH} {m : Mg} (d : MgAt wr p m) (i : Nat) (hi : i < p.tb.length) {go oc : Nat} (ho : p.ho = ⟨some ⟨go, 0, none⟩, p.tb.length, oc⟩) (W : World) (o : Obj) (w3 : World) (s : Same wr W) (G : (W.alloc o).grownBy w3 p.tb[i].h.val.ownBlock) :
    w3.cell? ⟨p.g, 3, none⟩ = some p.ho.val ∧ w3.cell? ⟨go, i, none⟩ = some p.tb[i].h.val ∧ w3.frozen? ⟨go, i, none⟩ = false := by
  have d1 := d.next s
  have hgo : p.ho.val.ownBlock = some go := by rw [ho]; rfl
  have hti : p.tb[i] ∈ p.tb := List.getElem_mem hi
  have b := ((d1.blk).alloc o).grown G (fun e => d1.inner_ne hti e.symm rfl)
  have c1 : Chg (fun k => p.tb[i].h.val.ownBlock = some k) W w3 := ((Chg.refl _ W).alloc o).grown G fun k hk _ => hk
  have oo := own_chg d1.oo c1 (fun k hk e => d1.outer_inner hti e hk)
  obtain ⟨_, cs, hb⟩ := row_ty oo hgo
  refine ⟨(b.cell 3).trans rfl, ?_, hb.frozen i⟩
  rw [ho] at oo
  have := own_cell Tbl.clen oo rfl i hi 0 (by decide)
  simpa [Tbl.cell] using this
set_option maxHeartbeats 4000000 in
set_option maxRecDepth 100000 in
theorem put_mid (g go tn oc ti tl tc b off n c rn rc BB : Nat) (Ai Ar : Option Addr) (XS : List Value) (x : RT) (fb : Bool) (w : World) (ht : ti < tn) (htn : tn ≤ 9223372036854775807) (hn : tn ≤ n) (hn2 : n ≤ 9223372036854775807) (hl : tl ≤ 1000000) (hgl : g < w.heap.size) (hgol : go < w.heap.size) (hbl : b < w.heap.size) (hBB : BB ≤ w.heap.size)
    (HU : Hid (Calls Tryz.prog 49 #[.pointer (some ⟨g, 0, none⟩)] w fun e w' => e = .returned (.int .i64 0) ∧ w = w'))
    (k0 : w.cell? ⟨g, 0, none⟩ = some (.slice (some ⟨b, off, none⟩) n c)) (k3 : w.cell? ⟨g, 3, none⟩ = some (.slice (some ⟨go, 0, none⟩) tn oc)) (kt : w.cell? ⟨go, ti, none⟩ = some (.slice Ai tl tc))
    (hx : ∀ j v, x.cells[j]? = some v → w.cell? ⟨b, off + ti * 3 + j, none⟩ = some v)
    (HF : Calls Tryz.prog 36 #[x.val, .slice Ar rn rc] w fun e w' => e = .returned (.bool fb) ∧ Same w w')
    (HOD : Hid (∀ W (o : Obj), Same w W → (W.alloc o).ownsRow BB 40 1 (.slice Ai tl tc) tl XS))
    (HKP0 : Hid (∀ W (o : Obj) w3, Same w W → (W.alloc o).grownBy w3 (Value.slice Ai tl tc).ownBlock → w3.cell? ⟨g, 3, none⟩ = some (.slice (some ⟨go, 0, none⟩) tn oc) ∧ w3.cell? ⟨go, ti, none⟩ = some (.slice Ai tl tc) ∧ w3.frozen? ⟨go, ti, none⟩ = false)) :
    Calls Tryz.prog 16 #[.pointer (some ⟨g, 0, none⟩), .int .i64 ti, .slice Ar rn rc] w fun e w' => if fb then ∃ w2 w3 A2 c2, e = .returned (.int .i64 0) ∧ w' = w3.setCell ⟨go, ti, none⟩ (.slice A2 (tl + 1) c2) ∧ Same w w2 ∧ (w2.alloc (.cells #[.slice Ar rn rc] 40)).grownBy w3 (Value.slice Ai tl tc).ownBlock ∧
        w3.ownsRow BB 40 1 (.slice A2 (tl + 1) c2) (tl + 1) (XS ++ [.slice Ar rn rc]) ∧ ((Value.slice A2 (tl + 1) c2).ownBlock = (Value.slice Ai tl tc).ownBlock ∨ (Value.slice A2 (tl + 1) c2).ownBlock = some (w2.alloc (.cells #[.slice Ar rn rc] 40)).heap.size)
      else e = .returned (.int .i64 1) ∧ Same w w' := by
  obtain ⟨i0, hi0, hiz0, hiz1, hiz2⟩ := info_parts Tryz.infoVals
  obtain ⟨n1, ⟨A4, m4, c4⟩, ra1, ⟨B4, p4, d4⟩, key1⟩ := x
  have x0 := hx 0 (.string n1) rfl
  have x1 := hx 1 (.slice A4 m4 c4) rfl
  have x2 := hx 2 (.slice B4 p4 d4) rfl
  simp only [Nat.add_zero] at x0
  have HF' : Hid (Calls Tryz.prog 36 #[.agg #[.string n1, .slice A4 m4 c4, .slice B4 p4 d4], .slice Ar rn rc] w fun e w' => e = .returned (.bool fb) ∧ Same w w') := HF
  have ti0 : (0 : Int) ≤ (ti : Int) := by omega
  have tiI : (ti : Int) < (tn : Int) := by omega
  have tiN : (ti : Int) < (n : Int) := by omega
  have t1 : decide ((ti : Int) < 0) = false := decide_eq_false (by omega)
  have t2 : decide (tn ≤ ti) = false := decide_eq_false (by omega)
  have t3 : decide ((tn : Int) ≤ (ti : Int)) = false := decide_eq_false (by omega)
  clear hx HF
  obtain ⟨POST, hPOST⟩ : ∃ POST : Ending → World → Prop, POST = fun e w' => if fb then ∃ w2 w3 A2 c2, e = .returned (.int .i64 0) ∧ w' = w3.setCell ⟨go, ti, none⟩ (.slice A2 (tl + 1) c2) ∧ Same w w2 ∧ (w2.alloc (.cells #[.slice Ar rn rc] 40)).grownBy w3 (Value.slice Ai tl tc).ownBlock ∧
        w3.ownsRow BB 40 1 (.slice A2 (tl + 1) c2) (tl + 1) (XS ++ [.slice Ar rn rc]) ∧ ((Value.slice A2 (tl + 1) c2).ownBlock = (Value.slice Ai tl tc).ownBlock ∨ (Value.slice A2 (tl + 1) c2).ownBlock = some (w2.alloc (.cells #[.slice Ar rn rc] 40)).heap.size)
      else e = .returned (.int .i64 1) ∧ Same w w' := ⟨_, rfl⟩
  rw [← hPOST]
  have HP := Lib.hid hPOST
  clear hPOST
  go_enter Tryz.func16, Tryz.ntmps16
  go_wp2_with (fail)
  refine HU.out.mono ?_
  rintro e w' ⟨rfl, rfl⟩
  go_wp2_with (fail)
  refine HF'.out.mono ?_
  rintro e w2 ⟨rfl, s2⟩
  have S2 := Lib.hid s2
  have k3' := (S2.out.cells _ 3 hgl).trans k3
  have kt' := (S2.out.cells _ ti hgol).trans kt
  have hgl' : g < w2.heap.size := Nat.lt_of_lt_of_le hgl S2.out.size
  have hgol' : go < w2.heap.size := Nat.lt_of_lt_of_le hgol S2.out.size
  have hBB' : BB ≤ w2.heap.size := Nat.le_trans hBB S2.out.size
  clear s2 k0 k3 kt x0 x1 x2
  cases fb with
  | false =>
    go_wp2_with (fail)
    show POST (Ending.returned (.int .i64 1)) w2
    rw [HP.out]
    exact ⟨rfl, S2.out⟩
  | true =>
  have z1 : g ≠ w2.heap.size := by omega
  have z2 : go ≠ w2.heap.size := by omega
  have OD := Lib.hid (HOD.out w2 (.cells #[.slice Ar rn rc] 40) S2.out)
  have HKP := Lib.hid (fun w3 => HKP0.out w2 (.cells #[.slice Ar rn rc] 40) w3 S2.out)
  clear HKP0 HOD HU HF'
  go_wp2_with (fail)
  refine wp_region_last (opsP := ?opsP) (S := (fun w' => w'.cell? ⟨g, 3, none⟩ = some (.slice (some ⟨go, 0, none⟩) tn oc) ∧ w'.cell? ⟨go, ti, none⟩ = some (.slice Ai tl tc))) (n := 16) (by kernel_rfl) (lastOk_of (by kernel_rfl)) ?hp ?wk
  case hp => simp only [List.pop_toArray, List.dropLast_cons_cons, List.dropLast_singleton]; rfl
  have hHeld : (fun w' => w'.cell? ⟨g, 3, none⟩ = some (.slice (some ⟨go, 0, none⟩) tn oc) ∧ w'.cell? ⟨go, ti, none⟩ = some (.slice Ai tl tc)) (w2.drew) := by
    show _ ∧ _
    (first | exact ⟨by assumption, by assumption⟩ | (simp [*]; done) | (simp [*, size_setCell, cell_drew, cell_far, cell_near, cell_new', cell_old]; done) | go_keep)
  refine wpAnyH_take (i := 0) (oi := ?oi1) (v := ?v1) ?hi1 (by kernel_rfl) (by kernel_rfl) (by kernel_rfl) ?hQ1 (Or.inl ⟨?hw1, ?hy1⟩) hHeld ?rest1
  case hi1 => simp only [List.getElem?_toArray, List.getElem?_cons_succ, List.getElem?_cons_zero]; rfl
  case hQ1 => exact fun _ _ _ h => h
  case hw1 => rfl
  case hy1 =>
    intro w' hSw
    obtain ⟨y1, y2⟩ := hSw
    go_simp
    try with_reducible rfl
  try simp only [Act.put, List.setIfInBounds_toArray, List.set_cons_zero, List.set_cons_succ]
  refine wpAnyH_take (i := 1) (oi := ?oi2) (v := ?v2) ?hi2 (by kernel_rfl) (by kernel_rfl) (by kernel_rfl) ?hQ2 (Or.inl ⟨?hw2, ?hy2⟩) hHeld ?rest2
  case hi2 => simp only [List.getElem?_toArray, List.getElem?_cons_succ, List.getElem?_cons_zero]; rfl
  case hQ2 => exact fun _ _ _ h => h
  case hw2 => rfl
  case hy2 =>
    intro w' hSw
    obtain ⟨y1, y2⟩ := hSw
    go_simp
    try with_reducible rfl
  try simp only [Act.put, List.setIfInBounds_toArray, List.set_cons_zero, List.set_cons_succ]
  refine wpAnyH_take (i := 2) (oi := ?oi3) (v := ?v3) ?hi3 (by kernel_rfl) (by kernel_rfl) (by kernel_rfl) ?hQ3 (Or.inl ⟨?hw3, ?hy3⟩) hHeld ?rest3
  case hi3 => simp only [List.getElem?_toArray, List.getElem?_cons_succ, List.getElem?_cons_zero]; rfl
  case hQ3 => exact fun _ _ _ h => h
  case hw3 => rfl
  case hy3 =>
    intro w' hSw
    obtain ⟨y1, y2⟩ := hSw
    go_simp
    try with_reducible rfl
  try simp only [Act.put, List.setIfInBounds_toArray, List.set_cons_zero, List.set_cons_succ]
  refine wpAnyH_take (i := 3) (oi := ?oi4) (v := ?v4) ?hi4 (by kernel_rfl) (by kernel_rfl) (by kernel_rfl) ?hQ4 (Or.inl ⟨?hw4, ?hy4⟩) hHeld ?rest4
  case hi4 => simp only [List.getElem?_toArray, List.getElem?_cons_succ, List.getElem?_cons_zero]; rfl
  case hQ4 => exact fun _ _ _ h => h
  case hw4 => rfl
  case hy4 =>
    intro w' hSw
    obtain ⟨y1, y2⟩ := hSw
    go_simp
    try with_reducible rfl
  try simp only [Act.put, List.setIfInBounds_toArray, List.set_cons_zero, List.set_cons_succ]
  refine wpAnyH_take (i := 4) (oi := ?oi5) (v := ?v5) ?hi5 (by kernel_rfl) (by kernel_rfl) (by kernel_rfl) ?hQ5 (Or.inl ⟨?hw5, ?hy5⟩) hHeld ?rest5
  case hi5 => simp only [List.getElem?_toArray, List.getElem?_cons_succ, List.getElem?_cons_zero]; rfl
  case hQ5 => exact fun _ _ _ h => h
  case hw5 => rfl
  case hy5 =>
    intro w' hSw
    obtain ⟨y1, y2⟩ := hSw
    go_simp
    try with_reducible rfl
  try simp only [Act.put, List.setIfInBounds_toArray, List.set_cons_zero, List.set_cons_succ]
  refine wpAnyH_take (i := 5) (oi := ?oi6) (v := ?v6) ?hi6 (by kernel_rfl) (by kernel_rfl) (by kernel_rfl) ?hQ6 (Or.inl ⟨?hw6, ?hy6⟩) hHeld ?rest6
  case hi6 => simp only [List.getElem?_toArray, List.getElem?_cons_succ, List.getElem?_cons_zero]; rfl
  case hQ6 => exact fun _ _ _ h => h
  case hw6 => rfl
  case hy6 =>
    intro w' hSw
    obtain ⟨y1, y2⟩ := hSw
    go_simp
    try with_reducible rfl
  try simp only [Act.put, List.setIfInBounds_toArray, List.set_cons_zero, List.set_cons_succ]
  refine wpAnyH_take (i := 6) (oi := ?oi7) (v := ?v7) ?hi7 (by kernel_rfl) (by kernel_rfl) (by kernel_rfl) ?hQ7 (Or.inl ⟨?hw7, ?hy7⟩) hHeld ?rest7
  case hi7 => simp only [List.getElem?_toArray, List.getElem?_cons_succ, List.getElem?_cons_zero]; rfl
  case hQ7 => exact fun _ _ _ h => h
  case hw7 => rfl
  case hy7 =>
    intro w' hSw
    obtain ⟨y1, y2⟩ := hSw
    go_simp
    try with_reducible rfl
  try simp only [Act.put, List.setIfInBounds_toArray, List.set_cons_zero, List.set_cons_succ]
  refine wpAnyH_take (i := 7) (oi := ?oi8) (v := ?v8) ?hi8 (by kernel_rfl) (by kernel_rfl) (by kernel_rfl) ?hQ8 (Or.inl ⟨?hw8, ?hy8⟩) hHeld ?rest8
  case hi8 => simp only [List.getElem?_toArray, List.getElem?_cons_succ, List.getElem?_cons_zero]; rfl
  case hQ8 => exact fun _ _ _ h => h
  case hw8 => rfl
  case hy8 =>
    intro w' hSw
    obtain ⟨y1, y2⟩ := hSw
    go_simp
    try with_reducible rfl
  try simp only [Act.put, List.setIfInBounds_toArray, List.set_cons_zero, List.set_cons_succ]
  refine wpAnyH_take (i := 8) (oi := ?oi9) (v := ?v9) ?hi9 (by kernel_rfl) (by kernel_rfl) (by kernel_rfl) ?hQ9 (Or.inl ⟨?hw9, ?hy9⟩) hHeld ?rest9
  case hi9 => simp only [List.getElem?_toArray, List.getElem?_cons_succ, List.getElem?_cons_zero]; rfl
  case hQ9 => exact fun _ _ _ h => h
  case hw9 => rfl
  case hy9 =>
    intro w' hSw
    obtain ⟨y1, y2⟩ := hSw
    go_simp
    try with_reducible rfl
  try simp only [Act.put, List.setIfInBounds_toArray, List.set_cons_zero, List.set_cons_succ]
  refine wpAnyH_take (i := 9) (oi := ?oi10) (v := ?v10) ?hi10 (by kernel_rfl) (by kernel_rfl) (by kernel_rfl) ?hQ10 (Or.inl ⟨?hw10, ?hy10⟩) hHeld ?rest10
  case hi10 => simp only [List.getElem?_toArray, List.getElem?_cons_succ, List.getElem?_cons_zero]; rfl
  case hQ10 => exact fun _ _ _ h => h
  case hw10 => rfl
  case hy10 =>
    intro w' hSw
    obtain ⟨y1, y2⟩ := hSw
    go_simp
    try with_reducible rfl
  try simp only [Act.put, List.setIfInBounds_toArray, List.set_cons_zero, List.set_cons_succ]
  refine wpAnyH_take (i := 10) (oi := ?oi11) (v := ?v11) ?hi11 (by kernel_rfl) (by kernel_rfl) (by kernel_rfl) ?hQ11 (Or.inl ⟨?hw11, ?hy11⟩) hHeld ?rest11
  case hi11 => simp only [List.getElem?_toArray, List.getElem?_cons_succ, List.getElem?_cons_zero]; rfl
  case hQ11 => exact fun _ _ _ h => h
  case hw11 => rfl
  case hy11 =>
    intro w' hSw
    obtain ⟨y1, y2⟩ := hSw
    go_simp
    try with_reducible rfl
  try simp only [Act.put, List.setIfInBounds_toArray, List.set_cons_zero, List.set_cons_succ]
  refine wpAnyH_take (i := 11) (oi := ?oi12) (v := ?v12) ?hi12 (by kernel_rfl) (by kernel_rfl) (by kernel_rfl) ?hQ12 (Or.inl ⟨?hw12, ?hy12⟩) hHeld ?rest12
  case hi12 => simp only [List.getElem?_toArray, List.getElem?_cons_succ, List.getElem?_cons_zero]; rfl
  case hQ12 => exact fun _ _ _ h => h
  case hw12 => rfl
  case hy12 =>
    intro w' hSw
    obtain ⟨y1, y2⟩ := hSw
    go_simp
    try with_reducible rfl
  try simp only [Act.put, List.setIfInBounds_toArray, List.set_cons_zero, List.set_cons_succ]
  refine wpAnyH_take (i := 12) (oi := ?oi13) (v := ?v13) ?hi13 (by kernel_rfl) (by kernel_rfl) (by kernel_rfl) ?hQ13 (Or.inl ⟨?hw13, ?hy13⟩) hHeld ?rest13
  case hi13 => simp only [List.getElem?_toArray, List.getElem?_cons_succ, List.getElem?_cons_zero]; rfl
  case hQ13 => exact fun _ _ _ h => h
  case hw13 => rfl
  case hy13 =>
    intro w' hSw
    obtain ⟨y1, y2⟩ := hSw
    go_simp
    try with_reducible rfl
  try simp only [Act.put, List.setIfInBounds_toArray, List.set_cons_zero, List.set_cons_succ]
  refine wpAnyH_ready (rs := [13]) (by kernel_rfl) (by simp) ?_
  refine AllReadyH.cons (o := ?oo14) ?ho14 (fun K hK => ?st14) ?more14
  case ho14 => simp only [List.getElem?_toArray, List.getElem?_cons_succ, List.getElem?_cons_zero]; rfl
  case more14 => exact AllReadyH.nil
  rw [if_pos (by rfl)]
  go_simp
  refine hK.out _ _ ?_ (fun hHeld => ?_)
  · show _ ∧ _
    (first | exact ⟨by assumption, by assumption⟩ | (simp [*]; done) | (simp [*, size_setCell, cell_drew, cell_far, cell_near, cell_new', cell_old]; done) | go_keep)
  clear hK K
  try simp only [Act.put, List.setIfInBounds_toArray, List.set_cons_zero, List.set_cons_succ]
  refine wpAnyH_ready (rs := [14]) (by kernel_rfl) (by simp) ?_
  refine AllReadyH.cons (o := ?oo15) ?ho15 (fun K hK => ?st15) ?more15
  case ho15 => simp only [List.getElem?_toArray, List.getElem?_cons_succ, List.getElem?_cons_zero]; rfl
  case more15 => exact AllReadyH.nil
  refine step_append_any _ rfl (.tmp 48) (.tmp 50) 55 rfl BB 40 i0 _ 1 24 Tryz.underlying55 hi0 hiz0 hiz1 hiz2 rfl (by decide) (.slice Ai tl tc) tl XS rfl ?_ (w2.heap.size + 1) (some ⟨w2.heap.size, 0, none⟩) 1 1 [.slice Ar rn rc] rfl ?_ (by intro u hu; simp at hu; rw [hu]; rfl) (by simp only [maxLen]; omega) (by omega) ?_ ?_
  · first | exact OD.out | exact OD.out.drew
  · first | exact reads_new w2 _ _ | exact (reads_new w2 _ _).drew
  · simp [heap_drew]; omega
  intro v1 w3 hown1 hg1 hat1
  obtain ⟨A2, c2, hv⟩ := own_val hown1
  subst hv
  have G1 : (w2.alloc (.cells #[.slice Ar rn rc] 40)).grownBy w3 (Value.slice Ai tl tc).ownBlock := ⟨hg1.os, hg1.tape, hg1.output, hg1.size, hg1.block⟩
  have AT1 : (Value.slice A2 (tl + 1) c2).ownBlock = (Value.slice Ai tl tc).ownBlock ∨ (Value.slice A2 (tl + 1) c2).ownBlock = some (w2.alloc (.cells #[.slice Ar rn rc] 40)).heap.size := hat1
  obtain ⟨q3, qt, ft⟩ := HKP.out w3 G1
  have P3 := Lib.hid (And.intro hown1 (And.intro G1 AT1))
  clear hown1 hg1 hat1 G1 AT1
  refine hK.out _ _ ?_ (fun hHeld => ?_)
  · show _ ∧ _
    (first | exact ⟨by assumption, by assumption⟩ | (simp [*]; done) | (simp [*, size_setCell, cell_drew, cell_far, cell_near, cell_new', cell_old]; done) | go_keep)
  clear hK K
  try simp only [Act.put, List.setIfInBounds_toArray, List.set_cons_zero, List.set_cons_succ]
  refine wpAnyH_take (i := 15) (oi := ?oi16) (v := ?v16) ?hi16 (by kernel_rfl) (by kernel_rfl) (by kernel_rfl) ?hQ16 (Or.inl ⟨?hw16, ?hy16⟩) hHeld ?rest16
  case hi16 => simp only [List.getElem?_toArray, List.getElem?_cons_succ, List.getElem?_cons_zero]; rfl
  case hQ16 => exact fun _ _ _ h => h
  case hw16 => rfl
  case hy16 =>
    intro w' hSw
    obtain ⟨y1, y2⟩ := hSw
    go_simp
    try with_reducible rfl
  try simp only [Act.put, List.setIfInBounds_toArray, List.set_cons_zero, List.set_cons_succ]
  refine wpAnyH_done (by kernel_rfl) ?_ _
  refine lastQ_of (o := ?oz17) ?hz17 ?gz17 ?sz17
  case hz17 => simp only [List.getElem?_toArray, List.getElem?_cons_succ, List.getElem?_cons_zero]; rfl
  case gz17 => rfl
  intro K hK
  go_simp
  refine hK.out _ _ ?_
  clear hK K
  try simp only [Act.put, List.setIfInBounds_toArray, List.set_cons_zero, List.set_cons_succ]
  go_wp2_with (fail)
  show POST (Ending.returned (.int .i64 0)) (w3.setCell ⟨go, ti, none⟩ (.slice A2 (tl + 1) c2))
  rw [HP.out]
  exact ⟨w2, w3, A2, c2, rfl, rfl, S2.out, P3.out.2.1, P3.out.1, P3.out.2.2⟩
theorem Fine_put_tabs {m : Mg} (h : m.Fine) (t : Int) (row : Row) (hp : m.putE t row = 0) : ({ m with tabs := putT m.tabs t row } : Mg).Fine := by
  have := h.put t row
  unfold Mg.put at this
  rwa [if_pos hp] at this
theorem put_ok {w : World} {p : MH} {m : Mg} (d : MgAt w p m) (t : Int) {hr : Hd} {row : Row} (r : RowIn w (fun k => ¬ p.own k) ⟨hr, row⟩) (hlo : In (fun k => k < p.lo) hr) (hb : ∀ rows ∈ m.tabs, rows.length ≤ 1000000) :
    Calls Tryz.prog 16 #[.pointer (some ⟨p.g, 0, none⟩), .int .i64 t, hr.val] w fun e w' => e = .returned (.int .i64 (m.putE t row)) ∧ MTurn w w' p (m.put t row) := by
  cases hc : m.closed with
  | true =>
    have e1 : m.putE t row = 22 := by unfold Mg.putE; rw [if_pos hc]
    have e2 : m.put t row = m := by unfold Mg.put; rw [e1, if_neg (by decide)]
    refine (put_closed d t hr.a hr.n hr.c hc).mono ?_
    rintro e w' ⟨he, rfl⟩
    rw [e1, e2]
    exact ⟨he, MTurn.same d (Same.refl _)⟩
  | false =>
    have hcn : ¬ m.closed = true := by rw [hc]; simp
    by_cases ht : t < 0 ∨ (m.s.length : Int) ≤ t
    · have e1 : m.putE t row = 1 := by
        unfold Mg.putE
        rw [if_neg hcn]
        by_cases h0 : t < 0
        · rw [if_pos h0]
        · rw [if_neg h0, List.getElem?_eq_none (by have := ht.resolve_left h0; omega)]
      have e2 : m.put t row = m := by unfold Mg.put; rw [e1, if_neg (by decide)]
      refine (put_low d t hr.a hr.n hr.c hc ht).mono ?_
      rintro e w' ⟨he, rfl⟩
      rw [e1, e2]
      exact ⟨he, MTurn.same d (Same.refl _)⟩
    · obtain ⟨ti, rfl⟩ : ∃ ti : Nat, t = ti := ⟨t.toNat, by omega⟩
      have htl : ti < m.s.length := by omega
      have htb : ti < p.tb.length := by rw [d.tbl.1]; exact htl
      have e1 : m.putE ti row = if fitsB m.s[ti] row then 0 else 1 := by
        unfold Mg.putE
        rw [if_neg hcn, if_neg (by omega), Int.toNat_natCast, List.getElem?_eq_getElem htl]
      have HU := Lib.hid (usable_ok d)
      have e0 : m.abE = 0 := by unfold Mg.abE; rw [if_neg hcn]
      rw [e0] at HU
      obtain ⟨go, oc, ho, hgB, hcell⟩ := d.outer
      have k3 : w.cell? ⟨p.g, 3, none⟩ = some (.slice (some ⟨go, 0, none⟩) p.tb.length oc) := by
        have h3 : w.cell? ⟨p.g, 3, none⟩ = some p.ho.val := d.cell 3
        rw [h3, ho]; rfl
      have k0 : w.cell? ⟨p.g, 0, none⟩ = some p.hs.val := d.cell 0
      obtain ⟨oi, oin⟩ := d.oi _ (List.getElem_mem htb)
      have hts := d.st.ts.same d.same
      have htsl : p.ts.length = m.s.length := by rw [← d.st.tsm, List.length_map]
      have htt : ti < p.ts.length := by omega
      obtain ⟨b, off, hA, hbl, hx⟩ := hts.1.2.2 ti htt
      have hst : m.s[ti] = p.ts[ti].tb := by
        have h : (p.ts.map RT.tb)[ti]? = m.s[ti]? := by rw [d.st.tsm]
        rw [List.getElem?_map, List.getElem?_eq_getElem htt, List.getElem?_eq_getElem htl] at h
        exact (Option.some.inj h).symm
      have hF := fits_ok p.ts[ti] hr row w (hts.2 _ (List.getElem_mem htt)) r.1
      have hkp := fun (W : World) (o : Obj) (w3 : World) (s : Same w W) (G : (W.alloc o).grownBy w3 p.tb[ti].h.val.ownBlock) => d.put_cells ti htb ho W o w3 s G
      have hrl : p.tb[ti].rs.length ≤ 1000000 := by
        obtain ⟨h1, h2⟩ := d.tbl.2 ti htb
        have h3 := hb _ (List.getElem_mem h1)
        rw [h2] at h3
        simpa [Tbl.rows] using h3
      have hn : p.hs.n = p.ts.length := d.st.ts.1.1.symm
      have hn2 : p.hs.n ≤ 9223372036854775807 := d.st.ts.1.2.1
      obtain ⟨ph, hph⟩ : ∃ ph, ph = p.tb[ti].h := ⟨_, rfl⟩
      have hv : p.tb[ti].h.val = .slice ph.a ph.n ph.c := by rw [hph]; rfl
      have hvs : p.hs.val = .slice (some ⟨b, off, none⟩) p.hs.n p.hs.c := by
        show Value.slice p.hs.a p.hs.n p.hs.c = _
        rw [hA]
      have hpn : ph.n = p.tb[ti].rs.length := by rw [hph]; exact oin
      rw [hvs] at k0
      have hct := (hcell ti htb).1
      rw [hv] at hct oi
      rw [← hpn] at oi hrl
      have hkp' : ∀ W (o : Obj) w3, Same w W → (W.alloc o).grownBy w3 (Value.slice ph.a ph.n ph.c).ownBlock → w3.cell? ⟨p.g, 3, none⟩ = some (.slice (some ⟨go, 0, none⟩) p.tb.length oc) ∧ w3.cell? ⟨go, ti, none⟩ = some (.slice ph.a ph.n ph.c) ∧ w3.frozen? ⟨go, ti, none⟩ = false := by
        intro W o w3 s G
        have h := hkp W o w3 s (by rw [hv]; exact G)
        rw [hv, ho] at h
        exact h
      have hgol : go < w.heap.size := World.block_lt_of_cell? w _ hct
      refine (put_mid p.g go p.tb.length oc ti ph.n ph.c b off p.hs.n p.hs.c hr.n hr.c p.B ph.a hr.a (p.tb[ti].rs.flatMap Rw.cell) p.ts[ti] (fitsB p.ts[ti].tb row) w htb (own_max d.oo) (by rw [hn, htsl, d.tbl.1]; exact Nat.le_refl _) hn2 hrl d.blk.lt hgol hbl (Nat.le_trans d.st.gB (Nat.le_of_lt d.blk.lt)) HU k0 k3 hct hx hF (Lib.hid fun W o s => (own_same s oi).alloc o) (Lib.hid hkp')).mono ?_
      intro e w' hpost
      rw [e1, hst]
      cases hfb : fitsB p.ts[ti].tb row with
      | false =>
        rw [hfb] at hpost
        obtain ⟨he, s⟩ := hpost
        have e2 : m.put ti row = m := by unfold Mg.put; rw [e1, hst, hfb]; rfl
        rw [e2]
        exact ⟨he, MTurn.same d s⟩
      | true =>
        rw [hfb] at hpost
        obtain ⟨w2, w3, A2, c2, he, rfl, s2, G, o1, hat⟩ := hpost
        have e3 : m.putE ti row = 0 := by rw [e1, hst, hfb]; rfl
        have e2 : m.put ti row = { m with tabs := putT m.tabs ti row } := by unfold Mg.put; rw [if_pos e3]
        rw [e2]
        obtain ⟨d2, c', o2⟩ := (d.next s2).putRow ti htb ho (h := hr) (row := row) (r.same s2) hlo (A := A2) (n := ph.n + 1) (c := c2) (by rw [hv]; exact G) (by rw [← hpn]; exact o1) (by rw [hv]; exact hat) (Fine_put_tabs d.fine ti row e3)
        exact ⟨he, ⟨_, d2, rfl, rfl, ⟨rfl, rfl, rfl⟩, (Chg.of_same s2).trans c' (fun _ _ h => h), fun k hk => (o2 k hk).imp id (fun h => Nat.le_trans s2.size h)⟩⟩
end Go.Proofs.YtpakimhhpeaefaaGreatDoor
namespace Go.Proofs.YtpakimhhpeaefaaGreatDoor
open Go.RowKit

/-- Tables that a call returns. -/
def OutAt (w : World) (B lo hi : Nat) (h : Hd) (ts : List Tbl) (tabs : List (List Row)) : Prop :=
  OwnT w B h ts ∧ rowsOf ts = tabs ∧ ∀ t ∈ ts, ∀ r ∈ t.rs, RowAt w r.h r.v ∧ In (fun k => k < lo ∨ hi ≤ k) r.h
theorem OutAt.same {w w' : World} {B lo hi : Nat} {h : Hd} {ts : List Tbl} {tabs : List (List Row)} (o : OutAt w B lo hi h ts tabs) (s : Same w w') : OutAt w' B lo hi h ts tabs :=
  ⟨o.1.same s, o.2.1, fun t ht r hr => ⟨(o.2.2 t ht r hr).1.same s, (o.2.2 t ht r hr).2⟩⟩
theorem OwnT.lies {w : World} {B : Nat} {h : Hd} {ts : List Tbl} (o : OwnT w B h ts) : Lies w 1 h Tbl.cell ts := by
  have hb : h.n ≤ 9223372036854775807 := by rw [o.oh]; exact own_max o.oo
  refine own_lies' (e := 55) (base := B) Tbl.clen o.oh.symm hb ?_
  rw [o.oh]; exact o.oo
theorem OwnT.inner {w : World} {B : Nat} {h : Hd} {ts : List Tbl} (o : OwnT w B h ts) {t : Tbl} (ht : t ∈ ts) : Lies w 1 t.h Rw.cell t.rs := by
  obtain ⟨oi, on⟩ := o.oi t ht
  have hb : t.h.n ≤ 9223372036854775807 := by rw [on]; exact own_max oi
  refine own_lies' (e := 40) (base := B) Rw.clen on.symm hb ?_
  rw [on]; exact oi
theorem OutAt.tables {w : World} {B lo hi : Nat} {h : Hd} {ts : List Tbl} {tabs : List (List Row)} (o : OutAt w B lo hi h ts tabs) : TablesAt w (fun k => k < w.heap.size) h ts :=
  ⟨o.1.lies, o.1.lies.in_, fun t ht => ⟨o.1.inner ht, (o.1.inner ht).in_, fun r hr => ⟨(o.2.2 t ht r hr).1, (o.2.2 t ht r hr).1.in_⟩⟩⟩
theorem MgAt.ownT {w : World} {p : MH} {m : Mg} (d : MgAt w p m) : OwnT w p.B p.ho p.tb := ⟨d.oo, d.oh, d.oi, d.ai⟩
theorem MgAt.tables {w : World} {p : MH} {m : Mg} (d : MgAt w p m) : TablesAt w (fun k => k < w.heap.size) p.ho p.tb :=
  ⟨d.ownT.lies, d.ownT.lies.in_, fun t ht => ⟨d.ownT.inner ht, (d.ownT.inner ht).in_, fun r hr => ⟨(d.rr t ht r hr).1, (d.rr t ht r hr).1.in_⟩⟩⟩
/-- All rows are few. -/
def FewR (tabs : List (List Row)) : Prop := tabs.length ≤ 1000000 ∧ ∀ rows ∈ tabs, rows.length ≤ 1000000
theorem rows_same {ts ts' : List Tbl} (h : ts.map Tbl.rs = ts'.map Tbl.rs) : rowsOf ts = rowsOf ts' := by
  have e : ∀ l : List Tbl, rowsOf l = (l.map Tbl.rs).map (fun rs => rs.map Rw.v) := fun l => by simp [rowsOf, Tbl.rows]
  rw [e, e, h]
theorem mem_rs {ts ts' : List Tbl} (h : ts.map Tbl.rs = ts'.map Tbl.rs) {t : Tbl} (ht : t ∈ ts) : ∃ t' ∈ ts', t'.rs = t.rs := by
  have : t.rs ∈ ts.map Tbl.rs := List.mem_map_of_mem ht
  rw [h] at this
  exact List.mem_map.1 this
/-- migrate.clone at a migration's tables. -/
theorem MgAt.clone {w : World} {p : MH} {m : Mg} (d : MgAt w p m) (few : FewR m.tabs) :
    Calls Tryz.prog 46 #[p.ho.val] w fun e w' => ∃ (A : Option Addr) (n c : Nat) (ts : List Tbl), e = .returned (.slice A n c) ∧ OutAt w' w.heap.size p.lo p.hi ⟨A, n, c⟩ ts m.tabs ∧ Same w w' := by
  have hl : p.tb.length ≤ 1000000 := by
    have := congrArg List.length d.tr
    simp only [rowsOf, List.length_map] at this
    rw [this]; exact few.1
  have hr : ∀ t ∈ p.tb, t.rs.length ≤ 1000000000 := by
    intro t ht
    have h1 : t.rows ∈ m.tabs := by rw [← d.tr]; exact List.mem_map_of_mem ht
    have := few.2 _ h1
    simp only [Tbl.rows, List.length_map] at this
    omega
  refine (clone_ok p.ho p.tb w d.tables hl hr).mono ?_
  rintro e w' ⟨⟨A, n, c⟩, ts, he, o, s, hm⟩
  refine ⟨A, n, c, ts, he, ⟨o, ?_, ?_⟩, s⟩
  · rw [rows_same hm]; exact d.tr
  · intro t ht r hr
    obtain ⟨t', ht', e'⟩ := mem_rs hm ht
    rw [← e'] at hr
    exact ⟨(d.rr t' ht' r hr).1.same s, (d.rl t' ht' r hr).mono fun k hk => .inl hk⟩
theorem MgAt.close {w : World} {p : MH} {m : Mg} (d : MgAt w p m) : MgAt (w.setCell ⟨p.g, 7, none⟩ (.bool true)) p m.abandon ∧ Chg p.own w (w.setCell ⟨p.g, 7, none⟩ (.bool true)) :=
  d.flag m.abandon 7 (.bool true) rfl rfl rfl rfl rfl ⟨d.fine.err, d.fine.at_, d.fine.til, d.fine.len, d.fine.fit, d.fine.dl, d.fine.dn, d.fine.bad⟩
theorem abandon_none (w : World) : Calls Tryz.prog 22 #[.pointer none] w fun e w' => e = .returned (.tuple #[.slice none 0 0, .int .i64 1]) ∧ w = w' := by
  go_enter Tryz.func22, Tryz.ntmps22
  go_wp2_with (fail)
  refine (usable_none w).mono ?_
  rintro e w' ⟨rfl, rfl⟩
  go_wp2_with (fail)
  go_ret2
  exact ⟨rfl, rfl⟩
theorem abandon_closed {w : World} {p : MH} {m : Mg} (d : MgAt w p m) (hc : m.closed = true) :
    Calls Tryz.prog 22 #[.pointer (some ⟨p.g, 0, none⟩)] w fun e w' => e = .returned (.tuple #[.slice none 0 0, .int .i64 22]) ∧ w = w' := by
  have HU := Lib.hid (usable_ok d)
  have e : m.abE = 22 := by unfold Mg.abE; rw [if_pos hc]
  rw [e] at HU
  obtain ⟨g, hg⟩ : ∃ g, g = p.g := ⟨_, rfl⟩
  rw [← hg] at HU ⊢
  clear e d hc hg
  go_enter Tryz.func22, Tryz.ntmps22
  go_wp2_with (fail)
  refine HU.out.mono ?_
  rintro e w' ⟨rfl, rfl⟩
  go_wp2_with (fail)
  go_ret2
  exact ⟨rfl, rfl⟩
theorem abandon_ok {w : World} {p : MH} {m : Mg} (d : MgAt w p m) (few : FewR m.tabs) (hc : m.closed = false) :
    Calls Tryz.prog 22 #[.pointer (some ⟨p.g, 0, none⟩)] w fun e w' => ∃ (A : Option Addr) (n c : Nat) (ts : List Tbl), e = .returned (.tuple #[.slice A n c, .int .i64 0]) ∧ OutAt w' w.heap.size p.lo p.hi ⟨A, n, c⟩ ts m.tabs ∧ MTurn w w' p m.abandon := by
  have HU := Lib.hid (usable_ok d)
  have e : m.abE = 0 := by unfold Mg.abE; rw [if_neg (by rw [hc]; simp)]
  rw [e] at HU
  have k7 : w.cell? ⟨p.g, 7, none⟩ = some (.bool m.closed) := d.cell 7
  have f7 : w.frozen? ⟨p.g, 7, none⟩ = false := d.blk.frozen 7
  have k3 : w.cell? ⟨p.g, 3, none⟩ = some p.ho.val := d.cell 3
  have D2 := Lib.hid d.close
  have HC0 := D2.out.1.clone few
  have e9 : m.abandon.tabs = m.tabs := rfl
  rw [e9] at HC0
  have HC := Lib.hid HC0
  clear HC0 e9
  have HS : Hid ((w.setCell ⟨p.g, 7, none⟩ (.bool true)).heap.size = w.heap.size) := by show _ = _; simp [World.setCell]
  have FIN : Hid (∀ A n c ts w', OutAt w' (w.setCell ⟨p.g, 7, none⟩ (.bool true)).heap.size p.lo p.hi ⟨A, n, c⟩ ts m.tabs → Same (w.setCell ⟨p.g, 7, none⟩ (.bool true)) w' → OutAt w' w.heap.size p.lo p.hi ⟨A, n, c⟩ ts m.tabs ∧ MTurn w w' p m.abandon) := Lib.hid fun A n c ts w' o s => by
    rw [HS.out] at o
    exact ⟨o, p, D2.out.1.next s, rfl, rfl, MH.Like.refl p, D2.out.2.then_same s, fun k hk => .inl hk⟩
  rw [hc] at k7
  obtain ⟨⟨Ao, no, co⟩, hho⟩ : ∃ q : Hd, q = p.ho := ⟨_, rfl⟩
  rw [← hho] at k3 HC
  obtain ⟨lo, hlo⟩ : ∃ lo, lo = p.lo := ⟨_, rfl⟩
  obtain ⟨hi, hhi⟩ : ∃ hi, hi = p.hi := ⟨_, rfl⟩
  obtain ⟨TA, hTA⟩ : ∃ TA, TA = m.tabs := ⟨_, rfl⟩
  obtain ⟨g, hg⟩ : ∃ g, g = p.g := ⟨_, rfl⟩
  obtain ⟨M, hM⟩ : ∃ M : World → Prop, M = fun w' => MTurn w w' p m.abandon := ⟨_, rfl⟩
  have HM : Hid (∀ w', MTurn w w' p m.abandon → M w') := Lib.hid fun w' h => by rw [hM]; exact h
  have HM' : Hid (∀ w', M w' → MTurn w w' p m.abandon) := Lib.hid fun w' h => by rw [hM] at h; exact h
  rw [← hlo, ← hhi, ← hTA, ← hg] at HC FIN
  rw [← hg] at HU k7 f7 k3
  refine Calls.mono (R := fun e w' => ∃ (A : Option Addr) (n c : Nat) (ts : List Tbl), e = .returned (.tuple #[.slice A n c, .int .i64 0]) ∧ OutAt w' w.heap.size lo hi ⟨A, n, c⟩ ts TA ∧ M w') ?_ (fun e w' ⟨A, n, c, ts, h1, h2, h3⟩ => ⟨A, n, c, ts, h1, by rw [← hlo, ← hhi, ← hTA]; exact h2, HM'.out _ h3⟩)
  rw [← hg]
  have k3' : w.cell? ⟨g, 3, none⟩ = some (.slice Ao no co) := k3
  have HC' : Hid (Calls Tryz.prog 46 #[.slice Ao no co] (w.setCell ⟨g, 7, none⟩ (.bool true)) fun e w' => ∃ (A : Option Addr) (n c : Nat) (ts : List Tbl), e = .returned (.slice A n c) ∧ OutAt w' (w.setCell ⟨g, 7, none⟩ (.bool true)).heap.size lo hi ⟨A, n, c⟩ ts TA ∧ Same (w.setCell ⟨g, 7, none⟩ (.bool true)) w') := HC
  have FIN' : Hid (∀ A n c ts w', OutAt w' (w.setCell ⟨g, 7, none⟩ (.bool true)).heap.size lo hi ⟨A, n, c⟩ ts TA → Same (w.setCell ⟨g, 7, none⟩ (.bool true)) w' → OutAt w' w.heap.size lo hi ⟨A, n, c⟩ ts TA ∧ M w') := Lib.hid fun A n c ts w' o s => ⟨(FIN.out A n c ts w' o s).1, HM.out _ (FIN.out A n c ts w' o s).2⟩
  clear e d hc hho hlo hhi hTA hg hM k3 HC FIN D2 HS HM HM' few
  go_enter Tryz.func22, Tryz.ntmps22
  go_wp2_with (fail)
  refine HU.out.mono ?_
  rintro e w' ⟨rfl, rfl⟩
  go_wp2_with (fail)
  refine HC'.out.mono ?_
  rintro e w1 ⟨A, n, c, ts, rfl, o, s⟩
  have OO := Lib.hid (FIN'.out A n c ts w1 o s)
  clear o s
  go_wp2_with (fail)
  go_ret2
  exact ⟨A, n, c, ts, rfl, OO.out⟩
end Go.Proofs.YtpakimhhpeaefaaGreatDoor

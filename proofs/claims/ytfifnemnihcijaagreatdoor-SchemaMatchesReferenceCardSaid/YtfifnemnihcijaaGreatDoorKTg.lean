/- What each change does to a table of the call's own: contracts. Conditions: none. | schema.Apply: contract. Conditions: none. -/
import Derived.Test.YtfifnemnihcijaaGreatDoorKTe
import Derived.Test.YtfifnemnihcijaaGreatDoorKTd
import Derived.Test.YtfifnemnihcijaaGreatDoorKTc
import Derived.Outline
set_option linter.unusedSimpArgs false
set_option linter.unusedVariables false
namespace Go.Proofs.YtfifnemnihcijaaGreatDoor
open Go.RowKit

/-- A table that a change can be applied to. -/
structure Ready (W0 : World) (t : RT) : Prop where
  ras : RAsOk W0 t.ra
  nm : okS t.name
  al : t.ra.length ≤ 12
  kl : t.key.length ≤ 12
  kb : ∀ q ∈ t.key, 0 ≤ q ∧ q ≤ 1000000
  few : ∀ r ∈ t.ra, r.at_.was.length ≤ 1000000
section
variable {W0 w w1 : World} {g c i : Nat} {ts : List RT} {t : RT}
theorem TabState.same (S : TabState W0 w g c ts i t) (s : Same w w1) : TabState W0 w1 g c ts i t :=
  ⟨S.s.trans s, own_same s S.row, S.ti, S.an, own_same s S.ar, S.kn, own_same s S.kr⟩
theorem TabState.rowBlk (S : TabState W0 w g c ts i t) : ∃ cur, Blk w g 44 cur := by
  obtain ⟨g', cur, hA, _, hk, _⟩ := own_blk S.row (Nat.lt_of_le_of_lt (Nat.zero_le _) S.lt)
  injection hA with hA
  injection hA with e
  subst e
  exact ⟨cur, hk⟩
theorem done_mk {t' : RT} {tb : Tb} (R : Ready W0 t) (S : TabState W0 w g c (ts.set i t') i t') (htb : t'.tb = tb) (hr : RAsOk w t'.ra) (hn : t'.name = t.name) (hl : t'.ra.length ≤ 13) (hk : t'.key.length = t.key.length) : TbDone W0 w g c ts i tb :=
  ⟨t', S, htb, hr, by rw [hn]; exact R.nm, by omega, by have := R.kl; omega⟩

theorem table_add (cg : Cg) (a : Int) (S : TabState W0 w g c ts i t) (R : Ready W0 t) (hk : cg.kind = 1) (hn : okS cg.name) (hd : okS cg.dflt.s) :
    Calls Tryz.prog 103 #[.pointer (some ⟨g, i * 3, none⟩), cg.val, .int .i64 a] w fun e w' => e = .returned (.tuple #[]) ∧ TbDone W0 w' g c ts i (newT t.tb cg) ∧ KeepT w w' := by
  obtain ⟨k, tt, aa, nn, to_, ⟨dk, dn, ds⟩⟩ := cg
  have x1 : w.cell? ⟨g, i * 3 + 1, none⟩ = some t.ha.val := S.cell 1 (by omega)
  refine (add2_low W0.heap.size g (i * 3) t.ra.length t.ha.val (t.ra.flatMap RA.cells) a k to_ dk dn tt aa nn ds w S.g_le.2 S.s.size (by have := R.al; omega) x1 (S.free _) S.ar (row_ne S.ar S.row (by decide))).mono ?_
  rintro e w' ⟨v1, w1, he, o1, g1, rfl⟩
  obtain ⟨A, ca, rfl⟩ := own_val o1
  refine ⟨he, ?_⟩
  have hfl : (t.ra ++ [(⟨⟨nn, to_, [], ⟨dk, dn, ds⟩⟩, ⟨none, 0, 0⟩⟩ : RA)]).flatMap RA.cells = t.ra.flatMap RA.cells ++ [.string nn, .int .i64 to_, .slice none 0 0, .int .i64 dk, .int .i64 dn, .string ds] := by
    rw [List.flatMap_append]; rfl
  have hln : (t.ra ++ [(⟨⟨nn, to_, [], ⟨dk, dn, ds⟩⟩, ⟨none, 0, 0⟩⟩ : RA)]).length = t.ra.length + 1 := by simp
  have S2 := S.newA (ra := t.ra ++ [⟨⟨nn, to_, [], ⟨dk, dn, ds⟩⟩, ⟨none, 0, 0⟩⟩]) g1 (by rw [hln, hfl]; exact o1)
  rw [hln] at S2
  obtain ⟨cur0, hrb⟩ := S.rowBlk
  refine ⟨done_mk R S2 (newT_add t ⟨k, tt, aa, nn, to_, ⟨dk, dn, ds⟩⟩ hk _) ?_ rfl (by simp; have := R.al; omega) rfl, ?_⟩
  case refine_2 => exact ((KeepT.refl w).grown S.ar (.inr (.inl rfl)) g1).set (Blk.grown hrb g1 (fun e => row_ne S.ar S.row (by decide) e.symm)) (.inl rfl) _ _
  intro r hr
  rcases List.mem_append.1 hr with h | h
  · exact R.ras.same S2.s r h
  · rw [List.mem_singleton.1 h]
    exact ⟨strs_none _, hn, hd⟩

theorem table_cast (cg : Cg) (a : Nat) (S : TabState W0 w g c ts i t) (R : Ready W0 t) (hk : cg.kind = 4) (ha : a < t.ra.length) (hc : colA t.tb.attrs cg.attr = a) (hd : okS cg.dflt.s) :
    Calls Tryz.prog 116 #[.pointer (some ⟨g, i * 3, none⟩), cg.val, .int .i64 a] w fun e w' => e = .returned (.tuple #[]) ∧ TbDone W0 w' g c ts i (newT t.tb cg) ∧ KeepT w w' := by
  obtain ⟨k, tt, aa, nn, to_, ⟨dk, dn, ds⟩⟩ := cg
  obtain ⟨ga, ca, hha, hgb, hgl, hne, hfr, har⟩ := S.haBlk (by omega)
  have x1 : w.cell? ⟨g, i * 3 + 1, none⟩ = some (.slice (some ⟨ga, 0, none⟩) t.ra.length ca) := by
    have := S.cell 1 (by omega)
    rw [this]
    show some t.ha.val = _
    rw [hha]; rfl
  have hcl : ∀ j, j < 6 → ∃ v, w.cell? ⟨ga, a * 6 + j, none⟩ = some v := by
    intro j hj
    have := own_cell RA.clen har rfl a ha j hj
    exact ⟨_, this.trans (List.getElem?_eq_getElem (show j < (RA.cells t.ra[a]).length from hj))⟩
  refine (cast2_low g (i * 3) ga a t.ra.length ca k to_ dk dn tt aa nn ds w hne hgl S.g_le.2 ha (by have := R.al; omega) x1 (hcl 1 (by omega)) (hcl 3 (by omega)) (hcl 4 (by omega)) (hcl 5 (by omega)) hfr).mono ?_
  rintro e w' ⟨he, rfl⟩
  refine ⟨he, ?_⟩
  have S2 := ((S.cast4 (by rw [hha]) (by rw [hha]) a ha to_ dk dn ds).alloc (.cells #[.int .i64 k, .string tt, .string aa, .string nn, .int .i64 to_, .int .i64 dk, .int .i64 dn, .string ds] 28)).drew
  refine ⟨done_mk R S2 (newT_cast t ⟨k, tt, aa, nn, to_, ⟨dk, dn, ds⟩⟩ a ha hk hc) ?_ rfl (by simp; have := R.al; omega) rfl, ?_⟩
  case refine_2 =>
    obtain ⟨ga', cur, hA, _, hkb, _⟩ := own_blk har (by omega)
    injection hA with hA
    injection hA with e
    subst e
    have b1 := hkb.set_ (a * 6 + 1) (.int .i64 to_)
    have b2 := b1.set_ (a * 6 + 3) (.int .i64 dk)
    have b3 := b2.set_ (a * 6 + 4) (.int .i64 dn)
    exact ((((((KeepT.refl w).set hkb (.inr (.inl rfl)) _ _).set b1 (.inr (.inl rfl)) _ _).set b2 (.inr (.inl rfl)) _ _).set b3 (.inr (.inl rfl)) _ _).alloc _).drew
  have h0 := R.ras _ (List.getElem_mem ha)
  exact (R.ras.same S2.s).set a _ ⟨h0.1.same S2.s, h0.2.1, hd⟩

theorem table_ren (cg : Cg) (a : Nat) (S : TabState W0 w g c ts i t) (R : Ready W0 t) (hk : cg.kind = 3) (ha : a < t.ra.length) (hc : colA t.tb.attrs cg.attr = a) (hn : okS cg.name) :
    Calls Tryz.prog 112 #[.pointer (some ⟨g, i * 3, none⟩), cg.val, .int .i64 a] w fun e w' => e = .returned (.tuple #[]) ∧ TbDone W0 w' g c ts i (newT t.tb cg) ∧ KeepT w w' := by
  obtain ⟨k, tt, aa, nn, to_, ⟨dk, dn, ds⟩⟩ := cg
  obtain ⟨ga, ca, hha, hgb, hgl, hne, hfr, har⟩ := S.haBlk (by omega)
  have x1 : w.cell? ⟨g, i * 3 + 1, none⟩ = some (.slice (some ⟨ga, 0, none⟩) t.ra.length ca) := by
    have := S.cell 1 (by omega)
    rw [this]
    show some t.ha.val = _
    rw [hha]; rfl
  have e0 : w.cell? ⟨ga, a * 6, none⟩ = some (.string t.ra[a].at_.name) := own_cell RA.clen har rfl a ha 0 (by omega)
  have e2 : w.cell? ⟨ga, a * 6 + 2, none⟩ = some t.ra[a].h.val := own_cell RA.clen har rfl a ha 2 (by omega)
  have h0 := R.ras _ (List.getElem_mem ha)
  have hfw := R.few _ (List.getElem_mem ha)
  refine (ren2_low g (i * 3) ga a t.ra.length ca k to_ dk dn tt aa nn ds t.ra[a].at_.name t.ra[a].h t.ra[a].at_.was w hne hgl S.g_le.2 ha (by have := R.al; omega) x1 e0 e2 hfr (h0.1.same S.s) hfw).mono ?_
  rintro e w' ⟨A1, c1, w1, he, o1, s1, rfl⟩
  refine ⟨he, ?_⟩
  obtain ⟨hw, hhw⟩ : ∃ hw : Hd, hw = ⟨A1, t.ra[a].at_.was.length + 1, c1⟩ := ⟨_, rfl⟩
  have S2 := ((S.same s1).ren2 (by rw [hha]) (by rw [hha]) a ha hw (t.ra[a].at_.was ++ [t.ra[a].at_.name]) nn).drew
  have hv : hw.val = .slice A1 (t.ra[a].at_.was.length + 1) c1 := by rw [hhw]; rfl
  rw [hv] at S2
  refine ⟨done_mk R S2 (newT_ren t ⟨k, tt, aa, nn, to_, ⟨dk, dn, ds⟩⟩ a ha hk hc hw) ?_ rfl (by simp; have := R.al; omega) rfl, ?_⟩
  case refine_2 =>
    obtain ⟨ga', cur, hA, _, hkb, _⟩ := own_blk (own_same s1 har) (by omega)
    injection hA with hA
    injection hA with e
    subst e
    exact (((KeepT.same s1).set hkb (.inr (.inl rfl)) _ _).set (hkb.set_ _ _) (.inr (.inl rfl)) _ _).drew
  refine (R.ras.same S2.s).set a _ ⟨⟨?_, ?_⟩, hn, h0.2.2⟩
  · have hoff : A1 ≠ some ⟨ga, 0, none⟩ := by
      rintro rfl
      have := (o1.lt ga rfl).1
      omega
    have o2 := (own_off' (own_off' o1 hoff (a * 6 + 2) (.slice A1 (t.ra[a].at_.was.length + 1) c1)) hoff (a * 6) (.string nn)).drew
    rw [hhw]
    refine own_lies' (base := w.heap.size) (e := 9) (enc := strCell) (fun _ => rfl) (by simp) (by show t.ra[a].at_.was.length + 1 ≤ _; omega) ?_
    rw [flat_str]
    exact o2
  · intro s hs
    rcases List.mem_append.1 hs with h | h
    · exact h0.1.2 s h
    · rw [List.mem_singleton.1 h]; exact h0.2.1

theorem table_drop (cg : Cg) (a : Nat) (S : TabState W0 w g c ts i t) (R : Ready W0 t) (hk : cg.kind = 2) (ha : a < t.ra.length) (hc : colA t.tb.attrs cg.attr = a) :
    Calls Tryz.prog 107 #[.pointer (some ⟨g, i * 3, none⟩), cg.val, .int .i64 a] w fun e w' => e = .returned (.tuple #[]) ∧ TbDone W0 w' g c ts i (newT t.tb cg) ∧ KeepT w w' := by
  obtain ⟨k, tt, aa, nn, to_, ⟨dk, dn, ds⟩⟩ := cg
  refine (drop2_state W0 w g c i a ts t k to_ dk dn tt aa nn ds S ha (by have := R.al; omega) (by have := R.kl; omega) R.kb).mono ?_
  rintro e w' ⟨he, ⟨h', S2⟩, hkp⟩
  refine ⟨he, done_mk R S2 (newT_drop t ⟨k, tt, aa, nn, to_, ⟨dk, dn, ds⟩⟩ a hk hc h') ?_ rfl ?_ (by simp), hkp⟩
  · intro r hr
    exact R.ras.same S2.s r (List.mem_of_mem_eraseIdx hr)
  · show (t.ra.eraseIdx a).length ≤ 13
    have := R.al
    rw [List.length_eraseIdx]
    split <;> omega
end
end Go.Proofs.YtfifnemnihcijaaGreatDoor
namespace Go.Proofs.YtfifnemnihcijaaGreatDoor
open Go.RowKit

/-- What Apply hands back: nothing and an error, or the changed schema. -/
def ApplyOut (S' : List Tb) (E : Int) (w' : World) (e : Ending) : Prop :=
  (E ≠ 0 ∧ e = .returned (.tuple #[.agg #[.slice none 0 0], .int .i64 E])) ∨ (E = 0 ∧ ∃ (h' : Hd) (ts' : List RT), e = .returned (.tuple #[.agg #[h'.val], .int .i64 0]) ∧ TabsAt w' h' ts' ∧ ts'.map RT.tb = S')

set_option maxHeartbeats 4000000 in
set_option maxRecDepth 100000 in
theorem apply_bad (h : Hd) (ts : List RT) (c : Cg) (w : World) (a : TabsAt w h ts) (few : Few ts) (hn : okS c.name) (hE : errOf (ts.map RT.tb) c ≠ 0) :
    Calls Tryz.prog 7 #[.agg #[h.val], c.val] w fun e w' => e = .returned (.tuple #[.agg #[.slice none 0 0], .int .i64 (errOf (ts.map RT.tb) c)]) ∧ Same w w' := by
  have HF := Lib.hid (fun W (s : Same w W) => find_all h ts c W (a.same s) few hn)
  obtain ⟨E, hEE⟩ : ∃ E, E = errOf (ts.map RT.tb) c := ⟨_, rfl⟩
  rw [← hEE] at hE HF ⊢
  clear a few hn hEE
  have HV : Hid (∃ x0 x1 x2 x3, effV c.kind = .agg #[x0, x1, x2, x3] ∧ x0.oneCell' = true ∧ x1.oneCell' = true ∧ x2.oneCell' = true ∧ x3.oneCell' = true) := by
    unfold effV
    split
    · exact ⟨_, _, _, _, rfl, rfl, rfl, rfl, rfl⟩
    split
    · exact ⟨_, _, _, _, rfl, rfl, rfl, rfl, rfl⟩
    split
    · exact ⟨_, _, _, _, rfl, rfl, rfl, rfl, rfl⟩
    split
    · exact ⟨_, _, _, _, rfl, rfl, rfl, rfl, rfl⟩
    · exact ⟨_, _, _, _, rfl, rfl, rfl, rfl, rfl⟩
  obtain ⟨x0, x1, x2, x3, hv, o0, o1, o2, o3⟩ := HV.out
  rw [hv] at HF
  clear hv HV
  obtain ⟨A, m, cc⟩ := h
  obtain ⟨k, tt, aa, n, to_, ⟨dk, dn, ds⟩⟩ := c
  have HF' : Hid (∀ W, Same w W → Calls Tryz.prog 37 #[.agg #[.slice A m cc], .agg #[.int .i64 k, .string tt, .string aa, .string n, .int .i64 to_, .int .i64 dk, .int .i64 dn, .string ds]] W fun e w' => (∃ x y : Int, e = .returned (.tuple #[.agg #[x0, x1, x2, x3], .int .i64 x, .int .i64 y, .int .i64 E])) ∧ Same W w') :=
    fun W s => (HF.out W s).mono fun e w' ⟨⟨x, y, he, _⟩, s'⟩ => ⟨⟨x, y, he⟩, s'⟩
  clear HF
  have r0 := fun w a m => run_store Tryz.prog w a x0 m o0
  have r1 := fun w a m => run_store Tryz.prog w a x1 m o1
  have r2 := fun w a m => run_store Tryz.prog w a x2 m o2
  have r3 := fun w a m => run_store Tryz.prog w a x3 m o3
  clear o0 o1 o2 o3
  have tE : (E != 0) = true := by simp; exact hE
  show Calls Tryz.prog 7 #[.agg #[.slice A m cc], .agg #[.int .i64 k, .string tt, .string aa, .string n, .int .i64 to_, .int .i64 dk, .int .i64 dn, .string ds]] w _
  go_enter Tryz.func7, Tryz.ntmps7
  go_wp2_with (fail)
  refine (HF'.out _ ?_).mono ?_
  · exact (((Same.refl w).alloc _).alloc _).alloc _
  rintro e w1 ⟨⟨x, y, rfl⟩, s1⟩
  have S1 := Lib.hid s1
  have K1 := s1.cells
  have F1 := s1.frees
  have Z1 : w.heap.size + 3 ≤ w1.heap.size := by have := s1.size; simp at this; omega
  have z2 : w.heap.size + 1 + 1 < w1.heap.size := by omega
  clear s1
  go_wp2_with (fail)
  refine bodyPost_ret (v := .tuple #[.agg #[.slice none 0 0], .int .i64 E]) ?_ rfl ⟨rfl, ?_⟩
  · simp [results, Tryz.results7, go_sem, K1, F1, z2]
  · repeat (first | (with_reducible refine Same.setCell ?_ (by dsimp only; omega) _) | (with_reducible refine Same.drew ?_) | (with_reducible refine Same.alloc ?_ _))
    exact ((((Same.refl w).alloc _).alloc _).alloc _).trans S1.out
end Go.Proofs.YtfifnemnihcijaaGreatDoor

/- schema.find at every change: contract. Conditions: none. -/
import Derived.Test.YtfifnemnihcijaaGreatDoorKSw
import Derived.Test.YtfifnemnihcijaaGreatDoorKSc
set_option linter.unusedSimpArgs false
set_option linter.unusedVariables false
namespace Go.Proofs.YtfifnemnihcijaaGreatDoor
open Go.RowKit

def effV (k : Int) : Value := if k = 1 then effAdd else if k = 2 then effDrop else if k = 3 then effRen else if k = 4 then effCast else effZero

theorem emptyP (s : ByteArray) : s.size = 0 ↔ s = ByteArray.empty := by
  constructor
  · intro h
    apply ba_inj
    have : (ba s).length = 0 := by rw [ba_length]; exact h
    rw [List.eq_nil_of_length_eq_zero this]
    rfl
  · rintro rfl; rfl

theorem same_zero (v : V) : V.same v V.zero = (decide (v.k = 0) && (decide (v.n = 0) && decide (v.s.size = 0))) := by
  rw [Bool.eq_iff_iff, V.same_iff]
  simp only [Bool.and_eq_true, decide_eq_true_eq]
  constructor
  · rintro rfl; exact ⟨rfl, rfl, rfl⟩
  · rintro ⟨h1, h2, h3⟩; exact V.ext' h1 h2 ((emptyP _).1 h3)

set_option maxHeartbeats 1000000 in
theorem find_else (h : Hd) (c : Cg) (w : World) (h1 : c.kind ≠ 1) (h2 : c.kind ≠ 2) (h3 : c.kind ≠ 3) (h4 : c.kind ≠ 4) :
    Calls Tryz.prog 37 #[.agg #[h.val], c.val] w fun e w' => e = .returned (.tuple #[effZero, .int .i64 0, .int .i64 0, .int .i64 1]) ∧ Same w w' := by
  obtain ⟨k, t, a, n, to_, ⟨dk, dn, ds⟩⟩ := c
  obtain ⟨A, m, cc⟩ := h
  have HE := Lib.hid (fun W => effects_else k t a n to_ dk dn ds W h1 h2 h3 h4)
  clear h1 h2 h3 h4
  show Calls Tryz.prog 37 #[.agg #[.slice A m cc], .agg #[.int .i64 k, .string t, .string a, .string n, .int .i64 to_, .int .i64 dk, .int .i64 dn, .string ds]] w _
  go_enter Tryz.func37, Tryz.ntmps37
  go_wp2_with (fail)
  refine (HE.out _).mono ?_
  rintro e w1 ⟨he, s1⟩
  unfold effZero at he
  subst he
  have S1 := Lib.hid s1
  have K1 := s1.cells
  have F1 := s1.frees
  have Z1 : w.heap.size + 3 ≤ w1.heap.size := by have := s1.size; simp at this; omega
  clear s1
  go_upto_region 2 with (fail)
  obtain ⟨wq, hwq⟩ : ∃ wq, wq = (((w1.setCell ⟨w.heap.size + 1 + 1, 0, none⟩ (.bool false)).setCell ⟨w.heap.size + 1 + 1, 1, none⟩ .nilFunc).setCell ⟨w.heap.size + 1 + 1, 2, none⟩ .nilFunc).setCell ⟨w.heap.size + 1 + 1, 3, none⟩ .nilFunc := ⟨_, rfl⟩
  rw [← hwq]
  have sq : Same w wq := by
    rw [hwq]
    repeat (with_reducible refine Same.setCell ?_ (by dsimp only; omega) _)
    exact ((((Same.refl w).alloc _).alloc _).alloc _).trans S1.out
  have FQ : Hid (FindBox w.heap.size (.slice A m cc) [.int .i64 k, .string t, .string a, .string n, .int .i64 to_, .int .i64 dk, .int .i64 dn, .string ds] [.bool false, .nilFunc, .nilFunc, .nilFunc] wq) := by
    have n1 : (w.alloc (.cells #[.slice A m cc] 24)).heap.size = w.heap.size + 1 := by simp
    have n2 : ((w.alloc (.cells #[.slice A m cc] 24)).alloc (.cells #[.int .i64 k, .string t, .string a, .string n, .int .i64 to_, .int .i64 dk, .int .i64 dn, .string ds] 28)).heap.size = w.heap.size + 1 + 1 := by simp
    have ba1 := ((Blk.new w 24 #[.slice A m cc]).alloc (.cells #[.int .i64 k, .string t, .string a, .string n, .int .i64 to_, .int .i64 dk, .int .i64 dn, .string ds] 28)).alloc (.cells #[.bool false, .nilFunc, .nilFunc, .nilFunc] 74)
    have ba2 := (Blk.new (w.alloc (.cells #[.slice A m cc] 24)) 28 #[.int .i64 k, .string t, .string a, .string n, .int .i64 to_, .int .i64 dk, .int .i64 dn, .string ds]).alloc (.cells #[.bool false, .nilFunc, .nilFunc, .nilFunc] 74)
    have ba3 := Blk.new ((w.alloc (.cells #[.slice A m cc] 24)).alloc (.cells #[.int .i64 k, .string t, .string a, .string n, .int .i64 to_, .int .i64 dk, .int .i64 dn, .string ds] 28)) 74 #[.bool false, .nilFunc, .nilFunc, .nilFunc]
    rw [n1] at ba2
    rw [n2] at ba3
    have bb1 : Blk w1 w.heap.size 24 #[.slice A m cc] := (S1.out.block _ (by simp; omega)).trans ba1
    have bb2 : Blk w1 (w.heap.size + 1) 28 #[.int .i64 k, .string t, .string a, .string n, .int .i64 to_, .int .i64 dk, .int .i64 dn, .string ds] := (S1.out.block _ (by simp)).trans ba2
    have hb1 : Blk w1 (w.heap.size + 1 + 1) 74 #[.bool false, .nilFunc, .nilFunc, .nilFunc] := (S1.out.block _ (by simp)).trans ba3
    have hb2 := set4_same (.bool false) .nilFunc .nilFunc .nilFunc hb1
    have hsz : wq.heap.size = w1.heap.size := by rw [hwq]; simp [World.setCell]
    refine ⟨?_, ?_, ?_, ?_, ?_, ?_⟩
    · rw [hwq, set4_other _ _ _ _ _ _ _ (by dsimp only; omega), bb1.cell]; rfl
    · intro j v hv
      rw [hwq, set4_other _ _ _ _ _ _ _ (by dsimp only; omega), bb2.cell]
      simpa using hv
    · intro j v hv
      rw [hwq, hb2.cell]
      simpa using hv
    · intro j
      rw [hwq]; exact hb2.frozen j
    · rw [hsz]; exact Z1
    · rw [hwq]; exact hb2
  have SQ := Lib.hid sq
  clear hwq sq K1 F1 Z1 S1
  obtain ⟨-, -, e_, f_, z_, -⟩ := FQ.out
  have e0 := e_ 0 _ rfl
  have e1 := e_ 1 _ rfl
  have e2 := e_ 2 _ rfl
  have e3 := e_ 3 _ rfl
  clear e_
  go_wp2_with (fail)
  refine bodyPost_ret (v := .tuple #[effZero, .int .i64 0, .int .i64 0, .int .i64 1]) ?_ rfl ⟨rfl, ?_⟩
  · simp [results, Tryz.results37, go_sem, effZero, e0, e1, e2, e3]
  · repeat (first | (with_reducible refine Same.setCell ?_ (by dsimp only; omega) _) | (with_reducible refine Same.drew ?_))
    exact SQ.out

set_option maxHeartbeats 1000000 in
theorem find_all (h : Hd) (ts : List RT) (c : Cg) (w : World) (a : TabsAt w h ts) (few : Few ts) (hn : okS c.name) :
    Calls Tryz.prog 37 #[.agg #[h.val], c.val] w fun e w' =>
      FindOut (effV c.kind) (errOf (ts.map RT.tb) c) (findT (ts.map RT.tb) c.table) (match ts[(findT (ts.map RT.tb) c.table).toNat]? with | some t => colA t.tb.attrs c.attr | none => 0) e ∧ Same w w' := by
  have e3 : ∀ (k : Nat) (hk : k < ts.length), (ts.map RT.tb)[k]'(by simpa using hk) = ts[k].tb := fun k hk => by simp
  have hl : (ts.map RT.tb).length = ts.length := List.length_map _
  have tbl : ∀ t : RT, t.tb.attrs.length = t.ra.length := fun t => by simp [RT.tb]
  have nat : ∀ {i : Int} {m : Nat}, 0 ≤ i ∧ i < m → ∃ k : Nat, i = k ∧ k < m := fun {i m} h => ⟨i.toNat, by omega, by omega⟩
  by_cases h1 : c.kind = 1
  · have hf : formedB c = decide (c.attr.size = 0) := by simp [formedB, h1]
    have hv : effV c.kind = .agg #[.bool false, fnV 100, fnV 103, fnV 104] := by simp [effV, h1, effAdd]
    rw [hv]
    refine find_gen false (formedB c) _ _ _ h ts c (fun t i => checkE t.tb c i.toNat) w a few ?_ (enters_of Tryz.func100 (by kernel_rfl) rfl) ?_ _ err_E0 err_E1 err_E2 ?_ ?_
    · intro W
      rw [hf]
      obtain ⟨k, t, at_, n, to_, ⟨dk, dn, ds⟩⟩ := c
      obtain rfl : k = 1 := h1
      exact effects_add t at_ n to_ dk dn ds W
    · intro k hk i W s _
      have := check_add ts[k] c i W ((a.2 _ (List.getElem_mem hk)).same s) hn
      simpa [checkE, h1, tbl] using this
    · intro _ _ k hk _ hh; cases hh
    · intro p q k hk hfi _
      have := err_E4 (c := c) p q k (by rw [hl]; exact hk) hfi (fun hh => absurd h1 hh)
      rw [e3 k hk] at this
      exact this
  by_cases h2 : c.kind = 2
  · have hf : formedB c = (decide (c.name.size = 0) && (decide (c.to_ = 0) && (decide (c.dflt.k = 0) && (decide (c.dflt.n = 0) && decide (c.dflt.s.size = 0))))) := by unfold formedB; rw [if_neg h1, if_pos h2, same_zero]
    have hv : effV c.kind = .agg #[.bool true, fnV 105, fnV 107, fnV 109] := by simp [effV, h2, effDrop]
    rw [hv]
    refine find_gen true (formedB c) _ _ _ h ts c (fun t i => checkE t.tb c i.toNat) w a few ?_ (enters_of Tryz.func105 (by kernel_rfl) rfl) ?_ _ err_E0 err_E1 err_E2 ?_ ?_
    · intro W
      rw [hf]
      obtain ⟨k, t, at_, n, to_, ⟨dk, dn, ds⟩⟩ := c
      obtain rfl : k = 2 := h2
      exact effects_drop t at_ n to_ dk dn ds W
    · intro k hk i W s hi
      obtain ⟨j, rfl, hj⟩ := nat (hi rfl)
      have := check_drop ts[k] c j W ((a.2 _ (List.getElem_mem hk)).same s)
      have e : checkE ts[k].tb c (j : Int).toNat = (if ts[k].key.any (fun k => decide (k = (j : Int))) then 1 else 0) := by unfold checkE; rw [if_neg h1, if_pos h2]; rfl
      rw [e]
      exact this
    · intro p q k hk hfi _ hc
      exact err_E3 p q k (by rw [hl]; exact hk) hfi h1 (by rw [e3 k hk]; exact hc)
    · intro p q k hk hfi hc
      have := err_E4 (c := c) p q k (by rw [hl]; exact hk) hfi (fun _ => by rw [e3 k hk]; exact hc rfl)
      rw [e3 k hk] at this
      exact this
  by_cases h3 : c.kind = 3
  · have hf : formedB c = (decide (c.to_ = 0) && (decide (c.dflt.k = 0) && (decide (c.dflt.n = 0) && decide (c.dflt.s.size = 0)))) := by unfold formedB; rw [if_neg h1, if_neg h2, if_pos h3, same_zero]
    have hv : effV c.kind = .agg #[.bool true, fnV 111, fnV 112, fnV 114] := by simp [effV, h3, effRen]
    rw [hv]
    refine find_gen true (formedB c) _ _ _ h ts c (fun t i => checkE t.tb c i.toNat) w a few ?_ (enters_of Tryz.func111 (by kernel_rfl) rfl) ?_ _ err_E0 err_E1 err_E2 ?_ ?_
    · intro W
      rw [hf]
      obtain ⟨k, t, at_, n, to_, ⟨dk, dn, ds⟩⟩ := c
      obtain rfl : k = 3 := h3
      exact effects_ren t at_ n to_ dk dn ds W
    · intro k hk i W s hi
      obtain ⟨j, rfl, hj⟩ := nat (hi rfl)
      have := check_ren ts[k] c j W ((a.2 _ (List.getElem_mem hk)).same s) hn
      have e : checkE ts[k].tb c (j : Int).toNat = freshE ts[k].tb c := by unfold checkE; rw [if_neg h1, if_neg h2, if_pos h3]
      rw [e]
      exact this
    · intro p q k hk hfi _ hc
      exact err_E3 p q k (by rw [hl]; exact hk) hfi h1 (by rw [e3 k hk]; exact hc)
    · intro p q k hk hfi hc
      have := err_E4 (c := c) p q k (by rw [hl]; exact hk) hfi (fun _ => by rw [e3 k hk]; exact hc rfl)
      rw [e3 k hk] at this
      exact this
  by_cases h4 : c.kind = 4
  · have hf : formedB c = decide (c.name.size = 0) := by simp [formedB, h4]
    have hv : effV c.kind = .agg #[.bool true, fnV 115, fnV 116, fnV 117] := by simp [effV, h4, effCast]
    rw [hv]
    refine find_gen true (formedB c) _ _ _ h ts c (fun t i => checkE t.tb c i.toNat) w a few ?_ (enters_of Tryz.func115 (by kernel_rfl) rfl) ?_ _ err_E0 err_E1 err_E2 ?_ ?_
    · intro W
      rw [hf]
      obtain ⟨k, t, at_, n, to_, ⟨dk, dn, ds⟩⟩ := c
      obtain rfl : k = 4 := h4
      exact effects_cast t at_ n to_ dk dn ds W
    · intro k hk i W s hi
      obtain ⟨j, rfl, hj⟩ := nat (hi rfl)
      have := check_cast ts[k] c j W ((a.2 _ (List.getElem_mem hk)).same s) hj
      have e : checkE ts[k].tb c (j : Int).toNat = (if typedB c && !decide ((ts[k].tb.attrs.map At.kind)[j]? = some c.to_) then 0 else 1) := by unfold checkE; rw [if_neg h1, if_neg h2, if_neg h3]; rfl
      rw [e]
      exact this
    · intro p q k hk hfi _ hc
      exact err_E3 p q k (by rw [hl]; exact hk) hfi h1 (by rw [e3 k hk]; exact hc)
    · intro p q k hk hfi hc
      have := err_E4 (c := c) p q k (by rw [hl]; exact hk) hfi (fun _ => by rw [e3 k hk]; exact hc rfl)
      rw [e3 k hk] at this
      exact this
  · have hf : formedB c = false := by simp [formedB, h1, h2, h3, h4]
    have hv : effV c.kind = effZero := by simp [effV, h1, h2, h3, h4]
    refine (find_else h c w h1 h2 h3 h4).mono ?_
    rintro e w' ⟨he, s⟩
    have hE : errOf (ts.map RT.tb) c = 1 := err_E0 hf
    rw [hv, hE]
    exact ⟨⟨0, 0, he, fun h => by cases h⟩, s⟩
end Go.Proofs.YtfifnemnihcijaaGreatDoor

/- Texts of numbers: strconv.Itoa and Atoi, value.decimal: contracts. Conditions: the three variables of strconv hold what its initialisers lay. | value.Text of a value that is no text: contract. Conditions: none. | Values, as plain Lean: parsing a text, casting a value. Conditions: none. -/
import Derived.Test.YtfifnemnihcijaaGreatDoorKVb
import Derived.Test.YtfifnemnihcijaaGreatDoorShelf
import Derived.Lib.AtoiAll
import Derived.Lib.AtoiErrMem
import Derived.Lib.ItoaLen
set_option linter.unusedSimpArgs false
set_option linter.unusedVariables false
namespace Go.Proofs.YtfifnemnihcijaaGreatDoor
open Go.RowKit Go.Sort

/-- strconv's table and its two errors, as its initialisers lay them. -/
structure Laid (w : World) : Prop where
  tab : Lib.TabIs Tryz.prog w "internal/strconv.uint64pow10" .u64 Lib.pow10Tab
  syn : ∃ t p, w.cell? ⟨1, 0, none⟩ = some (.iface t p)
  rng : ∃ t p, w.cell? ⟨2, 0, none⟩ = some (.iface t p)
theorem Laid.same {w w' : World} (l : Laid w) (s : Same w w') : Laid w' := by
  refine ⟨?_, ?_, ?_⟩
  · have h := l.tab
    unfold Lib.TabIs World.var? at h ⊢
    cases hg : Tryz.prog.globalNamed "internal/strconv.uint64pow10" with
    | none => rw [hg] at h; cases h
    | some g =>
      rw [hg] at h
      simp only [Option.bind_some] at h ⊢
      cases hh : w.heap[g]? with
      | none => rw [hh] at h; cases h
      | some o =>
        rw [hh] at h
        rw [s.block g (Array.getElem?_eq_some_iff.1 hh).1, hh]
        exact h
  · obtain ⟨t, p, h⟩ := l.syn
    exact ⟨t, p, (s.cells _ _ (World.block_lt_of_cell? _ _ h)).trans h⟩
  · obtain ⟨t, p, h⟩ := l.rng
    exact ⟨t, p, (s.cells _ _ (World.block_lt_of_cell? _ _ h)).trans h⟩

theorem same_grow (w : World) (k : Nat) (os : Array Obj) : Same w (grow (w.drewN k) os) :=
  ⟨rfl, rfl, rfl, by simp [grow, World.drewN], fun j hj => heap_grow_old (w.drewN k) os hj⟩
theorem itoa_ok (n : Int) (h0 : -9223372036854775808 ≤ n) (h1 : n ≤ 9223372036854775807) (w : World) (l : Laid w) :
    Calls Tryz.prog 142 #[.int .i64 n] w fun e w' => e = .returned (.string (mkB (Lib.itoa n))) ∧ Same w w' := by
  refine (Tryz.strconv_Itoa n h0 h1 w l.tab).mono ?_
  rintro e w' ⟨he, k, os, rfl⟩
  exact ⟨he, same_grow w k os⟩

/-- What Atoi says of a text: the number, and whether there is no error. -/
def atoiV (l : List UInt8) : Int := match Lib.atoiAll l with | .ok v => v | .range => Lib.atoiSat l | _ => 0
def atoiB (l : List UInt8) : Bool := match Lib.atoiAll l with | .ok _ => true | _ => false
theorem atoi_ok (s : ByteArray) (hs : s.size ≤ 281474976710656) (w : World) (l : Laid w) :
    Calls Tryz.prog 153 #[.string s] w fun e w' => ∃ ev, e = .returned (.tuple #[.int .i64 (atoiV (ba s)), ev]) ∧ ((atoiB (ba s) = true ∧ ev = .nilIface) ∨ (atoiB (ba s) = false ∧ ∃ t p, ev = .iface t p)) ∧ Same w w' := by
  unfold atoiV atoiB
  cases h : Lib.atoiAll (ba s) with
  | ok v =>
    refine (Tryz.strconv_Atoi_ok s (by omega) v h w).mono ?_
    rintro e w' ⟨he, hw⟩
    refine ⟨_, he, .inl ⟨rfl, rfl⟩, ?_⟩
    rcases hw with rfl | ⟨t, rfl⟩
    · exact Same.refl _
    · exact Lib.bytesWorld_below w _ t
  | range =>
    obtain ⟨t, p, hv⟩ := l.rng
    refine (Tryz.strconv_Atoi_range s hs h _ w hv (.inr ⟨t, p, rfl⟩)).mono ?_
    rintro e w' ⟨N, he, _, _, hb⟩
    exact ⟨_, he, .inr ⟨rfl, _, _, rfl⟩, hb⟩
  | _ =>
    obtain ⟨t, p, hv⟩ := l.syn
    refine (Tryz.strconv_Atoi_syntax s hs h _ w hv (.inr ⟨t, p, rfl⟩)).mono ?_
    rintro e w' ⟨N, he, _, _, hb⟩
    exact ⟨_, he, .inr ⟨rfl, _, _, rfl⟩, hb⟩

theorem beqB' (s t : ByteArray) : (s.toList == t.toList) = decide (s = t) := by
  rw [ByteArray.toList_eq, ByteArray.toList_eq, Bool.eq_iff_iff, beq_iff_eq, decide_eq_true_eq]
  exact ⟨fun h => ba_inj h, fun h => by rw [h]⟩
/-- The number of a decimal text, and whether it has this very text. -/
def decB (l : List UInt8) : Bool := atoiB l && decide (Lib.itoa (atoiV l) = l)
theorem atoiV_range (l : List UInt8) (h : atoiB l = true) : -9223372036854775808 ≤ atoiV l ∧ atoiV l ≤ 9223372036854775807 := by
  unfold atoiV atoiB at *
  unfold Lib.atoiAll at *
  cases l with
  | nil => simp at h
  | cons c r =>
    simp only at h ⊢
    cases hm : Lib.parseMag (if c.toNat = 43 ∨ c.toNat = 45 then r else c :: r) with
    | range => rw [hm] at h; simp at h
    | ok u =>
      rw [hm] at h
      simp only at h ⊢
      by_cases h1 : ¬ c.toNat = 45 ∧ 9223372036854775808 ≤ u
      · rw [if_pos h1] at h; simp at h
      · rw [if_neg h1]
        by_cases h2 : c.toNat = 45 ∧ 9223372036854775808 < u
        · rw [if_neg h1, if_pos h2] at h; simp at h
        · rw [if_neg h2]
          simp only
          split <;> omega
    | _ => rw [hm] at h; simp at h

set_option maxHeartbeats 1000000 in
theorem decimal_ok (s : ByteArray) (hs : s.size ≤ 281474976710656) (w : World) (l : Laid w) :
    Calls Tryz.prog 145 #[.string s] w fun e w' => e = .returned (.tuple #[.int .i64 (atoiV (ba s)), .bool (decB (ba s))]) ∧ Same w w' := by
  have HA := Lib.hid (atoi_ok s hs w l)
  have HR := Lib.hid (atoiV_range (ba s))
  have HI := Lib.hid (fun (W : World) (t : Same w W) (h : atoiB (ba s) = true) => itoa_ok (atoiV (ba s)) (atoiV_range _ h).1 (atoiV_range _ h).2 W (l.same t))
  have HD : Hid (decB (ba s) = (atoiB (ba s) && decide (Lib.itoa (atoiV (ba s)) = ba s))) := rfl
  have HB : ((mkB (Lib.itoa (atoiV (ba s)))).toList == s.toList) = decide (Lib.itoa (atoiV (ba s)) = ba s) := by
    rw [beqB']
    exact decide_eq_decide.2 ⟨fun h => by have := congrArg ba h; rwa [ba_mkB] at this, fun h => by rw [h, mkB_ba]⟩
  generalize atoiV (ba s) = v at HA HR HI HD HB ⊢
  generalize atoiB (ba s) = b at HA HR HI HD
  generalize decB (ba s) = q at HD ⊢
  have HBB := Lib.hid HB
  clear HB
  go_enter Tryz.func145, Tryz.ntmps145
  go_wp2_with (fail)
  refine HA.out.mono ?_
  rintro e w1 ⟨ev, rfl, hev, s1⟩
  have S1 := Lib.hid s1
  clear s1
  rcases hev with ⟨hb, rfl⟩ | ⟨hb, t, p, rfl⟩
  · subst hb
    have HI1 := Lib.hid (HI.out _ S1.out rfl)
    cases hd : decide (Lib.itoa v = ba s) with
    | true =>
      have t1 : ((mkB (Lib.itoa v)).toList == s.toList) = true := by rw [HBB.out, hd]
      have HQ : Hid (q = true) := by show q = true; rw [HD.out, hd]; rfl
      clear hd
      go_wp2_with (go_at_call 142; refine HI1.out.mono ?_; rintro e w2 ⟨rfl, s2⟩; have S2 := Lib.hid s2; clear s2)
      go_ret2
      exact ⟨by rw [HQ.out]; rfl, S1.out.trans S2.out⟩
    | false =>
      have t1 : ((mkB (Lib.itoa v)).toList == s.toList) = false := by rw [HBB.out, hd]
      have HQ : Hid (q = false) := by show q = false; rw [HD.out, hd]; rfl
      clear hd
      go_wp2_with (go_at_call 142; refine HI1.out.mono ?_; rintro e w2 ⟨rfl, s2⟩; have S2 := Lib.hid s2; clear s2)
      go_ret2
      exact ⟨by rw [HQ.out]; rfl, S1.out.trans S2.out⟩
  · subst hb
    have HQ : Hid (q = false) := by show q = false; rw [HD.out]; rfl
    go_wp2_with (fail)
    go_ret2
    exact ⟨by rw [HQ.out]; rfl, S1.out⟩
end Go.Proofs.YtfifnemnihcijaaGreatDoor
namespace Go.Proofs.YtfifnemnihcijaaGreatDoor
open Go.RowKit

/-- The text of a valid value that is no text. -/
def V.txt (v : V) : ByteArray :=
  if v.ok then
    if v.k = 2 then mkB (Lib.itoa v.n) else if v.k = 3 then mkB (64 :: Lib.itoa v.n) else if v.k = 4 then mkB (Lib.formatBool (decide (v.n = 1))) else mkB [110, 117, 108, 108]
  else ByteArray.empty
theorem ret_str {a b : ByteArray} (h : a = b) : Ending.returned (.string a) = .returned (.string b) := by rw [h]

set_option maxHeartbeats 1000000 in
theorem text_ok (v : V) (w : World) (l : Laid w) (h1 : v.k ≠ 1) :
    Calls Tryz.prog 132 #[v.val] w fun e w' => e = .returned (.string v.txt) ∧ Same w w' := by
  have HV := Lib.hid (valid_ok v)
  have HE : Hid (v.txt = if v.ok then
    if v.k = 2 then mkB (Lib.itoa v.n) else if v.k = 3 then mkB (64 :: Lib.itoa v.n) else if v.k = 4 then mkB (Lib.formatBool (decide (v.n = 1))) else mkB [110, 117, 108, 108]
  else ByteArray.empty) := rfl
  generalize v.txt = tx at HE ⊢
  have HOK := Lib.hid (@V.ok_iff v)
  obtain ⟨k, n, s⟩ := v
  simp only at h1 HE HOK
  have hv : (⟨k, n, s⟩ : V).val = .agg #[.int .i64 k, .int .i64 n, .string s] := rfl
  rw [hv] at HV
  show Calls Tryz.prog 132 #[.agg #[.int .i64 k, .int .i64 n, .string s]] w _
  generalize (⟨k, n, s⟩ : V).ok = b at HV HE HOK
  clear hv
  cases b with
  | false =>
    go_enter Tryz.func132, Tryz.ntmps132
    go_wp2_with (go_at_call 83; refine (HV.out _).mono ?_; rintro e w1 ⟨rfl, s1⟩; have S1 := Lib.hid (((Same.refl w).alloc _).trans s1); clear s1)
    go_ret
    exact ⟨ret_str HE.out.symm, S1.out⟩
  | true =>
    obtain ⟨_, hk, _, hlo, hhi⟩ := HOK.out.1 rfl
    have t1 : (k == 1) = false := by simp; exact h1
    have hn : -1000000000 ≤ n ∧ n ≤ 1000000000 := by unfold V.low at hlo; unfold V.high at hhi; split at hlo <;> (try split at hhi) <;> (try split at hhi) <;> (try split at hhi) <;> omega
    have HI := Lib.hid (fun (W : World) (t : Same w W) => itoa_ok n (by omega) (by omega) W (l.same t))
    have hlen := Lib.itoa_length_le n (by omega) (by omega)
    have HFB := Lib.hid (fun W => Tryz.strconv_FormatBool (decide (n = 1)) W)
    clear h1 hlo hhi hn HOK
    by_cases e2 : k = 2
    · subst e2
      clear t1
      go_enter Tryz.func132, Tryz.ntmps132
      go_wp2_with (first
        | (go_at_call 83; refine (HV.out _).mono ?_; rintro e w1 ⟨rfl, s1⟩; have K1 := s1.cells; have S1 := Lib.hid (((Same.refl w).alloc _).trans s1); clear s1)
        | (go_at_call 142; refine (HI.out _ S1.out).mono ?_; rintro e w2 ⟨rfl, s2⟩; have S2 := Lib.hid (S1.out.trans s2); clear s2))
      go_ret
      exact ⟨ret_str (by rw [HE.out]; rfl), S2.out⟩
    by_cases e3 : k = 3
    · subst e3
      clear t1 e2
      have sz : (mkB (Lib.itoa n)).size ≤ 21 := by rw [size_mkB]; exact hlen
      go_enter Tryz.func132, Tryz.ntmps132
      go_wp2_with (first
        | (go_at_call 83; refine (HV.out _).mono ?_; rintro e w1 ⟨rfl, s1⟩; have K1 := s1.cells; have S1 := Lib.hid (((Same.refl w).alloc _).trans s1); clear s1)
        | (go_at_call 142; refine (HI.out _ S1.out).mono ?_; rintro e w2 ⟨rfl, s2⟩; have S2 := Lib.hid (S1.out.trans s2); clear s2))
      go_ret
      exact ⟨ret_str (by rw [HE.out]; apply ba_inj; simp [ba, mkB]), S2.out⟩
    by_cases e4 : k = 4
    · subst e4
      clear t1 e2 e3
      have HD : Hid ((n == 1) = decide (n = 1)) := by show _ = _; rw [Bool.eq_iff_iff]; simp
      generalize hdd : decide (n = 1) = d at HFB HE HD
      have t4 : (n == 1) = d := HD.out
      clear hdd
      go_enter Tryz.func132, Tryz.ntmps132
      go_wp2_with (first
        | (go_at_call 83; refine (HV.out _).mono ?_; rintro e w1 ⟨rfl, s1⟩; have K1 := s1.cells; have S1 := Lib.hid (((Same.refl w).alloc _).trans s1); clear s1)
        | (go_at_call 143; refine (HFB.out _).mono ?_; rintro e w2 ⟨rfl, rfl⟩))
      go_ret
      exact ⟨ret_str (by rw [HE.out]; rfl), S1.out⟩
    · have t2 : (k == 2) = false := by simp; exact e2
      have t3 : (k == 3) = false := by simp; exact e3
      have t4 : (k == 4) = false := by simp; exact e4
      have HX := Lib.hid e2
      have HY := Lib.hid e3
      have HZ := Lib.hid e4
      clear e2 e3 e4
      go_enter Tryz.func132, Tryz.ntmps132
      go_wp2_with (go_at_call 83; refine (HV.out _).mono ?_; rintro e w1 ⟨rfl, s1⟩; have K1 := s1.cells; have S1 := Lib.hid (((Same.refl w).alloc _).trans s1); clear s1)
      go_ret
      exact ⟨ret_str (by rw [HE.out, if_pos (by trivial), if_neg HX.out, if_neg HY.out, if_neg HZ.out]; rfl), S1.out⟩
end Go.Proofs.YtfifnemnihcijaaGreatDoor
namespace Go.Proofs.YtfifnemnihcijaaGreatDoor
open Go.RowKit

/-- The content of a quoted text: what stands so far, whether a backslash is open; none where it is not formed. -/
def unesc : List UInt8 → Bool → List UInt8 → Option (List UInt8 × Bool)
  | [], esc, out => some (out, esc)
  | c :: l, true, out => if c = 110 then unesc l false (out ++ [10]) else if c = 34 ∨ c = 92 then unesc l false (out ++ [c]) else none
  | c :: l, false, out => if c = 92 then unesc l true out else if c = 34 ∨ c = 10 then none else unesc l false (out ++ [c])
/-- The content of a text in double quotes, and whether there is one. -/
def contentV (t : List UInt8) : List UInt8 × Bool :=
  if decide (t.length < 2) || !decide (t.getD 0 0 = 34) || !decide (t.getD (t.length - 1) 0 = 34) then ([], false)
  else match unesc ((t.drop 1).take (t.length - 2)) false [] with
    | none => ([], false)
    | some (out, esc) => (out, !esc)
/-- What parsing a text gives: a value and an error. -/
def parse0 (t : List UInt8) : V × Bool :=
  if t = [110, 117, 108, 108] then (⟨0, 0, ByteArray.empty⟩, true)
  else if t = [116, 114, 117, 101] then (⟨4, 1, ByteArray.empty⟩, true)
  else if t = [102, 97, 108, 115, 101] then (⟨4, 0, ByteArray.empty⟩, true)
  else if Lib.hasPrefix t [64] then (⟨3, atoiV (t.drop 1), ByteArray.empty⟩, decB (t.drop 1))
  else if Lib.hasPrefix t [34] then (⟨1, 0, mkB (contentV t).1⟩, (contentV t).2)
  else (⟨2, atoiV t, ByteArray.empty⟩, decB t)
def parseV (t : List UInt8) : V := if (parse0 t).2 && (parse0 t).1.ok then (parse0 t).1 else V.zero
def parseE (t : List UInt8) : Int := if (parse0 t).2 && (parse0 t).1.ok then 0 else 4
/-- What casting a value to a kind gives: a value and an error. -/
def castP (v : V) (k : Int) : V × Int :=
  if !(v.ok && kindB k) then (V.zero, 1)
  else if v.k = k ∨ v.k = 0 then (v, 0)
  else if k = 1 then (⟨1, 0, v.txt⟩, 0)
  else if v.k = 1 then (if parseE (ba v.s) = 0 ∧ (parseV (ba v.s)).k = k then (parseV (ba v.s), 0) else (V.zero, 15))
  else if v.k = 4 ∨ k = 4 then (V.zero, 10)
  else if (⟨k, v.n, v.s⟩ : V).ok then (⟨k, v.n, v.s⟩, 0) else (V.zero, 15)
theorem parse_fit {t : List UInt8} (_h : parseE t = 0) : (parseV t).ok = true := by
  unfold parseV
  split
  · rename_i h
    simp at h
    exact h.2
  · exact V.zero_ok
theorem txt_size (v : V) : v.txt.size ≤ 23 := by
  unfold V.txt
  split
  · rename_i hok
    obtain ⟨_, _, _, hlo, hhi⟩ := V.ok_iff.1 hok
    have hn : -1000000000 ≤ v.n ∧ v.n ≤ 1000000000 := by unfold V.low at hlo; unfold V.high at hhi; split at hlo <;> (try split at hhi) <;> (try split at hhi) <;> (try split at hhi) <;> omega
    have hl := Lib.itoa_length_le v.n (by omega) (by omega)
    split
    · rw [size_mkB]; omega
    · split
      · rw [size_mkB]; simp; omega
      · split
        · rw [size_mkB]; cases decide (v.n = 1) <;> decide
        · decide
  · decide
/-- A value that casting gives fits the kind. -/
theorem cast_fit {v : V} {k : Int} (h : (castP v k).2 = 0) : fitB k (castP v k).1 = true := by
  unfold castP at h ⊢
  split
  · rename_i h1; rw [if_pos h1] at h; cases h
  rename_i h1
  rw [if_neg h1] at h
  have hok : v.ok = true ∧ kindB k = true := by simpa using h1
  split
  · rename_i h2
    simp only [fitB, hok.1, Bool.true_and, Bool.or_eq_true, decide_eq_true_eq]
    exact h2.elim .inr .inl
  rename_i h2
  rw [if_neg h2] at h
  split
  · rename_i h3
    subst h3
    have hs := txt_size v
    have : (⟨1, 0, v.txt⟩ : V).ok = true := V.ok_iff.2 ⟨.inl rfl, ⟨by simp only; omega, by simp only; omega⟩, by simp only; omega, by simp [V.low], by simp [V.high]⟩
    simp [fitB, this]
  rename_i h3
  rw [if_neg h3] at h
  split
  · rename_i h4
    rw [if_pos h4] at h
    split
    · rename_i h5
      simp [fitB, parse_fit h5.1, h5.2]
    · rename_i h5; rw [if_neg h5] at h; cases h
  rename_i h4
  rw [if_neg h4] at h
  split
  · rename_i h5; rw [if_pos h5] at h; cases h
  rename_i h5
  rw [if_neg h5] at h
  split
  · rename_i h6; simp [fitB, h6]
  · rename_i h6; rw [if_neg h6] at h; cases h
end Go.Proofs.YtfifnemnihcijaaGreatDoor

/- Plain laws for DiskPrefix: the writes that succeed. -/
import Derived.Test.YtageboekobkdcaaX
namespace Go.Proofs.Ytageboekobkdcaa
open Go.RowKit

def goodB (n : Nat) (a : AC) : Bool := decide (0 ≤ a.sector) && decide (a.sector < (n : Int)) && (a.txt.size == 64)
theorem goodB_true {n : Nat} {a : AC} (h : goodB n a = true) : 0 ≤ a.sector ∧ a.sector < n ∧ a.txt.size = 64 := by
  simp [goodB] at h; exact ⟨h.1.1, h.1.2, h.2⟩
theorem DS.write_good (D : DS) (ho : D.off = false) (ha : D.arm = none) {n : Nat} (hn : D.n = n) (a : AC) : D.write a.sector a.txt = if goodB n a = true then (0, D.push a.sector.toNat a.txt) else (1, D) := by
  rw [DS.write_started D ho ha]
  subst hn
  have : (D.bad a.sector = true ∨ a.txt.size ≠ 64) ↔ ¬ goodB D.n a = true := by
    simp only [goodB, DS.bad, Bool.or_eq_true, decide_eq_true_eq, Bool.and_eq_true, beq_iff_eq]
    omega
  by_cases h : goodB D.n a = true
  · rw [if_pos h, if_neg (fun hh => this.1 hh h)]
  · rw [if_neg h, if_pos (this.2 h)]
def goods (n : Nat) (l : List AC) : List AC := l.filter (goodB n)
def ents (l : List AC) : List (Nat × ByteArray) := l.map fun a => (a.sector.toNat, a.txt)
theorem ents_length (l : List AC) : (ents l).length = l.length := by simp [ents]
theorem goods_snoc (n : Nat) (l : List AC) (k : Nat) (h : k < l.length) : goods n (l.take (k + 1)) = goods n (l.take k) ++ (if goodB n l[k] = true then [l[k]] else []) := by
  unfold goods
  rw [take_snoc' l k h, List.filter_append]
  congr 1
  by_cases hg : goodB n l[k] = true <;> simp [hg]
theorem goods_le (n : Nat) (l : List AC) : (goods n l).length ≤ l.length := List.length_filter_le _ _
theorem goods_take (n : Nat) (l : List AC) (k : Nat) : goods n (l.take k) = (goods n l).take (goods n (l.take k)).length := by
  have : goods n l = goods n (l.take k) ++ goods n (l.drop k) := by
    unfold goods; rw [← List.filter_append, List.take_append_drop]
  rw [this, List.take_left']
  rfl
def DS.withq (D : DS) (q : List (Nat × ByteArray)) : DS := { D with q := q }
theorem DS.push_withq (D : DS) (l : List AC) (a : AC) : (D.withq (ents l)).push a.sector.toNat a.txt = D.withq (ents (l ++ [a])) := by
  simp [DS.push, DS.withq, ents]
theorem DS.withq_self (D : DS) (h : D.q = []) : D = D.withq (ents []) := by
  cases D; simp only [DS.withq, ents, List.map_nil] at *; subst h; rfl

theorem DS.withq_settle (D : DS) (l q : List (Nat × ByteArray)) : ((D.withq q).settle l).st = (D.settle l).st := by
  induction l generalizing D with
  | nil => rfl
  | cons p l ih => exact ih (D.set p.1 (ba p.2))
theorem conts_ext {D : DS} {l : List ByteArray} (hl : l.length = D.n) (h : ∀ i (hi : i < l.length), D.peek i = l[i]) : D.conts = l := by
  apply List.ext_getElem
  · rw [DS.conts_length, hl]
  · intro i h1 h2
    rw [DS.conts_get, h i h2]

/-- What a failure leaves, beside what the first writes leave. -/
theorem prefix_now (C : DS) (wf : C.wf) (ho : C.off = false) (P : List (Nat × ByteArray)) (hP : ∀ p ∈ P, p.1 < C.n ∧ p.2.size = 64) (w b : Nat) (hb : b < 64) (i : Nat) :
    ((C.withq P).fail w b).start.peek i = if P[w]?.map (·.1) = some i then mkB (((P[w]?.map (fun p => ba p.2)).getD []).take b ++ (ba ((C.withq (P.take w)).peek i)).drop b) else (C.withq (P.take w)).peek i := by
  have ho' : (C.withq P).off = false := ho
  rw [DS.peek_nil _ (by unfold DS.fail; rw [ho']; rfl)]
  have hc : cut (w : Int) P.length = min w P.length := by unfold cut; omega
  have hst : ∀ j, ((C.withq P).settle (P.take w)).st j = ba ((C.withq (P.take w)).peek j) := by
    intro j
    rw [DS.withq_settle, DS.settle_st _ _ C wf.stl (fun p hp => (hP p (List.mem_of_mem_take hp)).2)]
    rfl
  have htake : P.take (min w P.length) = P.take w := by
    by_cases h : w ≤ P.length
    · rw [Nat.min_eq_left h]
    · rw [Nat.min_eq_right (by omega), List.take_length, List.take_of_length_le (by omega)]
  have hget : P[min w P.length]? = P[w]? := by
    by_cases h : w ≤ P.length
    · rw [Nat.min_eq_left h]
    · rw [Nat.min_eq_right (by omega), List.getElem?_eq_none (Nat.le_refl _), List.getElem?_eq_none (by omega)]
  have hf : ((C.withq P).fail w b).start.st i = (((C.withq P).settle (P.take w)).torn P[w]? b).st i := by
    unfold DS.fail
    rw [ho']
    show (((C.withq P).settle (P.take (cut (w : Int) P.length))).torn P[cut (w : Int) P.length]? b).st i = _
    rw [hc, htake, hget]
  rw [hf]
  cases hp : P[w]? with
  | none =>
    rw [if_neg (by simp)]
    show mkB (((C.withq P).settle (P.take w)).st i) = _
    rw [hst, mkB_ba]
  | some p =>
    have hps : p.2.size = 64 := (hP p (List.mem_of_getElem? hp)).2
    have hcb : cut (b : Int) 64 = b := by unfold cut; omega
    have h64 : (ba ((C.withq (P.take w)).peek i)).length = 64 := by
      rw [← hst, DS.withq_settle]
      exact (wf.settle (P.take w) (fun p hp => (hP p (List.mem_of_mem_take hp)).2)).stl i
    unfold DS.torn
    dsimp only
    rw [hcb]
    by_cases h0 : 0 < b
    · rw [if_pos h0]
      show mkB (upd ((C.withq P).settle (P.take w)).st p.1 (over ((ba p.2).take b) (((C.withq P).settle (P.take w)).st p.1)) i) = _
      by_cases hi : p.1 = i
      · rw [if_pos (by simp [hi])]
        rw [hi, upd_same, hst]
        have : ((ba p.2).take b).length = b := by rw [List.length_take, ba_length, hps]; omega
        unfold over
        rw [this]
        rfl
      · rw [if_neg (by simpa using hi), upd_other _ _ _ _ (Ne.symm hi), hst, mkB_ba]
    · obtain rfl : b = 0 := by omega
      rw [if_neg h0, hst, mkB_ba]
      split
      · rw [List.take_zero, List.nil_append, List.drop_zero, mkB_ba]
      · rfl
theorem fail_conts (C : DS) (wf : C.wf) (ho : C.off = false) (P : List (Nat × ByteArray)) (hP : ∀ p ∈ P, p.1 < C.n ∧ p.2.size = 64) (w b : Nat) (hb : b < 64) :
    ((C.withq P).fail w b).start.conts = match P[w]? with
      | none => (C.withq (P.take w)).conts
      | some p => (C.withq (P.take w)).conts.set p.1 (mkB ((ba p.2).take b ++ (ba ((C.withq (P.take w)).peek p.1)).drop b)) := by
  have hn : ((C.withq P).fail w b).start.n = C.n := DS.n_fail _ _ _
  cases hp : P[w]? with
  | none =>
    dsimp only
    apply conts_ext
    · rw [DS.conts_length, hn]; rfl
    · intro i hi
      rw [prefix_now C wf ho P hP w b hb i, hp, if_neg (by simp), DS.conts_get]
  | some p =>
    dsimp only
    apply conts_ext
    · rw [List.length_set, DS.conts_length, hn]; rfl
    · intro i hi
      rw [prefix_now C wf ho P hP w b hb i, hp]
      by_cases h : p.1 = i
      · subst h
        rw [if_pos (by simp)]
        simp
      · rw [if_neg (by simpa using h), List.getElem_set_ne h, DS.conts_get]

def noAct : AC := ⟨0, -1, 0, ByteArray.empty, false, 0⟩
def nextOf (g : List AC) (w : Nat) : AC := g[w]?.getD noAct
theorem ents_get (g : List AC) (w : Nat) : (ents g)[w]? = g[w]?.map fun a => (a.sector.toNat, a.txt) := by simp [ents]
end Go.Proofs.Ytageboekobkdcaa

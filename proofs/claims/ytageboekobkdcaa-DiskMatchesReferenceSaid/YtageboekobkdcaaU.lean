/- Plain laws for the later laws of the disk: Rot twice, Stale twice, contents of a clean disk; what two contents leave. -/
import Derived.Test.YtageboekobkdcaaT
namespace Go.Proofs.Ytageboekobkdcaa
open Go.RowKit

def ActRel (W : World) (n : Nat) (l : List AC) (b : Nat) (k : Nat) (wr : World) : Prop := Live W wr b ((DS.new n).acts (l.take k))

theorem upd_upd {α : Type} (f : Nat → α) (i : Nat) (u v : α) : upd (upd f i u) i v = upd f i v := by
  funext k; simp only [upd]; split <;> rfl
theorem upd_self {α : Type} (f : Nat → α) (i : Nat) : upd f i (f i) = f := by
  funext k; simp only [upd]; split
  · rename_i h; rw [h]
  · rfl

def DS.rotOk (D : DS) (i a m : Int) : Prop := D.bad i = false ∧ 0 ≤ a ∧ a < 64 ∧ 0 < m ∧ m < 256
instance (D : DS) (i a m : Int) : Decidable (D.rotOk i a m) := by unfold DS.rotOk; infer_instance
theorem DS.rot_yes (D : DS) (i a m : Int) (h : D.rotOk i a m) : D.rot i a m = { D with st := upd D.st i.toNat ((D.st i.toNat).set a.toNat ((D.st i.toNat).getD a.toNat 0 ^^^ UInt8.ofNat m.toNat)) } := by
  unfold DS.rot; exact if_pos h
theorem DS.rot_no (D : DS) (i a m : Int) (h : ¬ D.rotOk i a m) : D.rot i a m = D := by
  unfold DS.rot; exact if_neg h
theorem DS.rot_rest (D : DS) (i a m : Int) : (D.rot i a m).q = D.q ∧ (D.rot i a m).n = D.n ∧ (D.rot i a m).off = D.off ∧ (D.rot i a m).arm = D.arm := by
  by_cases h : D.rotOk i a m
  · rw [DS.rot_yes D i a m h]; exact ⟨rfl, rfl, rfl, rfl⟩
  · rw [DS.rot_no D i a m h]; exact ⟨rfl, rfl, rfl, rfl⟩
theorem xor_xor8 (x y : UInt8) : x ^^^ y ^^^ y = x := by
  apply UInt8.toNat_inj.1
  rw [UInt8.toNat_xor, UInt8.toNat_xor, Nat.xor_assoc, Nat.xor_self, Nat.xor_zero]
theorem set_set_xor (l : List UInt8) (a : Nat) (y : UInt8) (ha : a < l.length) : (l.set a (l.getD a 0 ^^^ y)).set a ((l.set a (l.getD a 0 ^^^ y)).getD a 0 ^^^ y) = l := by
  have e : (l.set a (l.getD a 0 ^^^ y)).getD a 0 = l.getD a 0 ^^^ y := by simp [List.getD_eq_getElem?_getD, ha]
  rw [e, xor_xor8, List.set_set]
  have : l.getD a 0 = l[a] := by simp [List.getD_eq_getElem?_getD, ha]
  rw [this, List.set_getElem_self]
theorem DS.wf.rot_rot {D : DS} (w : D.wf) (i a m : Int) : (D.rot i a m).rot i a m = D := by
  by_cases h : D.rotOk i a m
  · have h' : (D.rot i a m).rotOk i a m := by rw [DS.rot_yes D i a m h]; exact h
    rw [DS.rot_yes _ i a m h', DS.rot_yes D i a m h]
    dsimp only
    rw [upd_same, upd_upd, set_set_xor _ _ _ (by rw [w.stl]; have := h.2; omega), upd_self]
  · rw [DS.rot_no D i a m h, DS.rot_no D i a m h]
theorem DS.stale_rest (D : DS) (i : Int) : (D.stale i).q = D.q ∧ (D.stale i).n = D.n ∧ (D.stale i).off = D.off ∧ (D.stale i).arm = D.arm := by
  unfold DS.stale; split <;> exact ⟨rfl, rfl, rfl, rfl⟩
theorem DS.stale_stale (D : DS) (i : Int) : (D.stale i).stale i = D.stale i := by
  by_cases h : D.bad i = true
  · have : D.stale i = D := by unfold DS.stale; rw [if_pos h]
    rw [this, this]
  · have e : D.stale i = { D with st := upd D.st i.toNat (D.el i.toNat) } := by unfold DS.stale; rw [if_neg h]
    have h' : ¬ (D.stale i).bad i = true := by rw [e]; exact h
    have e2 : (D.stale i).stale i = { D.stale i with st := upd (D.stale i).st i.toNat ((D.stale i).el i.toNat) } := by
      conv => lhs; unfold DS.stale
      rw [if_neg]
      · unfold DS.stale; rw [if_neg h]
      · have := h'; unfold DS.stale at this; exact this
    rw [e2, e]
    dsimp only
    rw [upd_upd]
theorem DS.stale_other (D : DS) (s : Int) (i : Nat) (h : (i : Int) ≠ s) : (D.stale s).st i = D.st i := by
  unfold DS.stale; split
  · rfl
  · rename_i hb
    have := DS.bad_false (by simpa using hb)
    exact upd_other _ _ _ _ (by omega)

theorem DS.conts_get (D : DS) (i : Nat) (hi : i < D.conts.length) : D.conts[i] = D.peek i := by simp [DS.conts]
theorem DS.peek_nil (D : DS) (h : D.q = []) (i : Nat) : D.peek i = mkB (D.st i) := by unfold DS.peek; rw [h]; rfl
theorem DS.conts_nil (D : DS) (h : D.q = []) (i : Nat) (hi : i < D.conts.length) : D.conts[i] = mkB (D.st i) := by rw [DS.conts_get, DS.peek_nil D h]

/-- A byte of a string, for a walk. -/
theorem idx_str (s : ByteArray) (k : Nat) (hk : k < s.size) (b : UInt8) (hb : (ba s).getD k 0 = b) (W : World) : (Instr.index 9 (.string s) (.int .i64 (k : Int))).run Try.prog W = .ok (.int .u8 (b.toNat : Int)) W := by
  subst hb
  rw [run_index_string W 9 s .i64 _ (by kernel_rfl), dif_pos ⟨by omega, by omega⟩]
  have e : ((k : Int)).toNat = k := by omega
  simp only [e]
  have h' : k < s.data.toList.length := by simpa using hk
  have : (ba s).getD k 0 = s[k] := by
    unfold ba
    rw [List.getD, List.getElem?_eq_getElem h']
    simp
    rfl
  rw [this]

def rotBits (D : DS) (s a m : Int) (i k : Nat) : Int := if D.rotOk s a m ∧ (i : Int) = s ∧ (k : Int) = a then m else 0
theorem DS.wf.rot_bits {D : DS} (w : D.wf) (s a m : Int) (i k : Nat) (hk : k < 64) :
    bits BinOp.xor IntKind.u8 (((D.st i).getD k 0).toNat : Int) ((((D.rot s a m).st i).getD k 0).toNat : Int) = rotBits D s a m i k := by
  have hx : ∀ x y : UInt8, bits BinOp.xor IntKind.u8 (x.toNat : Int) (y.toNat : Int) = ((x ^^^ y).toNat : Int) := by
    intro x y
    rw [u8_xor_nat _ _ x.toNat_lt y.toNat_lt, UInt8.toNat_xor]
  rw [hx]
  have self : ∀ x : UInt8, ((x ^^^ x).toNat : Int) = 0 := by intro x; simp
  unfold rotBits
  by_cases h : D.rotOk s a m
  · rw [DS.rot_yes D s a m h]
    dsimp only
    obtain ⟨hb, a0, a1, m0, m1⟩ := h
    have h : D.rotOk s a m := ⟨hb, a0, a1, m0, m1⟩
    have hs := DS.bad_false hb
    by_cases hi : (i : Int) = s
    · have hi' : s.toNat = i := by omega
      rw [hi', upd_same]
      by_cases hka : (k : Int) = a
      · have hk' : a.toNat = k := by omega
        rw [if_pos ⟨h, hi, hka⟩, hk']
        have e : ((D.st i).set k ((D.st i).getD k 0 ^^^ UInt8.ofNat m.toNat)).getD k 0 = (D.st i).getD k 0 ^^^ UInt8.ofNat m.toNat := by
          simp [List.getD_eq_getElem?_getD, w.stl, hk]
        rw [e]
        have e2 : ∀ x y : UInt8, x ^^^ (x ^^^ y) = y := by
          intro x y
          apply UInt8.toNat_inj.1
          rw [UInt8.toNat_xor, UInt8.toNat_xor, ← Nat.xor_assoc, Nat.xor_self, Nat.zero_xor]
        rw [e2, UInt8.toNat_ofNat', Nat.mod_eq_of_lt (show m.toNat < 2 ^ 8 by omega)]
        omega
      · rw [if_neg (fun hh => hka hh.2.2)]
        have e : ((D.st i).set a.toNat ((D.st i).getD a.toNat 0 ^^^ UInt8.ofNat m.toNat)).getD k 0 = (D.st i).getD k 0 := by
          have : a.toNat ≠ k := by omega
          simp [List.getD_eq_getElem?_getD, this]
        rw [e]; exact self _
    · rw [if_neg (fun hh => hi hh.2.1), upd_other _ _ _ _ (by omega)]; exact self _
  · rw [DS.rot_no D s a m h, if_neg (fun hh => h hh.1)]; exact self _

/-- A disk of the law's own, and two slices of strings beside it. -/
structure Two (W wr : World) (b : Nat) (D : DS) (ga gb : Nat) (A B : List ByteArray) : Prop where
  live : Live W wr b D
  sa : StrsAt wr (some ⟨ga, 0, none⟩) A
  sb : StrsAt wr (some ⟨gb, 0, none⟩) B
theorem Two.kept {W w w' : World} {b : Nat} {D : DS} {ga gb : Nat} {A B : List ByteArray} (t : Two W w b D ga gb A B) (c : Chg (fun _ => False) w w') : Two W w' b D ga gb A B :=
  ⟨t.live.kept c, t.sa.kept c, t.sb.kept c⟩
theorem Two.drewN {W w : World} {b : Nat} {D : DS} {ga gb : Nat} {A B : List ByteArray} (t : Two W w b D ga gb A B) (n : Nat) : Two W (w.drewN n) b D ga gb A B := t.kept ((Chg.refl _ _).drewN n)
theorem StrsAt.get {w : World} {g : Nat} {l : List ByteArray} (h : StrsAt w (some ⟨g, 0, none⟩) l) (k : Nat) (hk : k < l.length) {x : ByteArray} (hx : l[k] = x) : w.cell? ⟨g, k, none⟩ = some (.string x) := by
  obtain ⟨b, off, hA, h1⟩ := h k hk
  simp only [Option.some.injEq, Addr.mk.injEq, and_true] at hA
  obtain ⟨rfl, rfl⟩ := hA
  rw [Nat.zero_add, hx] at h1
  exact h1
end Go.Proofs.Ytageboekobkdcaa

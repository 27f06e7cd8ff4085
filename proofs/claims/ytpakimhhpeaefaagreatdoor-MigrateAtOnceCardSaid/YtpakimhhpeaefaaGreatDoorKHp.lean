/- What the laws use of play and of Same. Conditions: none. -/
import Derived.Test.YtpakimhhpeaefaaGreatDoorKHn
import Derived.Test.YtpakimhhpeaefaaGreatDoorKHl
import Derived.Test.YtpakimhhpeaefaaGreatDoorKHs
set_option linter.unusedSimpArgs false
set_option linter.unusedVariables false
namespace Go.Proofs.YtpakimhhpeaefaaGreatDoor
open Go.RowKit

theorem TablesAt.up {w : World} {K K' : Nat → Prop} {h : Hd} {ts : List Tbl} (l : TablesAt w K h ts) (hK : ∀ k, K k → K' k) : TablesAt w K' h ts :=
  ⟨l.1, l.2.1.mono hK, fun t ht => ⟨(l.2.2 t ht).1, (l.2.2 t ht).2.1.mono hK, fun r hr => ⟨((l.2.2 t ht).2.2 r hr).1, ((l.2.2 t ht).2.2 r hr).2.mono hK⟩⟩⟩
theorem OpsAt.up {w : World} {K K' : Nat → Prop} {h : Hd} {ops : List Opn} (l : OpsAt w K h ops) (hK : ∀ k, K k → K' k) : OpsAt w K' h ops :=
  ⟨l.1, fun o ho => ⟨⟨(l.2 o ho).1.1, (l.2 o ho).1.2.mono hK⟩, (l.2 o ho).2⟩⟩
section
variable {W wr w' : World} {B g : Nat} {m M M' : Mg} {lo hi : Nat} {h : Hd} {tb : List Tbl} {q : Nat}
theorem PlayAt.tablesX (d : PlayAt W B wr g m M lo hi h tb q) (s : Same W w') (cc : Chg (fun k => ¬ ownX h tb k) wr w') : TablesAt w' (fun k => k < w'.heap.size) h tb :=
  have O := d.own.chgX cc (fun k hk hn => hn hk)
  ⟨O.lies, O.lies.in_, fun t ht => ⟨O.inner ht, (O.inner ht).in_, fun r hr => ((d.low t ht r hr).same s).mono fun k hk _ => Nat.lt_of_lt_of_le hk s.size⟩⟩
theorem PlayAt.fewR (d : PlayAt W B wr g m M lo hi h tb q) (hn : h.n ≤ 1000000) (hq : q ≤ 20) : FewR M.tabs :=
  ⟨by rw [← d.len, ← d.own.oh]; exact hn, fun rows hr => by have := d.few rows hr; omega⟩
end
/-- The law's play, from a migration that has just begun. -/
theorem play_live {w2 w3 : World} {g : Nat} {S : List Tb} {c : Cg} {K : Nat → Prop} (ht : Hd) (tbs : List Tbl) (ho : Hd) (ops : List Opn) (w : World) (s : Same w w2) (tt : TablesAt w (fun k => k < w.heap.size) ht tbs) (oo : OpsAt w (fun k => k < w.heap.size) ho ops) (hf : fewB (rowsOf tbs) = true) (h20 : ops.length ≤ 20)
    (L : LiveX w2 w3 g (start S c (rowsOf tbs)) w2.heap.size w3.heap.size (fun _ => False)) :
    Calls Tryz.prog 24 #[.pointer (some ⟨g, 0, none⟩), ht.val, ho.val] w3 fun e w' => ∃ (A : Option Addr) (c' : Nat) (M : Mg) (hi' : Nat) (tb : List Tbl), e = .returned (.slice A tbs.length c') ∧ PlayAt w2 w3.heap.size w' g (start S c (rowsOf tbs)) M w2.heap.size hi' ⟨A, tbs.length, c'⟩ tb 20 := by
  have h2 := (fewR_of hf).2
  have h6 : tbs.length ≤ 6 := by
    simp only [fewB, Bool.and_eq_true, decide_eq_true_eq] at hf
    have := hf.1
    simpa [rowsOf] using this
  exact play_ok L rfl rfl (Nat.le_refl _) L.same.size ht tbs ho ops ((tt.same s).up fun k hk => Nat.lt_of_lt_of_le hk s.size) rfl ((oo.same s).up fun k hk => Nat.lt_of_lt_of_le hk s.size) h2 h6 h20
theorem tabs_le6 {tbs : List Tbl} (hf : fewB (rowsOf tbs) = true) : tbs.length ≤ 6 := by
  simp only [fewB, Bool.and_eq_true, decide_eq_true_eq] at hf
  have := hf.1
  simpa [rowsOf] using this
end Go.Proofs.YtpakimhhpeaefaaGreatDoor

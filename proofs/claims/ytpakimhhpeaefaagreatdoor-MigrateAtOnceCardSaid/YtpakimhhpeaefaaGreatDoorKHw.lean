/- What MigrateAtOnce uses: rows of the law's own, Finish with its bounds, what enough steps give. Conditions: none. -/
import Derived.Test.YtpakimhhpeaefaaGreatDoorKHu
set_option linter.unusedSimpArgs false
set_option linter.unusedVariables false
namespace Go.Proofs.YtpakimhhpeaefaaGreatDoor
open Go.RowKit

/-- A store over a slice leaves rows of values. -/
theorem RowAt.store {w : World} {h : Hd} {r : Row} (l : RowAt w h r) {g i : Nat} {A : Option Addr} {n c : Nat} (hc : w.cell? ⟨g, i, none⟩ = some (.slice A n c)) (u : Value) : RowAt (w.setCell ⟨g, i, none⟩ u) h r :=
  ⟨⟨l.1.1, l.1.2.1, fun k hk => by
    obtain ⟨b, off, ha, hb, hcell⟩ := l.1.2.2 k hk
    refine ⟨b, off, ha, by simpa [World.setCell] using hb, fun j v hv => ?_⟩
    have h1 := hcell j v hv
    by_cases e : (⟨g, i, none⟩ : Addr) = ⟨b, off + k * 3 + j, none⟩
    · exfalso
      rw [← e, hc] at h1
      injection h1 with h1
      subst h1
      rcases j with _ | _ | _ | j <;> simp [V.cells] at hv
    · rw [World.cell?_setCell_other _ _ _ _ (by first | exact e | exact Ne.symm e)]; exact h1⟩, l.2⟩
theorem OwnT.tables {w : World} {B : Nat} {h : Hd} {tb : List Tbl} (O : OwnT w B h tb) (hr : ∀ t ∈ tb, ∀ r ∈ t.rs, RowAt w r.h r.v) : TablesAt w (fun k => k < w.heap.size) h tb :=
  ⟨O.lies, O.lies.in_, fun t ht => ⟨O.inner ht, (O.inner ht).in_, fun r hr' => ⟨hr t ht r hr', (hr t ht r hr').in_⟩⟩⟩
/-- A store into a block that the tables do not own. -/
theorem OwnT.off {w : World} {B : Nat} {h : Hd} {tb : List Tbl} (O : OwnT w B h tb) {g : Nat} (hg : g < B) (i : Nat) (u : Value) : OwnT (w.setCell ⟨g, i, none⟩ u) B h tb :=
  O.chgX (S := fun k => k = g) ((Chg.refl _ w).setCell _ _ (fun _ => rfl)) fun k hk e => by have := (O.lt hk).1; omega

/-- The law's own rows on their way: i of them. -/
def RowsC (w wr : World) (v : Nat → Row × Int) (i : Nat) (A : Option Addr) (c : Nat) : Prop :=
  ∃ rs : List Rw, rs.length = i ∧ wr.ownsRow w.heap.size 40 1 (.slice A i c) i (rs.flatMap Rw.cell) ∧ Same w wr ∧ ∀ (j : Nat) (h : j < rs.length), rs[j].v = (v j).1 ∧ RowIn wr (fun k => (Value.slice A i c).ownBlock ≠ some k) rs[j]
theorem rowsC_start (w : World) (v : Nat → Row × Int) : RowsC w w v 0 none 0 :=
  ⟨[], rfl, World.ownsRow_nil _ _ _ _, Same.refl w, fun j h => by cases h⟩
theorem RowsC.same {w wr w' : World} {v : Nat → Row × Int} {i : Nat} {A : Option Addr} {c : Nat} (d : RowsC w wr v i A c) (s : Same wr w') : RowsC w w' v i A c := by
  obtain ⟨rs, h1, o, h2, h3⟩ := d
  exact ⟨rs, h1, own_same s o, h2.trans s, fun j h => ⟨(h3 j h).1, (h3 j h).2.1.same s, (h3 j h).2.2⟩⟩
theorem rowsC_push {w wr w1 w2 : World} {v : Nat → Row × Int} {i : Nat} {A : Option Addr} {c : Nat} {rs : List Rw} (hl : rs.length = i) (o : wr.ownsRow w.heap.size 40 1 (.slice A i c) i (rs.flatMap Rw.cell)) (s : Same w wr)
    (hr : ∀ (j : Nat) (h : j < rs.length), rs[j].v = (v j).1 ∧ RowIn wr (fun k => (Value.slice A i c).ownBlock ≠ some k) rs[j]) (s1 : Same wr w1) {A' : Option Addr} {n' c' : Nat} (R : RowAt w1 ⟨A', n', c'⟩ (v i).1) (F : Fresh wr.heap.size ⟨A', n', c'⟩)
    {ob : Obj} {A2 : Option Addr} {n2 c2 : Nat} (G : (w1.alloc ob).grownBy w2 (Value.slice A i c).ownBlock) (o2 : w2.ownsRow w.heap.size 40 1 (.slice A2 n2 c2) (i + 1) (rs.flatMap Rw.cell ++ [.slice A' n' c']))
    (hat : (Value.slice A2 n2 c2).ownBlock = (Value.slice A i c).ownBlock ∨ (Value.slice A2 n2 c2).ownBlock = some (w1.alloc ob).heap.size) : RowsC w w2 v (i + 1) A2 c2 := by
  have hn2 : n2 = i + 1 := by
    obtain ⟨g, cap, hv, _⟩ := o2.form (Nat.succ_pos _)
    injection hv
  subst hn2
  have c1 : Chg (fun k => (Value.slice A i c).ownBlock = some k) w1 w2 := ((Chg.refl _ w1).alloc ob).grown G fun k hk _ => hk
  have hlt : ∀ k, (Value.slice A i c).ownBlock = some k → k < wr.heap.size := fun k hk => by
    obtain ⟨_, cs, h⟩ := row_ty o hk
    exact h.lt
  have hsz : w1.heap.size ≤ (w1.alloc ob).heap.size := by simp
  have key : ∀ r : Rw, RowIn w1 (fun k => (Value.slice A i c).ownBlock ≠ some k ∧ k < w1.heap.size) r → RowIn w2 (fun k => (Value.slice A2 (i + 1) c2).ownBlock ≠ some k) r := fun r h => by
    refine ⟨h.1.chg c1 (h.2.mono fun k hk => hk.1), h.2.mono fun k hk e => ?_⟩
    rcases hat with hat | hat
    · rw [hat] at e; exact hk.1 e
    · rw [hat] at e; injection e with e; have := hk.2; omega
  refine ⟨rs ++ [⟨⟨A', n', c'⟩, (v i).1⟩], by simp [hl], ?_, ?_, fun j h => ?_⟩
  · have e1 : (rs ++ [(⟨⟨A', n', c'⟩, (v i).1⟩ : Rw)]).flatMap Rw.cell = rs.flatMap Rw.cell ++ [.slice A' n' c'] := by rw [List.flatMap_append]; rfl
    rw [e1]; exact o2
  · exact (s.trans s1).chg c1 fun k hk => (row_ty o hk).1
  · by_cases hj : j < rs.length
    · rw [List.getElem_append_left hj]
      obtain ⟨h1, h2⟩ := hr j hj
      refine ⟨h1, key _ ⟨h2.1.same s1, fun h0 => ?_⟩⟩
      obtain ⟨b, off, ha, hb⟩ := h2.2 h0
      obtain ⟨b', off', ha', hb'⟩ := (h2.1.same s1).in_ h0
      rw [ha] at ha'; injection ha' with ha'; injection ha' with e1 e2
      subst e1
      exact ⟨b, off, ha, hb, hb'⟩
    · have ej : j = i := by rw [List.length_append] at h; simp at h; omega
      subst ej
      have e2 : (rs ++ [(⟨⟨A', n', c'⟩, (v j).1⟩ : Rw)])[j] = ⟨⟨A', n', c'⟩, (v j).1⟩ := by
        rw [List.getElem_append_right (by omega)]; simp [hl]
      rw [e2]
      refine ⟨rfl, key _ ⟨R, (F.in_ R).mono fun k hk => ⟨fun e => ?_, hk.2⟩⟩⟩
      have := hlt k e
      omega
/-- The rows are put in place of a table's. -/
theorem rowsC_put {w wl : World} {v : Nat → Row × Int} {i : Nat} {A : Option Addr} {c B : Nat} {go cc : Nat} {tb : List Tbl} (d : RowsC w wl v i A c) (O0 : OwnT w B ⟨some ⟨go, 0, none⟩, tb.length, cc⟩ tb) (low : ∀ t ∈ tb, ∀ r ∈ t.rs, RowAt w r.h r.v) (ti : Nat) (hti : ti < tb.length) :
    ∃ rs : List Rw, rs.length = i ∧ (∀ (j : Nat) (h : j < rs.length), rs[j].v = (v j).1) ∧ TablesAt (wl.setCell ⟨go, ti, none⟩ (.slice A i c)) (fun k => k < (wl.setCell ⟨go, ti, none⟩ (.slice A i c)).heap.size) ⟨some ⟨go, 0, none⟩, tb.length, cc⟩ (tb.set ti ⟨⟨A, i, c⟩, rs⟩) := by
  obtain ⟨rs, hl, o, s, hr⟩ := d
  have hB : B ≤ w.heap.size := by
    have := O0.lt (k := go) (.inl rfl)
    omega
  have O := O0.same s
  have hcell : wl.cell? ⟨go, ti, none⟩ = some tb[ti].h.val := by
    have h := O.lies.2.2 ti hti
    obtain ⟨b, off, ha, hb, hc⟩ := h
    have ha' : some (⟨go, 0, none⟩ : Addr) = some ⟨b, off, none⟩ := ha
    injection ha' with ha'
    injection ha' with e1 e2
    subst e1
    subst e2
    simpa using hc 0 _ rfl
  have P := O.set_ ti hti ⟨⟨A, i, c⟩, rs⟩ (own_base (by rw [hl]; exact o) hB) hl.symm fun j hj _ k h1 h2 => by
    have h3 := (row_ty o h1).1
    have h4 := (O0.ge (List.getElem_mem hj) h2).2
    omega
  refine ⟨rs, hl, fun j h => (hr j h).1, ?_⟩
  have P2 := P.tables fun t ht r hr' => by
    rcases List.mem_or_eq_of_mem_set ht with h1 | h1
    · exact ((low t h1 r hr').same s).store hcell _
    · subst h1
      obtain ⟨j, hj, rfl⟩ := List.mem_iff_getElem.1 hr'
      exact (hr j hj).2.1.store hcell _
  exact P2
section
variable {W w : World} {g : Nat} {m : Mg} {lo hi : Nat} {X : Nat → Prop}
/-- Finish, with where the schema has lain since Start. -/
theorem LiveX.finish2 (l : LiveX W w g m lo hi X) (few : FewR m.tabs) (hdn : m.done.length ≤ 1000000) (h : m.finE = 0) :
    Calls Tryz.prog 18 #[.pointer (some ⟨g, 0, none⟩)] w fun e w' => ∃ (A1 : Option Addr) (m1 c1 go n c : Nat), e = .returned (.tuple #[.agg #[.slice A1 m1 c1], .slice (some ⟨go, 0, none⟩) n c, .int .i64 0]) ∧ (∃ (W0 : World) (tn : List RT) (ts : List Tbl), W0.heap.size ≤ g ∧ TabsAt W0 ⟨A1, m1, c1⟩ tn ∧ Same W0 w' ∧ tn.map RT.tb = applyS m.s m.c ∧ OutAt w' w.heap.size lo hi ⟨some ⟨go, 0, none⟩, n, c⟩ ts m.out) ∧ (LiveX W w' g m.finish lo hi X ∧ Chg (fun k => ¬ X k) w w') := by
  obtain ⟨p, d, hg, h1, h2, ho, s, hx⟩ := l
  subst hg
  have hc : m.closed = false := by
    cases hc : m.closed with
    | false => rfl
    | true => unfold Mg.finE at h; rw [if_pos hc] at h; cases h
  have hf : m.failed = false := by
    cases hf : m.failed with
    | false => rfl
    | true => unfold Mg.finE at h; rw [if_neg (by rw [hc]; simp), if_pos hf] at h; cases h
  have hl : m.left = 0 := by
    unfold Mg.finE at h; rw [if_neg (by rw [hc]; simp), if_neg (by rw [hf]; simp)] at h
    by_cases h0 : 0 < m.left
    · rw [if_pos h0] at h; cases h
    · omega
  refine (finish_ok d few hdn hc hf hl).mono ?_
  rintro e w' ⟨go, n, c, ts, he, ho', t⟩
  have hl2 := LiveX.turned t rfl h1 h2 ho s hx
  obtain ⟨p', d', hg', hW', _⟩ := t
  rw [h1, h2] at ho'
  refine ⟨p.hn.a, p.hn.n, p.hn.c, go, n, c, he, ⟨p.W0, p.tn, ts, Nat.le_trans d.st.WB d.st.gB, d.st.tn, ?_, d.st.tnm, ho'⟩, hl2⟩
  have := d'.same
  rwa [hW'] at this
theorem LiveX.g_lt (l : LiveX W w g m lo hi X) : g < w.heap.size := by
  obtain ⟨p, d, hg, _⟩ := l
  subst hg
  exact d.blk.lt
end
/-- Enough steps: finished or failed. -/
theorem once_or {m : Mg} (h : m.Fine) (hc : m.closed = false) (n : Int) (hn : (m.left : Int) ≤ n) :
    ((m.step n).finE = 0 ∧ (m.step n).left = 0 ∧ ∀ row ∈ m.rows, (convS m.s m.c m.ti row).2 = 0) ∨ ((m.step n).finE = 15 ∧ ∃ row ∈ m.rows, (convS m.s m.c m.ti row).2 ≠ 0) := by
  obtain ⟨e1, e2, e3, e4, e5, e6⟩ := step_still hc n
  have hF := h.step n
  rcases Mg.step_big h hc n hn with hf | ⟨hf, hl⟩
  · right
    obtain ⟨hlt, hb⟩ := hF.bad hf
    refine ⟨by unfold Mg.finE; rw [if_neg (by rw [e2]; simp), if_pos hf], (m.step n).rows[(m.step n).done.length], ?_, ?_⟩
    · rw [← e3]; exact List.getElem_mem hlt
    · rw [e4, e5, e6] at hb; exact hb
  · left
    refine ⟨by unfold Mg.finE; rw [if_neg (by rw [e2]; simp), if_neg (by rw [hf]; simp), if_neg (by omega)], hl, fun row hr => ?_⟩
    have := (hF.whole hl).2 row (by rw [e3]; exact hr)
    rw [e4, e5, e6] at this
    exact this
end Go.Proofs.YtpakimhhpeaefaaGreatDoor

/- A migration that a law holds beside blocks of its own: its operations as the law calls them. Conditions: none. | How far the law's play has come: the migration beside the law's own copy of the tables. Conditions: none. -/
import Derived.Test.YtpakimhhpeaefaaGreatDoorKHh
set_option linter.unusedSimpArgs false
set_option linter.unusedVariables false
namespace Go.Proofs.YtpakimhhpeaefaaGreatDoor
open Go.RowKit

/-- A migration m at block g; nothing of W has turned; the blocks of X are not its own; its put rows lie below lo, its converted ones at or behind hi. -/
def LiveX (W w : World) (g : Nat) (m : Mg) (lo hi : Nat) (X : Nat → Prop) : Prop :=
  ∃ p : MH, MgAt w p m ∧ p.g = g ∧ p.lo = lo ∧ p.hi = hi ∧ (∀ k, p.own k → W.heap.size ≤ k ∧ ¬ X k) ∧ Same W w ∧ ∀ k, X k → k < w.heap.size
theorem MgAt.rehi {w : World} {p : MH} {m : Mg} (d : MgAt w p m) (hd : m.done = []) (hi' : Nat) (h : hi' ≤ w.heap.size) : MgAt w { p with hi := hi' } m :=
  ⟨⟨d.st.ts, d.st.tsm, d.st.few, d.st.tsl, d.st.tn, d.st.tnm, d.st.fewn, d.st.okn, d.st.okd, d.st.laid, d.st.WB, d.st.gB⟩, d.same, d.blk, d.bs, d.bc, d.bm, d.oo, d.oh, d.oi, d.tr, d.od, d.dh, d.dr, d.rr, d.rd, d.ai, d.ad, d.fine, d.rl, (fun r hr => by
    have e : p.dr.map Rw.v = [] := d.dr.trans hd
    have e2 : p.dr = [] := List.map_eq_nil_iff.1 e
    have hr' : r ∈ p.dr := hr
    rw [e2] at hr'
    cases hr'), h⟩
section
variable {W w w' : World} {g : Nat} {m m' : Mg} {lo hi : Nat} {X X' : Nat → Prop}
theorem LiveX.same (l : LiveX W w g m lo hi X) : Same W w := by obtain ⟨_, _, _, _, _, _, s, _⟩ := l; exact s
theorem LiveX.fine (l : LiveX W w g m lo hi X) : m.Fine := by obtain ⟨_, d, _⟩ := l; exact d.fine
theorem LiveX.lt (l : LiveX W w g m lo hi X) : g < w.heap.size := by
  obtain ⟨p, d, hg, _⟩ := l
  subst hg
  exact d.own_lt (.inl rfl)
theorem LiveX.live (l : LiveX W w g m lo hi X) : LiveM W w g m := by
  obtain ⟨p, d, hg, _, _, ho, s, _⟩ := l
  exact ⟨p, d, hg, fun k hk => (ho k hk).1, s⟩
theorem LiveX.turned {p : MH} (t : MTurn w w' p m') (hg : p.g = g) (h1 : p.lo = lo) (h2 : p.hi = hi) (ho : ∀ k, p.own k → W.heap.size ≤ k ∧ ¬ X k) (s : Same W w) (hx : ∀ k, X k → k < w.heap.size) : LiveX W w' g m' lo hi X ∧ Chg (fun k => ¬ X k) w w' := by
  obtain ⟨p', d', hg', _, hL, c, o⟩ := t
  refine ⟨⟨p', d', hg'.trans hg, hL.2.1.trans h1, hL.2.2.trans h2, fun k hk => ?_, s.chg c (fun k hk => (ho k hk).1), fun k hk => Nat.lt_of_lt_of_le (hx k hk) c.size⟩, c.mono fun k _ hk => (ho k hk).2⟩
  rcases o k hk with h | h
  · exact ho k h
  · exact ⟨Nat.le_trans s.size h, fun hX => by have := hx k hX; omega⟩
theorem LiveX.grow (l : LiveX W w g m lo hi X) (s : Same w w') (hX : ∀ k, X' k → X k ∨ (w.heap.size ≤ k ∧ k < w'.heap.size)) : LiveX W w' g m lo hi X' := by
  obtain ⟨p, d, hg, h1, h2, ho, sw, hx⟩ := l
  refine ⟨p, d.next s, hg, h1, h2, fun k hk => ⟨(ho k hk).1, fun hk' => ?_⟩, sw.trans s, fun k hk => ?_⟩
  · rcases hX k hk' with h | h
    · exact (ho k hk).2 h
    · have := d.own_lt hk; omega
  · rcases hX k hk with h | h
    · exact Nat.lt_of_lt_of_le (hx k h) s.size
    · exact h.2
theorem LiveX.rehi (l : LiveX W w g m lo hi X) (hd : m.done = []) : LiveX W w g m lo w.heap.size X := by
  obtain ⟨p, d, hg, h1, _, ho, s, hx⟩ := l
  exact ⟨{ p with hi := w.heap.size }, d.rehi hd _ (Nat.le_refl _), hg, h1, rfl, ho, s, hx⟩
/-- A store into a block of the law's own. -/
theorem LiveX.poke (l : LiveX W w g m lo hi X) {go : Nat} {cs : Array Value} (b : Blk w go 55 cs) (hg : g < go) (hX : X go) (hlo : lo ≤ go) (hhi : go < hi) (hW : W.heap.size ≤ go) (i : Nat) (u : Value) : LiveX W (w.setCell ⟨go, i, none⟩ u) g m lo hi X := by
  obtain ⟨p, d, hgp, h1, h2, ho, s, hx⟩ := l
  have c : Chg (fun k => k = go) w (w.setCell ⟨go, i, none⟩ u) := (Chg.refl _ _).setCell _ _ (fun _ => rfl)
  refine ⟨p, d.kept c (fun k hk e => ?_) (fun k hk e => ?_) (fun e => ?_) (fun e => ?_) (fun e => ?_) (fun t ht r hr => (d.rl t ht r hr).mono fun k hk e => ?_) (fun r hr => (d.rh r hr).mono fun k hk e => ?_), hgp, h1, h2, ho, s.chg c (fun k e => by rw [e]; exact hW), fun k hk => Nat.lt_of_lt_of_le (hx k hk) c.size⟩
  · subst e; exact (ho _ hk).2 hX
  · have h3 := d.st.WB; have h4 := d.st.gB
    omega
  · have hb := d.bs; rw [e] at hb; exact Blk.ne_ b hb (by decide) rfl
  · have hb := d.bc; rw [e] at hb; exact Blk.ne_ b hb (by decide) rfl
  · have hb := d.bm; rw [e] at hb; exact Blk.ne_ b hb (by decide) rfl
  · omega
  · omega
theorem LiveX.step (l : LiveX W w g m lo hi X) (n : Int) (hb : m.rows.length ≤ 1000000) (hn1 : -9223372036854775808 ≤ n) (hn2 : n ≤ 9223372036854775807) :
    Calls Tryz.prog 14 #[.pointer (some ⟨g, 0, none⟩), .int .i64 n] w fun e w' => e = .returned (.tuple #[.int .i64 (m.stepN n), .int .i64 (m.stepE n)]) ∧ (LiveX W w' g (m.step n) lo hi X ∧ Chg (fun k => ¬ X k) w w') := by
  obtain ⟨p, d, hg, h1, h2, ho, s, hx⟩ := l
  subst hg
  exact (step_ok d n hb hn1 hn2).mono fun e w' ⟨he, t⟩ => ⟨he, LiveX.turned t rfl h1 h2 ho s hx⟩
theorem LiveX.put (l : LiveX W w g m lo hi X) (t : Int) {hr : Hd} {row : Row} (r : RowAt w hr row) (hoff : In (fun k => k < W.heap.size) hr) (hlo : W.heap.size ≤ lo) (hb : ∀ rows ∈ m.tabs, rows.length ≤ 1000000) :
    Calls Tryz.prog 16 #[.pointer (some ⟨g, 0, none⟩), .int .i64 t, hr.val] w fun e w' => e = .returned (.int .i64 (m.putE t row)) ∧ (LiveX W w' g (m.put t row) lo hi X ∧ Chg (fun k => ¬ X k) w w') := by
  obtain ⟨p, d, hg, h1, h2, ho, s, hx⟩ := l
  subst hg
  exact (put_ok d t ⟨r, hoff.mono fun k hk hk' => by have := (ho k hk').1; omega⟩ (hoff.mono fun k hk => by omega) hb).mono fun e w' ⟨he, t⟩ => ⟨he, LiveX.turned t rfl h1 h2 ho s hx⟩
theorem LiveX.finishE (l : LiveX W w g m lo hi X) (h : m.finE ≠ 0) :
    Calls Tryz.prog 18 #[.pointer (some ⟨g, 0, none⟩)] w fun e w' => e = .returned (.tuple #[.agg #[.slice none 0 0], .slice none 0 0, .int .i64 m.finE]) ∧ (LiveX W w' g m lo hi X ∧ Same w w') := by
  refine (l.live.finishE h).mono ?_
  rintro e w' ⟨he, s, _⟩
  exact ⟨he, l.grow s fun k hk => .inl hk, s⟩
theorem LiveX.finish (l : LiveX W w g m lo hi X) (few : FewR m.tabs) (hdn : m.done.length ≤ 1000000) (h : m.finE = 0) :
    Calls Tryz.prog 18 #[.pointer (some ⟨g, 0, none⟩)] w fun e w' => ∃ (A1 : Option Addr) (m1 c1 go n c : Nat), e = .returned (.tuple #[.agg #[.slice A1 m1 c1], .slice (some ⟨go, 0, none⟩) n c, .int .i64 0]) ∧ FinOut w w' m A1 m1 c1 go n c ∧ (LiveX W w' g m.finish lo hi X ∧ Chg (fun k => ¬ X k) w w') := by
  obtain ⟨p, d, hg, h1, h2, ho, s, hx⟩ := l
  subst hg
  have hc : m.closed = false := by
    cases hc : m.closed with
    | false => rfl
    | true => unfold Mg.finE at h; rw [if_pos hc] at h; cases h
  have hf : m.failed = false := by
    cases hf : m.failed with
    | false => rfl
    | true => unfold Mg.finE at h; rw [if_neg (by rw [hc]; simp), if_pos hf] at h; cases h
  have hl : m.left = 0 := by
    unfold Mg.finE at h; rw [if_neg (by rw [hc]; simp), if_neg (by rw [hf]; simp)] at h
    by_cases h0 : 0 < m.left
    · rw [if_pos h0] at h; cases h
    · omega
  refine (finish_ok d few hdn hc hf hl).mono ?_
  rintro e w' ⟨go, n, c, ts, he, ho', t⟩
  have hl2 := LiveX.turned t rfl h1 h2 ho s hx
  obtain ⟨p', d', hg', hW', _⟩ := t
  refine ⟨p.hn.a, p.hn.n, p.hn.c, go, n, c, he, ⟨p.tn, ts, p.lo, p.hi, ?_, d.st.tnm, ho'⟩, hl2⟩
  have := d'.same
  rw [hW'] at this
  exact d.st.tn.same this
theorem LiveX.abandon (l : LiveX W w g m lo hi X) (few : FewR m.tabs) (hc : m.closed = false) :
    Calls Tryz.prog 22 #[.pointer (some ⟨g, 0, none⟩)] w fun e w' => ∃ (A : Option Addr) (n c : Nat), e = .returned (.tuple #[.slice A n c, .int .i64 0]) ∧ (∃ (ts : List Tbl), OutAt w' w.heap.size lo hi ⟨A, n, c⟩ ts m.tabs) ∧ (LiveX W w' g m.abandon lo hi X ∧ Chg (fun k => ¬ X k) w w') := by
  obtain ⟨p, d, hg, h1, h2, ho, s, hx⟩ := l
  subst hg
  refine (abandon_ok d few hc).mono ?_
  rintro e w' ⟨A, n, c, ts, he, o, t⟩
  have := LiveX.turned t rfl h1 h2 ho s hx
  rw [h1, h2] at o
  exact ⟨A, n, c, he, ⟨ts, o⟩, this⟩
end
/-- Start, as the laws call it. -/
theorem start_liveX (h : Hd) (ts : List RT) (c : Cg) (ht : Hd) (tbs : List Tbl) (w : World) (l : Laid w) (a : TabsAt w h ts) {nw : Nat} (hw : WasL (ts.map RT.tb) nw) (hnw : nw + 1 ≤ 1000000) (tsl : ts.length ≤ 1000000) (hn : okS c.name) (hd : okS c.dflt.s) {K : Nat → Prop} (tt : TablesAt w K ht tbs) (fr : FewR (rowsOf tbs)) (hE : startE (ts.map RT.tb) c (rowsOf tbs) = 0) :
    Calls Tryz.prog 12 #[.agg #[h.val], c.val, ht.val] w fun e w' => ∃ g : Nat, e = .returned (.tuple #[.pointer (some ⟨g, 0, none⟩), .int .i64 0]) ∧ LiveX w w' g (start (ts.map RT.tb) c (rowsOf tbs)) w.heap.size w'.heap.size (fun _ => False) := by
  refine (start_ok h ts c ht tbs w l a hw hnw tsl hn hd tt fr hE).mono ?_
  rintro e w' ⟨p, he, d, s, hB, hlo, _⟩
  exact ⟨p.g, he, { p with hi := w'.heap.size }, d.rehi rfl _ (Nat.le_refl _), rfl, hlo, rfl, fun k hk => ⟨Nat.le_trans hB (d.own_ty hk).1, fun h => h⟩, s, fun k h => h.elim⟩

/-- The blocks of tables of one's own. -/
def ownX (ho : Hd) (tb : List Tbl) (k : Nat) : Prop := ho.val.ownBlock = some k ∨ ∃ t ∈ tb, t.h.val.ownBlock = some k
theorem OwnT.chgX {w w' : World} {B : Nat} {ho : Hd} {tb : List Tbl} {S : Nat → Prop} (d : OwnT w B ho tb) (c : Chg S w w') (hS : ∀ k, ownX ho tb k → ¬ S k) : OwnT w' B ho tb :=
  ⟨own_chg d.oo c fun k hk => hS k (.inl hk), d.oh, fun t ht => ⟨own_chg (d.oi t ht).1 c fun k hk => hS k (.inr ⟨t, ht, hk⟩), (d.oi t ht).2⟩, d.ai⟩
theorem OwnT.lt {w : World} {B : Nat} {ho : Hd} {tb : List Tbl} (d : OwnT w B ho tb) {k : Nat} (h : ownX ho tb k) : B ≤ k ∧ k < w.heap.size := by
  rcases h with h | ⟨t, ht, h⟩
  · obtain ⟨h1, cs, h2⟩ := row_ty d.oo h
    exact ⟨h1, h2.lt⟩
  · exact d.ge ht h
end Go.Proofs.YtpakimhhpeaefaaGreatDoor
namespace Go.Proofs.YtpakimhhpeaefaaGreatDoor
open Go.RowKit

theorem OwnT.outer_ne {w : World} {B : Nat} {ho : Hd} {tb : List Tbl} (d : OwnT w B ho tb) {t : Tbl} {b1 : Nat} {n : Nat} {xs : List Value} (o : w.ownsRow b1 40 1 t.h.val n xs) {k : Nat} (h1 : ho.val.ownBlock = some k) (h2 : t.h.val.ownBlock = some k) : False := by
  obtain ⟨_, cs, hb⟩ := row_ty d.oo h1
  obtain ⟨_, cs', hb'⟩ := row_ty o h2
  exact Blk.ne_ hb hb' (by decide) rfl
/-- Tables of one's own, with one more. -/
theorem OwnT.push {w1 w2 : World} {B : Nat} {ho : Hd} {tb : List Tbl} (d : OwnT w1 B ho tb) (t : Tbl) {b1 : Nat}
    (o : w1.ownsRow b1 40 1 t.h.val t.rs.length (t.rs.flatMap Rw.cell)) (hn : t.h.n = t.rs.length) (hb1 : B ≤ b1)
    (hnew : ∀ t' ∈ tb, ∀ k, t'.h.val.ownBlock = some k → k < b1)
    {ob : Obj} (G : (w1.alloc ob).grownBy w2 ho.val.ownBlock) {A : Option Addr} {n c : Nat} (o2 : w2.ownsRow B 55 1 (.slice A n c) (tb.length + 1) (tb.flatMap Tbl.cell ++ [t.h.val])) :
    OwnT w2 B ⟨A, n, c⟩ (tb ++ [t]) := by
  have c1 : Chg (fun k => ho.val.ownBlock = some k) w1 w2 := ((Chg.refl _ w1).alloc ob).grown G fun k hk _ => hk
  have hge : ∀ k, t.h.val.ownBlock = some k → b1 ≤ k := fun k hk => (row_ty o hk).1
  refine ⟨?_, ?_, ?_, ?_⟩
  · have e1 : (tb ++ [t]).flatMap Tbl.cell = tb.flatMap Tbl.cell ++ [t.h.val] := by rw [List.flatMap_append]; rfl
    rw [e1, List.length_append]
    exact o2
  · obtain ⟨g, cap, hv, _⟩ := o2.form (Nat.succ_pos _)
    injection hv with _ h2 _
    show n = _
    rw [List.length_append]; exact h2
  · intro x hx
    rcases List.mem_append.1 hx with h | h
    · exact ⟨own_chg (d.oi x h).1 c1 fun k hk e => d.outer_ne (d.oi x h).1 e hk, (d.oi x h).2⟩
    · rw [List.mem_singleton.1 h]
      exact ⟨own_base (own_chg o c1 fun k hk e => d.outer_ne o e hk) hb1, hn⟩
  · intro i j hi hj hij k h1 h2
    have hl : (tb ++ [t]).length = tb.length + 1 := by simp
    by_cases ei : i < tb.length
    · rw [List.getElem_append_left ei] at h1
      by_cases ej : j < tb.length
      · rw [List.getElem_append_left ej] at h2
        exact d.ai i j ei ej hij k h1 h2
      · have e : j = tb.length := by omega
        subst e
        rw [List.getElem_append_right (Nat.le_refl _)] at h2
        simp only [Nat.sub_self, List.getElem_cons_zero] at h2
        have := hge k h2
        have := hnew _ (List.getElem_mem ei) k h1
        omega
    · have e : i = tb.length := by omega
      subst e
      rw [List.getElem_append_right (Nat.le_refl _)] at h1
      simp only [Nat.sub_self, List.getElem_cons_zero] at h1
      have ej : j < tb.length := by omega
      rw [List.getElem_append_left ej] at h2
      have := hge k h1
      have := hnew _ (List.getElem_mem ej) k h2
      omega
/-- How far the copy of the tables has come. -/
def CopyAt (w wr : World) (h : Hd) (tbs : List Tbl) (k : Nat) : Prop := ∃ tb : List Tbl, tb.length = k ∧ OwnT wr w.heap.size h tb ∧ Same w wr ∧ ∀ (j : Nat) (h1 : j < tb.length) (h2 : j < tbs.length), tb[j].rs = tbs[j].rs
theorem copy_start (w : World) (tbs : List Tbl) : CopyAt w w ⟨none, 0, 0⟩ tbs 0 :=
  ⟨[], rfl, ⟨World.ownsRow_nil _ _ _ _, rfl, (fun t ht => by cases ht), (fun i j hi => by cases hi)⟩, Same.refl w, (fun j h1 => by cases h1)⟩
theorem copy_push {w wr w1 w2 : World} {Ao : Option Addr} {co k : Nat} {tbs tb : List Tbl} (hk : k < tbs.length) (hl : tb.length = k) (O : OwnT wr w.heap.size ⟨Ao, k, co⟩ tb) (S : Same w wr) (R : ∀ (j : Nat) (h1 : j < tb.length) (h2 : j < tbs.length), tb[j].rs = tbs[j].rs) (s1 : Same wr w1) {A1 : Option Addr} {c1 n1 : Nat} (hn : n1 = tbs[k].rs.length) (o1 : w1.ownsRow wr.heap.size 40 1 (.slice A1 n1 c1) tbs[k].rs.length (tbs[k].rs.flatMap Rw.cell))
    {ob : Obj} (G : (w1.alloc ob).grownBy w2 (Value.slice Ao k co).ownBlock) {A3 : Option Addr} {n c3 : Nat} (o2 : w2.ownsRow w.heap.size 55 1 (.slice A3 n c3) (k + 1) (tb.flatMap Tbl.cell ++ [.slice A1 n1 c1])) : CopyAt w w2 ⟨A3, k + 1, c3⟩ tbs (k + 1) := by
  have O1 := O.same s1
  have hn2 : n = k + 1 := by
    obtain ⟨g, cap, hv, _⟩ := o2.form (Nat.succ_pos _)
    injection hv
  subst hn2
  have P := O1.push ⟨⟨A1, n1, c1⟩, tbs[k].rs⟩ o1 hn S.size (fun t' ht' q hq => (O.ge ht' hq).2) (ob := ob) (w2 := w2) G (A := A3) (n := k + 1) (c := c3) (by rw [hl]; exact o2)
  refine ⟨_, by rw [List.length_append, hl]; rfl, P, ?_, ?_⟩
  · refine (S.trans s1).chg (((Chg.refl _ w1).alloc ob).grown G fun k hk _ => hk) fun q hq => ?_
    exact (row_ty O.oo hq).1
  · intro j h1 h2
    by_cases hj : j < tb.length
    · rw [List.getElem_append_left hj]; exact R j hj h2
    · have ej : j = k := by rw [List.length_append] at h1; simp at h1; omega
      subst ej
      rw [List.getElem_append_right (by omega)]
      simp [hl]
/-- How far play has come. -/
structure PlayAt (W : World) (B : Nat) (wr : World) (g : Nat) (m M : Mg) (lo hi : Nat) (h : Hd) (tb : List Tbl) (q : Nat) : Prop where
  live : LiveX W wr g M lo hi (ownX h tb)
  own : OwnT wr B h tb
  rows : rowsOf tb = M.tabs
  low : ∀ t ∈ tb, ∀ r ∈ t.rs, RowIn W (fun k => k < W.heap.size) r
  s : M.s = m.s
  c : M.c = m.c
  ti : M.ti = m.ti
  closed : M.closed = false
  few : ∀ rows ∈ M.tabs, rows.length ≤ 20 + q
theorem rows_of_rs {tb tbs : List Tbl} (hl : tb.length = tbs.length) (h : ∀ (j : Nat) (h1 : j < tb.length) (h2 : j < tbs.length), tb[j].rs = tbs[j].rs) : tb.map Tbl.rs = tbs.map Tbl.rs := by
  apply List.ext_getElem (by simp [hl])
  intro j h1 h2
  simp only [List.length_map] at h1 h2
  rw [List.getElem_map, List.getElem_map]
  exact h j h1 h2
theorem play_start {W w wr : World} {g : Nat} {m : Mg} {lo hi : Nat} {h : Hd} {tbs : List Tbl} (L : LiveX W w g m lo hi (fun _ => False)) (hd : m.done = []) (hc : m.closed = false) (hm : m.tabs = rowsOf tbs) (low : ∀ t ∈ tbs, ∀ r ∈ t.rs, RowIn W (fun k => k < W.heap.size) r) (hf : ∀ rows ∈ m.tabs, rows.length ≤ 20) (C : CopyAt w wr h tbs tbs.length) :
    ∃ tb, tb.length = tbs.length ∧ PlayAt W w.heap.size wr g m m lo wr.heap.size h tb 0 := by
  obtain ⟨tb, hl, O, S, R⟩ := C
  have hrs := rows_of_rs hl R
  refine ⟨tb, hl, (L.grow S (X' := ownX h tb) fun k hk => .inr (O.lt hk)).rehi hd, O, by rw [rows_same hrs, hm], fun t ht r hr => ?_, rfl, rfl, rfl, hc, hf⟩
  obtain ⟨t', ht', e⟩ := mem_rs hrs ht
  exact low t' ht' r (by rw [e]; exact hr)
section
variable {W wr w' : World} {B g : Nat} {m M : Mg} {lo hi : Nat} {h : Hd} {tb : List Tbl} {q : Nat}
theorem PlayAt.step (d : PlayAt W B wr g m M lo hi h tb q) (n : Int) (l : LiveX W w' g (M.step n) lo hi (ownX h tb)) (c : Chg (fun k => ¬ ownX h tb k) wr w') : PlayAt W B w' g m (M.step n) lo hi h tb (q + 1) := by
  have e : M.step n = M.steps (M.count n) := by unfold Mg.step; rw [d.closed]; rfl
  obtain ⟨t1, t2, t3, t4, t5⟩ := Mg.steps_tabs (M.count n) M
  rw [← e] at t1 t2 t3 t4 t5
  exact ⟨l, d.own.chgX c fun k hk hn => hn hk, by rw [t1]; exact d.rows, d.low, t2.trans d.s, t3.trans d.c, t4.trans d.ti, t5.trans d.closed, fun rows hr => by rw [t1] at hr; have := d.few rows hr; omega⟩
theorem PlayAt.still (d : PlayAt W B wr g m M lo hi h tb q) (l : LiveX W w' g M lo hi (ownX h tb)) (c : Chg (fun k => ¬ ownX h tb k) wr w') : PlayAt W B w' g m M lo hi h tb (q + 1) :=
  ⟨l, d.own.chgX c fun k hk hn => hn hk, d.rows, d.low, d.s, d.c, d.ti, d.closed, fun rows hr => by have := d.few rows hr; omega⟩
theorem put_no {M : Mg} {t : Int} {row : Row} (h : M.putE t row ≠ 0) : M.put t row = M := by unfold Mg.put; rw [if_neg h]
theorem put_yes' {M : Mg} {t : Int} {row : Row} (h : M.putE t row = 0) : M.put t row = { M with tabs := putT M.tabs t row } := by unfold Mg.put; rw [if_pos h]
theorem putE_in {M : Mg} {t : Int} {row : Row} (f : M.Fine) (h : M.putE t row = 0) : ∃ N : Nat, t = N ∧ N < M.tabs.length := by
  unfold Mg.putE at h
  split at h
  · cases h
  · split at h
    · cases h
    · rename_i h0
      cases hs : M.s[t.toNat]? with
      | none => rw [hs] at h; cases h
      | some tb =>
        obtain ⟨h1, _⟩ := List.getElem?_eq_some_iff.1 hs
        exact ⟨t.toNat, by omega, by rw [f.len]; exact h1⟩
theorem PlayAt.len (d : PlayAt W B wr g m M lo hi h tb q) : tb.length = M.tabs.length := by
  have := congrArg List.length d.rows
  simpa [rowsOf] using this
theorem PlayAt.put {go nn c : Nat} (d : PlayAt W B wr g m M lo hi ⟨some ⟨go, 0, none⟩, nn, c⟩ tb q) (hB : g < B) (hlB : lo ≤ B) (hWB : W.heap.size ≤ B) (hgo : go < hi) {N : Nat} {row : Row} {hr : Hd} (hE : M.putE N row = 0) (hN : N < tb.length) {w5 w4 : World}
    (l : LiveX W w5 g (M.put N row) lo hi (ownX ⟨some ⟨go, 0, none⟩, nn, c⟩ tb)) (cc : Chg (fun k => ¬ ownX ⟨some ⟨go, 0, none⟩, nn, c⟩ tb k) wr w5) (s : Same w5 w4) {A2 : Option Addr} {n2 c2 : Nat}
    (o : w4.ownsRow w5.heap.size 40 1 (.slice A2 n2 c2) (tb[N].rs.length + 1) (tb[N].rs.flatMap Rw.cell ++ [hr.val])) (hrow : RowIn W (fun k => k < W.heap.size) ⟨hr, row⟩) :
    PlayAt W B (w4.setCell ⟨go, N, none⟩ (.slice A2 n2 c2)) g m (M.put N row) lo hi ⟨some ⟨go, 0, none⟩, nn, c⟩ (tb.set N ⟨⟨A2, n2, c2⟩, tb[N].rs ++ [⟨hr, row⟩]⟩) (q + 1) := by
  have O5 := d.own.chgX cc fun k hk hn => hn hk
  have O4 := O5.same s
  have hnn : nn = tb.length := d.own.oh
  have hn2 : n2 = tb[N].rs.length + 1 := by
    obtain ⟨g, cap, hv, _⟩ := o.form (Nat.succ_pos _)
    injection hv
  obtain ⟨nt, hnt⟩ : ∃ nt : Tbl, nt = ⟨⟨A2, n2, c2⟩, tb[N].rs ++ [⟨hr, row⟩]⟩ := ⟨_, rfl⟩
  have hv : Value.slice A2 n2 c2 = nt.h.val := by rw [hnt]; rfl
  have hrs : nt.rs = tb[N].rs ++ [⟨hr, row⟩] := by rw [hnt]
  have hho : (⟨some ⟨go, 0, none⟩, nn, c⟩ : Hd).val.ownBlock = some go := rfl
  have hX : ownX ⟨some ⟨go, 0, none⟩, nn, c⟩ tb go := .inl hho
  have hBgo : B ≤ go := (d.own.lt hX).1
  rw [← hnt, hv]
  rw [hv] at o
  have ho2 : w4.ownsRow B 40 1 nt.h.val nt.rs.length (nt.rs.flatMap Rw.cell) := by
    rw [hrs, List.length_append, List.flatMap_append]
    exact own_base o (Nat.le_trans (Nat.le_trans (d.own.lt hX).1 (Nat.le_of_lt (d.own.lt hX).2)) cc.size)
  have hnew : ∀ k, nt.h.val.ownBlock = some k → w5.heap.size ≤ k ∧ k < w4.heap.size := fun k hk => by
    obtain ⟨h1, cs, h2⟩ := row_ty o hk
    exact ⟨h1, h2.lt⟩
  have SET : OwnT (w4.setCell ⟨go, N, none⟩ nt.h.val) B ⟨some ⟨go, 0, none⟩, nn, c⟩ (tb.set N nt) := by
    have := OwnT.set_ (w := w4) (B := B) (g := go) (c := c) (tb := tb) (by rw [hnn] at O4; exact O4) N hN nt ho2 (by rw [hnt]; simp [hn2]) (fun j hj hne k h1 h2 => by
      have h3 := (hnew k h1).1
      have h4 := (O5.ge (List.getElem_mem hj) h2).2
      omega)
    rw [hnn]; exact this
  have GROW : LiveX W w4 g (M.put N row) lo hi (ownX ⟨some ⟨go, 0, none⟩, nn, c⟩ (tb.set N nt)) := l.grow s fun k hk => by
    rcases hk with hk | ⟨t, ht, hk⟩
    · exact .inl (.inl hk)
    · rcases List.mem_or_eq_of_mem_set ht with h1 | h1
      · exact .inl (.inr ⟨t, h1, hk⟩)
      · rw [h1] at hk; exact .inr (hnew k hk)
  obtain ⟨_, cs, hb⟩ := row_ty O4.oo hho
  have POKE := GROW.poke hb (by omega) (.inl hho) (by omega) hgo (by omega) N nt.h.val
  have e2 := put_yes' hE
  have hrows : rowsOf (tb.set N nt) = putT M.tabs N row := by
    rw [hnt]
    have := rows_put tb N hN ⟨A2, n2, c2⟩ ⟨hr, row⟩
    rw [this, d.rows]
  refine ⟨POKE, SET, ?_, ?_, ?_, ?_, ?_, ?_, ?_⟩
  · rw [e2]; exact hrows
  · intro t ht r hr'
    rcases List.mem_or_eq_of_mem_set ht with h1 | h1
    · exact d.low t h1 r hr'
    · rw [h1, hrs] at hr'
      rcases List.mem_append.1 hr' with h2 | h2
      · exact d.low _ (List.getElem_mem hN) r h2
      · rw [List.mem_singleton.1 h2]; exact hrow
  · rw [e2]; exact d.s
  · rw [e2]; exact d.c
  · rw [e2]; exact d.ti
  · rw [e2]; exact d.closed
  · intro rows hr'
    rw [e2] at hr'
    have hr2 : rows ∈ putT M.tabs N row := hr'
    obtain ⟨j, hj, rfl⟩ := List.mem_iff_getElem.1 hr2
    have hj' : j < M.tabs.length := by simpa [putT] using hj
    have := d.few _ (List.getElem_mem hj')
    simp only [putT, List.getElem_modify]
    split
    · simp only [List.length_append, List.length_cons, List.length_nil]; omega
    · omega
/-- The law's tables as tables. -/
theorem PlayAt.tables (d : PlayAt W B wr g m M lo hi h tb q) : TablesAt wr (fun k => k < wr.heap.size) h tb :=
  ⟨d.own.lies, d.own.lies.in_, fun t ht => ⟨d.own.inner ht, (d.own.inner ht).in_, fun r hr => ((d.low t ht r hr).same d.live.same).mono fun k hk _ => Nat.lt_of_lt_of_le hk d.live.same.size⟩⟩
end
end Go.Proofs.YtpakimhhpeaefaaGreatDoor

/- One disk of the law's own, beside blocks that the law keeps. -/
import Derived.Test.YtageboekobkdcaaU
namespace Go.Proofs.Ytageboekobkdcaa
open Go.RowKit

/-- A disk, and blocks of the law's own that its calls leave alone. -/
def LiveX (W w : World) (b : Nat) (D : DS) (K : List (Nat × Obj)) : Prop :=
  ∃ h : DH, DiskAt w h D ∧ h.b = b ∧ (∀ k, h.own k → W.heap.size ≤ k) ∧ Chg (fun _ => False) W w ∧ ∀ p ∈ K, w.heap[p.1]? = some p.2 ∧ ¬ h.own p.1 ∧ W.heap.size ≤ p.1

section
variable {W w w' : World} {b : Nat} {D : DS} {K : List (Nat × Obj)}
theorem Live.x (l : Live W w b D) : LiveX W w b D [] := by
  obtain ⟨h, d, hb, ho, c⟩ := l
  exact ⟨h, d, hb, ho, c, fun p hp => by simp at hp⟩
theorem LiveX.live (l : LiveX W w b D K) : Live W w b D := by
  obtain ⟨h, d, hb, ho, c, _⟩ := l
  exact ⟨h, d, hb, ho, c⟩
theorem LiveX.chg (l : LiveX W w b D K) : Chg (fun _ => False) W w := l.live.chg
theorem LiveX.wf (l : LiveX W w b D K) : D.wf := l.live.wf
theorem LiveX.blk (l : LiveX W w b D K) {p : Nat × Obj} (hp : p ∈ K) : w.heap[p.1]? = some p.2 := by
  obtain ⟨h, d, hb, ho, c, hK⟩ := l
  exact (hK p hp).1
theorem LiveX.kept (l : LiveX W w b D K) (c' : Chg (fun _ => False) w w') : LiveX W w' b D K := by
  obtain ⟨h, d, hb, ho, c, hK⟩ := l
  refine ⟨h, d.kept c' (fun _ _ h => h), hb, ho, c.trans c' (fun _ _ h => h), fun p hp => ?_⟩
  obtain ⟨h1, h2, h3⟩ := hK p hp
  exact ⟨(c'.block _ (lt_of_heap h1) (fun h => h)).trans h1, h2, h3⟩
theorem LiveX.drewN (l : LiveX W w b D K) (n : Nat) : LiveX W (w.drewN n) b D K := l.kept ((Chg.refl _ _).drewN n)
theorem LiveX.lift {D' : DS} {f : Nat} {args : Array Value} {r : Value} (l : LiveX W w b D K)
    (hc : ∀ h : DH, DiskAt w h D → h.b = b → Calls Try.prog f args w fun e w' => e = .returned r ∧ Turn w w' h D') :
    Calls Try.prog f args w fun e w' => e = .returned r ∧ LiveX W w' b D' K := by
  obtain ⟨h, d, hb, ho, c, hK⟩ := l
  refine (hc h d hb).mono ?_
  rintro e w' ⟨he, h', d', hb', c', o'⟩
  refine ⟨he, h', d', hb'.trans hb, ?_, c.trans c' (fun i hi hk => by have := ho i hk; omega), fun p hp => ?_⟩
  · intro k hk
    rcases o' k hk with h1 | h1
    · exact ho k h1
    · exact Nat.le_trans c.size h1
  · obtain ⟨h1, h2, h3⟩ := hK p hp
    have hl := lt_of_heap h1
    refine ⟨(c'.block _ hl h2).trans h1, fun hk => ?_, h3⟩
    rcases o' _ hk with h4 | h4
    · exact h2 h4
    · omega
theorem LiveX.sync (l : LiveX W w b D K) (hml : D.q.length ≤ 1000) :
    Calls Try.prog 20 #[.pointer (some ⟨b, 0, none⟩)] w fun e w' => e = .returned (.int .i64 D.sync.1) ∧ LiveX W w' b D.sync.2 K :=
  l.lift fun h d hb => by rw [← hb]; exact sync_ok h D w d hml
theorem LiveX.fail (l : LiveX W w b D K) (x y : Int) (hml : D.q.length ≤ 1000) :
    Calls Try.prog 24 #[.pointer (some ⟨b, 0, none⟩), .int .i64 x, .int .i64 y] w fun e w' => e = .returned (.tuple #[]) ∧ LiveX W w' b (D.fail x y) K :=
  l.lift fun h d hb => by rw [← hb]; exact fail_ok h D x y w d hml
theorem LiveX.start (l : LiveX W w b D K) : Calls Try.prog 19 #[.pointer (some ⟨b, 0, none⟩)] w fun e w' => e = .returned (.tuple #[]) ∧ LiveX W w' b D.start K :=
  l.lift fun h d hb => by rw [← hb]; exact start_ok h D w d
theorem LiveX.rot (l : LiveX W w b D K) (i a m : Int) : Calls Try.prog 29 #[.pointer (some ⟨b, 0, none⟩), .int .i64 i, .int .i64 a, .int .i64 m] w fun e w' => e = .returned (.tuple #[]) ∧ LiveX W w' b (D.rot i a m) K :=
  l.lift fun h d hb => by rw [← hb]; exact rot_ok h D i a m w d
theorem LiveX.stale (l : LiveX W w b D K) (i : Int) : Calls Try.prog 30 #[.pointer (some ⟨b, 0, none⟩), .int .i64 i] w fun e w' => e = .returned (.tuple #[]) ∧ LiveX W w' b (D.stale i) K :=
  l.lift fun h d hb => by rw [← hb]; exact stale_ok h D i w d
theorem LiveX.read (l : LiveX W w b D K) (i : Int) (hml : D.q.length ≤ 1000) : Calls Try.prog 17 #[.pointer (some ⟨b, 0, none⟩), .int .i64 i] w fun e w' => e = .returned (.tuple #[.string (D.read i).1, .int .i64 (D.read i).2]) ∧ LiveX W w' b D K :=
  l.lift fun h d hb => by rw [← hb]; exact (read_ok h D i w d hml).mono fun e w' ⟨he, c⟩ => ⟨he, Turn.same d c⟩
theorem LiveX.write (l : LiveX W w b D K) (i : Int) (s : ByteArray) (hs : s.size ≤ 9223372036854775807) (hml : D.q.length < 1000) :
    Calls Try.prog 22 #[.pointer (some ⟨b, 0, none⟩), .int .i64 i, .string s] w fun e w' => e = .returned (.int .i64 (D.write i s).1) ∧ LiveX W w' b (D.write i s).2 K :=
  l.lift fun h d hb => by rw [← hb]; exact write_ok h D i s w d hs hml
theorem LiveX.textL {w1 : World} {ab off k : Nat} {a : AC} (l : LiveX W w b D K) (s : Hid (ActSeen W ab off k a)) (ht : a.text.size ≤ 100) (c : Chg (fun _ => False) w w1) :
    Calls Try.prog 23 #[.agg #[.int .i64 a.kind, .int .i64 a.sector, .int .i64 a.bytes, .string a.text, .bool a.odd, .int .i64 a.after]] w1 fun e w' => e = .returned (.string a.txt) ∧ ActSeen w' ab off k a ∧ Hid (LiveX W w' b D K) := by
  refine (text_ok a w1 ht).mono ?_
  rintro e w' ⟨he, c'⟩
  have l' := l.kept (c.trans c' (fun _ _ h => h))
  exact ⟨he, s.out.kept l'.chg, l'⟩
theorem LiveX.writeL {ab off k : Nat} {a : AC} (l : LiveX W w b D K) (s : Hid (ActSeen W ab off k a)) (ht : a.text.size ≤ 100) (hml : D.q.length < 1000) :
    Calls Try.prog 22 #[.pointer (some ⟨b, 0, none⟩), .int .i64 a.sector, .string a.txt] w fun e w' => e = .returned (.int .i64 (D.write a.sector a.txt).1) ∧ ActSeen w' ab off k a ∧ Hid (LiveX W w' b (D.write a.sector a.txt).2 K) := by
  refine (l.write a.sector a.txt (by have := a.txt_le ht; omega) hml).mono ?_
  rintro e w' ⟨he, l'⟩
  exact ⟨he, s.out.kept l'.chg, l'⟩

/-- A block that holds these strings. -/
def StrsObj (g : Nat) (O : Obj) (l : List ByteArray) : Prop := ∀ w : World, w.heap[g]? = some O → StrsAt w (some ⟨g, 0, none⟩) l
theorem StrsAt.obj {g : Nat} {O : Obj} {l : List ByteArray} (s : StrsAt w (some ⟨g, 0, none⟩) l) (h : w.heap[g]? = some O) : StrsObj g O l := by
  intro w2 h2 k hk
  obtain ⟨b, off, hA, h1⟩ := s k hk
  refine ⟨b, off, hA, ?_⟩
  simp only [Option.some.injEq, Addr.mk.injEq, and_true] at hA
  obtain ⟨rfl, rfl⟩ := hA
  exact (World.cell?_of_block (h2.trans h.symm)).trans h1
theorem LiveX.strs {g : Nat} {O : Obj} {A : List ByteArray} (l : LiveX W w b D K) (hm : (g, O) ∈ K) (s : StrsObj g O A) : StrsAt w (some ⟨g, 0, none⟩) A := s w (l.blk hm)
theorem LiveX.more {g : Nat} {O : Obj} (l : LiveX W w b D K) (c' : Chg (fun _ => False) w w') (hg : w.heap.size ≤ g) (hO : w'.heap[g]? = some O) : LiveX W w' b D ((g, O) :: K) := by
  obtain ⟨h, d, hb, ho, c, hK⟩ := l
  refine ⟨h, d.kept c' (fun _ _ h => h), hb, ho, c.trans c' (fun _ _ h => h), fun p hp => ?_⟩
  rcases List.mem_cons.1 hp with rfl | hp
  · exact ⟨hO, fun hk => by have := d.lt g hk; omega, Nat.le_trans c.size hg⟩
  · obtain ⟨h1, h2, h3⟩ := hK p hp
    exact ⟨(c'.block _ (lt_of_heap h1) (fun h => h)).trans h1, h2, h3⟩
theorem LiveX.alloc (l : LiveX W w b D K) (O : Obj) : LiveX W (w.alloc O) b D ((w.heap.size, O) :: K) :=
  l.more ((Chg.refl _ _).alloc O) (Nat.le_refl _) (heap_alloc_new _ _)
/-- A store into the first of the kept blocks. -/
theorem LiveX.store {g : Nat} {cs : Array Value} {t : TypeId} (l : LiveX W w b D ((g, .cells cs t (0, 0)) :: K)) (hK : ∀ p ∈ K, p.1 ≠ g) (i : Nat) (v : Value) :
    LiveX W (w.setCell ⟨g, i, none⟩ v) b D ((g, .cells (cs.setIfInBounds i v) t (0, 0)) :: K) := by
  obtain ⟨h, d, hb, ho, c, hk⟩ := l
  obtain ⟨g1, g2, g3⟩ := hk _ (List.mem_cons_self ..)
  have cs' := chg_setCell w g i v
  refine ⟨h, d.kept cs' (fun k ho' e => g2 (by subst e; exact ho')), hb, ho, c.setCell _ _ (fun hlt => by have : g < W.heap.size := hlt; dsimp only at g3; omega), fun p hp => ?_⟩
  rcases List.mem_cons.1 hp with rfl | hp
  · exact ⟨setCell_blk g1 i v, g2, g3⟩
  · obtain ⟨h1, h2, h3⟩ := hk p (List.mem_cons_of_mem _ hp)
    exact ⟨(setCell_rest w g i v _ (hK p hp)).trans h1, h2, h3⟩
theorem LiveX.contents (l : LiveX W w b D K) (ho : D.off = false) (hml : D.q.length ≤ 1000) {n : Nat} (hn : D.n = n) :
    Calls Try.prog 21 #[.pointer (some ⟨b, 0, none⟩), .int .i64 (n : Int)] w fun e w' => ∃ g c O, e = .returned (.tuple #[.slice (some ⟨g, 0, none⟩) n c, .bool true]) ∧ Hid (StrsObj g O D.conts) ∧ Hid (LiveX W w' b D ((g, O) :: K)) := by
  refine (l.live.contents ho hml hn).mono ?_
  rintro e w' ⟨g, c, rfl, got, hid⟩
  obtain ⟨O, hO⟩ : ∃ O, w'.heap[g]? = some O := ⟨_, Array.getElem?_eq_getElem got.hi⟩
  exact ⟨g, c, O, rfl, got.at_.out.obj hO, l.more hid.out.1 got.lo hO⟩
end
end Go.Proofs.Ytageboekobkdcaa

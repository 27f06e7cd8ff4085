import Derived.Test.YtfifnemnihcijaaGreatDoorKQe
import Derived.Test.YtfifnemnihcijaaGreatDoorKHb
set_option linter.unusedSimpArgs false
set_option linter.unusedVariables false
set_option maxHeartbeats 16000000
set_option maxRecDepth 100000
namespace Go.Proofs.YtfifnemnihcijaaGreatDoor
open Go.RowKit
structure TwoP (W w:World) (p:MH) (q:R43.MH) (m n:Mg):Prop where
 d:MgAt w p m
 e:R43.MgAt w q n
 lo:p.lo = W.heap.size
 lo':q.lo = W.heap.size
 o:∀ k,p.own k → W.heap.size ≤ k
 o':∀ k,q.own k → W.heap.size ≤ k
 dis:∀ k,p.own k → ¬ q.own k
 r:∀ r ∈ p.dr,In (fun k => ¬ q.own k) r.h
 r':∀ r ∈ q.dr,In (fun k => ¬ p.own k) r.h
 s:Same W w
 z:∀ k,p.own k → k < q.W0.heap.size → q.Z k
 b:∀ k,q.own k → p.W0.heap.size ≤ k
section
variable {W w w':World} {p:MH} {q:R43.MH} {m n m1 n1:Mg}
theorem TwoP.next (T:TwoP W w p q m n) (s:Same w w'):TwoP W w' p q m n:=
 ⟨T.d.next s,T.e.next s,T.lo,T.lo',T.o,T.o',T.dis,T.r,T.r',T.s.trans s,T.z,T.b⟩
theorem TwoP.preP (T:TwoP W w p q m n):MgAt w { p with hi:=fun k => ¬ q.own k } m:=
 ⟨⟨T.d.st.ts,T.d.st.tsm,T.d.st.few,T.d.st.tsl,T.d.st.tn,T.d.st.tnm,T.d.st.fewn,T.d.st.okn,T.d.st.okd,T.d.st.laid,T.d.st.WB,T.d.st.gB⟩,T.d.same,T.d.blk,T.d.bs,T.d.bc,T.d.bm,T.d.oo,T.d.oh,T.d.oi,T.d.tr,T.d.od,T.d.dh,T.d.dr,T.d.rr,T.d.rd,T.d.ai,T.d.ad,T.d.fine,T.d.rl,T.r,fun k hk h => by have:=T.e.own_lt h;omega⟩
theorem TwoP.preR (T:TwoP W w p q m n):R43.MgAt w { q with hi:=fun k => ¬ p.own k } n:=
 ⟨⟨T.e.st.ts,T.e.st.tsm,T.e.st.few,T.e.st.tsl,T.e.st.tn,T.e.st.tnm,T.e.st.fewn,T.e.st.okn,T.e.st.okd,T.e.st.laid,T.e.st.WB,T.e.st.gB,T.e.st.tsI,T.e.st.tnI⟩,T.e.same,T.e.blk,T.e.oo,T.e.oh,T.e.oi,T.e.tr,T.e.od,T.e.dh,T.e.dr,T.e.rr,T.e.rd,T.e.ai,T.e.ad,T.e.fine,T.e.rl,T.r',fun k hk h => by have:=T.d.own_lt h;omega⟩
theorem TwoP.turnP (T:TwoP W w p q m n) (t:MTurn w w' { p with hi:=fun k => ¬ q.own k } m1):∃ p1,TwoP W w' p1 q m1 n ∧ p1.g = p.g ∧ p1.W0 = p.W0 ∧ Chg p.own w w':=by
 obtain ⟨p1,d1,hg,hW,hL,c0,o0⟩:=t
 have c:Chg p.own w w':=c0
 have o:∀ k,p1.own k → p.own k ∨ w.heap.size ≤ k:=o0
 have hW':p1.W0 = p.W0:=hW
 have hlo:p1.lo = p.lo:=hL.2.1
 have hhi:p1.hi = fun k => ¬ q.own k:=hL.2.2
 have e1:R43.MgAt w' q n:=T.e.kept c (fun k hk h => T.dis k h hk) (fun k hk h => T.z k h hk) (fun t ht r hr => (T.e.rl t ht r hr).mono fun k hk h => by have:=T.o k h;rw [T.lo'] at hk;omega) T.r'
 refine ⟨p1,⟨d1,e1,hlo.trans T.lo,T.lo',fun k hk => (o k hk).elim (T.o k) (fun h => Nat.le_trans T.s.size h),T.o',fun k hk h => (o k hk).elim (fun h1 => T.dis k h1 h) (fun h1 => by have:=T.e.own_lt h;omega),fun r hr => ?_,fun r hr => ?_,T.s.chg c T.o,fun k hk hl => (o k hk).elim (fun h => T.z k h hl) (fun h => by have:=T.e.same.size;omega),fun k hk => by rw [hW'];exact T.b k hk⟩,hg,hW',c⟩
 ·have:=d1.rh r hr
  rw [hhi] at this
  exact this
 ·have h1:RowIn w (fun k => ¬ p.own k) r:=⟨(T.e.rd r hr).1,T.r' r hr⟩
  exact (h1.mono (K':=fun k => ¬ p1.own k) fun k hk hl h => (o k h).elim hk (fun h => by omega)).2
theorem TwoP.turnR (T:TwoP W w p q m n) (t:R43.MTurn w w' { q with hi:=fun k => ¬ p.own k } n1):∃ q1,TwoP W w' p q1 m n1 ∧ q1.g = q.g ∧ Chg q.own w w':=by
 obtain ⟨q1,e1,hg,hW,hL,c0,o0⟩:=t
 have c:Chg q.own w w':=c0
 have o:∀ k,q1.own k → q.own k ∨ w.heap.size ≤ k:=o0
 have hW':q1.W0 = q.W0:=hW
 have hlo:q1.lo = q.lo:=hL.2.1
 have hhi:q1.hi = fun k => ¬ p.own k:=congrArg Prod.fst hL.2.2
 have hZ:q1.Z = q.Z:=congrArg Prod.snd hL.2.2
 have d1:MgAt w' p m:=T.d.kept c (fun k hk h => T.dis k hk h) (fun k hk h => by have:=T.b k h;omega) (T.e.not_own T.d.bs (by decide) (by decide) (by decide)) (T.e.not_own T.d.bc (by decide) (by decide) (by decide)) (T.e.not_own T.d.bm (by decide) (by decide) (by decide))
  (fun t ht r hr => (T.d.rl t ht r hr).mono fun k hk h => by have:=T.o' k h;rw [T.lo] at hk;omega) T.r
 refine ⟨q1,⟨d1,e1,T.lo,hlo.trans T.lo',T.o,fun k hk => (o k hk).elim (T.o' k) (fun h => Nat.le_trans T.s.size h),fun k hk h => (o k h).elim (fun h1 => T.dis k hk h1) (fun h1 => by have:=T.d.own_lt hk;omega),fun r hr => ?_,fun r hr => ?_,T.s.chg c T.o',fun k hk hl => by rw [hW'] at hl;rw [hZ];exact T.z k hk hl,fun k hk => (o k hk).elim (T.b k) (fun h => Nat.le_trans T.d.same.size h)⟩,hg,c⟩
 ·have h1:RowIn w (fun k => ¬ q.own k) r:=⟨(T.d.rd r hr).1,T.r r hr⟩
  exact (h1.mono (K':=fun k => ¬ q1.own k) fun k hk hl h => (o k h).elim hk (fun h => by omega)).2
 ·have:=e1.rh r hr
  rw [hhi] at this
  exact this
def BD (M:Mg) (k:Nat):Prop:=M.tabs.length ≤ 6 ∧ ∀ rows ∈ M.tabs,rows.length ≤ 20 + k
theorem BD.fewR {M:Mg} {k:Nat} (h:BD M k) (hk:k ≤ 20):FewR M.tabs:=⟨by have:=h.1;omega,fun rows hr => by have:=h.2 rows hr;omega⟩
theorem BD.rows {M:Mg} {k:Nat} (h:BD M k) (hk:k ≤ 20):M.rows.length ≤ 1000000:=by
 unfold Mg.rows
 rw [List.getD_eq_getElem?_getD]
 cases e:M.tabs[M.ti]? with
 | none => simp
 | some r =>
  have:=h.2 r (List.mem_of_getElem? e)
  simp only [Option.getD_some]
  omega
theorem BD.mono {M:Mg} {k k':Nat} (h:BD M k) (hk:k ≤ k'):BD M k':=⟨h.1,fun rows hr => by have:=h.2 rows hr;omega⟩
theorem BD.step {M:Mg} {k:Nat} (h:BD M k) (n:Int):BD (M.step n) k:=by
 unfold Mg.step
 split
 ·exact h
 ·have:=(Mg.steps_tabs (M.count n) M).1
  unfold BD
  rw [this];exact h
theorem BD.put {M:Mg} {k:Nat} (h:BD M k) (t:Int) (row:Row):BD (M.put t row) (k + 1):=by
 unfold Mg.put
 split
 ·refine ⟨by show (putT M.tabs t row).length ≤ 6;simp [putT];exact h.1,fun rows hr => ?_⟩
  have hr':rows ∈ putT M.tabs t row:=hr
  obtain ⟨i,hi,rfl⟩:=List.mem_iff_getElem.1 hr'
  have hi':i < M.tabs.length:=by simpa [putT] using hi
  have:=h.2 _ (List.getElem_mem hi')
  simp only [putT]
  rw [List.getElem_modify]
  split
  ·simp;omega
  ·omega
 ·exact h.mono (Nat.le_succ k)
theorem BD.finish {M:Mg} {k:Nat} (h:BD M k):BD M.finish k:=by
 unfold Mg.finish
 split
 ·exact h
 ·exact h
theorem BD.abandon {M:Mg} {k:Nat} (h:BD M k):BD M.abandon k:=h
def KeepS (w w':World):Prop:=∀ b cs,Blk w b 24 cs → Blk w' b 24 cs
theorem TwoP.keepS (T:TwoP W w p q m n) (c:Chg q.own w w'):KeepS w w':=fun _ _ hb => hb.chg c (T.e.not_own hb (by decide) (by decide) (by decide))
end
def Pair (W w:World) (a b:Option Addr) (k:Nat):Prop:=
 (a = none ∧ b = none ∧ Same W w) ∨ ∃ (p:MH) (q:R43.MH) (M:Mg),a = some ⟨p.g,0,none⟩ ∧ b = some ⟨q.g,0,none⟩ ∧ TwoP W w p q M M ∧ BD M k
section
variable {W w:World} {a b:Option Addr} {k:Nat}
theorem Pair.same (P:Pair W w a b k):Same W w:=by
 rcases P with ⟨_,_,s⟩ | ⟨p,q,M,_,_,T,_⟩
 ·exact s
 ·exact T.s
theorem Pair.next {w':World} (P:Pair W w a b k) (s:Same w w'):Pair W w' a b k:=by
 rcases P with ⟨h1,h2,s0⟩ | ⟨p,q,M,h1,h2,T,h⟩
 ·exact .inl ⟨h1,h2,s0.trans s⟩
 ·exact .inr ⟨p,q,M,h1,h2,T.next s,h⟩
theorem Pair.mono {k':Nat} (P:Pair W w a b k) (h:k ≤ k'):Pair W w a b k':=by
 rcases P with h0 | ⟨p,q,M,h1,h2,T,hb⟩
 ·exact .inl h0
 ·exact .inr ⟨p,q,M,h1,h2,T,hb.mono h⟩
theorem pair_step (P:Pair W w a b k) (hk:k ≤ 20) (n:Int) (hn1:-9223372036854775808 ≤ n) (hn2:n ≤ 9223372036854775807) :
  Calls Tryz.prog 25 #[.pointer a,.int .i64 n] w fun e w' => ∃ N E:Int,e = .returned (.tuple #[.int .i64 N,.int .i64 E]) ∧ Same W w' ∧
   ∀ w2,Same w' w2 → Calls Tryz.prog 26 #[.pointer b,.int .i64 n] w2 fun e2 w3 => e2 = .returned (.tuple #[.int .i64 N,.int .i64 E]) ∧ Pair W w3 a b k:=by
 rcases P with ⟨rfl,rfl,s⟩ | ⟨p,q,M,rfl,rfl,T,h⟩
 ·refine (step_none w n).mono ?_
  rintro e w' ⟨he,rfl⟩
  refine ⟨0,1,he,s,fun w2 s2 => (R43.step_none w2 n).mono ?_⟩
  rintro e2 w3 ⟨he2,rfl⟩
  exact ⟨he2,.inl ⟨rfl,rfl,s.trans s2⟩⟩
 ·refine (step_ok T.preP n (h.rows hk) hn1 hn2).mono ?_
  rintro e w' ⟨he,t⟩
  obtain ⟨p1,T1,g1,_,_⟩:=T.turnP t
  refine ⟨_,_,he,T1.s,fun w2 s2 => (R43.step_ok (T1.next s2).preR n (h.rows hk) hn1 hn2).mono ?_⟩
  rintro e2 w3 ⟨he2,t2⟩
  obtain ⟨q1,T2,g2,_⟩:=(T1.next s2).turnR t2
  exact ⟨he2,.inr ⟨p1,q1,_,by rw [g1],by rw [g2],T2,h.step n⟩⟩
theorem pair_put (P:Pair W w a b k) (hk:k ≤ 20) (n:Int) {hr:Hd} {row:Row} (r:RowAt W hr row) :
  Calls Tryz.prog 27 #[.pointer a,.int .i64 n,hr.val] w fun e w' => ∃ E:Int,e = .returned (.int .i64 E) ∧ Same W w' ∧
   ∀ w2,Same w' w2 → Calls Tryz.prog 28 #[.pointer b,.int .i64 n,hr.val] w2 fun e2 w3 => e2 = .returned (.int .i64 E) ∧ Pair W w3 a b (k + 1):=by
 rcases P with ⟨rfl,rfl,s⟩ | ⟨p,q,M,rfl,rfl,T,h⟩
 ·refine (put_none w n hr.a hr.n hr.c).mono ?_
  rintro e w' ⟨he,rfl⟩
  refine ⟨1,he,s,fun w2 s2 => (R43.put_none w2 n hr.a hr.n hr.c).mono ?_⟩
  rintro e2 w3 ⟨he2,rfl⟩
  exact ⟨he2,.inl ⟨rfl,rfl,s.trans s2⟩⟩
 ·have hb:∀ rows ∈ M.tabs,rows.length ≤ 1000000:=(h.fewR hk).2
  refine (put_ok T.preP n ⟨r.same T.s,r.in_.mono fun k hk h => by have:=T.o k h;omega⟩ (r.in_.mono fun k hk => by show k < p.lo;rw [T.lo];exact hk) hb).mono ?_
  rintro e w' ⟨he,t⟩
  obtain ⟨p1,T1,g1,_,_⟩:=T.turnP t
  refine ⟨_,he,T1.s,fun w2 s2 => (R43.put_ok (T1.next s2).preR n ⟨r.same (T1.s.trans s2),r.in_.mono fun k hk h => by have:=T1.o' k h;omega⟩ (r.in_.mono fun k hk => by show k < q.lo;rw [T1.lo'];exact hk) hb).mono ?_⟩
  rintro e2 w3 ⟨he2,t2⟩
  obtain ⟨q1,T2,g2,_⟩:=(T1.next s2).turnR t2
  exact ⟨he2,.inr ⟨p1,q1,_,by rw [g1],by rw [g2],T2,h.put n row⟩⟩
def LikeS (w:World) (h1 h2:Hd):Prop:=∃ ts us:List RT,TabsAt w h1 ts ∧ TabsAt w h2 us ∧ ts.map RT.tb = us.map RT.tb
def LikeT (w:World) (h1 h2:Hd):Prop:=∃ ts us:List Tbl,TablesAt w (fun _ => True) h1 ts ∧ TablesAt w (fun _ => True) h2 us ∧ rowsOf ts = rowsOf us
theorem tablesAt_any {w:World} {K:Nat → Prop} {h:Hd} {ts:List Tbl} (t:TablesAt w K h ts):TablesAt w (fun _ => True) h ts:=
 ⟨t.1,t.2.1.mono fun _ _ => trivial,fun x hx => ⟨(t.2.2 x hx).1,(t.2.2 x hx).2.1.mono fun _ _ => trivial,fun r hr => ⟨((t.2.2 x hx).2.2 r hr).1,((t.2.2 x hx).2.2 r hr).2.mono fun _ _ => trivial⟩⟩⟩
theorem tables_nil (w:World):TablesAt w (fun _ => True) ⟨none,0,0⟩ []:=⟨⟨rfl,by show (0:Nat) ≤ _;omega,fun k hk => by simp at hk⟩,fun h => absurd h (Nat.lt_irrefl 0),fun t ht => by simp at ht⟩
theorem tabs_nil (w:World):TabsAt w ⟨none,0,0⟩ []:=⟨⟨rfl,by show (0:Nat) ≤ _;omega,fun k hk => by simp at hk⟩,fun t ht => by simp at ht⟩
theorem likeT_nil (w:World):LikeT w ⟨none,0,0⟩ ⟨none,0,0⟩:=⟨[],[],tables_nil w,tables_nil w,rfl⟩
theorem likeS_nil (w:World):LikeS w ⟨none,0,0⟩ ⟨none,0,0⟩:=⟨[],[],tabs_nil w,tabs_nil w,rfl⟩
theorem out_stays {w w' w2:World} {p:MH} {q:R43.MH} {m n:Mg} (T:TwoP W w p q m n) {h:Hd} {ts:List Tbl} {tabs:List (List Row)} (o:OutAt w' w.heap.size W.heap.size (fun k => ¬ q.own k) h ts tabs) (c:Chg q.own w' w2):TablesAt w2 (fun _ => True) h ts:=by
 have nk:∀ k,w.heap.size ≤ k → ¬ q.own k:=fun k hk h => by have:=T.e.own_lt h;omega
 have oo:=own_chg o.1.oo c (fun k hk => nk k (row_ty o.1.oo hk).1)
 have O2:OwnT w2 w.heap.size h ts:=⟨oo,o.1.oh,fun t ht => ⟨own_chg (o.1.oi t ht).1 c (fun k hk => nk k (row_ty (o.1.oi t ht).1 hk).1),(o.1.oi t ht).2⟩,o.1.ai⟩
 exact ⟨O2.lies,O2.lies.in_.mono fun _ _ => trivial,fun t ht => ⟨O2.inner ht,(O2.inner ht).in_.mono fun _ _ => trivial,fun r hr => ⟨(o.2.2 t ht r hr).1.chg c ((o.2.2 t ht r hr).2.mono fun k hk h => by
  rcases hk with hk | hk
  ·have:=T.o' k h;omega
  ·exact hk h),fun h0 => by
   obtain ⟨b,off,ha,_⟩:=(o.2.2 t ht r hr).2 h0
   exact ⟨b,off,ha,trivial⟩⟩⟩⟩
theorem pair_abandon (P:Pair W w a b k) (hk:k ≤ 20) :
  Calls Tryz.prog 32 #[.pointer a] w fun e w' => ∃ (A:Option Addr) (n c:Nat) (E:Int),e = .returned (.tuple #[.slice A n c,.int .i64 E]) ∧ Same W w' ∧
   ∀ w2,Same w' w2 → Calls Tryz.prog 33 #[.pointer b] w2 fun e2 w3 => ∃ (B:Option Addr) (p d:Nat),e2 = .returned (.tuple #[.slice B p d,.int .i64 E]) ∧ Pair W w3 a b k ∧ LikeT w3 ⟨A,n,c⟩ ⟨B,p,d⟩:=by
 rcases P with ⟨rfl,rfl,s⟩ | ⟨p,q,M,rfl,rfl,T,h⟩
 ·refine (abandon_none w).mono ?_
  rintro e w' ⟨he,rfl⟩
  refine ⟨none,0,0,1,he,s,fun w2 s2 => (R43.abandon_none w2).mono ?_⟩
  rintro e2 w3 ⟨he2,rfl⟩
  exact ⟨none,0,0,he2,.inl ⟨rfl,rfl,s.trans s2⟩,likeT_nil _⟩
 ·cases hc:M.closed with
  | true =>
   refine (abandon_closed T.d hc).mono ?_
   rintro e w' ⟨he,rfl⟩
   refine ⟨none,0,0,22,he,T.s,fun w2 s2 => (R43.abandon_closed (T.next s2).e hc).mono ?_⟩
   rintro e2 w3 ⟨he2,rfl⟩
   exact ⟨none,0,0,he2,.inr ⟨p,q,M,rfl,rfl,T.next s2,h⟩,likeT_nil _⟩
  | false =>
   refine (abandon_ok T.preP (h.fewR hk) hc).mono ?_
   rintro e w' ⟨A,n,c,ts,he,o,t⟩
   obtain ⟨p1,T1,g1,_,_⟩:=T.turnP t
   refine ⟨A,n,c,0,he,T1.s,fun w2 s2 => (R43.abandon_ok (T1.next s2).preR (h.fewR hk) hc).mono ?_⟩
   rintro e2 w3 ⟨B,pn,dn,he2,⟨us,hu,eu⟩,t2⟩
   obtain ⟨q1,T2,g2,c2⟩:=(T1.next s2).turnR t2
   have o':OutAt w' w.heap.size W.heap.size (fun k => ¬ q.own k) ⟨A,n,c⟩ ts M.tabs:=by
    have:({ p with hi:=fun k => ¬ q.own k }:MH).lo = W.heap.size:=T.lo
    rw [this] at o;exact o
   exact ⟨B,pn,dn,he2,.inr ⟨p1,q1,M.abandon,by rw [g1],by rw [g2],T2,h.abandon⟩,ts,us,out_stays T o' ((Chg.of_same s2).trans c2 fun _ _ h => h),tablesAt_any hu,o'.2.1.trans eu.symm⟩
theorem pair_finish (P:Pair W w a b k) (hk:k ≤ 20) :
  Calls Tryz.prog 29 #[.pointer a] w fun e w' => ∃ (A1:Option Addr) (m1 c1:Nat) (A:Option Addr) (n c:Nat) (E:Int),e = .returned (.tuple #[.agg #[.slice A1 m1 c1],.slice A n c,.int .i64 E]) ∧ Same W w' ∧
   ∀ w2,Same w' w2 → Calls Tryz.prog 30 #[.pointer b] w2 fun e2 w3 => ∃ (B1:Option Addr) (p1 d1:Nat) (B:Option Addr) (p d:Nat),e2 = .returned (.tuple #[.agg #[.slice B1 p1 d1],.slice B p d,.int .i64 E]) ∧ Pair W w3 a b k ∧ KeepS w2 w3 ∧ LikeS w3 ⟨A1,m1,c1⟩ ⟨B1,p1,d1⟩ ∧ LikeT w3 ⟨A,n,c⟩ ⟨B,p,d⟩:=by
 have err:∀ E:Int,(Calls Tryz.prog 29 #[.pointer a] w fun e w' => e = .returned (.tuple #[.agg #[.slice none 0 0],.slice none 0 0,.int .i64 E]) ∧ Same w w') →
   (∀ w2,Same w w2 → Calls Tryz.prog 30 #[.pointer b] w2 fun e w' => e = .returned (.tuple #[.agg #[.slice none 0 0],.slice none 0 0,.int .i64 E]) ∧ Same w2 w') →
   Calls Tryz.prog 29 #[.pointer a] w fun e w' => ∃ (A1:Option Addr) (m1 c1:Nat) (A:Option Addr) (n c:Nat) (E:Int),e = .returned (.tuple #[.agg #[.slice A1 m1 c1],.slice A n c,.int .i64 E]) ∧ Same W w' ∧
   ∀ w2,Same w' w2 → Calls Tryz.prog 30 #[.pointer b] w2 fun e2 w3 => ∃ (B1:Option Addr) (p1 d1:Nat) (B:Option Addr) (p d:Nat),e2 = .returned (.tuple #[.agg #[.slice B1 p1 d1],.slice B p d,.int .i64 E]) ∧ Pair W w3 a b k ∧ KeepS w2 w3 ∧ LikeS w3 ⟨A1,m1,c1⟩ ⟨B1,p1,d1⟩ ∧ LikeT w3 ⟨A,n,c⟩ ⟨B,p,d⟩:=by
  intro E c1 c2
  refine c1.mono ?_
  rintro e w' ⟨he,s'⟩
  refine ⟨none,0,0,none,0,0,E,he,P.same.trans s',fun w2 s2 => (c2 w2 (s'.trans s2)).mono ?_⟩
  rintro e2 w3 ⟨he2,s3⟩
  exact ⟨none,0,0,none,0,0,he2,P.next ((s'.trans s2).trans s3),fun _ _ hb => hb.below s3 hb.lt,likeS_nil _,likeT_nil _⟩
 have P0:=P
 rcases P with ⟨rfl,rfl,s⟩ | ⟨p,q,M,rfl,rfl,T,h⟩
 ·exact err 1 (finish_none w) (fun w2 _ => R43.finish_none w2)
 ·cases hc:M.closed with
  | true => exact err 22 (finish_closed T.d hc) (fun w2 s2 => R43.finish_closed (T.next s2).e hc)
  | false =>
   cases hf:M.failed with
   | true => exact err 15 (finish_failed T.d hc hf) (fun w2 s2 => R43.finish_failed (T.next s2).e hc hf)
   | false =>
    by_cases hl:0 < M.left
    ·exact err 12 (finish_left T.d hc hf hl) (fun w2 s2 => R43.finish_left (T.next s2).e hc hf hl)
    ·have hl0:M.left = 0:=by omega
     have hdn:M.done.length ≤ 1000000:=Nat.le_trans T.d.fine.dl (h.rows hk)
     refine (finish_ok T.preP (h.fewR hk) hdn hc hf hl0).mono ?_
     rintro e w' ⟨go,n,c,ts,he,o,t⟩
     obtain ⟨p1,T1,g1,hW1,_⟩:=T.turnP t
     refine ⟨p.hn.a,p.hn.n,p.hn.c,_,n,c,0,he,T1.s,fun w2 s2 => (R43.finish_ok (T1.next s2).preR (h.fewR hk) hc hf hl0).mono ?_⟩
     rintro e2 w3 ⟨go2,n2,c2,he2,⟨us,hu,eu⟩,t2⟩
     obtain ⟨q1,T2,g2,cc⟩:=(T1.next s2).turnR t2
     have o':OutAt w' w.heap.size W.heap.size (fun k => ¬ q.own k) ⟨some ⟨go,0,none⟩,n,c⟩ ts M.out:=by
      have:({ p with hi:=fun k => ¬ q.own k }:MH).lo = W.heap.size:=T.lo
      rw [this] at o;exact o
     have e1:TabsAt w3 p.hn p.tn:=by
      have:=T2.d.same
      rw [hW1] at this
      exact T.d.st.tn.same this
     have e2':TabsAt w3 q.hn q.tn:=R43.tabs_chg (T1.next s2).e.tabsN (R43.tabsIn_mono (R43.tabsIn_of T.e.st.tn) fun k hk h => by have:=T.e.own_ge h;omega) cc
     exact ⟨q.hn.a,q.hn.n,q.hn.c,_,n2,c2,he2,.inr ⟨p1,q1,M.finish,by rw [g1],by rw [g2],T2,h.finish⟩,(T1.next s2).keepS cc,⟨p.tn,q.tn,e1,e2',by rw [T.d.st.tnm,T.e.st.tnm]⟩,ts,us,out_stays T o' ((Chg.of_same s2).trans cc fun _ _ h => h),tablesAt_any hu,o'.2.1.trans eu.symm⟩
end
theorem wasL_small {S:List Tb} (h:smallS S = true):WasL S 10:=by
 simp only [smallS,Bool.and_eq_true,List.all_eq_true] at h
 intro t ht a ha
 have h2:=h.2 _ ht
 simp only [smallT,Bool.and_eq_true,List.all_eq_true] at h2
 have h3:=h2.2 _ ha
 simp only [smallA,Bool.and_eq_true,decide_eq_true_eq] at h3
 exact h3.1
theorem len_small {S:List Tb} (h:smallS S = true):S.length ≤ 1000000:=by
 simp only [smallS,Bool.and_eq_true,decide_eq_true_eq] at h
 omega
theorem fewR_of {tabs:List (List Row)} (h:fewB tabs = true):FewR tabs ∧ ∀ rows ∈ tabs,rows.length ≤ 20:=by
 simp only [fewB,Bool.and_eq_true,decide_eq_true_eq,List.all_eq_true] at h
 have h20:∀ rows ∈ tabs,rows.length ≤ 20:=fun rows hr => by
  have:=h.2 _ hr
  simp only [fewRows,Bool.and_eq_true,decide_eq_true_eq] at this
  exact this.1
 exact ⟨⟨by omega,fun rows hr => by have:=h20 rows hr;omega⟩,h20⟩
theorem smallM_parts {S:List Tb} {tabs:List (List Row)} {ops:List Opn} (h:smallM S tabs ops = true):smallS S = true ∧ fewB tabs = true ∧ ops.length ≤ 20 ∧ ops.all shortO = true:=by
 simp only [smallM,Bool.and_eq_true,decide_eq_true_eq] at h
 exact ⟨h.1,h.2.1,h.2.2.1,h.2.2.2⟩
theorem tabs_le6 {tbs:List Tbl} (hf:fewB (rowsOf tbs) = true):tbs.length ≤ 6:=by
 simp only [fewB,Bool.and_eq_true,decide_eq_true_eq] at hf
 have:=hf.1
 simpa [rowsOf] using this
theorem pair_start (h:Hd) (ts:List RT) (c:Cg) (ht:Hd) (tbs:List Tbl) (w:World) (l:Laid w) (a:TabsAt w h ts) (hw:WasL (ts.map RT.tb) 10) (tsl:ts.length ≤ 1000000) (hn:okS c.name) (hd:okS c.dflt.s) (tt:TablesAt w (fun k => k < w.heap.size) ht tbs) (hf:fewB (rowsOf tbs) = true) :
  Calls Tryz.prog 23 #[.agg #[h.val],c.val,ht.val] w fun e w' => ∃ (A:Option Addr) (E:Int),e = .returned (.tuple #[.pointer A,.int .i64 E]) ∧ Same w w' ∧
   ∀ w2,Same w' w2 → Calls Tryz.prog 24 #[.agg #[h.val],c.val,ht.val] w2 fun e2 w3 => ∃ B:Option Addr,e2 = .returned (.tuple #[.pointer B,.int .i64 E]) ∧ Pair w w3 A B 0 ∧ ((A = none ∧ B = none) ∨ ∃ x y,A = some x ∧ B = some y):=by
 have fr:=(fewR_of hf).1
 by_cases hE:startE (ts.map RT.tb) c (rowsOf tbs) = 0
 ·refine (start_ok h ts c ht tbs w l a hw (by decide) tsl hn hd tt fr hE).mono ?_
  rintro e w' ⟨p,he,d,s,hB,hlo,hdr⟩
  refine ⟨_,_,he,s,fun w2 s2 => ?_⟩
  have S2:=s.trans s2
  have d2:=d.next s2
  have hpw:∀ k,p.own k → w.heap.size ≤ k:=fun k hk => Nat.le_trans hB (d.own_ty hk).1
  refine (R43.start_any h ts c ht tbs w2 (l.same S2) (a.same S2) hw (by decide) tsl hn hd (tt.same S2) fr (Z:=p.own) (R43.tabsIn_mono (R43.tabsIn_of a) fun k hk h => by have:=hpw k h;omega) (fun k hk h => by have:=d2.own_lt h;omega) (lo:=w.heap.size) (fun k hk => hk) (hi:=fun _ => True) (fun _ _ => trivial)).mono ?_
  rintro e2 w3 (⟨hne,_⟩ | ⟨_,q,he2,e3,s3,hqB,hqZ,hqlo,_,hqdr⟩)
  ·exact absurd hE hne
  ·have hq:∀ k,q.own k → w2.heap.size ≤ k:=fun k hk => Nat.le_trans hqB (e3.own_ty hk).1
   have T:TwoP w w3 p q (start (ts.map RT.tb) c (rowsOf tbs)) (start (ts.map RT.tb) c (rowsOf tbs)):=
    ⟨d2.next s3,e3,hlo,hqlo,hpw,fun k hk => Nat.le_trans S2.size (hq k hk),fun k hk h => by have:=d2.own_lt hk;have:=hq k h;omega,fun r hr => (by rw [hdr] at hr;cases hr),fun r hr => (by rw [hqdr] at hr;cases hr),S2.trans s3,fun k hk _ => (by rw [hqZ];exact hk),fun k hk => by have:=d2.same.size;have:=hq k hk;omega⟩
   exact ⟨_,he2,.inr ⟨p,q,_,rfl,rfl,T,⟨by show (rowsOf tbs).length ≤ 6;rw [show (rowsOf tbs).length = tbs.length from List.length_map _];exact tabs_le6 hf,fun rows hr => by have:=(fewR_of hf).2 rows hr;omega⟩⟩,.inr ⟨_,_,rfl,rfl⟩⟩
 ·refine (start_err h ts c ht tbs w a (few_was rfl hw (by decide)) hn hd tt hE).mono ?_
  rintro e w' ⟨he,s⟩
  refine ⟨_,_,he,s,fun w2 s2 => ?_⟩
  have S2:=s.trans s2
  refine (R43.start_any h ts c ht tbs w2 (l.same S2) (a.same S2) hw (by decide) tsl hn hd (tt.same S2) fr (Z:=fun _ => False) (R43.tabsIn_mono (R43.tabsIn_of a) fun k _ h => h) (fun k _ h => h) (lo:=w.heap.size) (fun k hk => hk) (hi:=fun _ => True) (fun _ _ => trivial)).mono ?_
  rintro e2 w3 (⟨_,he2,s3⟩ | ⟨hz,_⟩)
  ·exact ⟨_,he2,.inl ⟨rfl,rfl,S2.trans s3⟩,.inl ⟨rfl,rfl⟩⟩
  ·exact absurd hz hE
theorem rowsOf_at {ts:List Tbl} {k:Nat} (h:k < ts.length):(rowsOf ts)[k]'(by simpa [rowsOf] using h) = ts[k].rows:=by simp [rowsOf]
theorem same43_ok {K K':Nat → Prop} (h1 h2:Hd) (ts us:List Tbl) (w:World) (a1:TablesAt w K h1 ts) (a2:TablesAt w K' h2 us) :
  Calls Tryz.prog 31 #[h1.val,h2.val] w fun e w' => e = .returned (.bool (decide (rowsOf ts = rowsOf us))) ∧ Same w w':=by
 have hn:ts.length = h1.n:=a1.1.1
 have hp:us.length = h2.n:=a2.1.1
 have hb:h1.n ≤ 9223372036854775807:=a1.1.2.1
 have hb2:h2.n ≤ 9223372036854775807:=a2.1.2.1
 have H1:=Lib.hid a1
 have H2:=Lib.hid a2
 clear a1 a2
 obtain ⟨A,n,c⟩:=h1
 obtain ⟨B,p,d⟩:=h2
 simp only at hn hp hb hb2
 subst hn hp
 show Calls Tryz.prog 31 #[.slice A ts.length c,.slice B us.length d] w _
 have M1:Hid ((rowsOf ts).length = ts.length):=List.length_map _
 have M2:Hid ((rowsOf us).length = us.length):=List.length_map _
 by_cases hlen:ts.length = us.length
 case neg =>
  have t1:((ts.length:Int) != (us.length:Int)) = true:=by simp;omega
  have HL:=Lib.hid hlen
  clear hlen
  go_enter Tryz.func31,Tryz.ntmps31
  go_wp2
  go_ret
  exact ⟨ret_bool (unlike_len (by rw [M1.out,M2.out];exact HL.out)).symm,Same.refl _⟩
 have t1:((ts.length:Int) != (us.length:Int)) = false:=by simp;omega
 have HL:=Lib.hid hlen
 clear hlen
 go_enter Tryz.func31,Tryz.ntmps31
 go_wp2
 clear t1
 go_loopw [5] (fun i wr => ∃ k:Nat,k ≤ ts.length ∧ i = .int .i64 k ∧ Hid (Same w wr) ∧ Hid (Alike (rowsOf ts) (rowsOf us) k)) (fun i _ => ts.length - (intOf i).toNat)
 case atStart => exact ⟨0,Nat.zero_le _,rfl,Same.refl w,alike_zero _ _⟩
 case round =>
  obtain ⟨k,hk,rfl,S,N⟩:=hrel
  by_cases hlt:k < ts.length
  ·have hlt2:k < us.length:=by have:=HL.out;omega
   obtain ⟨b,off,hA,blt,c0⟩:=H1.out.1.one k hlt (v:=ts[k].h.val) rfl
   obtain ⟨b2,off2,hB,blt2,d0⟩:=H2.out.1.one k hlt2 (v:=us[k].h.val) rfl
   have hA':A = some ⟨b,off,none⟩:=hA
   have hB':B = some ⟨b2,off2,none⟩:=hB
   have HX:Hid ((rowsOf ts)[k]'(by rw [M1.out];exact hlt) = ts[k].rows):=rowsOf_at hlt
   have HY:Hid ((rowsOf us)[k]'(by rw [M2.out];exact hlt2) = us[k].rows):=rowsOf_at hlt2
   have HR1:Hid (RowsAt w K ts[k]):=H1.out.2.2 _ (List.getElem_mem hlt)
   have HR2:Hid (RowsAt w K' us[k]):=H2.out.2.2 _ (List.getElem_mem hlt2)
   obtain ⟨x,hx⟩:∃ x,x = ts[k]:=⟨_,rfl⟩
   obtain ⟨y,hy⟩:∃ y,y = us[k]:=⟨_,rfl⟩
   rw [← hx] at c0 HR1 HX
   rw [← hy] at d0 HR2 HY
   clear hx hy hA hB
   obtain ⟨⟨A1,m1,c1⟩,rs⟩:=x
   obtain ⟨⟨A2,m2,c2⟩,rs2⟩:=y
   have e1:rs.length = m1:=HR1.out.1.1
   have e2:rs2.length = m2:=HR2.out.1.1
   have f1:m1 ≤ 9223372036854775807:=HR1.out.1.2.1
   have f2:m2 ≤ 9223372036854775807:=HR2.out.1.2.1
   subst e1 e2
   have HX0:Hid (∀ W,Same w W → W.cell? ⟨b,off + k,none⟩ = some (.slice A1 rs.length c1)):=Lib.hid fun W s => (s.cells _ _ blt).trans c0
   have HY0:Hid (∀ W,Same w W → W.cell? ⟨b2,off2 + k,none⟩ = some (.slice A2 rs2.length c2)):=Lib.hid fun W s => (s.cells _ _ blt2).trans d0
   have x0:=HX0.out _ S.out
   have y0:=HY0.out _ S.out
   clear c0 d0
   subst hA' hB'
   have L1:Hid ((rs.map Rw.v).length = rs.length):=List.length_map _
   have L2:Hid ((rs2.map Rw.v).length = rs2.length):=List.length_map _
   have HX':Hid ((rowsOf ts)[k]'(by rw [M1.out];exact hlt) = rs.map Rw.v):=HX
   have HY':Hid ((rowsOf us)[k]'(by rw [M2.out];exact hlt2) = rs2.map Rw.v):=HY
   by_cases hln:rs.length = rs2.length
   case neg =>
    have t2:((rs.length:Int) != (rs2.length:Int)) = true:=by simp;omega
    have HQ:Hid (decide (rowsOf ts = rowsOf us) = false):=by
     refine unlike_at (k:=k) (by rw [M1.out];exact hlt) (by rw [M2.out];exact hlt2) ?_
     rw [HX'.out,HY'.out]
     intro e
     exact hln (by have:=congrArg List.length e;simpa using this)
    have hki:(k:Int) < (ts.length:Int):=by omega
    have hki2:(k:Int) < (us.length:Int):=by omega
    clear hln
    go_wp2_with fail
    go_quiet (fail)
    go_wp2
    go_ret
    exact ⟨ret_bool HQ.out.symm,S.out.drewN _⟩
   have t2:((rs.length:Int) != (rs2.length:Int)) = false:=by simp;omega
   have HLN:=Lib.hid hln
   clear hln
   have hki:(k:Int) < (ts.length:Int):=by omega
   have hki2:(k:Int) < (us.length:Int):=by omega
   have SK:Hid (Same w wr):=S
   go_wp2_with fail
   go_quiet (fail)
   go_wp2
   clear t2 x0 y0
   go_loopw [6] (fun i wr => ∃ q:Nat,q ≤ rs.length ∧ i = .int .i64 q ∧ Hid (Same w wr) ∧ Hid (Alike (rs.map Rw.v) (rs2.map Rw.v) q)) (fun i _ => rs.length - (intOf i).toNat)
   case atStart => exact ⟨0,Nat.zero_le _,rfl,SK.out.drewN _,alike_zero _ _⟩
   case round =>
    obtain ⟨q,hq,rfl,S2,N2⟩:=hrel
    have hkI:(k:Int) < (ts.length:Int):=by omega
    have x0:=HX0.out _ S2.out
    have y0:=HY0.out _ S2.out
    by_cases hlq:q < rs.length
    ·have hlq2:q < rs2.length:=by have:=HLN.out;omega
     obtain ⟨b3,off3,hA1,blt3,r0⟩:=HR1.out.1.one q hlq (v:=rs[q].h.val) rfl
     obtain ⟨b4,off4,hA2,blt4,s0⟩:=HR2.out.1.one q hlq2 (v:=rs2[q].h.val) rfl
     have hA1':A1 = some ⟨b3,off3,none⟩:=hA1
     have hA2':A2 = some ⟨b4,off4,none⟩:=hA2
     have HS:=Lib.hid (fun W (s:Same w W) => rows_ok rs[q].h rs2[q].h rs[q].v rs2[q].v W ((HR1.out.2.2 _ (List.getElem_mem hlq)).1.same s) ((HR2.out.2.2 _ (List.getElem_mem hlq2)).1.same s))
     have HE1:Hid ((rs.map Rw.v)[q]'(by rw [L1.out];exact hlq) = rs[q].v):=List.getElem_map ..
     have HE2:Hid ((rs2.map Rw.v)[q]'(by rw [L2.out];exact hlq2) = rs2[q].v):=List.getElem_map ..
     obtain ⟨x,hx⟩:∃ x,x = rs[q]:=⟨_,rfl⟩
     obtain ⟨y,hy⟩:∃ y,y = rs2[q]:=⟨_,rfl⟩
     rw [← hx] at r0 HS HE1
     rw [← hy] at s0 HS HE2
     obtain ⟨bb,hbb⟩:∃ bb,bb = decide (x.v = y.v):=⟨_,rfl⟩
     rw [← hbb] at HS
     have HBB:=Lib.hid hbb
     clear hx hy hbb hA1 hA2
     obtain ⟨⟨A3,m3,c3⟩,v3⟩:=x
     obtain ⟨⟨A4,m4,c4⟩,v4⟩:=y
     have HS':Hid (Rt 12 #[.slice A3 m3 c3,.slice A4 m4 c4] w (.bool bb)):=HS
     have r1:w.cell? ⟨b3,off3 + q,none⟩ = some (.slice A3 m3 c3):=r0
     have s1:w.cell? ⟨b4,off4 + q,none⟩ = some (.slice A4 m4 c4):=s0
     have cS:=regr (w:=wr) (fun W s => HS'.out W (S2.out.trans s))
     have kx:=cellr x0
     have ky:=cellr y0
     have kr:=cellr ((S2.out.cells _ _ blt3).trans r1)
     have ks:=cellr ((S2.out.cells _ _ blt4).trans s1)
     subst hA1' hA2'
     clear HS HS' r0 s0 r1 s1
     go_wp2_with fail
     refine wp_region_quiet_below (by kernel_rfl) (by kernel_rfl) ?_
     repeat (go_big_quiet_step (first | (go_at_call 12;exact cS _ _)))
     refine wpQuiet_nil ?_
     intro _ hw'
     obtain ⟨⟨dq,osq⟩,hw''⟩:=hw'
     subst hw''
     have S3:=Lib.hid (S2.out.trans (Same.reg wr dq osq))
     generalize Sort.grow (redrawn wr dq) osq = w1 at S3 ⊢
     clear kx ky kr ks cS x0 y0
     cases bb with
     | true =>
      have HQ:Hid ((rs.map Rw.v)[q]'(by rw [L1.out];exact hlq) = (rs2.map Rw.v)[q]'(by rw [L2.out];exact hlq2)):=by
       show _ = _
       rw [HE1.out,HE2.out]
       exact of_decide_eq_true HBB.out.symm
      go_wp2
      go_roundw
      case rel => exact ⟨q + 1,by omega,by go_num,S3,alike_step (by rw [L1.out];exact hlq) (by rw [L2.out];exact hlq2) N2.out HQ.out⟩
      case measure => simp [intOf];omega
     | false =>
      have HQ:Hid (decide (rowsOf ts = rowsOf us) = false):=by
       refine unlike_at (k:=k) (by rw [M1.out];exact hlt) (by rw [M2.out];exact hlt2) ?_
       rw [HX'.out,HY'.out]
       intro e
       have e2:=unlike_at (l:=rs.map Rw.v) (m:=rs2.map Rw.v) (k:=q) (by rw [L1.out];exact hlq) (by rw [L2.out];exact hlq2) (by rw [HE1.out,HE2.out];exact of_decide_eq_false HBB.out.symm)
       exact of_decide_eq_false e2 e
      go_wp2
      go_ret
      exact ⟨ret_bool HQ.out.symm,S3.out⟩
    ·have HQ:Hid ((rowsOf ts)[k]'(by rw [M1.out];exact hlt) = (rowsOf us)[k]'(by rw [M2.out];exact hlt2)):=by
      show _ = _
      rw [HX'.out,HY'.out]
      refine of_decide_eq_true (alike_end (by rw [L1.out,L2.out];exact HLN.out) (fun j hj => N2.out j (by rw [L1.out] at hj;omega)))
     go_wp2
     go_roundw
     case rel => exact ⟨k + 1,by omega,by go_num,S2,alike_step (by rw [M1.out];exact hlt) (by rw [M2.out];exact hlt2) N.out HQ.out⟩
     case measure => simp [intOf];omega
  ·have HQ:Hid (decide (rowsOf ts = rowsOf us) = true):=alike_end (by rw [M1.out,M2.out];exact HL.out) (fun j hj => N.out j (by rw [M1.out] at hj;omega))
   go_wp2
   go_ret
   exact ⟨ret_bool HQ.out.symm,S.out⟩
end Go.Proofs.YtfifnemnihcijaaGreatDoor

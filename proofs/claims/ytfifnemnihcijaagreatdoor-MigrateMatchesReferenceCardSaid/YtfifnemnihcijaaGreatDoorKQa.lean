import Derived.Test.YtfifnemnihcijaaGreatDoorKGq
import Derived.Test.YtfifnemnihcijaaGreatDoorKZg
set_option linter.unusedSimpArgs false
set_option linter.unusedVariables false
set_option maxHeartbeats 16000000
set_option maxRecDepth 100000
namespace Go.Proofs.YtfifnemnihcijaaGreatDoor.R43
open Go.RowKit
theorem tabs_chg {S:Nat → Prop} {w w':World} {h:Hd} {ts:List RT} (a:TabsAt w h ts) (i:TabsIn (fun k => ¬ S k) h ts) (c:Chg S w w'):TabsAt w' h ts:=
 ⟨Lies.chg a.1 c i.1,fun t ht => ⟨⟨Lies.chg (a.2 t ht).1.1 c (i.2 t ht).1,fun r hr => ⟨⟨Lies.chg ((a.2 t ht).1.2 r hr).1.1 c ((i.2 t ht).2.2 r hr),((a.2 t ht).1.2 r hr).1.2⟩,((a.2 t ht).1.2 r hr).2⟩⟩,Lies.chg (a.2 t ht).2.1 c (i.2 t ht).2.1,(a.2 t ht).2.2⟩⟩
theorem tabsIn_of {w:World} {h:Hd} {ts:List RT} (a:TabsAt w h ts):TabsIn (fun k => k < w.heap.size) h ts:=
 ⟨Lies.in_ a.1,fun t ht => ⟨Lies.in_ (a.2 t ht).1.1,Lies.in_ (a.2 t ht).2.1,fun r hr => Lies.in_ ((a.2 t ht).1.2 r hr).1.1⟩⟩
theorem tabsIn_mono {K K':Nat → Prop} {h:Hd} {ts:List RT} (i:TabsIn K h ts) (m:∀ k,K k → K' k):TabsIn K' h ts:=
 ⟨In.mono i.1 m,fun t ht => ⟨In.mono (i.2 t ht).1 m,In.mono (i.2 t ht).2.1 m,fun r hr => In.mono ((i.2 t ht).2.2 r hr) m⟩⟩
structure MH where
 W0:World
 B:Nat
 g:Nat
 hs:Hd
 ts:List RT
 hn:Hd
 tn:List RT
 ho:Hd
 tb:List Tbl
 hd:Hd
 dr:List Rw
 lo:Nat
 hi:Nat → Prop
 Z:Nat → Prop
def MH.Like (p' p:MH):Prop:=p'.B = p.B ∧ p'.lo = p.lo ∧ (p'.hi,p'.Z) = (p.hi,p.Z)
theorem MH.Like.refl (p:MH):MH.Like p p:=⟨rfl,rfl,rfl⟩
theorem MH.Like.trans {a b c:MH} (h:MH.Like a b) (k:MH.Like b c):MH.Like a c:=⟨h.1.trans k.1,h.2.1.trans k.2.1,h.2.2.trans k.2.2⟩
def MH.own (p:MH) (k:Nat):Prop:=k = p.g ∨ p.ho.val.ownBlock = some k ∨ (∃ t ∈ p.tb,t.h.val.ownBlock = some k) ∨ p.hd.val.ownBlock = some k
def MH.cells (p:MH) (m:Mg):Array Value:=#[p.hs.val,.int .i64 m.c.kind,.string m.c.table,.string m.c.attr,.string m.c.name,.int .i64 m.c.to_,.int .i64 m.c.dflt.k,.int .i64 m.c.dflt.n,.string m.c.dflt.s,p.hn.val,.int .i64 m.ti,p.ho.val,p.hd.val,.bool m.failed,.bool m.closed]
structure MgStill (p:MH) (m:Mg):Prop where
 ts:TabsAt p.W0 p.hs p.ts
 tsm:p.ts.map RT.tb = m.s
 few:Few p.ts
 tsl:p.ts.length ≤ 1000000
 tn:TabsAt p.W0 p.hn p.tn
 tnm:p.tn.map RT.tb = applyS m.s m.c
 fewn:Few p.tn
 okn:okS m.c.name
 okd:okS m.c.dflt.s
 laid:Laid p.W0
 WB:p.W0.heap.size ≤ p.B
 gB:p.B ≤ p.g
 tsI:TabsIn (fun k => ¬ p.Z k) p.hs p.ts
 tnI:TabsIn (fun k => ¬ p.Z k) p.hn p.tn
structure MgAt (w:World) (p:MH) (m:Mg):Prop where
 st:MgStill p m
 same:Chg p.Z p.W0 w
 blk:Blk w p.g 108 (p.cells m)
 oo:w.ownsRow p.B 99 1 p.ho.val p.tb.length (p.tb.flatMap Tbl.cell)
 oh:p.ho.n = p.tb.length
 oi:∀ t ∈ p.tb,w.ownsRow p.B 29 1 t.h.val t.rs.length (t.rs.flatMap Rw.cell) ∧ t.h.n = t.rs.length
 tr:rowsOf p.tb = m.tabs
 od:w.ownsRow p.B 29 1 p.hd.val p.dr.length (p.dr.flatMap Rw.cell)
 dh:p.hd.n = p.dr.length
 dr:p.dr.map Rw.v = m.done
 rr:∀ t ∈ p.tb,∀ r ∈ t.rs,RowIn w (fun k => ¬ p.own k) r
 rd:∀ r ∈ p.dr,RowIn w (fun k => ¬ p.own k) r
 ai:∀ (i j:Nat) (hi:i < p.tb.length) (hj:j < p.tb.length),i ≠ j → ∀ k,p.tb[i].h.val.ownBlock = some k → p.tb[j].h.val.ownBlock ≠ some k
 ad:∀ t ∈ p.tb,∀ k,t.h.val.ownBlock = some k → p.hd.val.ownBlock ≠ some k
 fine:m.Fine
 rl:∀ t ∈ p.tb,∀ r ∈ t.rs,In (fun k => k < p.lo) r.h
 rh:∀ r ∈ p.dr,In p.hi r.h
 hw:∀ k,w.heap.size ≤ k → p.hi k
section
variable {w w':World} {p p':MH} {m m':Mg} {k:Nat}
theorem MgAt.own_ty (d:MgAt w p m) (hk:p.own k):p.B ≤ k ∧ ∃ t cs,Blk w k t cs ∧ (t = 108 ∨ t = 99 ∨ t = 29):=by
 rcases hk with rfl | hk | ⟨t,ht,hk⟩ | hk
 ·exact ⟨d.st.gB,_,_,d.blk,.inl rfl⟩
 ·obtain ⟨hb,cs,h⟩:=row_ty d.oo hk
  exact ⟨hb,_,_,h,.inr (.inl rfl)⟩
 ·obtain ⟨hb,cs,h⟩:=row_ty (d.oi t ht).1 hk
  exact ⟨hb,_,_,h,.inr (.inr rfl)⟩
 ·obtain ⟨hb,cs,h⟩:=row_ty d.od hk
  exact ⟨hb,_,_,h,.inr (.inr rfl)⟩
theorem MgAt.not_own (d:MgAt w p m) {t:TypeId} {cs:Array Value} (hb:Blk w k t cs) (h1:t ≠ 108) (h2:t ≠ 99) (h3:t ≠ 29):¬ p.own k:=by
 intro hk
 obtain ⟨_,t',cs',hb',ht⟩:=d.own_ty hk
 have:t ≠ t':=by rcases ht with rfl | rfl | rfl <;> assumption
 exact Blk.ne_ hb hb' this rfl
theorem MgAt.own_lt (d:MgAt w p m) (hk:p.own k):k < w.heap.size:=by
 obtain ⟨_,_,_,hb,_⟩:=d.own_ty hk
 exact hb.lt
theorem MgAt.own_ge (d:MgAt w p m) (hk:p.own k):p.W0.heap.size ≤ k:=Nat.le_trans d.st.WB (d.own_ty hk).1
theorem MgAt.kept {S:Nat → Prop} (d:MgAt w p m) (c:Chg S w w') (hS:∀ k,p.own k → ¬ S k) (hs:∀ k,k < p.W0.heap.size → S k → p.Z k) (hr:∀ t ∈ p.tb,∀ r ∈ t.rs,In (fun k => ¬ S k) r.h) (hd:∀ r ∈ p.dr,In (fun k => ¬ S k) r.h):MgAt w' p m where
 st:=d.st
 same:=d.same.trans c hs
 blk:=d.blk.chg c (hS _ (.inl rfl))
 oo:=own_chg d.oo c fun k hk => hS k (.inr (.inl hk))
 oh:=d.oh
 oi:=fun t ht => ⟨own_chg (d.oi t ht).1 c fun k hk => hS k (.inr (.inr (.inl ⟨t,ht,hk⟩))),(d.oi t ht).2⟩
 tr:=d.tr
 od:=own_chg d.od c fun k hk => hS k (.inr (.inr (.inr hk)))
 dh:=d.dh
 dr:=d.dr
 rr:=fun t ht r hr' => ⟨(d.rr t ht r hr').1.chg c (hr t ht r hr'),(d.rr t ht r hr').2⟩
 rd:=fun r hr' => ⟨(d.rd r hr').1.chg c (hd r hr'),(d.rd r hr').2⟩
 ai:=d.ai
 ad:=d.ad
 fine:=d.fine
 rl:=d.rl
 rh:=d.rh
 hw:=fun k hk => d.hw k (Nat.le_trans c.size hk)
theorem in_false {S:Nat → Prop} {h:Hd} (hS:∀ k,¬ S k) {w:World} {r:Row} (l:RowAt w h r):In (fun k => ¬ S k) h:=l.in_.mono fun k _ => hS k
theorem MgAt.next (d:MgAt w p m) (s:Same w w'):MgAt w' p m:=
 d.kept (S:=fun _ => False) (Chg.of_same s) (fun _ _ h => h) (fun _ _ h => h.elim) (fun t ht r hr => in_false (fun _ h => h) (d.rr t ht r hr).1) (fun r hr => in_false (fun _ h => h) (d.rd r hr).1)
def MTurn (w w':World) (p:MH) (m':Mg):Prop:=∃ p',MgAt w' p' m' ∧ p'.g = p.g ∧ p'.W0 = p.W0 ∧ MH.Like p' p ∧ Chg p.own w w' ∧ ∀ k,p'.own k → p.own k ∨ w.heap.size ≤ k
theorem MTurn.same (d:MgAt w p m) (s:Same w w'):MTurn w w' p m:=⟨p,d.next s,rfl,rfl,MH.Like.refl p,Chg.of_same s,fun _ hk => .inl hk⟩
theorem MTurn.trans {w1 w2:World} {p1:MH} {m2:Mg} (hg:p1.g = p.g) (hW:p1.W0 = p.W0) (hB:MH.Like p1 p) (c:Chg p.own w w1) (ho:∀ k,p1.own k → p.own k ∨ w.heap.size ≤ k) (t:MTurn w1 w2 p1 m2):MTurn w w2 p m2:=by
 obtain ⟨p2,d2,g2,W2,B2,c2,o2⟩:=t
 refine ⟨p2,d2,g2.trans hg,W2.trans hW,B2.trans hB,c.trans c2 ?_,?_⟩
 ·intro i hi h1i
  rcases ho i h1i with h | h
  ·exact h
  ·omega
 ·intro k hk
  rcases o2 k hk with h | h
  ·exact ho k h
  ·exact .inr (Nat.le_trans c.size h)
theorem row_in_new {w:World} {p p':MH} (ho:∀ k,p'.own k → p.own k ∨ w.heap.size ≤ k) {r:Rw} (h:RowIn w (fun k => ¬ p.own k) r):RowIn w (fun k => ¬ p'.own k) r:=
 h.mono fun k hk hl hk' => (ho k hk').elim hk (fun h => by omega)
theorem MgAt.turned (d:MgAt w p m) (c:Chg p.own w w') (st:MgStill p' m') (e0:p'.W0 = p.W0) (eZ:p'.Z = p.Z) (el:MH.Like p' p) (rl:∀ t ∈ p'.tb,∀ r ∈ t.rs,In (fun k => k < p.lo) r.h) (rh:∀ r ∈ p'.dr,In p.hi r.h)
  (blk:Blk w' p'.g 108 (p'.cells m'))
  (oo:w'.ownsRow p'.B 99 1 p'.ho.val p'.tb.length (p'.tb.flatMap Tbl.cell)) (oh:p'.ho.n = p'.tb.length)
  (oi:∀ t ∈ p'.tb,w'.ownsRow p'.B 29 1 t.h.val t.rs.length (t.rs.flatMap Rw.cell) ∧ t.h.n = t.rs.length)
  (tr:rowsOf p'.tb = m'.tabs)
  (od:w'.ownsRow p'.B 29 1 p'.hd.val p'.dr.length (p'.dr.flatMap Rw.cell)) (dh:p'.hd.n = p'.dr.length) (dr:p'.dr.map Rw.v = m'.done)
  (rr:∀ t ∈ p'.tb,∀ r ∈ t.rs,RowIn w' (fun k => ¬ p'.own k) r) (rd:∀ r ∈ p'.dr,RowIn w' (fun k => ¬ p'.own k) r)
  (ai:∀ (i j:Nat) (hi:i < p'.tb.length) (hj:j < p'.tb.length),i ≠ j → ∀ k,p'.tb[i].h.val.ownBlock = some k → p'.tb[j].h.val.ownBlock ≠ some k)
  (ad:∀ t ∈ p'.tb,∀ k,t.h.val.ownBlock = some k → p'.hd.val.ownBlock ≠ some k) (fine:m'.Fine):MgAt w' p' m' where
 st:=st
 same:=by rw [e0,eZ];exact d.same.trans c fun k hk ho => absurd (d.own_ge ho) (Nat.not_le.2 hk)
 blk:=blk
 oo:=oo
 oh:=oh
 oi:=oi
 tr:=tr
 od:=od
 dh:=dh
 dr:=dr
 rr:=rr
 rd:=rd
 ai:=ai
 ad:=ad
 fine:=fine
 rl:=by rw [el.2.1];exact rl
 rh:=by rw [show p'.hi = p.hi from congrArg Prod.fst el.2.2];exact rh
 hw:=by rw [show p'.hi = p.hi from congrArg Prod.fst el.2.2];exact fun k hk => d.hw k (Nat.le_trans c.size hk)
end
theorem MgAt.cell {w:World} {p:MH} {m:Mg} (d:MgAt w p m) (i:Nat):w.cell? ⟨p.g,i,none⟩ = (p.cells m)[i]?:=d.blk.cell i
theorem MgAt.outer {w:World} {p:MH} {m:Mg} (d:MgAt w p m):∃ go c,p.ho = ⟨some ⟨go,0,none⟩,p.tb.length,c⟩ ∧ p.B ≤ go ∧ ∀ i (hi:i < p.tb.length),w.cell? ⟨go,i,none⟩ = some p.tb[i].h.val ∧ w.frozen? ⟨go,i,none⟩ = false:=by
 have hl:0 < p.tb.length:=by
  have:=congrArg List.length d.tr
  simp only [rowsOf,List.length_map] at this
  have h1:=d.fine.len
  have h2:=d.fine.til
  omega
 have oo:=d.oo
 have oh:=d.oh
 generalize p.ho = q at oo oh ⊢
 obtain ⟨A,n,c⟩:=q
 simp only at oh
 subst oh
 obtain ⟨go,cur,hA,hb,hk,_⟩:=own_blk oo hl
 subst hA
 refine ⟨go,c,rfl,hb,fun i hi => ⟨?_,hk.frozen i⟩⟩
 have:=own_cell Tbl.clen oo rfl i hi 0 (by decide)
 simpa [Tbl.cell] using this
theorem MgAt.tbl {w:World} {p:MH} {m:Mg} (d:MgAt w p m):p.tb.length = m.s.length ∧ ∀ i (hi:i < p.tb.length),∃ (h:i < m.tabs.length),m.tabs[i] = p.tb[i].rows:=by
 have e:=congrArg List.length d.tr
 simp only [rowsOf,List.length_map] at e
 refine ⟨by rw [e];exact d.fine.len,fun i hi => ⟨by omega,?_⟩⟩
 have h2:(rowsOf p.tb)[i]? = m.tabs[i]?:=by rw [d.tr]
 unfold rowsOf at h2
 rw [List.getElem?_map,List.getElem?_eq_getElem hi,List.getElem?_eq_getElem (by omega)] at h2
 exact (Option.some.inj h2).symm
theorem MgAt.rows {w:World} {p:MH} {m:Mg} (d:MgAt w p m):∃ (h:m.ti < p.tb.length),m.rows = p.tb[m.ti].rows:=by
 have h1:=d.fine.til
 obtain ⟨e,h2⟩:=d.tbl
 refine ⟨by omega,?_⟩
 obtain ⟨h3,h4⟩:=h2 m.ti (by omega)
 unfold Mg.rows
 rw [List.getD_eq_getElem?_getD,List.getElem?_eq_getElem h3]
 exact h4
theorem row_in_new2 {w w':World} {p p':MH} {m:Mg} (_d:MgAt w p m) (c:Chg p.own w w') (ho:∀ k,p'.own k → p.own k ∨ w.heap.size ≤ k) {r:Rw} (h:RowIn w (fun k => ¬ p.own k) r):RowIn w' (fun k => ¬ p'.own k) r:=by
 have h1:=row_in_new (p':=p') ho h
 exact ⟨h.1.chg c h.2,h1.2⟩
section
variable {w w1:World} {p:MH} {m:Mg}
theorem MgAt.outer_ne (d:MgAt w p m) {k:Nat} (hk:p.ho.val.ownBlock = some k):k ≠ p.g:=by
 rintro rfl
 obtain ⟨_,cs,h⟩:=row_ty d.oo hk
 exact Blk.ne_ h d.blk (by decide) rfl
theorem MgAt.inner_ne (d:MgAt w p m) {t:Tbl} (ht:t ∈ p.tb) {k:Nat} (hk:t.h.val.ownBlock = some k):k ≠ p.g:=by
 rintro rfl
 obtain ⟨_,cs,h⟩:=row_ty (d.oi t ht).1 hk
 exact Blk.ne_ h d.blk (by decide) rfl
theorem MgAt.done_ne (d:MgAt w p m) {k:Nat} (hk:p.hd.val.ownBlock = some k):k ≠ p.g:=by
 rintro rfl
 obtain ⟨_,cs,h⟩:=row_ty d.od hk
 exact Blk.ne_ h d.blk (by decide) rfl
theorem MgAt.outer_inner (d:MgAt w p m) {t:Tbl} (ht:t ∈ p.tb) {k:Nat} (hk:t.h.val.ownBlock = some k):p.ho.val.ownBlock ≠ some k:=by
 intro h2
 obtain ⟨_,cs,h⟩:=row_ty (d.oi t ht).1 hk
 obtain ⟨_,cs',h'⟩:=row_ty d.oo h2
 exact Blk.ne_ h h' (by decide) rfl
theorem MgAt.outer_done (d:MgAt w p m) {k:Nat} (hk:p.hd.val.ownBlock = some k):p.ho.val.ownBlock ≠ some k:=by
 intro h2
 obtain ⟨_,cs,h⟩:=row_ty d.od hk
 obtain ⟨_,cs',h'⟩:=row_ty d.oo h2
 exact Blk.ne_ h h' (by decide) rfl
theorem MgAt.flag (d:MgAt w p m) (m':Mg) (i:Nat) (v:Value) (hc:p.cells m' = (p.cells m).setIfInBounds i v) (e1:m'.s = m.s) (e2:m'.c = m.c) (e3:m'.tabs = m.tabs) (e4:m'.done = m.done) (hf:m'.Fine) :
  MgAt (w.setCell ⟨p.g,i,none⟩ v) p m' ∧ Chg p.own w (w.setCell ⟨p.g,i,none⟩ v):=by
 have c:Chg (fun k => k = p.g) w (w.setCell ⟨p.g,i,none⟩ v):=(Chg.refl _ _).setCell _ _ (fun _ => rfl)
 have c':Chg p.own w (w.setCell ⟨p.g,i,none⟩ v):=c.mono fun k _ e => .inl e
 have st:=d.st
 refine ⟨d.turned c' ⟨st.ts,by rw [e1];exact st.tsm,st.few,st.tsl,st.tn,by rw [e1,e2];exact st.tnm,st.fewn,by rw [e2];exact st.okn,by rw [e2];exact st.okd,st.laid,st.WB,st.gB,st.tsI,st.tnI⟩ rfl rfl (MH.Like.refl p) d.rl d.rh ?_ ?_ d.oh ?_ (by rw [e3];exact d.tr) ?_ d.dh (by rw [e4];exact d.dr) ?_ ?_ d.ai d.ad hf,c'⟩
 ·rw [hc];exact d.blk.set_ i v
 ·exact own_chg d.oo c fun k hk => d.outer_ne hk
 ·exact fun t ht => ⟨own_chg (d.oi t ht).1 c fun k hk => d.inner_ne ht hk,(d.oi t ht).2⟩
 ·exact own_chg d.od c fun k hk => d.done_ne hk
 ·exact fun t ht r hr => (d.rr t ht r hr).chg c' fun k hk => hk
 ·exact fun r hr => (d.rd r hr).chg c' fun k hk => hk
theorem MgAt.push (d:MgAt w p m) {h:Hd} {row:Row} {o:Obj} (hr:RowIn w (fun k => ¬ p.own k) ⟨h,row⟩) (hhi:In p.hi h) {A:Option Addr} {n c:Nat} (G:(w.alloc o).grownBy w1 p.hd.val.ownBlock)
  (o1:w1.ownsRow p.B 29 1 (.slice A n c) (p.dr.length + 1) (p.dr.flatMap Rw.cell ++ [h.val])) (hat:(Value.slice A n c).ownBlock = p.hd.val.ownBlock ∨ (Value.slice A n c).ownBlock = some (w.alloc o).heap.size)
  (hf:({ m with done:=m.done ++ [row] }:Mg).Fine) :
  MgAt (w1.setCell ⟨p.g,12,none⟩ (.slice A n c)) { p with hd:=⟨A,n,c⟩,dr:=p.dr ++ [⟨h,row⟩] } { m with done:=m.done ++ [row] } ∧
  Chg p.own w (w1.setCell ⟨p.g,12,none⟩ (.slice A n c)) ∧ ∀ k,MH.own { p with hd:=⟨A,n,c⟩,dr:=p.dr ++ [⟨h,row⟩] } k → p.own k ∨ w.heap.size ≤ k:=by
 have c1:Chg (fun k => p.hd.val.ownBlock = some k) w w1:=((Chg.refl _ w).alloc o).grown G fun k hk _ => hk
 have c2:Chg (fun k => k = p.g) w1 (w1.setCell ⟨p.g,12,none⟩ (.slice A n c)):=(Chg.refl _ _).setCell _ _ (fun _ => rfl)
 have c3:Chg (fun k => p.hd.val.ownBlock = some k ∨ k = p.g) w (w1.setCell ⟨p.g,12,none⟩ (.slice A n c)):=(c1.mono fun k _ e => .inl e).trans c2 fun i _ e => .inr e
 have c':Chg p.own w (w1.setCell ⟨p.g,12,none⟩ (.slice A n c)):=c3.mono fun k _ e => e.elim (fun e => .inr (.inr (.inr e))) .inl
 have ho:∀ k,MH.own { p with hd:=⟨A,n,c⟩,dr:=p.dr ++ [⟨h,row⟩] } k → p.own k ∨ w.heap.size ≤ k:=by
  intro k hk
  rcases hk with hk | hk | hk | hk
  ·exact .inl (.inl hk)
  ·exact .inl (.inr (.inl hk))
  ·exact .inl (.inr (.inr (.inl hk)))
  ·have hk':(Value.slice A n c).ownBlock = some k:=hk
   rcases hat with e | e
   ·exact .inl (.inr (.inr (.inr (e ▸ hk'))))
   ·right
    rw [e] at hk'
    injection hk' with hk'
    rw [← hk'];simp
 have st:=d.st
 have hn:n = p.dr.length + 1:=by
  obtain ⟨g,cap,hv,_⟩:=o1.form (Nat.succ_pos _)
  injection hv
 have gb1:Blk w1 p.g 108 (p.cells m):=d.blk.chg c1 fun e => d.done_ne e rfl
 refine ⟨d.turned c' ⟨st.ts,st.tsm,st.few,st.tsl,st.tn,st.tnm,st.fewn,st.okn,st.okd,st.laid,st.WB,st.gB,st.tsI,st.tnI⟩ rfl rfl ⟨rfl,rfl,rfl⟩ d.rl ?_ ?_ ?_ d.oh ?_ d.tr ?_ ?_ ?_ ?_ ?_ d.ai ?_ hf,c',ho⟩
 ·intro r hr'
  rcases List.mem_append.1 hr' with h1 | h1
  ·exact d.rh r h1
  ·rw [List.mem_singleton.1 h1];exact hhi
 ·exact gb1.set_ 12 (.slice A n c)
 ·exact own_chg d.oo c3 fun k hk e => e.elim (fun e => d.outer_done e hk) (d.outer_ne hk)
 ·exact fun t ht => ⟨own_chg (d.oi t ht).1 c3 fun k hk e => e.elim (fun e => d.ad t ht k hk e) (d.inner_ne ht hk),(d.oi t ht).2⟩
 ·have e1:({ p with hd:=⟨A,n,c⟩,dr:=p.dr ++ [⟨h,row⟩] }:MH).dr.flatMap Rw.cell = p.dr.flatMap Rw.cell ++ [h.val]:=by
   show (p.dr ++ [(⟨h,row⟩:Rw)]).flatMap Rw.cell = _
   rw [List.flatMap_append];rfl
  rw [e1]
  show (w1.setCell ⟨p.g,12,none⟩ (.slice A n c)).ownsRow p.B 29 1 (.slice A n c) (p.dr ++ [(⟨h,row⟩:Rw)]).length _
  rw [List.length_append]
  refine own_far o1 (fun e => ?_) 12 _
  obtain ⟨_,cs,hb⟩:=row_ty o1 e
  exact Blk.ne_ hb gb1 (by decide) rfl
 ·show n = (p.dr ++ [(⟨h,row⟩:Rw)]).length
  rw [List.length_append];exact hn
 ·show (p.dr ++ [(⟨h,row⟩:Rw)]).map Rw.v = m.done ++ [row]
  rw [List.map_append,d.dr];rfl
 ·exact fun t ht r hr' => row_in_new2 d c' ho (d.rr t ht r hr')
 ·intro r hr'
  rcases List.mem_append.1 hr' with h1 | h1
  ·exact row_in_new2 d c' ho (d.rd r h1)
  ·rw [List.mem_singleton.1 h1]
   exact row_in_new2 d c' ho hr
 ·intro t ht k hk
  show (Value.slice A n c).ownBlock ≠ some k
  rcases hat with e | e
  ·rw [e];exact d.ad t ht k hk
  ·rw [e]
   intro h2
   injection h2 with h2
   obtain ⟨_,cs,hb⟩:=row_ty (d.oi t ht).1 hk
   have:=hb.lt
   simp at h2
   omega
end
theorem MgAt.tabs {w:World} {p:MH} {m:Mg} (d:MgAt w p m):TabsAt w p.hs p.ts:=tabs_chg d.st.ts d.st.tsI d.same
theorem MgAt.tabsN {w:World} {p:MH} {m:Mg} (d:MgAt w p m):TabsAt w p.hn p.tn:=tabs_chg d.st.tn d.st.tnI d.same
end Go.Proofs.YtfifnemnihcijaaGreatDoor.R43
namespace Go.Proofs.YtfifnemnihcijaaGreatDoor
open Go.RowKit
theorem OwnT.outer_ne {w:World} {B:Nat} {ho:Hd} {tb:List Tbl} (d:OwnT w B ho tb) {t:Tbl} {b1:Nat} {n:Nat} {xs:List Value} (o:w.ownsRow b1 29 1 t.h.val n xs) {k:Nat} (h1:ho.val.ownBlock = some k) (h2:t.h.val.ownBlock = some k):False:=by
 obtain ⟨_,cs,hb⟩:=row_ty d.oo h1
 obtain ⟨_,cs',hb'⟩:=row_ty o h2
 exact Blk.ne_ hb hb' (by decide) rfl
theorem OwnT.push {w1 w2:World} {B:Nat} {ho:Hd} {tb:List Tbl} (d:OwnT w1 B ho tb) (t:Tbl) {b1:Nat}
  (o:w1.ownsRow b1 29 1 t.h.val t.rs.length (t.rs.flatMap Rw.cell)) (hn:t.h.n = t.rs.length) (hb1:B ≤ b1)
  (hnew:∀ t' ∈ tb,∀ k,t'.h.val.ownBlock = some k → k < b1)
  {ob:Obj} (G:(w1.alloc ob).grownBy w2 ho.val.ownBlock) {A:Option Addr} {n c:Nat} (o2:w2.ownsRow B 99 1 (.slice A n c) (tb.length + 1) (tb.flatMap Tbl.cell ++ [t.h.val])) :
  OwnT w2 B ⟨A,n,c⟩ (tb ++ [t]):=by
 have c1:Chg (fun k => ho.val.ownBlock = some k) w1 w2:=((Chg.refl _ w1).alloc ob).grown G fun k hk _ => hk
 have hge:∀ k,t.h.val.ownBlock = some k → b1 ≤ k:=fun k hk => (row_ty o hk).1
 refine ⟨?_,?_,?_,?_⟩
 ·have e1:(tb ++ [t]).flatMap Tbl.cell = tb.flatMap Tbl.cell ++ [t.h.val]:=by rw [List.flatMap_append];rfl
  rw [e1,List.length_append]
  exact o2
 ·obtain ⟨g,cap,hv,_⟩:=o2.form (Nat.succ_pos _)
  injection hv with _ h2 _
  show n = _
  rw [List.length_append];exact h2
 ·intro x hx
  rcases List.mem_append.1 hx with h | h
  ·exact ⟨own_chg (d.oi x h).1 c1 fun k hk e => d.outer_ne (d.oi x h).1 e hk,(d.oi x h).2⟩
  ·rw [List.mem_singleton.1 h]
   exact ⟨own_base (own_chg o c1 fun k hk e => d.outer_ne o e hk) hb1,hn⟩
 ·intro i j hi hj hij k h1 h2
  have hl:(tb ++ [t]).length = tb.length + 1:=by simp
  by_cases ei:i < tb.length
  ·rw [List.getElem_append_left ei] at h1
   by_cases ej:j < tb.length
   ·rw [List.getElem_append_left ej] at h2
    exact d.ai i j ei ej hij k h1 h2
   ·have e:j = tb.length:=by omega
    subst e
    rw [List.getElem_append_right (Nat.le_refl _)] at h2
    simp only [Nat.sub_self,List.getElem_cons_zero] at h2
    have:=hge k h2
    have:=hnew _ (List.getElem_mem ei) k h1
    omega
  ·have e:i = tb.length:=by omega
   subst e
   rw [List.getElem_append_right (Nat.le_refl _)] at h1
   simp only [Nat.sub_self,List.getElem_cons_zero] at h1
   have ej:j < tb.length:=by omega
   rw [List.getElem_append_left ej] at h2
   have:=hge k h1
   have:=hnew _ (List.getElem_mem ej) k h2
   omega
def CopyAt (w wr:World) (h:Hd) (tbs:List Tbl) (k:Nat):Prop:=∃ tb:List Tbl,tb.length = k ∧ OwnT wr w.heap.size h tb ∧ Same w wr ∧ ∀ (j:Nat) (h1:j < tb.length) (h2:j < tbs.length),tb[j].rs = tbs[j].rs
theorem copy_start (w:World) (tbs:List Tbl):CopyAt w w ⟨none,0,0⟩ tbs 0:=
 ⟨[],rfl,⟨World.ownsRow_nil _ _ _ _,rfl,(fun t ht => by cases ht),(fun i j hi => by cases hi)⟩,Same.refl w,(fun j h1 => by cases h1)⟩
theorem copy_push {w wr w1 w2:World} {Ao:Option Addr} {co k:Nat} {tbs tb:List Tbl} (hk:k < tbs.length) (hl:tb.length = k) (O:OwnT wr w.heap.size ⟨Ao,k,co⟩ tb) (S:Same w wr) (R:∀ (j:Nat) (h1:j < tb.length) (h2:j < tbs.length),tb[j].rs = tbs[j].rs) (s1:Same wr w1) {A1:Option Addr} {c1 n1:Nat} (hn:n1 = tbs[k].rs.length) (o1:w1.ownsRow wr.heap.size 29 1 (.slice A1 n1 c1) tbs[k].rs.length (tbs[k].rs.flatMap Rw.cell))
  {ob:Obj} (G:(w1.alloc ob).grownBy w2 (Value.slice Ao k co).ownBlock) {A3:Option Addr} {n c3:Nat} (o2:w2.ownsRow w.heap.size 99 1 (.slice A3 n c3) (k + 1) (tb.flatMap Tbl.cell ++ [.slice A1 n1 c1])):CopyAt w w2 ⟨A3,k + 1,c3⟩ tbs (k + 1):=by
 have O1:=O.same s1
 have hn2:n = k + 1:=by
  obtain ⟨g,cap,hv,_⟩:=o2.form (Nat.succ_pos _)
  injection hv
 subst hn2
 have P:=O1.push ⟨⟨A1,n1,c1⟩,tbs[k].rs⟩ o1 hn S.size (fun t' ht' q hq => (O.ge ht' hq).2) (ob:=ob) (w2:=w2) G (A:=A3) (n:=k + 1) (c:=c3) (by rw [hl];exact o2)
 refine ⟨_,by rw [List.length_append,hl];rfl,P,?_,?_⟩
 ·refine (S.trans s1).chg (((Chg.refl _ w1).alloc ob).grown G fun k hk _ => hk) fun q hq => ?_
  exact (row_ty O.oo hq).1
 ·intro j h1 h2
  by_cases hj:j < tb.length
  ·rw [List.getElem_append_left hj];exact R j hj h2
  ·have ej:j = k:=by rw [List.length_append] at h1;simp at h1;omega
   subst ej
   rw [List.getElem_append_right (by omega)]
   simp [hl]
theorem rows_of_rs {tb tbs:List Tbl} (hl:tb.length = tbs.length) (h:∀ (j:Nat) (h1:j < tb.length) (h2:j < tbs.length),tb[j].rs = tbs[j].rs):tb.map Tbl.rs = tbs.map Tbl.rs:=by
 apply List.ext_getElem (by simp [hl])
 intro j h1 h2
 simp only [List.length_map] at h1 h2
 rw [List.getElem_map,List.getElem_map]
 exact h j h1 h2
theorem copied_ok {K:Nat → Prop} (h:Hd) (tbs:List Tbl) (w:World) (l:TablesAt w K h tbs) (hn:tbs.length ≤ 1000000) (hr:∀ t ∈ tbs,t.rs.length ≤ 1000000) :
  Calls Tryz.prog 62 #[h.val] w fun e w' => ∃ (ho:Hd) (tb:List Tbl),e = .returned ho.val ∧ OwnT w' w.heap.size ho tb ∧ Same w w' ∧ tb.map Tbl.rs = tbs.map Tbl.rs:=by
 obtain ⟨i0,hi0,hiz0,hiz1,hiz2⟩:=info_parts Tryz.infoVals
 obtain ⟨j0,hj0,hjz0,hjz1,hjz2⟩:=info_parts Tryz.infoRows
 have HT:=Lib.hid l
 have HFW:Hid (∀ t ∈ tbs,t.h.n ≤ 1000000):=Lib.hid fun t ht' => by
  have e1:=(l.2.2 t ht').1.1
  have:=hr t ht'
  omega
 have htl:tbs.length = h.n:=l.1.1
 obtain ⟨At_,tm,tc⟩:=h
 have htl':tbs.length = tm:=htl
 subst htl'
 clear htl l hr
 have f6:tbs.length ≤ 9223372036854775807:=by omega
 show Calls Tryz.prog 62 #[.slice At_ tbs.length tc] w _
 obtain ⟨POST,hPOST⟩:∃ POST:Ending → World → Prop,POST = fun e w' => ∃ (ho:Hd) (tb:List Tbl),e = .returned ho.val ∧ OwnT w' w.heap.size ho tb ∧ Same w w' ∧ tb.map Tbl.rs = tbs.map Tbl.rs:=⟨_,rfl⟩
 rw [← hPOST]
 have HP:=Lib.hid hPOST
 clear hPOST
 go_enter Tryz.func62,Tryz.ntmps62
 go_wp2_with fail
 go_loopw [3,4] (fun ov iv wr => ∃ (k:Nat) (Ah:Option Addr) (ch:Nat),k ≤ tbs.length ∧ ov = .slice Ah k ch ∧ iv = .int .i64 k ∧ Hid (CopyAt w wr ⟨Ah,k,ch⟩ tbs k)) (fun _ iv _ => tbs.length - (intOf iv).toNat)
 case atStart => exact ⟨0,none,0,Nat.zero_le _,rfl,rfl,copy_start w tbs⟩
 case round =>
  obtain ⟨k,Ah,ch,hk,rfl,rfl,C⟩:=hrel
  by_cases hlt:k < tbs.length
  ·obtain ⟨tb,hl,O,S,R⟩:=C.out
   have SU:Hid (Same w wr):=S
   obtain ⟨b,off,hA,blt,c0⟩:=HT.out.1.one k hlt (v:=tbs[k].h.val) rfl
   have hA':At_ = some ⟨b,off,none⟩:=hA
   have HRD:Hid (Reads wr wr.heap.size 1 tbs[k].h.a tbs[k].h.n (tbs[k].rs.flatMap Rw.cell)):=lies_reads Rw.clen ((HT.out.2.2 _ (List.getElem_mem hlt)).1.same SU.out)
   have hx20:tbs[k].h.n ≤ 1000000:=HFW.out _ (List.getElem_mem hlt)
   have hxl:tbs[k].h.n = tbs[k].rs.length:=(HT.out.2.2 _ (List.getElem_mem hlt)).1.1.symm
   have HX1:Hid (∀ u ∈ tbs[k].rs.flatMap Rw.cell,u.oneCell' = true):=Lib.hid fun u hu => by
    obtain ⟨r,_,hr⟩:=List.mem_flatMap.1 hu
    simp [Rw.cell] at hr
    rw [hr];rfl
   have HO2:Hid (∀ w1 ob,Same wr w1 → (w1.alloc ob).ownsRow w.heap.size 99 1 (.slice Ah k ch) k (tb.flatMap Tbl.cell)):=Lib.hid fun w1 ob s => (own_same s (by have:=O.oo;rw [hl] at this;exact this)).alloc ob
   have HF:=Lib.hid (fun (w1 w2:World) (A1:Option Addr) (c1 n1:Nat) (A3:Option Addr) (n c3:Nat) (ob:Obj) (s1:Same wr w1) (hn:n1 = tbs[k].rs.length) (o1:w1.ownsRow wr.heap.size 29 1 (.slice A1 n1 c1) tbs[k].rs.length (tbs[k].rs.flatMap Rw.cell)) (G:(w1.alloc ob).grownBy w2 (Value.slice Ah k ch).ownBlock) (o2:w2.ownsRow w.heap.size 99 1 (.slice A3 n c3) (k + 1) (tb.flatMap Tbl.cell ++ [.slice A1 n1 c1])) => copy_push hlt hl O S R s1 hn o1 G o2)
   rw [← hxl] at HF
   have HWB:Hid (w.heap.size ≤ wr.heap.size):=S.size
   obtain ⟨XS,hXS⟩:∃ XS,XS = tb.flatMap Tbl.cell:=⟨_,rfl⟩
   obtain ⟨XR,hXR⟩:∃ XR,XR = tbs[k].rs.flatMap Rw.cell:=⟨_,rfl⟩
   rw [← hXS] at HO2 HF
   rw [← hXR] at HRD HX1 HF
   obtain ⟨hh,hhh⟩:∃ hh,hh = tbs[k].h:=⟨_,rfl⟩
   rw [← hhh] at c0 HRD hx20 HF
   clear hhh hXS hXR hA hxl O S R hl C
   obtain ⟨A2,n2,c2⟩:=hh
   have x0:=(SU.out.cells _ _ blt).trans c0
   have x0':∀ o,(wr.alloc o).cell? ⟨b,off + k,none⟩ = some (.slice A2 n2 c2):=fun o => (World.cell?_alloc_lt wr o _ (Nat.lt_of_lt_of_le blt SU.out.size)).trans x0
   have hx20':n2 ≤ 1000000:=hx20
   have HRD':Hid (Reads wr wr.heap.size 1 A2 n2 XR):=HRD
   clear c0 hx20 HRD
   subst hA'
   go_wp2_with (at_builtin;first
    | (refine wpList_append_any _ rfl (.tmp 12) (.tmp 16) 99 rfl wr.heap.size 29 i0 _ 1 24 Tryz.underlying99 hi0 hiz0 hiz1 hiz2 rfl (by decide) (.slice (some ⟨wr.heap.size,0,none⟩) 0 0) 0 [] rfl (ownsRow_new wr _ _) wr.heap.size A2 n2 c2 XR rfl (HRD'.out.alloc (Nat.le_refl _) _) HX1.out (by simp only [maxLen];omega) (by omega) (by simp) ?_;intro v1 w1 hown1 hg1 hat1;rw [Nat.zero_add,List.nil_append] at hown1;obtain ⟨A1,c1,hv⟩:=own_val hown1;subst hv;have OWN1:=Lib.hid hown1;have S1:Hid (Same wr w1):=Below.grown ((Same.refl wr).alloc _) hg1 (by simp) (fun k hk => by simp [Value.ownBlock] at hk;omega);clear hown1 hg1 hat1)
    | (refine wpList_append_any _ rfl (.tmp 11) (.tmp 18) 48 rfl w.heap.size 99 j0 _ 1 24 Tryz.underlying48 hj0 hjz0 hjz1 hjz2 rfl (by decide) (.slice Ah k ch) k XS rfl (HO2.out w1 _ S1.out) (w1.heap.size + 1) (some ⟨w1.heap.size,0,none⟩) 1 1 [.slice A1 n2 c1] rfl (reads_new w1 _ _) (by intro u hu;simp at hu;rw [hu];rfl) (by simp only [maxLen];omega) (by omega) (Nat.le_trans HWB.out (Nat.le_trans S1.out.size (by simp))) ?_;intro v2 w2 hown2 hg2 hat2;obtain ⟨A3,c3,hv⟩:=own_val hown2;subst hv;have HFF:=Lib.hid (HF.out w1 w2 A1 c1 n2 A3 (k + 1) c3 _ S1.out rfl OWN1.out hg2 hown2);clear hown2 hg2 hat2))
   go_roundw
   case rel => exact ⟨k + 1,A3,c3,by omega,rfl,by go_num,HFF⟩
   case measure => simp [intOf];omega
  ·have ek:k = tbs.length:=by omega
   subst ek
   go_wp2_with fail
   show POST (Ending.returned (.slice Ah tbs.length ch)) wr
   rw [HP.out]
   obtain ⟨tb,hl,O,S,R⟩:=C.out
   exact ⟨⟨Ah,tbs.length,ch⟩,tb,rfl,O,S,rows_of_rs hl R⟩
end Go.Proofs.YtfifnemnihcijaaGreatDoor
namespace Go.Proofs.YtfifnemnihcijaaGreatDoor.R43
open Go.RowKit
theorem left_raw (g go k:Nat) (n c a ca b cb:Nat) (A B:Option Addr) (w:World) (hk:k < n) (hn:n ≤ 9223372036854775807) (hab:b ≤ a) (ha:a ≤ 9223372036854775807)
  (h2:w.cell? ⟨g,10,none⟩ = some (.int .i64 k)) (h3:w.cell? ⟨g,11,none⟩ = some (.slice (some ⟨go,0,none⟩) n c)) (h4:w.cell? ⟨g,12,none⟩ = some (.slice B b cb)) (hk':w.cell? ⟨go,k,none⟩ = some (.slice A a ca)) :
  Calls Tryz.prog 65 #[.pointer (some ⟨g,0,none⟩)] w fun e w' => e = .returned (.int .i64 ((a - b:Nat):Int)) ∧ Same w w':=by
 have k2:=cellr h2
 have k3:=cellr h3
 have k4:=cellr h4
 have kk:=cellr hk'
 have hk0:(0:Int) ≤ (k:Int):=by omega
 have hkn:(k:Int) < (n:Int):=by omega
 have hsub:IntKind.i64.wrap ((a:Int) - (b:Int)) = (a:Int) - (b:Int):=IntWalk.i64_in _ ⟨by omega,by omega⟩
 have HE:Hid ((a:Int) - (b:Int) = ((a - b:Nat):Int)):=Lib.hid (by omega)
 clear h2 h3 h4 hk' hab
 go_enter Tryz.func65,Tryz.ntmps65
 go_wp2_with fail
 refine wp_region_quiet_below (by kernel_rfl) (by kernel_rfl) ?_
 repeat (go_big_quiet_step (fail))
 refine wpQuiet_nil ?_
 intro _ hw'
 obtain ⟨⟨dq,osq⟩,hw''⟩:=hw'
 subst hw''
 have S1:=Lib.hid (Same.reg w dq osq)
 generalize Sort.grow (redrawn w dq) osq = w1 at S1 ⊢
 go_wp2_with fail
 go_ret
 exact ⟨ret_int HE.out,S1.out⟩
theorem left_ok {w:World} {p:MH} {m:Mg} (d:MgAt w p m):Calls Tryz.prog 65 #[.pointer (some ⟨p.g,0,none⟩)] w fun e w' => e = .returned (.int .i64 (m.left:Int)) ∧ Same w w':=by
 obtain ⟨go,c,ho,hB,hc⟩:=d.outer
 obtain ⟨hti,hr⟩:=d.rows
 have hd:=d.dr
 have hrl:m.rows.length = p.tb[m.ti].rs.length:=by rw [hr];simp [Tbl.rows]
 have hdl:m.done.length = p.dr.length:=by rw [← hd];simp
 obtain ⟨oi,oin⟩:=d.oi _ (List.getElem_mem hti)
 have hdd:=d.fine.dl
 have e:m.left = p.tb[m.ti].h.n - p.hd.n:=by unfold Mg.left;rw [hrl,hdl,oin,d.dh]
 rw [e]
 refine left_raw p.g go m.ti p.tb.length c _ _ _ _ _ _ w hti (own_max d.oo) (by rw [oin,d.dh];omega) (by rw [oin];exact own_max oi) (d.cell 10) ?_ (d.cell 12) (hc m.ti hti).1
 have:=d.cell 11
 rw [this]
 show some p.ho.val = _
 rw [ho];rfl
end Go.Proofs.YtfifnemnihcijaaGreatDoor.R43

import Derived.Test.YteamkimbmdgdbaaGreatDoorK22
set_option linter.unusedSimpArgs false
set_option linter.unusedVariables false
set_option maxHeartbeats 16000000
set_option maxRecDepth 100000
namespace Go.Proofs.YteamkimbmdgdbaaGreatDoor
open Go.RowKit
def qc (d:ay) (a e f:Int) (g:Ending):Prop:=∃b c:Int,g=.returned (.tuple #[d,b,c,a])/\(a=0->b=e/\c=f)
structure oQ (b:Nat) (sl:ay) (cs es:bg) (W:af):Prop where
 s:ac W (ab b 0) sl
 c:∀j v,cs[j]?=some v->ac W (ab (b+1) j) v
 e:∀j v,es[j]?=some v->ac W (ab (b+1+1) j) v
 f:∀j,W.frozen? (ab (b+1+1) j)=false
 z:b+3<=W.heap.size
 k:J W (b+1+1) 143 es.toArray
theorem oQ.same {a:Nat} {b:ay} {cs d:bg} {W g:af} (h:oQ a b cs d W) (t:ag W g):oQ a b cs d g:=
 have g:=h.z
 ⟨(t.cells _ _ ae).trans h.s,λa b d=>(t.cells _ _ ae).trans (h.c a b d),λa b d=>(t.cells _ _ ae).trans (h.e a b d),λa=>(t.frees _ _ ae).trans (h.f a),bR g t.size,(t.block _ ae).trans h.k⟩
theorem qd (b:af) (a:Nat) (d e f g:ay) (c:Addr) (h:c.block≠a):
 ((((b.setCell (ab a 0) d).setCell (ab a 1) e).setCell (ab a 2) f).setCell (ab a 3) g).cell? c=b.cell? c:=by
 have a:=λb d e=>World.cell?_of_block (Below.heap_setCell b ⟨a,d,none⟩ e c.block h);rw[a,a,a,a]
theorem hH {f:af} {a:Nat} {g:bb} {i j k l:ay} (b c d e:ay) (h:J f a g #[i,j,k,l]):
 J ((((f.setCell (ab a 0) b).setCell (ab a 1) c).setCell (ab a 2) d).setCell (ab a 3) e) a g #[b,c,d,e]:=
 (((h.aP 0 b).aP 1 c).aP 2 d).aP 3 e
theorem qe (nb M:Bool) (l n o:Nat) (h:Hd) (b:List RT) (c:Cg) (aU:RT->Int->Int) (a:af) (N:bI a h b) (a8:dh b)
 (a9:Rs 101 #[c.val] (.tuple #[.agg #[nb,bt l,bt n,bt o],M]))
 (ba:∀ba a,(callFunc l ba).run Tryz.prog a=.ok (.enter l ba) a)
 (P:∀(d:Nat) (aJ:d<b.length) (ad:Int) i,ag a i->(nb=true->0<=ad/\ad<b[d].ra.length)->Calls Tryz.prog l #[b[d].val,c.val,ad] i λH w'=>H=.returned (O (aU b[d] ad))/\ag i w')
 (K:Int) (bb:M=false->K=1) (bf:eK (b.map RT.tb)=false->K=1) (bg:M=true->eK (b.map RT.tb)=true->cS (b.map RT.tb) c.table<0->K=11)
 (bi:M=true->eK (b.map RT.tb)=true->∀(d:Nat) (aJ:d<b.length),cS (b.map RT.tb) c.table=d->nb=true->bH b[d].tb.attrs c.attr<0->K=11)
 (bk:M=true->eK (b.map RT.tb)=true->∀(d:Nat) (aJ:d<b.length),cS (b.map RT.tb) c.table=d->(nb=true->¬bH b[d].tb.attrs c.attr<0)->K=aU b[d] (bH b[d].tb.attrs c.attr)):
 Calls Tryz.prog 51 #[.agg #[h.val],c.val] a λH w'=>
  qc (.agg #[nb,bt l,bt n,bt o]) K (cS (b.map RT.tb) c.table) (match b[(cS (b.map RT.tb) c.table).toNat]? with|some Q=>bH Q.tb.attrs c.attr|none=>0) H/\ag a w':=by
 have aV:=Z (λi (e:ag a i)=>vL h b i (N.same e) a8);have aK:=Z (λi (e:ag a i)=>q0 h b c.table i (N.same e));have aW:=Z (λi (e:ag a i) (d:Nat) (aJ:d<b.length)=>pq b[d] c.attr i ((N.2 _ (List.getElem_mem aJ)).same e));have bl:=Z (λ(i:af) (e:ag a i)=>(N.same e).1);have bm:=Z a9;have bn:=Z P;have bo:=Z bb;have aX:=Z bf;have ap:=Z bg;have ar:=Z bi;have au:=Z bk;have bp:=N.1.1;have bS:=N.1.2.1;have aZ:cS (b.map RT.tb) c.table<b.length:=by have:=(lr (λQ:Tb=>decide (Q.name=c.table)) (b.map RT.tb)).2;rw[List.length_map]at this;exact this
 have a0:-1<=cS (b.map RT.tb) c.table:=(lr (λQ:Tb=>decide (Q.name=c.table)) (b.map RT.tb)).1;clear N a8 a9 P bb bf bg bi bk;obtain⟨d,x,q,A,B,⟨C,D,E⟩⟩:=c;simp only at aK aW ap ar au aZ a0⊢;obtain⟨I,ca,y⟩:=h;simp only at bp bS;subst bp;generalize bT:cS (b.map RT.tb) x=ah at aK ap ar au aZ a0⊢;generalize eK (b.map RT.tb)=bq at aV aX ap ar au;clear bT;generalize br:qc (.agg #[nb,bt l,bt n,bt o]) K ah (match b[ah.toNat]? with|some Q=>bH Q.tb.attrs q|none=>0)=bs;have HO:=Z br;clear br;have bu:Hid (Rt 22 #[.agg #[U I b.length y]] a (.bool bq)):=aV;have bv:Hid (Rt 41 #[.agg #[U I b.length y],x] a ah):=aK;have bw:Hid (Rs 101 #[.agg #[d,x,q,A,B,C,D,E]] (.tuple #[.agg #[nb,.func (.func l) #[] #[],.func (.func n) #[] #[],.func (.func o) #[] #[]],M])):=bm;clear aV aK bm;show Calls Tryz.prog 51 #[.agg #[U I b.length y],.agg #[d,x,q,A,B,C,D,E]] a _;go_enter Tryz.func51,Tryz.ntmps51
 go_wp2_with fail
 refine(bw _).mono ?_;rintro H w1 ⟨rfl,L⟩;have bU:=L.cells;have bV:=L.frees;have Z1:a.heap.size+3<=w1.heap.size:=by have:=L.size;simp at this;omega
 go_upto_region 2 with(fail)
 obtain⟨wq,hwq⟩:=aq ((((w1.setCell (ab (a.heap.size+1+1) 0) (.bool nb)).setCell (ab (a.heap.size+1+1) 1) (.func (.func l) #[] #[])).setCell (ab (a.heap.size+1+1) 2) (.func (.func n) #[] #[])).setCell (ab (a.heap.size+1+1) 3) (.func (.func o) #[] #[]));rw[<-hwq];have N:ag a wq:=by
  rw[hwq];repeat (with_reducible refine ag.setCell ?_ aD _)
  exact((((ag.refl a).alloc _).alloc _).alloc _).trans L
 have aL:Hid (oQ a.heap.size (U I b.length y) [.int .i64 d,.string x,.string q,.string A,.int .i64 B,.int .i64 C,.int .i64 D,.string E] [.bool nb,.func (.func l) #[] #[],.func (.func n) #[] #[],.func (.func o) #[] #[]] wq):=by
  have g:(a.alloc (.cells #[U I b.length y] 29)).heap.size=a.heap.size+1:=ai
  have m:((a.alloc (.cells #[U I b.length y] 29)).alloc (.cells #[d,x,q,A,B,C,D,E] 99)).heap.size=a.heap.size+1+1:=ai
  have p:=((J.new a 29 #[U I b.length y]).alloc (.cells #[d,x,q,A,B,C,D,E] 99)).alloc (.cells #[.bool false,.nilFunc,.nilFunc,.nilFunc] 143);have e:=(J.new (a.alloc (.cells #[U I b.length y] 29)) 99 #[d,x,q,A,B,C,D,E]).alloc (.cells #[.bool false,.nilFunc,.nilFunc,.nilFunc] 143);have f:=J.new ((a.alloc (.cells #[U I b.length y] 29)).alloc (.cells #[d,x,q,A,B,C,D,E] 99)) 143 #[.bool false,.nilFunc,.nilFunc,.nilFunc];rw[g]at e;rw[m]at f;have bb1:J w1 a.heap.size 29 #[U I b.length y]:=(L.block _ aC).trans p;have bb2:J w1 (a.heap.size+1) 99 #[d,x,q,A,B,C,D,E]:=(L.block _ ai).trans e;have e:J w1 (a.heap.size+1+1) 143 #[.bool false,.nilFunc,.nilFunc,.nilFunc]:=(L.block _ ai).trans f;have hb2:=hH (.bool nb) (.func (.func l) #[] #[]) (.func (.func n) #[] #[]) (.func (.func o) #[] #[]) e;exact pP
 have aM:=Z N;clear hwq N bU bV Z1 L;cases M
 case false=>
  have iL:=Z (bo rfl);obtain⟨-,-,e,p,r,-⟩:=aL.out;have e0:=e 0 _ rfl;have f:=e 1 _ rfl;have g:=e 2 _ rfl;have m:=e 3 _ rfl;clear e;go_wp2_with fail
  refine bodyPost_ret (v:=.tuple #[.agg #[nb,.func (.func l) #[] #[],.func (.func n) #[] #[],.func (.func o) #[] #[]],O 0,O 0,O 1]) ?_ rfl ⟨?_,?_⟩
  ·simp[results,Tryz.results51,go_sem,e0,f,g,m]
  ·exact ux
  repeat with_reducible first|refine ag.setCell ?_ aD _|refine ag.drew ?_
  exact aM
 have bx:=Z (ap rfl);have bz:=Z (ar rfl);have bA:=Z (au rfl);clear bo ap ar au;obtain⟨F,-,-,m,u,-⟩:=aL.out;go_wp2_with fail
 refine(bu _ aM).mono ?_;rintro H I ⟨rfl,a1⟩;have aN:=Z (aM.trans a1);have aO:=Z (aL.same a1);clear a1 aL aM F m u;cases bq
 case false=>
  have iL:=Z (aX rfl);obtain⟨-,-,e,m,u,-⟩:=aO.out;have e0:=e 0 _ rfl;have f:=e 1 _ rfl;have g:=e 2 _ rfl;have p:=e 3 _ rfl;clear e;go_wp2_with fail
  refine bodyPost_ret (v:=.tuple #[.agg #[nb,.func (.func l) #[] #[],.func (.func n) #[] #[],.func (.func o) #[] #[]],O 0,O 0,O 1]) ?_ rfl ⟨?_,?_⟩
  ·simp[results,Tryz.results51,go_sem,e0,f,g,p]
  ·exact ux
  repeat with_reducible first|refine ag.setCell ?_ aD _|refine ag.drew ?_
  exact aN
 have bB:=Z (bx rfl);have bC:=Z (bz rfl);have bD:=Z (bA rfl);clear aX bx bz bA;obtain⟨F,f,e,m,u,-⟩:=aO.out;have bW:=f 1 _ rfl;clear e f;go_wp2_with fail
 refine(bv _ aN).mono ?_;rintro H w ⟨rfl,a2⟩;have av:=Z (aN.trans a2);have a3:=Z (aO.same a2);clear a2 aO aN bW F m u;by_cases bE:ah<0
 ·obtain⟨-,-,e,m,u,-⟩:=a3.out
  have e0:=e 0 _ rfl;have g:=e 1 _ rfl;have p:=e 2 _ rfl;have r:=e 3 _ rfl;have iL:=Z (bB bE);clear e;go_wp2_with fail
  refine bodyPost_ret (v:=.tuple #[.agg #[nb,.func (.func l) #[] #[],.func (.func n) #[] #[],.func (.func o) #[] #[]],O 0,O 0,O 11]) ?_ rfl ⟨?_,?_⟩
  ·simp[results,Tryz.results51,go_sem,e0,g,p,r]
  ·exact ux
  repeat with_reducible first|refine ag.setCell ?_ aD _|refine ag.drew ?_
  exact av
 obtain⟨g,rfl⟩:∃g:Nat,ah=g:=⟨ah.toNat,by omega⟩;have aj:g<b.length:=by omega
 obtain⟨r,t,bX,I,L⟩:=(bl a (ag.refl _)).2.2 g aj;have aw:=λj v hv=>(av.cells r (t+g*3+j) I).trans (L j v hv);have bF:=aT I av.size;have bG:=Z I;clear L I;subst bX;obtain⟨F,f,e,m,u,-⟩:=a3.out;have bJ:=f 2 _ rfl;have aP:=λi ax=>aW i ax g aj;have P:=λad i ax=>bn g aj ad i ax;have aQ:=bC g aj rfl;have ay:=bD g aj rfl;have aA:Hid (bs=qc (.agg #[nb,bt l,bt n,bt o]) K g (bH b[g].tb.attrs q)):=by
  show bs=_;rw[<-HO.out];simp[aj]
 obtain⟨tq,I⟩:=aq (b[g]);simp only[<-I]at aw aP P aQ ay aA;clear I;generalize bK:bH tq.tb.attrs q=p at aP aQ ay aA;have bL:p<tq.ra.length:=by rw[<-bK];have:=(nj tq.tb.attrs q).2;rw[show tq.tb.attrs.length=tq.ra.length by simp[RT.tb]]at this;exact this
 clear bK;have bY:=Z bL;generalize bZ:aU tq=a4 at P ay;have b0:tq.ra.length=tq.ra.length:=rfl;obtain⟨R,⟨S,T,V⟩,a5,⟨W,X,Y⟩,cb⟩:=tq;simp only at bL;have al:=aw 0 R rfl;have aB:=aw 1 (U S T V) rfl;have aE:=aw 2 (U W X Y) rfl;simp only[Nat.add_zero]at al;have bN:Hid (Rt 55 #[.agg #[R,U S T V,U W X Y],q] a p):=aP;have bO:Hid (∀i,ag a i->(nb=true->0<=p/\p<a5.length)->Calls Tryz.prog l #[.agg #[R,U S T V,U W X Y],.agg #[d,x,q,A,B,C,D,E],p] i λH w'=>H=.returned (O (a4 p))/\ag i w'):=P p;have b1:=Z aQ;have bP:=Z ay;clear aw aP P aQ ay bZ bB bC bD aW bl bn bu bv bw HO aZ a0 bE b0 e f;have a6:Hid (ac w (ab r (t+g*3)) R/\ac w (ab r (t+g*3+1)) (U S T V)/\ac w (ab r (t+g*3+2)) (U W X Y)):=⟨al,aB,aE⟩;have aR:=Z bF;have b2:=bM F;have b3:=bM al;have b4:=bM aB;have b5:=bM aE;have b6:=bM bJ;have bQ:=gX (λi ax=>bN i (av.trans ax));clear F al aB aE bJ m u bF;go_wp2_with fail
 refine wp_region_quiet_below ak ak ?_;repeat (go_big_quiet_step (first|(go_at_call 55;exact bQ _ _)))
 refine wpQuiet_nil ?_;intro _ b7;obtain⟨⟨G,osq⟩,b8⟩:=b7;subst b8;have an:=Z (av.trans (ag.reg w G osq));have ao:=Z (a3.same (ag.reg w G osq));have a7:Hid (r<(Sort.grow (redrawn w G) osq).heap.size):=aT aR (ag.reg w G osq).size;have aa:Hid ((Sort.grow (redrawn w G) osq).cell? (ab r (t+g*3))=some (.string R)/\(Sort.grow (redrawn w G) osq).cell? (ab r (t+g*3+1))=some (.slice S T V)/\(Sort.grow (redrawn w G) osq).cell? (ab r (t+g*3+2))=some (.slice W X Y)):=
  ⟨((ag.reg w G osq).cells _ _ aR.out).trans a6.out.1,((ag.reg w G osq).cells _ _ aR.out).trans a6.out.2.1,((ag.reg w G osq).cells _ _ aR.out).trans a6.out.2.2⟩
 generalize Sort.grow (redrawn w G) osq=s at an ao aa a7⊢;clear b2 b3 b4 b5 b6 bQ bN;obtain⟨F,f,e,m,u,-⟩:=ao.out;have e0:=e 0 _ rfl;have aF:=e 1 _ rfl;have aG:=e 2 _ rfl;have aH:=e 3 _ rfl;cases nb
 case true=>
  by_cases w:p<0
  ·have iL:=Z (b1.out rfl w)
   clear f e;go_wp2_with fail
   refine bodyPost_ret (v:=.tuple #[.agg #[.bool true,.func (.func l) #[] #[],.func (.func n) #[] #[],.func (.func o) #[] #[]],O 0,O 0,O 11]) ?_ rfl ⟨?_,?_⟩
   ·simp[results,Tryz.results51,go_sem,e0,aF,aG,aH]
   ·rw[aA.out]
    exact⟨0,0,by rw[iL.out];rfl,λh=>by rw[iL.out]at h;cases h⟩
   repeat with_reducible first|refine ag.setCell ?_ aD _|refine ag.drew ?_
   exact an
  have b9:Hid (true=true->0<=p/\p<a5.length):=λ_=>⟨by omega,bY.out⟩;have iL:=Z (bP (λ_=>by omega));clear f e m u F aF aG aH;go_upto_region 10 with(fail)
  clear e0;obtain⟨F,f,e,m,u,-⟩:=ao.out;have e0:=e 0 _ rfl;have aF:=e 1 _ rfl;have aG:=e 2 _ rfl;have aH:=e 3 _ rfl;have w:=f 0 _ rfl;have w:=f 1 _ rfl;have w:=f 2 _ rfl;have w:=f 3 _ rfl;have w:=f 4 _ rfl;have w:=f 5 _ rfl;have w:=f 6 _ rfl;have w:=f 7 _ rfl;have al:=aa.1;have aB:=aa.2.1;have aE:=aa.2.2;clear f e;have w:=m 0;have w:=m 1;have w:=m 2;have w:=m 3;have w:a.heap.size<s.heap.size:=ae
  have w:a.heap.size+1<s.heap.size:=ae
  have w:a.heap.size+1+1<s.heap.size:=ae
  have w:=a7.out;clear m u;go_region_held3 (λw'=>ac w' (am a 0) (U (some ⟨r,t,none⟩) b.length y)/\ac w' (ab r (t+g*3)) R/\ac w' (ab r (t+g*3+1)) (U S T V)/\ac w' (ab r (t+g*3+2)) (U W X Y)/\ac w' (ab (a.heap.size+1) 0) d/\ac w' (ab (a.heap.size+1) 1) x/\ac w' (ab (a.heap.size+1) 2) q/\ac w' (ab (a.heap.size+1) 3) A/\ac w' (ab (a.heap.size+1) 4) B/\ac w' (ab (a.heap.size+1) 5) C/\ac w' (ab (a.heap.size+1) 6) D/\ac w' (ab (a.heap.size+1) 7) E/\ac w' (ab (a.heap.size+1+1) 0) (.bool true)/\ac w' (ab (a.heap.size+1+1) 1) (.func (.func l) #[] #[])/\ac w' (ab (a.heap.size+1+1) 2) (.func (.func n) #[] #[])/\ac w' (ab (a.heap.size+1+1) 3) (.func (.func o) #[] #[])/\w'.frozen? (ab (a.heap.size+1+1) 0)=false/\w'.frozen? (ab (a.heap.size+1+1) 1)=false/\w'.frozen? (ab (a.heap.size+1+1) 2)=false/\w'.frozen? (ab (a.heap.size+1+1) 3)=false) (first|(simp[*];done)|((repeat' apply And.intro)<;>(first|(simp[*];done)|(rw[qd _ _ _ _ _ _ _ (by dsimp only;have:=bG.out;omega)];simp[*];done)|exact(hH _ _ _ _ z.out).cell 0|exact(hH _ _ _ _ z.out).cell 1|exact(hH _ _ _ _ z.out).cell 2|exact(hH _ _ _ _ z.out).cell 3))|go_keep)
   (first|(refine(bO.out _ ?_ b9.out).mono ?_;exact an.out.drew;rintro H bR ⟨rfl,aI⟩;have aS:=Z (an.out.drew.trans aI);have G:∀d w,d<s.heap.size->bR.cell? (ab d w)=s.cell? (ab d w):=aI.cells;have w:∀d w,d<s.heap.size->bR.frozen? (ab d w)=s.frozen? (ab d w):=aI.frees;have z:=Z (ao.out.same ((ag.refl s).drew.trans aI)).k;clear aI))
  all_goals
   go_wp2;have w:=hH (.bool true) (.func (.func l) #[] #[]) (.func (.func n) #[] #[]) (.func (.func o) #[] #[]) z;have u0:=az w;have u1:=aY w;have u2:=bh w;have u3:=bj w;refine bodyPost_ret (v:=.tuple #[.agg #[.bool true,.func (.func l) #[] #[],.func (.func n) #[] #[],.func (.func o) #[] #[]],g,p,O (a4 p)]) ?_ rfl ⟨?_,?_⟩
   ·simp[results,Tryz.results51,go_sem,u0,u1,u2,u3]
   ·rw[aA.out]
    exact⟨g,p,by rw[iL.out];rfl,λ_=>⟨rfl,rfl⟩⟩
   repeat with_reducible first|refine ag.setCell ?_ aD _|refine ag.drew ?_
   exact aS
 have b9:Hid (false=true->0<=p/\p<a5.length):=λh=>by cases h
 have iL:=Z (bP (λh=>by cases h));clear f e m u F aF aG aH;go_upto_region 10 with(fail)
 clear e0;obtain⟨F,f,e,m,u,-⟩:=ao.out;have e0:=e 0 _ rfl;have aF:=e 1 _ rfl;have aG:=e 2 _ rfl;have aH:=e 3 _ rfl;have w:=f 0 _ rfl;have w:=f 1 _ rfl;have w:=f 2 _ rfl;have w:=f 3 _ rfl;have w:=f 4 _ rfl;have w:=f 5 _ rfl;have w:=f 6 _ rfl;have w:=f 7 _ rfl;have al:=aa.1;have aB:=aa.2.1;have aE:=aa.2.2;clear f e;have e:=m 0;have e:=m 1;have e:=m 2;have e:=m 3;have e:a.heap.size<s.heap.size:=ae
 have e:a.heap.size+1<s.heap.size:=ae
 have e:a.heap.size+1+1<s.heap.size:=ae
 have e:=a7.out;clear m u;go_region_held3 (λw'=>ac w' (am a 0) (U (some ⟨r,t,none⟩) b.length y)/\ac w' (ab r (t+g*3)) R/\ac w' (ab r (t+g*3+1)) (U S T V)/\ac w' (ab r (t+g*3+2)) (U W X Y)/\ac w' (ab (a.heap.size+1) 0) d/\ac w' (ab (a.heap.size+1) 1) x/\ac w' (ab (a.heap.size+1) 2) q/\ac w' (ab (a.heap.size+1) 3) A/\ac w' (ab (a.heap.size+1) 4) B/\ac w' (ab (a.heap.size+1) 5) C/\ac w' (ab (a.heap.size+1) 6) D/\ac w' (ab (a.heap.size+1) 7) E/\ac w' (ab (a.heap.size+1+1) 0) (.bool false)/\ac w' (ab (a.heap.size+1+1) 1) (.func (.func l) #[] #[])/\ac w' (ab (a.heap.size+1+1) 2) (.func (.func n) #[] #[])/\ac w' (ab (a.heap.size+1+1) 3) (.func (.func o) #[] #[])/\w'.frozen? (ab (a.heap.size+1+1) 0)=false/\w'.frozen? (ab (a.heap.size+1+1) 1)=false/\w'.frozen? (ab (a.heap.size+1+1) 2)=false/\w'.frozen? (ab (a.heap.size+1+1) 3)=false) (first|(simp[*];done)|((repeat' apply And.intro)<;>(first|(simp[*];done)|(rw[qd _ _ _ _ _ _ _ (by dsimp only;have:=bG.out;omega)];simp[*];done)|exact(hH _ _ _ _ z.out).cell 0|exact(hH _ _ _ _ z.out).cell 1|exact(hH _ _ _ _ z.out).cell 2|exact(hH _ _ _ _ z.out).cell 3))|go_keep)
  (first|(refine(bO.out _ ?_ b9.out).mono ?_;exact an.out.drew;rintro H bR ⟨rfl,aI⟩;have aS:=Z (an.out.drew.trans aI);have b:∀d a,d<s.heap.size->bR.cell? (ab d a)=s.cell? (ab d a):=aI.cells;have a:∀d a,d<s.heap.size->bR.frozen? (ab d a)=s.frozen? (ab d a):=aI.frees;have z:=Z (ao.out.same ((ag.refl s).drew.trans aI)).k;clear aI))
 all_goals
  go_wp2;have a:=hH (.bool false) (.func (.func l) #[] #[]) (.func (.func n) #[] #[]) (.func (.func o) #[] #[]) z;have u0:=az a;have u1:=aY a;have u2:=bh a;have u3:=bj a;refine bodyPost_ret (v:=.tuple #[.agg #[.bool false,.func (.func l) #[] #[],.func (.func n) #[] #[],.func (.func o) #[] #[]],g,p,O (a4 p)]) ?_ rfl ⟨?_,?_⟩
  ·simp[results,Tryz.results51,go_sem,u0,u1,u2,u3]
  ·rw[aA.out]
   exact⟨g,p,by rw[iL.out];rfl,λ_=>⟨rfl,rfl⟩⟩
  repeat with_reducible first|refine ag.setCell ?_ aD _|refine ag.drew ?_
  exact aS
theorem vY {b:Tb} {a:Cg} (l:d7 a=true) (m:a.kind≠1->0<=bH b.attrs a.attr):
 (a.kind=1/\(dt b a).attrs=b.attrs++[⟨a.name,a.dE,[],a.dflt⟩])\/
 ∃f c g,b.attrs=f++c::g/\bH b.attrs a.attr=f.length/\((a.kind=2/\(dt b a).attrs=f++g)\/(a.kind=3/\(dt b a).attrs=f++⟨a.name,c.kind,c.was++[c.name],c.dflt⟩::g)\/(a.kind=4/\(dt b a).attrs=f++⟨c.name,a.dE,c.was,a.dflt⟩::g)):=by
 rcases vW l with d|d|d|d
 ·left;exact⟨d,by simp[dt,g2,d]⟩
 all_goals
  right
  have l:=m ae;obtain⟨e,j⟩:∃e:Nat,bH b.attrs a.attr=e:=⟨_,(Int.toNat_of_nonneg l).symm⟩;have l:e<b.attrs.length:=by have:=(nj b.attrs a.attr).2;omega
  obtain⟨f,g,i,k⟩:=D2 b.attrs e l;obtain⟨c,l⟩:∃c,c=b.attrs[e]:=⟨_,rfl⟩;rw[<-l]at i;refine⟨f,c,g,i,by omega,?_⟩
 ·left
  have:(dt b a).attrs=b.attrs.eraseIdx e:=by simp[dt,g2,d,j]
  exact⟨d,by rw[this,i,<-k,vV]⟩
 ·right;left
  have:(dt b a).attrs=b.attrs.modify e (λc=>⟨a.name,c.kind,c.was++[c.name],c.dflt⟩):=by simp[dt,g2,d,j]
  exact⟨d,by rw[this,i,<-k,r0]⟩
 right;right
 have:(dt b a).attrs=b.attrs.modify e (λc=>⟨c.name,a.dE,c.was,a.dflt⟩):=by simp[dt,g2,d,j]
 exact⟨d,by rw[this,i,<-k,r0]⟩
theorem vZ {d:Nat} {b:List Int} (h:∀a,a<b.length->gl d b a=true):∀a,a<b.length->(a:Int)<=b.getD a 0
 |0,hj=>by have:=(oR.1 (h 0 hj)).1.1;simpa using this
 |a+1,hj=>by
  have b:=vZ h a ae;have c:=(oR.1 (h (a+1) hj)).2;rcases c with c|c
  ·omega
  rw[Nat.add_sub_cancel]at c;omega
theorem D5 {b:Nat} {a:List Int} (h:∀c,c<a.length->gl b a c=true):a.length<=b:=by
 rcases Nat.eq_zero_or_pos a.length with d|d
 ·omega
 have b:=vZ h (a.length-1) ae;have a:=(oR.1 (h (a.length-1) ae)).1.2;omega
theorem mc.D6 {a:Tb} (b:mc a):a.key.length<=12:=bR (D5 b.key) b.rZ
section
variable {S:List Tb} {c:Cg}
theorem oS (h:d7 c=false):dj S c=1:=by simp[dj,h]
theorem qf (h:eK S=false):dj S c=1:=by simp[dj,h]
theorem qg (a:d7 c=true) (b:eK S=true) (h:cS S c.table<0):dj S c=11:=by simp[dj,a,b,h]
theorem D7 (b:d7 c=true) (d:eK S=true) (a:Nat) (e:a<S.length) (h:cS S c.table=a) (f:c.kind≠1) (g:bH S[a].attrs c.attr<0):dj S c=11:=by
 have:¬((a:Int)<0):=ae
 simp[dj,b,d,h,this,e,f,g]
theorem qh (d:d7 c=true) (e:eK S=true) (a:Nat) (f:a<S.length) (h:cS S c.table=a) (i:c.kind≠1->¬bH S[a].attrs c.attr<0):dj S c=gn S[a] c (bH S[a].attrs c.attr).toNat:=by
 have g:¬((a:Int)<0):=ae
 by_cases b:c.kind=1
 ·simp[dj,d,e,h,g,f,b]
 have i:0<=bH S[a].attrs c.attr:=by have:=i b;omega
 have a:¬bH S[a].attrs c.attr<0:=ae
 simp[dj,d,e,h,g,f,b,a]
end
def eI (a:Int):Value:=if a=1 then gQ else if a=2 then gR else if a=3 then gS else if a=4 then gT else kk
theorem D8 (a:aw):a.size=0↔a=ByteArray.empty:=by
 constructor
 ·intro h
  apply m7;have:(ba a).length=0:=by rw[eJ];exact h
  rw[List.eq_nil_of_length_eq_zero this];rfl
 rintro rfl;rfl
theorem v1 (a:V):V.same a V.zero=(decide (a.k=0)&&(decide (a.n=0)&&decide (a.s.size=0))):=by
 rw[Bool.eq_iff_iff,V.same_iff];simp only[Bool.and_eq_true,decide_eq_true_eq];constructor
 ·rintro rfl;exact⟨rfl,rfl,rfl⟩
 rintro⟨a,b,c⟩;exact V.ext' a b ((D8 _).1 c)
theorem D9 (h:Hd) (c:Cg) (a:af) (r:c.kind≠1) (s:c.kind≠2) (t:c.kind≠3) (u:c.kind≠4):
 Calls Tryz.prog 51 #[.agg #[h.val],c.val] a λw y=>w=.returned (.tuple #[kk,O 0,O 0,O 1])/\ag a y:=by
 obtain⟨b,d,e,f,g,⟨i,k,l⟩⟩:=c;obtain⟨m,n,o⟩:=h;have z:=Z (λp=>D1 b d e f g i k l p r s t u);clear r s t u;show Calls Tryz.prog 51 #[.agg #[U m n o],.agg #[b,d,e,f,g,i,k,l]] a _;go_enter Tryz.func51,Tryz.ntmps51
 go_wp2_with fail
 refine(z.out _).mono ?_;rintro w w1 ⟨x,p⟩;unfold kk at x;subst x;have q:=Z p;have A:=p.cells;have B:=p.frees;have Z1:a.heap.size+3<=w1.heap.size:=by have:=p.size;simp at this;omega
 clear p;go_upto_region 2 with(fail)
 obtain⟨wq,hwq⟩:∃wq,wq=(((w1.setCell (ab (a.heap.size+1+1) 0) (.bool false)).setCell (ab (a.heap.size+1+1) 1) .nilFunc).setCell (ab (a.heap.size+1+1) 2) .nilFunc).setCell (ab (a.heap.size+1+1) 3) .nilFunc:=⟨_,rfl⟩;rw[<-hwq];have p:ag a wq:=by
  rw[hwq];repeat (with_reducible refine ag.setCell ?_ aD _)
  exact((((ag.refl a).alloc _).alloc _).alloc _).trans q.out
 have t:Hid (oQ a.heap.size (U m n o) [.int .i64 b,.string d,.string e,.string f,.int .i64 g,.int .i64 i,.int .i64 k,.string l] [.bool false,.nilFunc,.nilFunc,.nilFunc] wq):=by
  have u:(a.alloc (.cells #[U m n o] 29)).heap.size=a.heap.size+1:=ai
  have w:((a.alloc (.cells #[U m n o] 29)).alloc (.cells #[b,d,e,f,g,i,k,l] 99)).heap.size=a.heap.size+1+1:=ai
  have x:=((J.new a 29 #[U m n o]).alloc (.cells #[b,d,e,f,g,i,k,l] 99)).alloc (.cells #[.bool false,.nilFunc,.nilFunc,.nilFunc] 143);have r:=(J.new (a.alloc (.cells #[U m n o] 29)) 99 #[b,d,e,f,g,i,k,l]).alloc (.cells #[.bool false,.nilFunc,.nilFunc,.nilFunc] 143);have s:=J.new ((a.alloc (.cells #[U m n o] 29)).alloc (.cells #[b,d,e,f,g,i,k,l] 99)) 143 #[.bool false,.nilFunc,.nilFunc,.nilFunc];rw[u]at r;rw[w]at s;have bb1:J w1 a.heap.size 29 #[U m n o]:=(q.out.block _ aC).trans x;have bb2:J w1 (a.heap.size+1) 99 #[b,d,e,f,g,i,k,l]:=(q.out.block _ ai).trans r;have a:J w1 (a.heap.size+1+1) 143 #[.bool false,.nilFunc,.nilFunc,.nilFunc]:=(q.out.block _ ai).trans s;have hb2:=hH (.bool false) .nilFunc .nilFunc .nilFunc a;exact pP
 have C:=Z p;clear hwq p A B Z1 q;obtain⟨-,-,a,b,d,-⟩:=t.out;have e0:=a 0 _ rfl;have D:=a 1 _ rfl;have E:=a 2 _ rfl;have F:=a 3 _ rfl;clear a;go_wp2_with fail
 refine bodyPost_ret (v:=.tuple #[kk,O 0,O 0,O 1]) ?_ rfl ⟨rfl,?_⟩
 ·simp[results,Tryz.results51,go_sem,kk,e0,D,E,F]
 repeat with_reducible first|refine ag.setCell ?_ aD _|refine ag.drew ?_
 exact C.out
theorem v6 (h:Hd) (a:List RT) (c:Cg) (f:af) (g:bI f h a) (m:dh a) (u:aG c.name):
 Calls Tryz.prog 51 #[.agg #[h.val],c.val] f λi v=>
  qc (eI c.kind) (dj (a.map RT.tb) c) (cS (a.map RT.tb) c.table) (match a[(cS (a.map RT.tb) c.table).toNat]? with|some b=>bH b.tb.attrs c.attr|none=>0) i/\ag f v:=by
 have e3:∀(k:Nat) (hk:k<a.length),(a.map RT.tb)[k]'(by simpa using hk)=a[k].tb:=λk hk=>by simp
 have hl:(a.map RT.tb).length=a.length:=List.length_map _;have w:∀b:RT,b.tb.attrs.length=b.ra.length:=λb=>by simp[RT.tb]
 have r:∀{d:Int} {o:Nat},0<=d/\d<o->∃k:Nat,d=k/\k<o:=λ{d o} h=>⟨d.toNat,by omega,by omega⟩;by_cases h1:c.kind=1
 ·have e:d7 c=decide (c.attr.size=0):=by simp[d7,h1]
  have j:eI c.kind=.agg #[.bool false,bt 245,bt 248,bt 249]:=by simp[eI,h1,gQ]
  rw[j];refine qe false (d7 c) _ _ _ h a c (λb d=>gn b.tb c d.toNat) f g m ?_ (enters_of Tryz.func245 ak rfl) ?_ _ oS qf qg ?_ ?_
  ·intro l
   rw[e];obtain⟨k,b,t,x,y,⟨z,A,B⟩⟩:=c;obtain rfl:k=1:=h1;exact DX b t x y z A B l
  ·intro k hk d e j _
   have:=DV a[k] c d e ((g.2 _ (List.getElem_mem hk)).same j) u;simpa[gn,h1,w]using this
  ·intro _ _ k hk _ l;cases l
  intro p q k hk hfi _;have:=qh (c:=c) p q k (by rw[hl];exact hk) hfi (λe=>absurd h1 e);rw[e3 k hk]at this;exact this
 by_cases e:c.kind=2
 ·have l:d7 c=(decide (c.name.size=0)&&(decide (c.dE=0)&&(decide (c.dflt.k=0)&&(decide (c.dflt.n=0)&&decide (c.dflt.s.size=0))))):=by unfold d7;rw[if_neg h1,if_pos e,v1]
  have o:eI c.kind=.agg #[.bool true,bt 250,bt 251,bt 253]:=by simp[eI,e,gR]
  rw[o];refine qe true (d7 c) _ _ _ h a c (λb d=>gn b.tb c d.toNat) f g m ?_ (enters_of Tryz.func250 ak rfl) ?_ _ oS qf qg ?_ ?_
  ·intro j
   rw[l];obtain⟨k,b,t,x,y,⟨z,A,B⟩⟩:=c;obtain rfl:k=2:=e;exact DY b t x y z A B j
  ·intro k hk d t x y
   obtain⟨j,rfl,z⟩:=r (y rfl);have:=DU a[k] c j t ((g.2 _ (List.getElem_mem hk)).same x);have i:gn a[k].tb c (j:Int).toNat=(if a[k].key.any (λk=>decide (k=(j:Int)))then 1 else 0):=by unfold gn;rw[if_neg h1,if_pos e];rfl
   rw[i];exact this
  ·exact wh
  intro p q k hk hfi hc;have:=qh (c:=c) p q k (by rw[hl];exact hk) hfi (λ_=>by rw[e3 k hk];exact hc rfl);rw[e3 k hk]at this;exact this
 by_cases j:c.kind=3
 ·have o:d7 c=(decide (c.dE=0)&&(decide (c.dflt.k=0)&&(decide (c.dflt.n=0)&&decide (c.dflt.s.size=0)))):=by unfold d7;rw[if_neg h1,if_neg e,if_pos j,v1]
  have t:eI c.kind=.agg #[.bool true,bt 255,bt 256,bt 258]:=by simp[eI,j,gS]
  rw[t];refine qe true (d7 c) _ _ _ h a c (λb d=>gn b.tb c d.toNat) f g m ?_ (enters_of Tryz.func255 ak rfl) ?_ _ oS qf qg ?_ ?_
  ·intro l
   rw[o];obtain⟨k,b,x,y,z,⟨A,B,C⟩⟩:=c;obtain rfl:k=3:=j;exact DZ b x y z A B C l
  ·intro k hk d x y z
   obtain⟨l,rfl,A⟩:=r (z rfl);have:=DT a[k] c l x ((g.2 _ (List.getElem_mem hk)).same y) u;have i:gn a[k].tb c (l:Int).toNat=gm a[k].tb c:=by unfold gn;rw[if_neg h1,if_neg e,if_pos j]
   rw[i];exact this
  ·exact wh
  intro p q k hk hfi hc;have:=qh (c:=c) p q k (by rw[hl];exact hk) hfi (λ_=>by rw[e3 k hk];exact hc rfl);rw[e3 k hk]at this;exact this
 by_cases l:c.kind=4
 ·have o:d7 c=decide (c.name.size=0):=by simp[d7,l]
  have u:eI c.kind=.agg #[.bool true,bt 259,bt 260,bt 261]:=by simp[eI,l,gT]
  rw[u];refine qe true (d7 c) _ _ _ h a c (λb d=>gn b.tb c d.toNat) f g m ?_ (enters_of Tryz.func259 ak rfl) ?_ _ oS qf qg ?_ ?_
  ·intro t
   rw[o];obtain⟨k,b,x,y,z,⟨A,B,C⟩⟩:=c;obtain rfl:k=4:=l;exact D0 b x y z A B C t
  ·intro k hk d x y z
   obtain⟨t,rfl,A⟩:=r (z rfl);have:=DW a[k] c t x ((g.2 _ (List.getElem_mem hk)).same y) A;have i:gn a[k].tb c (t:Int).toNat=(if g1 c&&!decide ((a[k].tb.attrs.map At.kind)[t]?=some c.dE)then 0 else 1):=by unfold gn;rw[if_neg h1,if_neg e,if_neg j];rfl
   rw[i];exact this
  ·exact wh
  intro p q k hk hfi hc;have:=qh (c:=c) p q k (by rw[hl];exact hk) hfi (λ_=>by rw[e3 k hk];exact hc rfl);rw[e3 k hk]at this;exact this
 have b:d7 c=false:=by simp[d7,h1,e,j,l]
 have d:eI c.kind=kk:=by simp[eI,h1,e,j,l]
 refine(D9 h c f h1 e j l).mono ?_;rintro i v ⟨e,t⟩;have a:dj (a.map RT.tb) c=1:=oS b;rw[d,a];exact⟨⟨0,0,e,λh=>by cases h⟩,t⟩
structure jv (W0:af) (t:RT):Prop where
 ras:kf W0 t.ra
 nm:aG t.name
 al:t.ra.length<=12
 kl:t.key.length<=12
 kb:∀q∈t.key,0<=q/\q<=1000000
 few:∀r∈t.ra,r.at_.was.length<=1000000
section
variable {W0 w w1:af} {g c i:Nat} {ts:List RT} {t:RT}
theorem bU.same (S:bU W0 w g c ts i t) (s:ag w w1):bU W0 w1 g c ts i t:=
 ⟨S.s.trans s,aH s S.row,S.ti,S.an,aH s S.ar,S.kn,aH s S.kr⟩
theorem bU.Ea (d:bU W0 w g c ts i t):∃a,J w g 81 a:=by
 obtain⟨d,a,b,_,f,_⟩:=fE d.row (Nat.lt_of_le_of_lt (Nat.zero_le _) d.lt);injection b with b
 injection b with e
 subst e;exact⟨a,f⟩
theorem qi {a:RT} {b:Tb} (d:jv W0 t) (e:bU W0 w g c (ts.set i a) i a) (f:a.tb=b) (j:kf w a.ra) (k:a.name=t.name) (l:a.ra.length<=13) (l:a.key.length=t.key.length):lW W0 w g c ts i b:=
 ⟨a,e,f,j,by rw[k];exact d.nm,by omega,by have:=d.kl;omega⟩
theorem Eb (b:Cg) (q:Int) (a:bU W0 w g c ts i t) (l:jv W0 t) (y:b.kind=1) (z:aG b.name) (A:aG b.dflt.s):
 Calls Tryz.prog 248 #[.pointer (some ⟨g,i*3,none⟩),b.val,q] w λm n=>m=.returned (.tuple #[])/\lW W0 n g c ts i (dt t.tb b)/\cV w n:=by
 obtain⟨r,u,v,d,e,⟨f,j,k⟩⟩:=b;have b:ac w (ab g (i*3+1)) t.ha.val:=a.cell 1 ae;refine(Do W0.heap.size g (i*3) t.ra.length t.ha.val (t.ra.flatMap RA.cells) q r e f j u v d k w a.oA.2 a.s.size (by have:=l.al;omega) b (a.free _) a.ar (gM a.ar a.row au)).mono ?_;rintro m n ⟨b,w1,B,x,o,rfl⟩;obtain⟨F,G,rfl⟩:=nL x;refine⟨B,?_⟩;have n:(t.ra++[(⟨⟨d,e,[],⟨f,j,k⟩⟩,⟨none,0,0⟩⟩:RA)]).flatMap RA.cells=t.ra.flatMap RA.cells++[.string d,.int .i64 e,.slice none 0 0,.int .i64 f,.int .i64 j,.string k]:=by
  rw[List.flatMap_append];rfl
 have b:(t.ra++[(⟨⟨d,e,[],⟨f,j,k⟩⟩,⟨none,0,0⟩⟩:RA)]).length=t.ra.length+1:=ai
 have p:=a.g2 (ra:=t.ra++[⟨⟨d,e,[],⟨f,j,k⟩⟩,⟨none,0,0⟩⟩]) o (by rw[b,n];exact x);rw[b]at p;obtain⟨b,C⟩:=a.Ea;refine⟨qi l p (Ds t ⟨r,u,v,d,e,⟨f,j,k⟩⟩ y _) ?_ rfl (by simp;have:=l.al;omega) rfl,?_⟩
 case refine_2=>exact((cV.refl w).grown a.ar (.inr (.inl rfl)) o).set (J.grown C o (λm=>gM a.ar a.row au m.symm)) (.inl rfl) _ _
 intro D E;rcases cY E with h|h
 ·exact l.ras.same p.s D h
 rw[aA h];exact⟨Dp _,z,A⟩
theorem Ec (b:Cg) (a:Nat) (S:bU W0 w g c ts i t) (d:jv W0 t) (B:b.kind=4) (ha:a<t.ra.length) (C:bH t.tb.attrs b.attr=a) (D:aG b.dflt.s):
 Calls Tryz.prog 260 #[.pointer (some ⟨g,i*3,none⟩),b.val,a] w λk n=>k=.returned (.tuple #[])/\lW W0 n g c ts i (dt t.tb b)/\cV w n:=by
 obtain⟨o,p,q,r,e,⟨f,j,l⟩⟩:=b;obtain⟨u,y,kj,b,E,F,G,z⟩:=S.rQ ae;have H:ac w (ab g (i*3+1)) (U (some ⟨u,0,none⟩) t.ra.length y):=by
  exact GT
 have m:∀b,b<6->∃m,ac w (ab u (a*6+b)) m:=by
  intro b v;have:=ke RA.eE z rfl a ha b v;exact⟨_,this.trans (List.getElem?_eq_getElem (show b<(RA.cells t.ra[a]).length from v))⟩
 refine(Dm g (i*3) u a t.ra.length y o e f j p q r l w F E S.oA.2 ha (by have:=d.al;omega) H (m 1 ae) (m 3 ae) (m 4 ae) (m 5 ae) G).mono ?_;rintro k n ⟨I,rfl⟩;refine⟨I,?_⟩;have v:=((S.BW (by rw[kj]) (by rw[kj]) a ha e f j l).alloc (.cells #[o,p,q,r,e,f,j,l] 99)).drew;refine⟨qi d v (Dq t ⟨o,p,q,r,e,⟨f,j,l⟩⟩ a ha B C) ?_ rfl (by simp;have:=d.al;omega) rfl,?_⟩
 case refine_2=>
  obtain⟨b,l,x,_,A,_⟩:=fE z ae;injection x with x
  injection x with k
  subst k;have b:=A.aP (a*6+1) e;have e:=b.aP (a*6+3) f;have f:=e.aP (a*6+4) j;exact((((((cV.refl w).set A (.inr (.inl rfl)) _ _).set b (.inr (.inl rfl)) _ _).set e (.inr (.inl rfl)) _ _).set f (.inr (.inl rfl)) _ _).alloc _).drew
 have b:=d.ras _ (List.getElem_mem ha);exact(d.ras.same v.s).set a _ ⟨b.1.same v.s,b.2.1,D⟩
theorem Ed (b:Cg) (a:Nat) (S:bU W0 w g c ts i t) (d:jv W0 t) (F:b.kind=3) (ha:a<t.ra.length) (G:bH t.tb.attrs b.attr=a) (H:aG b.name):
 Calls Tryz.prog 256 #[.pointer (some ⟨g,i*3,none⟩),b.val,a] w λe m=>e=.returned (.tuple #[])/\lW W0 m g c ts i (dt t.tb b)/\cV w m:=by
 obtain⟨u,v,x,j,y,⟨z,A,B⟩⟩:=b;obtain⟨f,b,kj,L,I,J,K,n⟩:=S.rQ ae;have L:ac w (ab g (i*3+1)) (U (some ⟨f,0,none⟩) t.ra.length b):=by
  exact GT
 have e0:ac w (ab f (a*6)) (.string t.ra[a].at_.name):=ke RA.eE n rfl a ha 0 ae;have M:w.cell? (ab f (a*6+2))=some t.ra[a].h.val:=ke RA.eE n rfl a ha 2 ae;have k:=d.ras _ (List.getElem_mem ha);have N:=d.few _ (List.getElem_mem ha);refine(DB g (i*3) f a t.ra.length b u y z A v x j B t.ra[a].at_.name t.ra[a].h t.ra[a].at_.was w J I S.oA.2 ha (by have:=d.al;omega) L e0 M K (k.1.same S.s) N).mono ?_;rintro e m ⟨l,o,w1,O,C,p,rfl⟩;refine⟨O,?_⟩;obtain⟨b,D⟩:∃b:Hd,b=⟨l,t.ra[a].at_.was.length+1,o⟩:=⟨_,rfl⟩;have q:=((S.same p).BY (by rw[kj]) (by rw[kj]) a ha b (t.ra[a].at_.was++[t.ra[a].at_.name]) j).drew;have m:b.val=.slice l (t.ra[a].at_.was.length+1) o:=by rw[D];rfl
 rw[m]at q;refine⟨qi d q (Dr t ⟨u,v,x,j,y,⟨z,A,B⟩⟩ a ha F G b) ?_ rfl (by simp;have:=d.al;omega) rfl,?_⟩
 case refine_2=>
  obtain⟨b,m,r,_,E,_⟩:=fE (aH p n) ae;injection r with r
  injection r with e
  subst e;exact(((cV.same p).set E (.inr (.inl rfl)) _ _).set (E.aP _ _) (.inr (.inl rfl)) _ _).drew
 refine(d.ras.same q.s).set a _ ⟨⟨?_,?_⟩,H,k.2.2⟩
 ·have r:l≠some ⟨f,0,none⟩:=by
   rintro rfl;have:=(C.lt f rfl).1;omega
  have b:=(oz (oz C r (a*6+2) (U l (t.ra[a].at_.was.length+1) o)) r (a*6) j).drew;rw[D];refine cF (base:=w.heap.size) (e:=9) (enc:=dF) (λ_=>rfl) ai (by show t.ra[a].at_.was.length+1<=_;omega) ?_;rw[rT];exact b
 intro r E;rcases cY E with h|h
 ·exact k.1.2 r h
 rw[aA h];exact k.2.1
theorem Ee (d:Cg) (a:Nat) (r:bU W0 w g c ts i t) (b:jv W0 t) (u:d.kind=2) (v:a<t.ra.length) (x:bH t.tb.attrs d.attr=a):
 Calls Tryz.prog 251 #[.pointer (some ⟨g,i*3,none⟩),d.val,a] w λf e=>f=.returned (.tuple #[])/\lW W0 e g c ts i (dt t.tb d)/\cV w e:=by
 obtain⟨j,k,l,m,n,⟨o,p,q⟩⟩:=d;refine(Dz W0 w g c i a ts t j n o p k l m q r v (by have:=b.al;omega) (by have:=b.kl;omega) b.kb).mono ?_;rintro f e ⟨e,⟨f,d⟩,r⟩;refine⟨e,qi b d (Dt t ⟨j,k,l,m,n,⟨o,p,q⟩⟩ a u x f) ?_ rfl ?_ ai,r⟩
 ·intro e f
  exact b.ras.same d.s e (List.mem_of_mem_eraseIdx f)
 show(t.ra.eraseIdx a).length<=13;have:=b.al;rw[List.length_eraseIdx];split<;>omega
end
theorem Ef (h:Hd) (e:List RT) (d:Cg) (a:af) (b:bI a h e) (l:dh e) (m:aG d.name) (n:dj (e.map RT.tb) d≠0):
 Calls Tryz.prog 31 #[.agg #[h.val],d.val] a λf j=>f=.returned (.tuple #[.agg #[aa],O (dj (e.map RT.tb) d)])/\ag a j:=by
 have k:=Z (λc (g:ag a c)=>v6 h e d c (b.same g) l m);obtain⟨g,e⟩:∃g,g=dj (e.map RT.tb) d:=⟨_,rfl⟩;rw[<-e]at n k⊢;clear b l m e;have o:Hid (∃c e i l,eI d.kind=.agg #[c,e,i,l]/\c.oneCell'=true/\e.oneCell'=true/\i.oneCell'=true/\l.oneCell'=true):=by
  unfold eI;split
  ·exact⟨_,_,_,_,rfl,rfl,rfl,rfl,rfl⟩
  split
  ·exact⟨_,_,_,_,rfl,rfl,rfl,rfl,rfl⟩
  split
  ·exact⟨_,_,_,_,rfl,rfl,rfl,rfl,rfl⟩
  split
  ·exact⟨_,_,_,_,rfl,rfl,rfl,rfl,rfl⟩
  exact⟨_,_,_,_,rfl,rfl,rfl,rfl,rfl⟩
 obtain⟨p,q,r,s,e,t,u,w,x⟩:=o.out;rw[e]at k;clear e o;obtain⟨y,c,z⟩:=h;obtain⟨A,B,C,D,E,⟨F,G,H⟩⟩:=d;have J:Hid (∀d,ag a d->Calls Tryz.prog 51 #[.agg #[U y c z],.agg #[A,B,C,D,E,F,G,H]] d λf j=>(∃e i:Int,f=.returned (.tuple #[.agg #[p,q,r,s],e,i,g]))/\ag d j):=
  λd e=>(k.out d e).mono λf j ⟨⟨d,e,i,_⟩,j⟩=>⟨⟨d,e,i⟩,j⟩
 clear k;have d:=λa b c=>run_store Tryz.prog a b p c t;have d:=λa b c=>run_store Tryz.prog a b q c u;have d:=λa b c=>run_store Tryz.prog a b r c w;have b:=λa b c=>run_store Tryz.prog a b s c x;clear t u w x;have b:(g !=0)=true:=by simp;exact n
 show Calls Tryz.prog 31 #[.agg #[U y c z],.agg #[A,B,C,D,E,F,G,H]] a _;go_enter Tryz.func31,Tryz.ntmps31
 go_wp2_with fail
 refine(J.out _ ?_).mono ?_
 ·exact(((ag.refl a).alloc _).alloc _).alloc _
 rintro f I ⟨⟨b,b,rfl⟩,i⟩;have K:=Z i;have L:=i.cells;have M:=i.frees;have b:a.heap.size+3<=I.heap.size:=by have:=i.size;simp at this;omega
 have N:a.heap.size+1+1<I.heap.size:=ae
 clear i;go_wp2_with fail
 refine bodyPost_ret (v:=.tuple #[.agg #[aa],g]) ?_ rfl ⟨rfl,?_⟩
 ·simp[results,Tryz.results31,go_sem,L,M,N]
 repeat with_reducible first|refine ag.setCell ?_ aD _|refine ag.drew ?_|refine ag.alloc ?_ _
 exact((((ag.refl a).alloc _).alloc _).alloc _).trans K.out
theorem RT.one (b:RT):∀v∈b.cells,v.oneCell'=true:=by
 intro v a;simp only[RT.cells,List.mem_cons,List.not_mem_nil,or_false]at a;rcases a with rfl|rfl|rfl<;>rfl
theorem RA.one (a:RA):∀v∈a.cells,v.oneCell'=true:=by
 exact GU
theorem Eg (h:Hd) (a:List RT) (b:af) (g:aF b 3 h RT.cells a) (i:h.n<=1000000000) (j:0<a.length):
 Calls Tryz.prog 52 #[h.val] b λf e=>∃c d,f=.returned (U (some ⟨c,0,none⟩) a.length d)/\ag b e/\e.ownsRow b.heap.size 81 3 (U (some ⟨c,0,none⟩) a.length d) a.length (a.flatMap RT.cells):=by
 refine(BP h RT.cells RT.eE RT.one a b g i).mono ?_;rintro f e (⟨_,rfl,_⟩|⟨d,c,k,l,m⟩)
 ·simp at j
 exact⟨c,d,k,l,m⟩
theorem Eh (h:Hd) (a:List RA) (b:af) (g:aF b 6 h RA.cells a) (i:h.n<=1000000000):
 Calls Tryz.prog 53 #[h.val] b λj d=>∃f c,j=.returned (U f a.length c)/\ag b d/\d.ownsRow b.heap.size 111 6 (U f a.length c) a.length (a.flatMap RA.cells):=by
 refine(uG h RA.cells RA.eE RA.one a b g i).mono ?_;rintro a d (⟨rfl,rfl,e⟩|⟨c,l,rfl,e,k⟩)
 ·exact⟨none,0,rfl,e,rfl,.inl ⟨rfl,rfl⟩⟩
 exact⟨_,c,rfl,e,k⟩
theorem Ei (h:Hd) (a:List Int) (b:af) (g:aF b 1 h cj a) (i:h.n<=1000000000):
 Calls Tryz.prog 54 #[h.val] b λj d=>∃f c,j=.returned (U f a.length c)/\ag b d/\d.ownsRow b.heap.size 3 1 (U f a.length c) a.length (a.flatMap cj):=by
 refine(BR h cj (λ_=>rfl) (λf f e=>by simp[cj]at e;subst e;rfl) a b g i).mono ?_;rintro a d (⟨rfl,rfl,e⟩|⟨c,l,rfl,e,k⟩)
 ·exact⟨none,0,rfl,e,rfl,.inl ⟨rfl,rfl⟩⟩
 exact⟨_,c,rfl,e,k⟩
theorem Ej {d:af} {h:Hd} {e:bm} (b:b4 d h e) {g:Nat} {i:aX} {j k:Nat} (l:ac d (ab g 0) (U i j k)) (v:ay):b4 (d.setCell (ab g 0) v) h e:=by
 refine⟨⟨b.1.1,b.1.2.1,λd g=>?_⟩,b.2⟩;obtain⟨b,g,i,j,k⟩:=b.1.2.2 d g;refine⟨b,g,i,by simpa[World.setCell]using j,λf b a=>?_⟩;have c:=k f b a;rw[World.cell?_setCell_other _ _ _ _ (λg=>?_)]
 ·exact c
 rw[<-g,l]at c;have:b=.string e[d]:=by
  match f,a with
  |0,a=>simpa[dF]using a.symm
  |f+1,a=>simp[dF]at a
 rw[this]at c;cases c
theorem bU.Ek {e f:af} {i j k:Nat} {l:List RT} {m:RT} (b:bU e f i j l k m) {c:Nat} {d:bb} {n:aO} (g:J f c d n) (n:81≠d) (o:111≠d) (q:3≠d) (r:e.heap.size<=c) (d:Nat) (v:ay):bU e (f.setCell (ab c d) v) i j l k m:=
 ⟨b.s.setCell (p:=(ab c d)) r v,ownsRow_setCell_other b.row (a:=⟨c,d,none⟩) (lm b.row g n) v,b.ti,b.an,ownsRow_setCell_other b.ar (a:=⟨c,d,none⟩) (lm b.ar g o) v,b.kn,ownsRow_setCell_other b.kr (a:=⟨c,d,none⟩) (lm b.kr g q) v⟩
theorem El {f m l:af} {d u b g j:Nat} {i k:aX} {c:List RT} (n:b<c.length) (x:m.ownsRow f.heap.size 81 3 (U (some ⟨d,0,none⟩) c.length u) c.length (c.flatMap RT.cells)) (z:ag f m) (q:ag m l)
 (r:l.ownsRow f.heap.size 111 6 (U i c[b].ra.length g) c[b].ra.length (c[b].ra.flatMap RA.cells)) (s:l.ownsRow f.heap.size 3 1 (U k c[b].key.length j) c[b].key.length (c[b].key.flatMap cj)):
 bU f ((l.setCell (ab d (b*3+1)) (U i c[b].ra.length g)).setCell (ab d (b*3+2)) (U k c[b].key.length j)) d u (c.set b ⟨c[b].name,⟨i,c[b].ra.length,g⟩,c[b].ra,⟨k,c[b].key.length,j⟩,c[b].key⟩) b ⟨c[b].name,⟨i,c[b].ra.length,g⟩,c[b].ra,⟨k,c[b].key.length,j⟩,c[b].key⟩/\
 cV m ((l.setCell (ab d (b*3+1)) (U i c[b].ra.length g)).setCell (ab d (b*3+2)) (U k c[b].key.length j)):=by
 have o:=aH q x;obtain⟨f,l,t,v,w,_⟩:=fE o ae;injection t with t
 injection t with e
 subst e;obtain⟨f,l⟩:=aq (c[b]);have c:c[b]?=some f:=by rw[l];exact List.getElem?_eq_getElem n
 rw[<-l]at r s⊢;have c:=gM r o au;have m:=gM s o au;have l:=mP (y:={f with ha:=⟨i,f.ra.length,g⟩}) RT.eE o rfl b n 1 au (U i f.ra.length g) (by rw[<-l];rfl);have f:=mP (y:=⟨f.name,⟨i,f.ra.length,g⟩,f.ra,⟨k,f.key.length,j⟩,f.key⟩) RT.eE l ai b n 2 au (U k f.key.length j) (by simp;rfl);rw[List.set_set]at f;refine⟨⟨((z.trans q).setCell (p:=(ab d (b*3+1))) v _).setCell (p:=(ab d (b*3+2))) v _,?_,by simp[n],rfl,?_,rfl,?_⟩,((cV.same q).set w (.inl rfl) _ _).set (w.aP _ _) (.inl rfl) _ _⟩
 ·rw[List.length_set];exact f
 ·exact ownsRow_setCell_other (ownsRow_setCell_other r (a:=⟨d,b*3+1,none⟩) c _) (a:=⟨d,b*3+2,none⟩) c _
 exact ownsRow_setCell_other (ownsRow_setCell_other s (a:=⟨d,b*3+1,none⟩) m _) (a:=⟨d,b*3+2,none⟩) m _
def iM (d:Nat) (c e:List RT):Prop:=∀b∈e,b∈c\/∀c e,b.hk.a=some ⟨c,e,none⟩->d<=c
theorem k8 {c:af} {d e g:Nat} {i:bb} {h:Hd} {xs:bg} (j:c.ownsRow d i e h.val g xs):∀c e,h.a=some ⟨c,e,none⟩->d<=c:=by
 intro c e f;rcases j.2 with⟨b,_⟩|⟨l,m,n,b,k,_⟩
 ·unfold Hd.val at b
  rw[f]at b;cases b
 unfold Hd.val at b;rw[f]at b;cases b;exact k
theorem iM.set {w:af} {base b:Nat} {e:bb} {c:bg} {a:List RT} {d:Nat} {t:RT} (o:w.ownsRow base e 1 t.hk.val b c):iM base a (a.set d t):=by
 intro a f;rcases List.mem_or_eq_of_mem_set f with h|h
 ·exact .inl h
 rw[h];exact .inr (k8 o)
theorem qj (G n H:ay) (aM:G.oneCell'=true) (aN:n.oneCell'=true) (aO:H.oneCell'=true) (p:Nat) (l:∀l c,(callFunc p l).run Tryz.prog c=.ok (.enter p l) c) (h:Hd) (a:List RT) (j:Cg) (c:af) (l:bI c h a) (I:a.length<=20)
 (b:Nat) (W:b<a.length) (X:Int) (Y:jv c a[b]) (ap:Tb)
 (aP:Rt 51 #[.agg #[h.val],j.val] c (.tuple #[.agg #[G,n,bt p,H],b,X,O 0]))
 (aQ:∀e d o I ad,ad.name=a[b].name->ad.ra=a[b].ra->ad.key=a[b].key->bU c e d o I b ad->Calls Tryz.prog p #[.pointer (some ⟨d,b*3,none⟩),j.val,X] e λf g=>f=.returned (.tuple #[])/\lW c g d o I b ap/\cV e g):
 Calls Tryz.prog 31 #[.agg #[h.val],j.val] c λf g=>∃(ad:Hd) (I:List RT),f=.returned (.tuple #[.agg #[ad.val],O 0])/\bI g ad I/\I.map RT.tb=(a.map RT.tb).set b ap/\ag c g/\iM c.heap.size a I:=by
 have a0:=Z l;have I:=Z Y;have ar:=l.1.1;have aR:=Z (λ(e:af) (i:ag c e)=>Eg h a e (l.same i).1 (by rw[<-ar];omega) ae);have I:=l.2 _ (List.getElem_mem W);have av:=Z (λ(e:af) (i:ag c e)=>Eh a[b].ha a[b].ra e (I.same i).1.1 (by rw[<-I.1.1.1];have:=Y.al;omega));have aw:=Z (λ(e:af) (i:ag c e)=>Ei a[b].hk a[b].key e (I.same i).2.1 (by rw[<-I.2.1.1];have:=Y.kl;omega));have aS:=Z aP;have a1:=Z aQ;have a2:=λc l K=>run_store Tryz.prog c l G K aM;have a3:=λc l K=>run_store Tryz.prog c l n K aN;have a4:=λc l K=>run_store Tryz.prog c l H K aO;clear l Y I aP aQ aM aN aO;obtain⟨k,K,o⟩:=h;obtain⟨r,t,u,w,x,⟨y,z,A⟩⟩:=j;simp only at ar;subst ar;have a5:Hid (Rt 51 #[.agg #[U k a.length o],.agg #[r,t,u,w,x,y,z,A]] c (.tuple #[.agg #[G,n,.func (.func p) #[] #[],H],b,X,O 0])):=aS;have a6:Hid (∀e,ag c e->Calls Tryz.prog 52 #[U k a.length o] e λf g=>∃d j,f=.returned (U (some ⟨d,0,none⟩) a.length j)/\ag e g/\g.ownsRow e.heap.size 81 3 (U (some ⟨d,0,none⟩) a.length j) a.length (a.flatMap RT.cells)):=aR;clear aS aR;show Calls Tryz.prog 31 #[.agg #[U k a.length o],.agg #[r,t,u,w,x,y,z,A]] c _;go_enter Tryz.func31,Tryz.ntmps31
 go_wp2_with fail
 refine(a5 _ ?_).mono ?_
 ·exact(((ag.refl c).alloc _).alloc _).alloc _
 rintro f m ⟨rfl,L⟩;have ax:=Z ((((ag.refl c).alloc _).alloc _).alloc _|>.trans L);have a7:=L.cells;have a8:=L.frees;have l:c.heap.size+3<=m.heap.size:=by have:=L.size;simp at this;omega
 have l:c.heap.size<m.heap.size:=ae
 have a9:c.heap.size+1<m.heap.size:=ae
 have ba:c.heap.size+1+1<m.heap.size:=ae
 have aT:=Z L;clear L;go_wp2_with fail
 refine(a6 _ ?_).mono ?_
 ·exact ax.alloc _
 rintro f ah ⟨d,q,rfl,aj,az⟩;go_wp2_with fail
 obtain⟨l,P⟩:=aq (m.alloc (.cells #[G,n,.func (.func p) #[] #[],H] 143));rw[<-P]at aj az;have aA:ag m l:=by rw[P];exact(ag.refl m).alloc _
 have aU:(c.alloc (.cells #[U k a.length o] 29)).heap.size=c.heap.size+1:=ai
 have aV:((c.alloc (.cells #[U k a.length o] 29)).alloc (.cells #[r,t,u,w,x,y,z,A] 99)).heap.size=c.heap.size+1+1:=ai
 have aB:=(J.new (c.alloc (.cells #[U k a.length o] 29)) 99 #[r,t,u,w,x,y,z,A]).alloc (.cells #[aa] 29);have aC:=J.new ((c.alloc (.cells #[U k a.length o] 29)).alloc (.cells #[r,t,u,w,x,y,z,A] 99)) 29 #[aa];rw[aU]at aB;rw[aV]at aC;obtain⟨i,M⟩:=aq (ah.alloc (.cells #[U (some ⟨d,0,none⟩) a.length q] 29));rw[<-M];have ak:ag m i:=by rw[M];exact(aA.trans aj).alloc _
 have D:Hid (ag c i):=ax.trans ak;have bb:Hid (J i ah.heap.size 29 #[U (some ⟨d,0,none⟩) a.length q]):=by show J _ _ _ _;rw[M];exact J.new ah _ _
 have bf:Hid (J i (c.heap.size+1+1) 29 #[aa]):=(ak.block _ ba).trans ((aT.block _ ai).trans aC);have bg:Hid (J i (c.heap.size+1) 99 #[r,t,u,w,x,y,z,A]):=(ak.block _ a9).trans ((aT.block _ ai).trans aB);have bh:Hid (J i m.heap.size 143 #[G,n,.func (.func p) #[] #[],H]):=by
  show J _ _ _ _;rw[M];refine J.alloc ?_ _;refine(aj.block _ ?_).trans ?_
  ·rw[P];simp
  rw[P];exact J.new m _ _
 have N:Hid (i.ownsRow c.heap.size 81 3 (U (some ⟨d,0,none⟩) a.length q) a.length (a.flatMap RT.cells)):=by
  show World.ownsRow _ _ _ _ _ _ _;rw[M];exact(az.mono (bR ax.size aA.size)).alloc _
 have B:=(N.lt d rfl).2;have l:Hid (c.heap.size<=d):=(N.lt d rfl).1;have n:i.cell? (ab d (b*3+1))=some a[b].ha.val:=ke RT.eE N rfl b W 1 au;have aD:i.cell? (ab d (b*3+2))=some a[b].hk.val:=ke RT.eE N rfl b W 2 au;have aE:∀an,i.frozen? (ab d an)=false:=by
  obtain⟨l,o,Q,_,ao,_⟩:=fE N ae;injection Q with Q
  injection Q with f
  subst f;exact λan=>ao.frozen an
 have aF:=aE (b*3+1);have aG:=aE (b*3+2);obtain⟨⟨l,o,G⟩,H⟩:∃h,a[b].ha=h:=⟨_,rfl⟩;obtain⟨⟨I,K,L⟩,Y⟩:∃h,a[b].hk=h:=⟨_,rfl⟩;rw[H]at n av;rw[Y]at aD aw;have aI:ac i (ab d (b*3+1)) (U l o G):=n;have aJ:ac i (ab d (b*3+2)) (U I K L):=aD;have bi:Hid (∀e,ag c e->Calls Tryz.prog 53 #[U l o G] e λf g=>∃k j,f=.returned (U k a[b].ra.length j)/\ag e g/\g.ownsRow e.heap.size 111 6 (U k a[b].ra.length j) a[b].ra.length (a[b].ra.flatMap RA.cells)):=av;have bj:Hid (∀e,ag c e->Calls Tryz.prog 54 #[U I K L] e λf g=>∃k j,f=.returned (U k a[b].key.length j)/\ag e g/\g.ownsRow e.heap.size 3 1 (U k a[b].key.length j) a[b].key.length (a[b].key.flatMap cj)):=aw;clear M P aB aC aU aV aj az aA ak n aD aE H Y av aw a2 a3 a4 a7 a8;go_region_with
  (
   first
   |(go_at_call 53;refine(bi.out _ ?_).mono ?_;(first|exact aK.out|exact D.out.drew);rintro f Q ⟨R,S,rfl,ao,aW⟩;have E:Hid (ag i Q):=(by first|exact C.out.trans ao|exact(ag.refl i).drew.trans ao);have aL:Hid (ag c Q):=D.out.trans E.out;have aX:Hid (Q.ownsRow c.heap.size 111 6 (U R a[b].ra.length S) a[b].ra.length (a[b].ra.flatMap RA.cells)):=World.ownsRow.mono aW (by first|exact aK.out.size|exact D.out.size);have e:=Z ao;have e:=(E.out.cells _ _ B).trans aI;have e:=(E.out.cells _ _ B).trans aJ;have e:Q.frozen? (ab d (b*3+1))=false:=(E.out.frees _ _ B).trans aF;have e:Q.frozen? (ab d (b*3+2))=false:=(E.out.frees _ _ B).trans aG;clear ao aW)
   |(go_at_call 54;refine(bj.out _ ?_).mono ?_;(first|exact aL.out|exact D.out.drew);rintro f F ⟨T,V,rfl,sk,Q⟩;have C:Hid (ag i F):=(by first|exact E.out.trans sk|exact(ag.refl i).drew.trans sk);have aK:Hid (ag c F):=D.out.trans C.out;have aY:Hid (F.ownsRow c.heap.size 3 1 (U T a[b].key.length V) a[b].key.length (a[b].key.flatMap cj)):=World.ownsRow.mono Q (by first|exact aL.out.size|exact D.out.size);have aZ:=Z sk;have e:=(C.out.cells _ _ B).trans aI;have e:=(C.out.cells _ _ B).trans aJ;have e:F.frozen? (ab d (b*3+1))=false:=(C.out.frees _ _ B).trans aF;have e:F.frozen? (ab d (b*3+2))=false:=(C.out.frees _ _ B).trans aG;clear sk Q))
 all_goals
  obtain⟨e,k⟩:=aq ((F.setCell (ab d (b*3+1)) (U R a[b].ra.length S)).setCell (ab d (b*3+2)) (U T a[b].key.length V));rw[<-k];have j:=El W N.out D.out C.out (aH aZ.out aX.out) aY.out;rw[<-k]at j;have B:=Z j.1;have l:=j.2 _ _ _ bb.out au au au;have n:=j.2 _ _ _ bf.out au au au;have i:=j.2 _ _ _ bg.out au au au;have o:=j.2 _ _ _ bh.out au au au;have m:ac e (am m 2) (.func (.func p) #[] #[]):=o.cell 2;have m:ac e (ab (c.heap.size+1) 0) r:=i.cell 0;have m:ac e (ab (c.heap.size+1) 1) t:=i.cell 1;have m:ac e (ab (c.heap.size+1) 2) u:=i.cell 2;have m:ac e (ab (c.heap.size+1) 3) w:=i.cell 3;have m:ac e (ab (c.heap.size+1) 4) x:=i.cell 4;have m:ac e (ab (c.heap.size+1) 5) y:=i.cell 5;have m:ac e (ab (c.heap.size+1) 6) z:=i.cell 6;have m:ac e (ab (c.heap.size+1) 7) A:=i.cell 7;have bk:=Z l;have bl:=Z n;have bm:Hid (Calls Tryz.prog p #[.pointer (some ⟨d,b*3,none⟩),.agg #[r,t,u,w,x,y,z,A],X] e λf g=>f=.returned (.tuple #[])/\lW c g d q (a.set b ⟨a[b].name,⟨R,a[b].ra.length,S⟩,a[b].ra,⟨T,a[b].key.length,V⟩,a[b].key⟩) b ap/\cV e g):=a1.out e d q _ ⟨a[b].name,⟨R,a[b].ra.length,S⟩,a[b].ra,⟨T,a[b].key.length,V⟩,a[b].key⟩ rfl rfl rfl B.out;clear j l n i o k aI aJ aF aG;go_wp2_with fail
  refine bm.out.mono ?_;rintro f Q ⟨rfl,aW,ao⟩;have f:=ao _ _ _ bk.out au au au;have e:=ao _ _ _ bl.out au au au;have u0:ac Q (am ah 0) (U (some ⟨d,0,none⟩) a.length q):=f.cell 0;have u1:ac Q (ab (c.heap.size+1+1) 0) aa:=e.cell 0;have u2:Q.frozen? (ab (c.heap.size+1+1) 0)=false:=e.frozen 0;have bn:=Z aW;have bo:=Z e;clear aW ao f e;go_wp2_with fail
  obtain⟨f,g,bp,i,k,e,j⟩:=bn.out;rw[List.set_set]at g;have e:(a.set b f).length=a.length:=List.length_set ..;have c:c.heap.size<=c.heap.size+1+1:=ae
  have c:=g.Ek bo.out au au au c 0 (U (some ⟨d,0,none⟩) a.length q);have i:=c.tabs (by rw[e];omega) ae ae (λg j=>⟨Ej (i g j).1 u1 _,(i g j).2⟩) k (λan g i=>by
   rw[List.getElem_set_ne ae];exact(a0.out.2 _ (List.getElem_mem (by rw[e]at g;exact g))).same c.s)
  rw[e]at i;refine bodyPost_ret (v:=.tuple #[.agg #[U (some ⟨d,0,none⟩) a.length q],O 0]) ?_ rfl ⟨⟨some ⟨d,0,none⟩,a.length,q⟩,a.set b f,rfl,i,?_,c.s,iM.set c.kr⟩
  ·simp[results,Tryz.results31,go_sem,u0,u1,u2]
  rw[List.map_set,bp]
theorem Em {d:af} {a:RT} (e:fw d a) (g:∀b∈a.ra,b.at_.was.length<=1000000) (b:mc a.tb):jv d a:=by
 have d:a.tb.attrs.length=a.ra.length:=by simp[RT.tb]
 refine⟨e.1.2,e.2.2,?_,b.D6,?_,g⟩
 ·have:=b.rZ;omega
 intro d i;obtain⟨c,f,rfl⟩:=List.mem_iff_getElem.1 i;have:=(oR.1 (b.key c f)).1;have b:=b.rZ;have a:a.tb.key.getD c 0=a.key[c]:=by show a.key.getD c 0=_;rw[List.getD_eq_getElem?_getD,List.getElem?_eq_getElem f];rfl
 rw[a]at this;omega
theorem jv.congr {e:af} {b c:RT} (a:jv e b) (g:c.name=b.name) (d:c.ra=b.ra) (f:c.key=b.key):jv e c:=
 ⟨by rw[d];exact a.ras,by rw[g];exact a.nm,by rw[d];exact a.al,by rw[f];exact a.kl,by rw[f];exact a.kb,by rw[d];exact a.few⟩
theorem me {a b:RT} (c:b.name=a.name) (d:b.ra=a.ra) (e:b.key=a.key):b.tb=a.tb:=by
 unfold RT.tb;rw[c,d,e]
def v7 (d:Nat) (e:List RT) (f:List Tb) (a:Int) (g:af) (b:Ending):Prop:=
 (a≠0/\b=.returned (.tuple #[.agg #[aa],a]))\/(a=0/\∃(c:Hd) (a:List RT),b=.returned (.tuple #[.agg #[c.val],O 0])/\bI g c a/\a.map RT.tb=f/\iM d e a)
theorem En (h:Hd) (b:List RT) (a:Cg) (d:af) (l:bI d h b) (u:dh b) (p:aG a.name) (y:aG a.dflt.s):
 Calls Tryz.prog 31 #[.agg #[h.val],a.val] d λm f=>v7 d.heap.size b (gC (b.map RT.tb) a) (dj (b.map RT.tb) a) f m/\ag d f:=by
 by_cases o:dj (b.map RT.tb) a=0
 ·obtain⟨B,g,c,t,z,A,v,C⟩:=rY o
  have n:c<b.length:=by simpa using t
  have w:(b.map RT.tb)[c]=b[c].tb:=ai
  rw[w]at v C A;obtain⟨A,C⟩:=vU.1 g;have q:b.length<=20:=by simpa using A
  have A:=(C c t).1;rw[w]at A;have C:=l.2 _ (List.getElem_mem n);have i:=Em C (u _ (List.getElem_mem n)) A;have A:b[c].tb.attrs.length=b[c].ra.length:=by simp[RT.tb]
  have A:=(nj b[c].tb.attrs a.attr).2;have r:∀m f,(∃(j:Hd) (e:List RT),m=.returned (.tuple #[.agg #[j.val],O 0])/\bI f j e/\e.map RT.tb=(b.map RT.tb).set c (dt b[c].tb a)/\ag d f/\iM d.heap.size b e)->v7 d.heap.size b (gC (b.map RT.tb) a) (dj (b.map RT.tb) a) f m/\ag d f:=by
   rintro m f ⟨e,j,k,x,A,C,D⟩;refine⟨.inr ⟨o,e,j,k,x,?_,D⟩,C⟩;rw[A];unfold gC;rw[z,Int.toNat_natCast,<-uP _ c t,w]
  have j:Rt 51 #[.agg #[h.val],a.val] d (.tuple #[eI a.kind,c,O (bH b[c].tb.attrs a.attr),O 0]):=by
   intro e k;refine(v6 h b a e (l.same k) u p).mono ?_;rintro m f ⟨⟨e,e,t,e⟩,w⟩;obtain⟨k,e⟩:=e o;rw[z]at k e;rw[Int.toNat_natCast,List.getElem?_eq_getElem n]at e;rw[t,k,e,o];exact⟨rfl,w⟩
  have x:a.kind≠1->∃k:Nat,bH b[c].tb.attrs a.attr=k/\k<b[c].ra.length:=λh=>⟨(bH b[c].tb.attrs a.attr).toNat,(Int.toNat_of_nonneg (v h)).symm,by have:=v h;omega⟩;rcases vW B with e|e|e|e
  ·have g:eI a.kind=.agg #[.bool false,bt 245,bt 248,bt 249]:=by simp[eI,e,gQ]
   rw[g]at j;refine(qj _ _ _ rfl rfl rfl 248 (enters_of Tryz.func248 ak rfl) h b a d l q c n _ i (dt b[c].tb a) j ?_).mono r;intro t t t t t t v w z;have:=Eb a (bH b[c].tb.attrs a.attr) z (i.congr t v w) e p y;rw[me t v w]at this;exact this
  ·obtain⟨k,z,A⟩:=x ae
   have g:eI a.kind=.agg #[.bool true,bt 250,bt 251,bt 253]:=by simp[eI,e,gR]
   rw[g]at j;refine(qj _ _ _ rfl rfl rfl 251 (enters_of Tryz.func251 ak rfl) h b a d l q c n _ i (dt b[c].tb a) j ?_).mono r;intro t t t t t v t w B;rw[z];have:=Ee a k B (i.congr v t w) e (by rw[t];exact A) (by rw[me v t w];exact z);rw[me v t w]at this;exact this
  ·obtain⟨k,z,A⟩:=x ae
   have g:eI a.kind=.agg #[.bool true,bt 255,bt 256,bt 258]:=by simp[eI,e,gS]
   rw[g]at j;refine(qj _ _ _ rfl rfl rfl 256 (enters_of Tryz.func256 ak rfl) h b a d l q c n _ i (dt b[c].tb a) j ?_).mono r;intro t t t t t v t w B;rw[z];have:=Ed a k B (i.congr v t w) e (by rw[t];exact A) (by rw[me v t w];exact z) p;rw[me v t w]at this;exact this
  obtain⟨k,t,v⟩:=x ae;have g:eI a.kind=.agg #[.bool true,bt 259,bt 260,bt 261]:=by simp[eI,e,gT]
  rw[g]at j;refine(qj _ _ _ rfl rfl rfl 260 (enters_of Tryz.func260 ak rfl) h b a d l q c n _ i (dt b[c].tb a) j ?_).mono r;intro c c c c c g c j n;rw[t];have:=Ec a k n (i.congr g c j) e (by rw[c];exact v) (by rw[me g c j];exact t) y;rw[me g c j]at this;exact this
 refine(Ef h b a d l u p o).mono ?_;rintro m f ⟨a,b⟩;exact⟨.inl ⟨o,a⟩,b⟩
end Go.Proofs.YteamkimbmdgdbaaGreatDoor

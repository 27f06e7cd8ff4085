import Derived.Test.YteamkimbmdgdbaaGreatDoorK22
set_option linter.unusedSimpArgs false
set_option linter.unusedVariables false
set_option maxHeartbeats 16000000
set_option maxRecDepth 100000
namespace Go.Proofs.YteamkimbmdgdbaaGreatDoor
open Go.Proofs.Tryz
open Go.RowKit
def rc (d:aA) (a e f:Int) (g:Ending):Prop:=∃b c:Int,g=.returned (.tuple #[d,b,c,a])/\(a=0->b=e/\c=f)
structure pE (b:Nat) (sl:aA) (cs es:aP) (W:ah):Prop where
 s:ae W (ac b 0) sl
 c:∀j v,cs[j]?=some v->ae W (ac (b+1) j) v
 e:∀j v,es[j]?=some v->ae W (ac (b+1+1) j) v
 f:∀j,W.frozen? (ac (b+1+1) j)=false
 z:b+3<=W.heap.size
 k:aa W (b+1+1) 143 es.toArray
theorem pE.same {a:Nat} {b:aA} {cs d:aP} {W g:ah} (h:pE a b cs d W) (t:ag W g):pE a b cs d g:=
 have g:=h.z
 ⟨(t.cells _ _ af).trans h.s,λa b d=>(t.cells _ _ af).trans (h.c a b d),λa b d=>(t.cells _ _ af).trans (h.e a b d),λa=>(t.frees _ _ af).trans (h.f a),bJ g t.size,(t.block _ af).trans h.k⟩
theorem rd (b:ah) (a:Nat) (d e f g:aA) (c:Addr) (h:c.block≠a):
 ((((b.setCell (ac a 0) d).setCell (ac a 1) e).setCell (ac a 2) f).setCell (ac a 3) g).cell? c=b.cell? c:=by
 have a:=λb d e=>World.cell?_of_block (Below.heap_setCell b ⟨a,d,none⟩ e c.block h);rw[a,a,a,a]
theorem hW {f:ah} {a:Nat} {g:aX} {i j k l:aA} (b c d e:aA) (h:aa f a g #[i,j,k,l]):
 aa ((((f.setCell (ac a 0) b).setCell (ac a 1) c).setCell (ac a 2) d).setCell (ac a 3) e) a g #[b,c,d,e]:=
 (((h.aR 0 b).aR 1 c).aR 2 d).aR 3 e
theorem re (nb M:Bool) (l n o:Nat) (h:Hd) (b:List RT) (c:Cg) (aW:RT->Int->Int) (a:ah) (N:bI a h b) (ba:cL b)
 (bb:Rs 101 #[c.val] (.tuple #[.agg #[nb,bz l,bz n,bz o],M]))
 (bc:∀bc a,(callFunc l bc).run prog a=.ok (.enter l bc) a)
 (P:∀(d:Nat) (aK:d<b.length) (ab:Int) i,ag a i->(nb=true->0<=ab/\ab<b[d].ra.length)->Calls prog l #[b[d].val,c.val,ab] i λH w'=>H=.returned (J (aW b[d] ab))/\ag i w')
 (K:Int) (bd:M=false->K=1) (bh:gf (b.map RT.tb)=false->K=1) (bj:M=true->gf (b.map RT.tb)=true->cE (b.map RT.tb) c.table<0->K=11)
 (bk:M=true->gf (b.map RT.tb)=true->∀(d:Nat) (aK:d<b.length),cE (b.map RT.tb) c.table=d->nb=true->bu b[d].tb.attrs c.attr<0->K=11)
 (bl:M=true->gf (b.map RT.tb)=true->∀(d:Nat) (aK:d<b.length),cE (b.map RT.tb) c.table=d->(nb=true->¬bu b[d].tb.attrs c.attr<0)->K=aW b[d] (bu b[d].tb.attrs c.attr)):
 Calls prog 51 #[.agg #[h.val],c.val] a λH w'=>
  rc (.agg #[nb,bz l,bz n,bz o]) K (cE (b.map RT.tb) c.table) (match b[(cE (b.map RT.tb) c.table).toNat]? with|some Q=>bu Q.tb.attrs c.attr|none=>0) H/\ag a w':=by
 have aX:=Z (λi (e:ag a i)=>GX h b i (N.same e) ba);have aL:=Z (λi (e:ag a i)=>sd h b c.table i (N.same e));have aY:=Z (λi (e:ag a i) (d:Nat) (aK:d<b.length)=>qq b[d] c.attr i ((N.2 _ (List.getElem_mem aK)).same e));have bm:=Z (λ(i:ah) (e:ag a i)=>(N.same e).1);have bn:=Z bb;have bo:=Z P;have bp:=Z bd;have a0:=Z bh;have ap:=Z bj;have aq:=Z bk;have ar:=Z bl;have bq:=N.1.1;have bS:=N.1.2.1;have a1:cE (b.map RT.tb) c.table<b.length:=by have:=(lW (λQ:Tb=>decide (Q.name=c.table)) (b.map RT.tb)).2;rw[List.length_map]at this;exact this
 have a2:-1<=cE (b.map RT.tb) c.table:=(lW (λQ:Tb=>decide (Q.name=c.table)) (b.map RT.tb)).1;clear N ba bb P bd bh bj bk bl;obtain⟨d,x,q,A,B,⟨C,D,E⟩⟩:=c;simp only at aL aY ap aq ar a1 a2⊢;obtain⟨I,ca,y⟩:=h;simp only at bq bS;subst bq;generalize bT:cE (b.map RT.tb) x=ad at aL ap aq ar a1 a2⊢;generalize gf (b.map RT.tb)=br at aX a0 ap aq ar;clear bT;generalize bs:rc (.agg #[nb,bz l,bz n,bz o]) K ad (match b[ad.toNat]? with|some Q=>bu Q.tb.attrs q|none=>0)=bt;have HO:=Z bs;clear bs;have bv:Hid (Rt 22 #[.agg #[O I b.length y]] a (.bool br)):=aX;have bw:Hid (Rt 41 #[.agg #[O I b.length y],x] a ad):=aL;have bx:Hid (Rs 101 #[.agg #[d,x,q,A,B,C,D,E]] (.tuple #[.agg #[nb,.func (.func l) #[] #[],.func (.func n) #[] #[],.func (.func o) #[] #[]],M])):=bn;clear aX aL bn;show Calls prog 51 #[.agg #[O I b.length y],.agg #[d,x,q,A,B,C,D,E]] a _;go_enter func51,ntmps51
 go_wp2_with fail
 refine(bx _).mono ?_;rintro H w1 ⟨rfl,L⟩;have bU:=L.cells;have bV:=L.frees;have Z1:a.heap.size+3<=w1.heap.size:=by have:=L.size;simp at this;omega
 go_upto_region 2 with(fail)
 obtain⟨wq,hwq⟩:=av ((((w1.setCell (ac (a.heap.size+1+1) 0) (.bool nb)).setCell (ac (a.heap.size+1+1) 1) (.func (.func l) #[] #[])).setCell (ac (a.heap.size+1+1) 2) (.func (.func n) #[] #[])).setCell (ac (a.heap.size+1+1) 3) (.func (.func o) #[] #[]));rw[<-hwq];have N:ag a wq:=by
  rw[hwq];repeat (with_reducible refine ag.setCell ?_ aG _)
  exact((((ag.refl a).alloc _).alloc _).alloc _).trans L
 have aM:Hid (pE a.heap.size (O I b.length y) [.int .i64 d,.string x,.string q,.string A,.int .i64 B,.int .i64 C,.int .i64 D,.string E] [.bool nb,.func (.func l) #[] #[],.func (.func n) #[] #[],.func (.func o) #[] #[]] wq):=by
  have g:(a.alloc (.cells #[O I b.length y] 29)).heap.size=a.heap.size+1:=aj
  have m:((a.alloc (.cells #[O I b.length y] 29)).alloc (.cells #[d,x,q,A,B,C,D,E] 99)).heap.size=a.heap.size+1+1:=aj
  have p:=((aa.new a 29 #[O I b.length y]).alloc (.cells #[d,x,q,A,B,C,D,E] 99)).alloc (.cells #[.bool false,.nilFunc,.nilFunc,.nilFunc] 143);have e:=(aa.new (a.alloc (.cells #[O I b.length y] 29)) 99 #[d,x,q,A,B,C,D,E]).alloc (.cells #[.bool false,.nilFunc,.nilFunc,.nilFunc] 143);have f:=aa.new ((a.alloc (.cells #[O I b.length y] 29)).alloc (.cells #[d,x,q,A,B,C,D,E] 99)) 143 #[.bool false,.nilFunc,.nilFunc,.nilFunc];rw[g]at e;rw[m]at f;have bb1:aa w1 a.heap.size 29 #[O I b.length y]:=(L.block _ aF).trans p;have bb2:aa w1 (a.heap.size+1) 99 #[d,x,q,A,B,C,D,E]:=(L.block _ aj).trans e;have e:aa w1 (a.heap.size+1+1) 143 #[.bool false,.nilFunc,.nilFunc,.nilFunc]:=(L.block _ aj).trans f;have hb2:=hW (.bool nb) (.func (.func l) #[] #[]) (.func (.func n) #[] #[]) (.func (.func o) #[] #[]) e;exact yl
 have aN:=Z N;clear hwq N bU bV Z1 L;cases M
 case false=>
  have iX:=Z (bp rfl);obtain⟨-,-,e,p,r,-⟩:=aM.out;have e0:=e 0 _ rfl;have f:=e 1 _ rfl;have g:=e 2 _ rfl;have m:=e 3 _ rfl;clear e;go_wp2_with fail
  refine bodyPost_ret (v:=.tuple #[.agg #[nb,.func (.func l) #[] #[],.func (.func n) #[] #[],.func (.func o) #[] #[]],J 0,J 0,J 1]) ?_ rfl ⟨?_,?_⟩
  ·simp[results,results51,go_sem,e0,f,g,m]
  ·exact td
  repeat with_reducible first|refine ag.setCell ?_ aG _|refine ag.drew ?_
  exact aN
 have bA:=Z (ap rfl);have bB:=Z (aq rfl);have bC:=Z (ar rfl);clear bp ap aq ar;obtain⟨F,-,-,m,u,-⟩:=aM.out;go_wp2_with fail
 refine(bv _ aN).mono ?_;rintro H I ⟨rfl,a3⟩;have aO:=Z (aN.trans a3);have aP:=Z (aM.same a3);clear a3 aM aN F m u;cases br
 case false=>
  have iX:=Z (a0 rfl);obtain⟨-,-,e,m,u,-⟩:=aP.out;have e0:=e 0 _ rfl;have f:=e 1 _ rfl;have g:=e 2 _ rfl;have p:=e 3 _ rfl;clear e;go_wp2_with fail
  refine bodyPost_ret (v:=.tuple #[.agg #[nb,.func (.func l) #[] #[],.func (.func n) #[] #[],.func (.func o) #[] #[]],J 0,J 0,J 1]) ?_ rfl ⟨?_,?_⟩
  ·simp[results,results51,go_sem,e0,f,g,p]
  ·exact td
  repeat with_reducible first|refine ag.setCell ?_ aG _|refine ag.drew ?_
  exact aO
 have bD:=Z (bA rfl);have bE:=Z (bB rfl);have bF:=Z (bC rfl);clear a0 bA bB bC;obtain⟨F,f,e,m,u,-⟩:=aP.out;have bW:=f 1 _ rfl;clear e f;go_wp2_with fail
 refine(bw _ aO).mono ?_;rintro H w ⟨rfl,a4⟩;have au:=Z (aO.trans a4);have a5:=Z (aP.same a4);clear a4 aP aO bW F m u;by_cases bG:ad<0
 ·obtain⟨-,-,e,m,u,-⟩:=a5.out
  have e0:=e 0 _ rfl;have g:=e 1 _ rfl;have p:=e 2 _ rfl;have r:=e 3 _ rfl;have iX:=Z (bD bG);clear e;go_wp2_with fail
  refine bodyPost_ret (v:=.tuple #[.agg #[nb,.func (.func l) #[] #[],.func (.func n) #[] #[],.func (.func o) #[] #[]],J 0,J 0,J 11]) ?_ rfl ⟨?_,?_⟩
  ·simp[results,results51,go_sem,e0,g,p,r]
  ·exact td
  repeat with_reducible first|refine ag.setCell ?_ aG _|refine ag.drew ?_
  exact au
 obtain⟨g,rfl⟩:∃g:Nat,ad=g:=⟨ad.toNat,by omega⟩;have ai:g<b.length:=by omega
 obtain⟨r,t,bX,I,L⟩:=(bm a (ag.refl _)).2.2 g ai;have aw:=λj v hv=>(au.cells r (t+g*3+j) I).trans (L j v hv);have bH:=aV I au.size;have bJ:=Z I;clear L I;subst bX;obtain⟨F,f,e,m,u,-⟩:=a5.out;have bK:=f 2 _ rfl;have aQ:=λi ax=>aY i ax g ai;have P:=λab i ax=>bo g ai ab i ax;have aR:=bE g ai rfl;have az:=bF g ai rfl;have aA:Hid (bt=rc (.agg #[nb,bz l,bz n,bz o]) K g (bu b[g].tb.attrs q)):=by
  show bt=_;rw[<-HO.out];simp[ai]
 obtain⟨tq,I⟩:=av (b[g]);simp only[<-I]at aw aQ P aR az aA;clear I;generalize bL:bu tq.tb.attrs q=p at aQ aR az aA;have bM:p<tq.ra.length:=by rw[<-bL];have:=(ou tq.tb.attrs q).2;rw[show tq.tb.attrs.length=tq.ra.length by simp[RT.tb]]at this;exact this
 clear bL;have bY:=Z bM;generalize bZ:aW tq=a6 at P az;have b0:tq.ra.length=tq.ra.length:=rfl;obtain⟨R,⟨S,T,U⟩,a7,⟨V,W,X⟩,cb⟩:=tq;simp only at bM;have ak:=aw 0 R rfl;have aB:=aw 1 (O S T U) rfl;have aC:=aw 2 (O V W X) rfl;simp only[Nat.add_zero]at ak;have bN:Hid (Rt 55 #[.agg #[R,O S T U,O V W X],q] a p):=aQ;have bO:Hid (∀i,ag a i->(nb=true->0<=p/\p<a7.length)->Calls prog l #[.agg #[R,O S T U,O V W X],.agg #[d,x,q,A,B,C,D,E],p] i λH w'=>H=.returned (J (a6 p))/\ag i w'):=P p;have b1:=Z aR;have bP:=Z az;clear aw aQ P aR az bZ bD bE bF aY bm bo bv bw bx HO a1 a2 bG b0 e f;have a8:Hid (ae w (ac r (t+g*3)) R/\ae w (ac r (t+g*3+1)) (O S T U)/\ae w (ac r (t+g*3+2)) (O V W X)):=⟨ak,aB,aC⟩;have aT:=Z bH;have b2:=aH F;have b3:=aH ak;have b4:=aH aB;have b5:=aH aC;have b6:=aH bK;have bQ:=kZ (λi ax=>bN i (au.trans ax));clear F ak aB aC bK m u bH;go_wp2_with fail
 refine wp_region_quiet_below am am ?_;repeat (go_big_quiet_step (first|(go_at_call 55;exact bQ _ _)))
 refine wpQuiet_nil ?_;intro _ b7;obtain⟨⟨G,osq⟩,b8⟩:=b7;subst b8;have al:=Z (au.trans (ag.reg w G osq));have an:=Z (a5.same (ag.reg w G osq));have a9:Hid (r<(Sort.grow (redrawn w G) osq).heap.size):=aV aT (ag.reg w G osq).size;have Y:Hid ((Sort.grow (redrawn w G) osq).cell? (ac r (t+g*3))=some (.string R)/\(Sort.grow (redrawn w G) osq).cell? (ac r (t+g*3+1))=some (.slice S T U)/\(Sort.grow (redrawn w G) osq).cell? (ac r (t+g*3+2))=some (.slice V W X)):=
  ⟨((ag.reg w G osq).cells _ _ aT.out).trans a8.out.1,((ag.reg w G osq).cells _ _ aT.out).trans a8.out.2.1,((ag.reg w G osq).cells _ _ aT.out).trans a8.out.2.2⟩
 generalize Sort.grow (redrawn w G) osq=s at al an Y a9⊢;clear b2 b3 b4 b5 b6 bQ bN;obtain⟨F,f,e,m,u,-⟩:=an.out;have e0:=e 0 _ rfl;have aD:=e 1 _ rfl;have aE:=e 2 _ rfl;have aI:=e 3 _ rfl;cases nb
 case true=>
  by_cases w:p<0
  ·have iX:=Z (b1.out rfl w)
   clear f e;go_wp2_with fail
   refine bodyPost_ret (v:=.tuple #[.agg #[.bool true,.func (.func l) #[] #[],.func (.func n) #[] #[],.func (.func o) #[] #[]],J 0,J 0,J 11]) ?_ rfl ⟨?_,?_⟩
   ·simp[results,results51,go_sem,e0,aD,aE,aI]
   ·rw[aA.out]
    exact⟨0,0,by rw[iX.out];rfl,λh=>by rw[iX.out]at h;cases h⟩
   repeat with_reducible first|refine ag.setCell ?_ aG _|refine ag.drew ?_
   exact al
  have b9:Hid (true=true->0<=p/\p<a7.length):=λ_=>⟨by omega,bY.out⟩;have iX:=Z (bP (λ_=>by omega));clear f e m u F aD aE aI;go_upto_region 10 with(fail)
  clear e0;obtain⟨F,f,e,m,u,-⟩:=an.out;have e0:=e 0 _ rfl;have aD:=e 1 _ rfl;have aE:=e 2 _ rfl;have aI:=e 3 _ rfl;have w:=f 0 _ rfl;have w:=f 1 _ rfl;have w:=f 2 _ rfl;have w:=f 3 _ rfl;have w:=f 4 _ rfl;have w:=f 5 _ rfl;have w:=f 6 _ rfl;have w:=f 7 _ rfl;have ak:=Y.1;have aB:=Y.2.1;have aC:=Y.2.2;clear f e;have w:=m 0;have w:=m 1;have w:=m 2;have w:=m 3;have w:a.heap.size<s.heap.size:=af
  have w:a.heap.size+1<s.heap.size:=af
  have w:a.heap.size+1+1<s.heap.size:=af
  have w:=a9.out;clear m u;go_region_held3 (λw'=>ae w' (ao a 0) (O (some ⟨r,t,none⟩) b.length y)/\ae w' (ac r (t+g*3)) R/\ae w' (ac r (t+g*3+1)) (O S T U)/\ae w' (ac r (t+g*3+2)) (O V W X)/\ae w' (ac (a.heap.size+1) 0) d/\ae w' (ac (a.heap.size+1) 1) x/\ae w' (ac (a.heap.size+1) 2) q/\ae w' (ac (a.heap.size+1) 3) A/\ae w' (ac (a.heap.size+1) 4) B/\ae w' (ac (a.heap.size+1) 5) C/\ae w' (ac (a.heap.size+1) 6) D/\ae w' (ac (a.heap.size+1) 7) E/\ae w' (ac (a.heap.size+1+1) 0) (.bool true)/\ae w' (ac (a.heap.size+1+1) 1) (.func (.func l) #[] #[])/\ae w' (ac (a.heap.size+1+1) 2) (.func (.func n) #[] #[])/\ae w' (ac (a.heap.size+1+1) 3) (.func (.func o) #[] #[])/\w'.frozen? (ac (a.heap.size+1+1) 0)=false/\w'.frozen? (ac (a.heap.size+1+1) 1)=false/\w'.frozen? (ac (a.heap.size+1+1) 2)=false/\w'.frozen? (ac (a.heap.size+1+1) 3)=false) (first|(simp[*];done)|((repeat' apply And.intro)<;>(first|(simp[*];done)|(rw[rd _ _ _ _ _ _ _ (by dsimp only;have:=bJ.out;omega)];simp[*];done)|exact(hW _ _ _ _ z.out).cell 0|exact(hW _ _ _ _ z.out).cell 1|exact(hW _ _ _ _ z.out).cell 2|exact(hW _ _ _ _ z.out).cell 3))|go_keep)
   (first|(refine(bO.out _ ?_ b9.out).mono ?_;exact al.out.drew;rintro H bR ⟨rfl,aJ⟩;have aU:=Z (al.out.drew.trans aJ);have G:∀d w,d<s.heap.size->bR.cell? (ac d w)=s.cell? (ac d w):=aJ.cells;have w:∀d w,d<s.heap.size->bR.frozen? (ac d w)=s.frozen? (ac d w):=aJ.frees;have z:=Z (an.out.same ((ag.refl s).drew.trans aJ)).k;clear aJ))
  all_goals
   go_wp2;have w:=hW (.bool true) (.func (.func l) #[] #[]) (.func (.func n) #[] #[]) (.func (.func o) #[] #[]) z;have u0:=ay w;have u1:=aS w;have u2:=aZ w;have u3:=bi w;refine bodyPost_ret (v:=.tuple #[.agg #[.bool true,.func (.func l) #[] #[],.func (.func n) #[] #[],.func (.func o) #[] #[]],g,p,J (a6 p)]) ?_ rfl ⟨?_,?_⟩
   ·simp[results,results51,go_sem,u0,u1,u2,u3]
   ·rw[aA.out]
    exact⟨g,p,by rw[iX.out];rfl,λ_=>⟨rfl,rfl⟩⟩
   repeat with_reducible first|refine ag.setCell ?_ aG _|refine ag.drew ?_
   exact aU
 have b9:Hid (false=true->0<=p/\p<a7.length):=λh=>by cases h
 have iX:=Z (bP (λh=>by cases h));clear f e m u F aD aE aI;go_upto_region 10 with(fail)
 clear e0;obtain⟨F,f,e,m,u,-⟩:=an.out;have e0:=e 0 _ rfl;have aD:=e 1 _ rfl;have aE:=e 2 _ rfl;have aI:=e 3 _ rfl;have w:=f 0 _ rfl;have w:=f 1 _ rfl;have w:=f 2 _ rfl;have w:=f 3 _ rfl;have w:=f 4 _ rfl;have w:=f 5 _ rfl;have w:=f 6 _ rfl;have w:=f 7 _ rfl;have ak:=Y.1;have aB:=Y.2.1;have aC:=Y.2.2;clear f e;have e:=m 0;have e:=m 1;have e:=m 2;have e:=m 3;have e:a.heap.size<s.heap.size:=af
 have e:a.heap.size+1<s.heap.size:=af
 have e:a.heap.size+1+1<s.heap.size:=af
 have e:=a9.out;clear m u;go_region_held3 (λw'=>ae w' (ao a 0) (O (some ⟨r,t,none⟩) b.length y)/\ae w' (ac r (t+g*3)) R/\ae w' (ac r (t+g*3+1)) (O S T U)/\ae w' (ac r (t+g*3+2)) (O V W X)/\ae w' (ac (a.heap.size+1) 0) d/\ae w' (ac (a.heap.size+1) 1) x/\ae w' (ac (a.heap.size+1) 2) q/\ae w' (ac (a.heap.size+1) 3) A/\ae w' (ac (a.heap.size+1) 4) B/\ae w' (ac (a.heap.size+1) 5) C/\ae w' (ac (a.heap.size+1) 6) D/\ae w' (ac (a.heap.size+1) 7) E/\ae w' (ac (a.heap.size+1+1) 0) (.bool false)/\ae w' (ac (a.heap.size+1+1) 1) (.func (.func l) #[] #[])/\ae w' (ac (a.heap.size+1+1) 2) (.func (.func n) #[] #[])/\ae w' (ac (a.heap.size+1+1) 3) (.func (.func o) #[] #[])/\w'.frozen? (ac (a.heap.size+1+1) 0)=false/\w'.frozen? (ac (a.heap.size+1+1) 1)=false/\w'.frozen? (ac (a.heap.size+1+1) 2)=false/\w'.frozen? (ac (a.heap.size+1+1) 3)=false) (first|(simp[*];done)|((repeat' apply And.intro)<;>(first|(simp[*];done)|(rw[rd _ _ _ _ _ _ _ (by dsimp only;have:=bJ.out;omega)];simp[*];done)|exact(hW _ _ _ _ z.out).cell 0|exact(hW _ _ _ _ z.out).cell 1|exact(hW _ _ _ _ z.out).cell 2|exact(hW _ _ _ _ z.out).cell 3))|go_keep)
  (first|(refine(bO.out _ ?_ b9.out).mono ?_;exact al.out.drew;rintro H bR ⟨rfl,aJ⟩;have aU:=Z (al.out.drew.trans aJ);have b:∀d a,d<s.heap.size->bR.cell? (ac d a)=s.cell? (ac d a):=aJ.cells;have a:∀d a,d<s.heap.size->bR.frozen? (ac d a)=s.frozen? (ac d a):=aJ.frees;have z:=Z (an.out.same ((ag.refl s).drew.trans aJ)).k;clear aJ))
 all_goals
  go_wp2;have a:=hW (.bool false) (.func (.func l) #[] #[]) (.func (.func n) #[] #[]) (.func (.func o) #[] #[]) z;have u0:=ay a;have u1:=aS a;have u2:=aZ a;have u3:=bi a;refine bodyPost_ret (v:=.tuple #[.agg #[.bool false,.func (.func l) #[] #[],.func (.func n) #[] #[],.func (.func o) #[] #[]],g,p,J (a6 p)]) ?_ rfl ⟨?_,?_⟩
  ·simp[results,results51,go_sem,u0,u1,u2,u3]
  ·rw[aA.out]
   exact⟨g,p,by rw[iX.out];rfl,λ_=>⟨rfl,rfl⟩⟩
  repeat with_reducible first|refine ag.setCell ?_ aG _|refine ag.drew ?_
  exact aU
theorem yt {d:Nat} {b:List Int} (h:∀a,a<b.length->gA d b a=true):∀a,a<b.length->(a:Int)<=b.getD a 0
 |0,hj=>by have:=(pF.1 (h 0 hj)).1.1;simpa using this
 |a+1,hj=>by
  have b:=yt h a af;have c:=(pF.1 (h (a+1) hj)).2;rcases c with c|c
  ·omega
  rw[Nat.add_sub_cancel]at c;omega
theorem Hb {b:Nat} {a:List Int} (h:∀c,c<a.length->gA b a c=true):a.length<=b:=by
 rcases Nat.eq_zero_or_pos a.length with d|d
 ·omega
 have b:=yt h (a.length-1) af;have a:=(pF.1 (h (a.length-1) af)).1.2;omega
theorem kT.Hc {a:Tb} (b:kT a):a.key.length<=12:=bJ (Hb b.key) b.tf
section
variable {S:List Tb} {c:Cg}
theorem pG (h:ep c=false):dz S c=1:=by simp[dz,h]
theorem rf (h:gf S=false):dz S c=1:=by simp[dz,h]
theorem rg (a:ep c=true) (b:gf S=true) (h:cE S c.table<0):dz S c=11:=by simp[dz,a,b,h]
theorem He (b:ep c=true) (d:gf S=true) (a:Nat) (e:a<S.length) (h:cE S c.table=a) (f:c.kind≠1) (g:bu S[a].attrs c.attr<0):dz S c=11:=by
 have:¬((a:Int)<0):=af
 simp[dz,b,d,h,this,e,f,g]
theorem rh (d:ep c=true) (e:gf S=true) (a:Nat) (f:a<S.length) (h:cE S c.table=a) (i:c.kind≠1->¬bu S[a].attrs c.attr<0):dz S c=gC S[a] c (bu S[a].attrs c.attr).toNat:=by
 have g:¬((a:Int)<0):=af
 by_cases b:c.kind=1
 ·simp[dz,d,e,h,g,f,b]
 have i:0<=bu S[a].attrs c.attr:=by have:=i b;omega
 have a:¬bu S[a].attrs c.attr<0:=af
 simp[dz,d,e,h,g,f,b,a]
end
def eY (a:Int):Value:=if a=1 then g4 else if a=2 then g5 else if a=3 then g6 else if a=4 then g7 else kS
theorem Hf (a:ax):a.size=0↔a=ByteArray.empty:=by
 constructor
 ·intro h
  apply oc;have:(ba a).length=0:=by rw[eZ];exact h
  rw[List.eq_nil_of_length_eq_zero this];rfl
 rintro rfl;rfl
theorem yu (a:V):V.same a V.zero=(decide (a.k=0)&&(decide (a.n=0)&&decide (a.s.size=0))):=by
 rw[Bool.eq_iff_iff,V.same_iff];simp only[Bool.and_eq_true,decide_eq_true_eq];constructor
 ·rintro rfl;exact⟨rfl,rfl,rfl⟩
 rintro⟨a,b,c⟩;exact V.ext' a b ((Hf _).1 c)
theorem Hg (h:Hd) (c:Cg) (a:ah) (r:c.kind≠1) (s:c.kind≠2) (t:c.kind≠3) (u:c.kind≠4):
 Calls prog 51 #[.agg #[h.val],c.val] a λw y=>w=.returned (.tuple #[kS,J 0,J 0,J 1])/\ag a y:=by
 obtain⟨b,d,e,f,g,⟨i,k,l⟩⟩:=c;obtain⟨m,n,o⟩:=h;have z:=Z (λp=>G6 b d e f g i k l p r s t u);clear r s t u;show Calls prog 51 #[.agg #[O m n o],.agg #[b,d,e,f,g,i,k,l]] a _;go_enter func51,ntmps51
 go_wp2_with fail
 refine(z.out _).mono ?_;rintro w w1 ⟨x,p⟩;unfold kS at x;subst x;have q:=Z p;have A:=p.cells;have B:=p.frees;have Z1:a.heap.size+3<=w1.heap.size:=by have:=p.size;simp at this;omega
 clear p;go_upto_region 2 with(fail)
 obtain⟨wq,hwq⟩:∃wq,wq=(((w1.setCell (ac (a.heap.size+1+1) 0) (.bool false)).setCell (ac (a.heap.size+1+1) 1) .nilFunc).setCell (ac (a.heap.size+1+1) 2) .nilFunc).setCell (ac (a.heap.size+1+1) 3) .nilFunc:=⟨_,rfl⟩;rw[<-hwq];have p:ag a wq:=by
  rw[hwq];repeat (with_reducible refine ag.setCell ?_ aG _)
  exact((((ag.refl a).alloc _).alloc _).alloc _).trans q.out
 have t:Hid (pE a.heap.size (O m n o) [.int .i64 b,.string d,.string e,.string f,.int .i64 g,.int .i64 i,.int .i64 k,.string l] [.bool false,.nilFunc,.nilFunc,.nilFunc] wq):=by
  have u:(a.alloc (.cells #[O m n o] 29)).heap.size=a.heap.size+1:=aj
  have w:((a.alloc (.cells #[O m n o] 29)).alloc (.cells #[b,d,e,f,g,i,k,l] 99)).heap.size=a.heap.size+1+1:=aj
  have x:=((aa.new a 29 #[O m n o]).alloc (.cells #[b,d,e,f,g,i,k,l] 99)).alloc (.cells #[.bool false,.nilFunc,.nilFunc,.nilFunc] 143);have r:=(aa.new (a.alloc (.cells #[O m n o] 29)) 99 #[b,d,e,f,g,i,k,l]).alloc (.cells #[.bool false,.nilFunc,.nilFunc,.nilFunc] 143);have s:=aa.new ((a.alloc (.cells #[O m n o] 29)).alloc (.cells #[b,d,e,f,g,i,k,l] 99)) 143 #[.bool false,.nilFunc,.nilFunc,.nilFunc];rw[u]at r;rw[w]at s;have bb1:aa w1 a.heap.size 29 #[O m n o]:=(q.out.block _ aF).trans x;have bb2:aa w1 (a.heap.size+1) 99 #[b,d,e,f,g,i,k,l]:=(q.out.block _ aj).trans r;have a:aa w1 (a.heap.size+1+1) 143 #[.bool false,.nilFunc,.nilFunc,.nilFunc]:=(q.out.block _ aj).trans s;have hb2:=hW (.bool false) .nilFunc .nilFunc .nilFunc a;exact yl
 have C:=Z p;clear hwq p A B Z1 q;obtain⟨-,-,a,b,d,-⟩:=t.out;have e0:=a 0 _ rfl;have D:=a 1 _ rfl;have E:=a 2 _ rfl;have F:=a 3 _ rfl;clear a;go_wp2_with fail
 refine bodyPost_ret (v:=.tuple #[kS,J 0,J 0,J 1]) ?_ rfl ⟨rfl,?_⟩
 ·simp[results,results51,go_sem,kS,e0,D,E,F]
 repeat with_reducible first|refine ag.setCell ?_ aG _|refine ag.drew ?_
 exact C.out
theorem yw (h:Hd) (a:List RT) (c:Cg) (f:ah) (g:bI f h a) (m:cL a) (u:aJ c.name):
 Calls prog 51 #[.agg #[h.val],c.val] f λi v=>
  rc (eY c.kind) (dz (a.map RT.tb) c) (cE (a.map RT.tb) c.table) (match a[(cE (a.map RT.tb) c.table).toNat]? with|some b=>bu b.tb.attrs c.attr|none=>0) i/\ag f v:=by
 have e3:∀(k:Nat) (hk:k<a.length),(a.map RT.tb)[k]'(by simpa using hk)=a[k].tb:=λk hk=>by simp
 have hl:(a.map RT.tb).length=a.length:=List.length_map _;have w:∀b:RT,b.tb.attrs.length=b.ra.length:=λb=>by simp[RT.tb]
 have r:∀{d:Int} {o:Nat},0<=d/\d<o->∃k:Nat,d=k/\k<o:=λ{d o} h=>⟨d.toNat,by omega,by omega⟩;by_cases h1:c.kind=1
 ·have e:ep c=decide (c.attr.size=0):=by simp[ep,h1]
  have j:eY c.kind=.agg #[.bool false,bz 245,bz 248,bz 249]:=by simp[eY,h1,g4]
  rw[j];refine re false (ep c) _ _ _ h a c (λb d=>gC b.tb c d.toNat) f g m ?_ (enters_of func245 am rfl) ?_ _ pG rf rg ?_ ?_
  ·intro l
   rw[e];obtain⟨k,b,t,x,y,⟨z,A,B⟩⟩:=c;obtain rfl:k=1:=h1;exact G2 b t x y z A B l
  ·intro k hk d e j _
   have:=G0 a[k] c d e ((g.2 _ (List.getElem_mem hk)).same j) u;simpa[gC,h1,w]using this
  ·intro _ _ k hk _ l;cases l
  intro p q k hk hfi _;have:=rh (c:=c) p q k (by rw[hl];exact hk) hfi (λe=>absurd h1 e);rw[e3 k hk]at this;exact this
 by_cases e:c.kind=2
 ·have l:ep c=(decide (c.name.size=0)&&(decide (c.dT=0)&&(decide (c.dflt.k=0)&&(decide (c.dflt.n=0)&&decide (c.dflt.s.size=0))))):=by unfold ep;rw[if_neg h1,if_pos e,yu]
  have o:eY c.kind=.agg #[.bool true,bz 250,bz 251,bz 253]:=by simp[eY,e,g5]
  rw[o];refine re true (ep c) _ _ _ h a c (λb d=>gC b.tb c d.toNat) f g m ?_ (enters_of func250 am rfl) ?_ _ pG rf rg ?_ ?_
  ·intro j
   rw[l];obtain⟨k,b,t,x,y,⟨z,A,B⟩⟩:=c;obtain rfl:k=2:=e;exact G3 b t x y z A B j
  ·intro k hk d t x y
   obtain⟨j,rfl,z⟩:=r (y rfl);have:=GZ a[k] c j t ((g.2 _ (List.getElem_mem hk)).same x);have i:gC a[k].tb c (j:Int).toNat=(if a[k].key.any (λk=>decide (k=(j:Int)))then 1 else 0):=by unfold gC;rw[if_neg h1,if_pos e];rfl
   rw[i];exact this
  ·exact tm
  intro p q k hk hfi hc;have:=rh (c:=c) p q k (by rw[hl];exact hk) hfi (λ_=>by rw[e3 k hk];exact hc rfl);rw[e3 k hk]at this;exact this
 by_cases j:c.kind=3
 ·have o:ep c=(decide (c.dT=0)&&(decide (c.dflt.k=0)&&(decide (c.dflt.n=0)&&decide (c.dflt.s.size=0)))):=by unfold ep;rw[if_neg h1,if_neg e,if_pos j,yu]
  have t:eY c.kind=.agg #[.bool true,bz 255,bz 256,bz 258]:=by simp[eY,j,g6]
  rw[t];refine re true (ep c) _ _ _ h a c (λb d=>gC b.tb c d.toNat) f g m ?_ (enters_of func255 am rfl) ?_ _ pG rf rg ?_ ?_
  ·intro l
   rw[o];obtain⟨k,b,x,y,z,⟨A,B,C⟩⟩:=c;obtain rfl:k=3:=j;exact G4 b x y z A B C l
  ·intro k hk d x y z
   obtain⟨l,rfl,A⟩:=r (z rfl);have:=GY a[k] c l x ((g.2 _ (List.getElem_mem hk)).same y) u;have i:gC a[k].tb c (l:Int).toNat=gB a[k].tb c:=by unfold gC;rw[if_neg h1,if_neg e,if_pos j]
   rw[i];exact this
  ·exact tm
  intro p q k hk hfi hc;have:=rh (c:=c) p q k (by rw[hl];exact hk) hfi (λ_=>by rw[e3 k hk];exact hc rfl);rw[e3 k hk]at this;exact this
 by_cases l:c.kind=4
 ·have o:ep c=decide (c.name.size=0):=by simp[ep,l]
  have u:eY c.kind=.agg #[.bool true,bz 259,bz 260,bz 261]:=by simp[eY,l,g7]
  rw[u];refine re true (ep c) _ _ _ h a c (λb d=>gC b.tb c d.toNat) f g m ?_ (enters_of func259 am rfl) ?_ _ pG rf rg ?_ ?_
  ·intro t
   rw[o];obtain⟨k,b,x,y,z,⟨A,B,C⟩⟩:=c;obtain rfl:k=4:=l;exact G5 b x y z A B C t
  ·intro k hk d x y z
   obtain⟨t,rfl,A⟩:=r (z rfl);have:=G1 a[k] c t x ((g.2 _ (List.getElem_mem hk)).same y) A;have i:gC a[k].tb c (t:Int).toNat=(if hG c&&!decide ((a[k].tb.attrs.map At.kind)[t]?=some c.dT)then 0 else 1):=by unfold gC;rw[if_neg h1,if_neg e,if_neg j];rfl
   rw[i];exact this
  ·exact tm
  intro p q k hk hfi hc;have:=rh (c:=c) p q k (by rw[hl];exact hk) hfi (λ_=>by rw[e3 k hk];exact hc rfl);rw[e3 k hk]at this;exact this
 have b:ep c=false:=by simp[ep,h1,e,j,l]
 have d:eY c.kind=kS:=by simp[eY,h1,e,j,l]
 refine(Hg h c f h1 e j l).mono ?_;rintro i v ⟨e,t⟩;have a:dz (a.map RT.tb) c=1:=pG b;rw[d,a];exact⟨⟨0,0,e,λh=>by cases h⟩,t⟩
structure jM (W0:ah) (t:RT):Prop where
 ras:kK W0 t.ra
 nm:aJ t.name
 al:t.ra.length<=12
 kl:t.key.length<=12
 kb:∀q∈t.key,0<=q/\q<=1000000
 few:∀r∈t.ra,r.at_.was.length<=1000000
section
variable {W0 w w1:ah} {g c i:Nat} {ts:List RT} {t:RT}
theorem bN.same (S:bN W0 w g c ts i t) (s:ag w w1):bN W0 w1 g c ts i t:=
 ⟨S.s.trans s,aK s S.row,S.ti,S.an,aK s S.ar,S.kn,aK s S.kr⟩
theorem bN.Hh (d:bN W0 w g c ts i t):∃a,aa w g 81 a:=by
 obtain⟨d,a,b,_,f,_⟩:=f7 d.row (Nat.lt_of_le_of_lt (Nat.zero_le _) d.lt);injection b with b
 injection b with e
 subst e;exact⟨a,f⟩
theorem ri {a:RT} {b:Tb} (d:jM W0 t) (e:bN W0 w g c (ts.set i a) i a) (f:a.tb=b) (j:kK w a.ra) (k:a.name=t.name) (l:a.ra.length<=13) (l:a.key.length=t.key.length):mx W0 w g c ts i b:=
 ⟨a,e,f,j,by rw[k];exact d.nm,by omega,by have:=d.kl;omega⟩
theorem Hi (b:Cg) (q:Int) (a:bN W0 w g c ts i t) (l:jM W0 t) (y:b.kind=1) (z:aJ b.name) (A:aJ b.dflt.s):
 Calls prog 248 #[.pointer (some ⟨g,i*3,none⟩),b.val,q] w λm n=>m=.returned (.tuple #[])/\mx W0 n g c ts i (dH t.tb b)/\dg w n:=by
 obtain⟨r,u,v,d,e,⟨f,j,k⟩⟩:=b;have b:ae w (ac g (i*3+1)) t.ha.val:=a.cell 1 af;refine(Gq W0.heap.size g (i*3) t.ra.length t.ha.val (t.ra.flatMap RA.cells) q r e f j u v d k w a.pj.2 a.s.size (by have:=l.al;omega) b (a.free _) a.ar (gZ a.ar a.row au)).mono ?_;rintro m n ⟨b,w1,B,x,o,rfl⟩;obtain⟨F,G,rfl⟩:=oS x;refine⟨B,?_⟩;have n:(t.ra++[(⟨⟨d,e,[],⟨f,j,k⟩⟩,⟨none,0,0⟩⟩:RA)]).flatMap RA.cells=t.ra.flatMap RA.cells++[.string d,.int .i64 e,.slice none 0 0,.int .i64 f,.int .i64 j,.string k]:=by
  rw[List.flatMap_append];rfl
 have b:(t.ra++[(⟨⟨d,e,[],⟨f,j,k⟩⟩,⟨none,0,0⟩⟩:RA)]).length=t.ra.length+1:=aj
 have p:=a.hH (ra:=t.ra++[⟨⟨d,e,[],⟨f,j,k⟩⟩,⟨none,0,0⟩⟩]) o (by rw[b,n];exact x);rw[b]at p;obtain⟨b,C⟩:=a.Hh;refine⟨ri l p (Gu t ⟨r,u,v,d,e,⟨f,j,k⟩⟩ y _) ?_ rfl (by simp;have:=l.al;omega) rfl,?_⟩
 case refine_2=>exact((dg.refl w).grown a.ar (.inr (.inl rfl)) o).set (aa.grown C o (λm=>gZ a.ar a.row au m.symm)) (.inl rfl) _ _
 intro D E;rcases cP E with h|h
 ·exact l.ras.same p.s D h
 rw[aC h];exact⟨Gr _,z,A⟩
theorem Hj (b:Cg) (a:Nat) (S:bN W0 w g c ts i t) (d:jM W0 t) (B:b.kind=4) (ha:a<t.ra.length) (C:bu t.tb.attrs b.attr=a) (D:aJ b.dflt.s):
 Calls prog 260 #[.pointer (some ⟨g,i*3,none⟩),b.val,a] w λk n=>k=.returned (.tuple #[])/\mx W0 n g c ts i (dH t.tb b)/\dg w n:=by
 obtain⟨o,p,q,r,e,⟨f,j,l⟩⟩:=b;obtain⟨u,y,kR,b,E,F,G,z⟩:=S.s4 af;have H:ae w (ac g (i*3+1)) (O (some ⟨u,0,none⟩) t.ra.length y):=by
  exact s5
 have m:∀b,b<6->∃m,ae w (ac u (a*6+b)) m:=by
  intro b v;have:=kJ RA.eV z rfl a ha b v;exact⟨_,this.trans (List.getElem?_eq_getElem (show b<(RA.cells t.ra[a]).length from v))⟩
 refine(Gn g (i*3) u a t.ra.length y o e f j p q r l w F E S.pj.2 ha (by have:=d.al;omega) H (m 1 af) (m 3 af) (m 4 af) (m 5 af) G).mono ?_;rintro k n ⟨I,rfl⟩;refine⟨I,?_⟩;have v:=((S.EO (by rw[kR]) (by rw[kR]) a ha e f j l).alloc (.cells #[o,p,q,r,e,f,j,l] 99)).drew;refine⟨ri d v (Gs t ⟨o,p,q,r,e,⟨f,j,l⟩⟩ a ha B C) ?_ rfl (by simp;have:=d.al;omega) rfl,?_⟩
 case refine_2=>
  obtain⟨b,l,x,_,A,_⟩:=f7 z af;injection x with x
  injection x with k
  subst k;have b:=A.aR (a*6+1) e;have e:=b.aR (a*6+3) f;have f:=e.aR (a*6+4) j;exact((((((dg.refl w).set A (.inr (.inl rfl)) _ _).set b (.inr (.inl rfl)) _ _).set e (.inr (.inl rfl)) _ _).set f (.inr (.inl rfl)) _ _).alloc _).drew
 have b:=d.ras _ (List.getElem_mem ha);exact(d.ras.same v.s).set a _ ⟨b.1.same v.s,b.2.1,D⟩
theorem Hk (b:Cg) (a:Nat) (S:bN W0 w g c ts i t) (d:jM W0 t) (F:b.kind=3) (ha:a<t.ra.length) (G:bu t.tb.attrs b.attr=a) (H:aJ b.name):
 Calls prog 256 #[.pointer (some ⟨g,i*3,none⟩),b.val,a] w λe m=>e=.returned (.tuple #[])/\mx W0 m g c ts i (dH t.tb b)/\dg w m:=by
 obtain⟨u,v,x,j,y,⟨z,A,B⟩⟩:=b;obtain⟨f,b,kR,L,I,J,K,n⟩:=S.s4 af;have L:ae w (ac g (i*3+1)) (O (some ⟨f,0,none⟩) t.ra.length b):=by
  exact s5
 have e0:ae w (ac f (a*6)) (.string t.ra[a].at_.name):=kJ RA.eV n rfl a ha 0 af;have M:w.cell? (ac f (a*6+2))=some t.ra[a].h.val:=kJ RA.eV n rfl a ha 2 af;have k:=d.ras _ (List.getElem_mem ha);have N:=d.few _ (List.getElem_mem ha);refine(GD g (i*3) f a t.ra.length b u y z A v x j B t.ra[a].at_.name t.ra[a].h t.ra[a].at_.was w J I S.pj.2 ha (by have:=d.al;omega) L e0 M K (k.1.same S.s) N).mono ?_;rintro e m ⟨l,o,w1,P,C,p,rfl⟩;refine⟨P,?_⟩;obtain⟨b,D⟩:∃b:Hd,b=⟨l,t.ra[a].at_.was.length+1,o⟩:=⟨_,rfl⟩;have q:=((S.same p).EP (by rw[kR]) (by rw[kR]) a ha b (t.ra[a].at_.was++[t.ra[a].at_.name]) j).drew;have m:b.val=.slice l (t.ra[a].at_.was.length+1) o:=by rw[D];rfl
 rw[m]at q;refine⟨ri d q (Gt t ⟨u,v,x,j,y,⟨z,A,B⟩⟩ a ha F G b) ?_ rfl (by simp;have:=d.al;omega) rfl,?_⟩
 case refine_2=>
  obtain⟨b,m,r,_,E,_⟩:=f7 (aK p n) af;injection r with r
  injection r with e
  subst e;exact(((dg.same p).set E (.inr (.inl rfl)) _ _).set (E.aR _ _) (.inr (.inl rfl)) _ _).drew
 refine(d.ras.same q.s).set a _ ⟨⟨?_,?_⟩,H,k.2.2⟩
 ·have r:l≠some ⟨f,0,none⟩:=by
   rintro rfl;have:=(C.lt f rfl).1;omega
  have b:=(pi (pi C r (a*6+2) (O l (t.ra[a].at_.was.length+1) o)) r (a*6) j).drew;rw[D];refine cJ (base:=w.heap.size) (e:=9) (enc:=cq) (λ_=>rfl) aj (by show t.ra[a].at_.was.length+1<=_;omega) ?_;rw[s7];exact b
 intro r E;rcases cP E with h|h
 ·exact k.1.2 r h
 rw[aC h];exact k.2.1
theorem Hl (d:Cg) (a:Nat) (r:bN W0 w g c ts i t) (b:jM W0 t) (u:d.kind=2) (v:a<t.ra.length) (x:bu t.tb.attrs d.attr=a):
 Calls prog 251 #[.pointer (some ⟨g,i*3,none⟩),d.val,a] w λf e=>f=.returned (.tuple #[])/\mx W0 e g c ts i (dH t.tb d)/\dg w e:=by
 obtain⟨j,k,l,m,n,⟨o,p,q⟩⟩:=d;refine(GB W0 w g c i a ts t j n o p k l m q r v (by have:=b.al;omega) (by have:=b.kl;omega) b.kb).mono ?_;rintro f e ⟨e,⟨f,d⟩,r⟩;refine⟨e,ri b d (Gv t ⟨j,k,l,m,n,⟨o,p,q⟩⟩ a u x f) ?_ rfl ?_ aj,r⟩
 ·intro e f
  exact b.ras.same d.s e (List.mem_of_mem_eraseIdx f)
 show(t.ra.eraseIdx a).length<=13;have:=b.al;rw[List.length_eraseIdx];split<;>omega
end
theorem Hm (h:Hd) (e:List RT) (d:Cg) (a:ah) (b:bI a h e) (l:cL e) (m:aJ d.name) (n:dz (e.map RT.tb) d≠0):
 Calls prog 31 #[.agg #[h.val],d.val] a λf j=>f=.returned (.tuple #[.agg #[ab],J (dz (e.map RT.tb) d)])/\ag a j:=by
 have k:=Z (λc (g:ag a c)=>yw h e d c (b.same g) l m);obtain⟨g,e⟩:∃g,g=dz (e.map RT.tb) d:=⟨_,rfl⟩;rw[<-e]at n k⊢;clear b l m e;have o:Hid (∃c e i l,eY d.kind=.agg #[c,e,i,l]/\c.oneCell'=true/\e.oneCell'=true/\i.oneCell'=true/\l.oneCell'=true):=by
  unfold eY;split
  ·exact⟨_,_,_,_,rfl,rfl,rfl,rfl,rfl⟩
  split
  ·exact⟨_,_,_,_,rfl,rfl,rfl,rfl,rfl⟩
  split
  ·exact⟨_,_,_,_,rfl,rfl,rfl,rfl,rfl⟩
  split
  ·exact⟨_,_,_,_,rfl,rfl,rfl,rfl,rfl⟩
  exact⟨_,_,_,_,rfl,rfl,rfl,rfl,rfl⟩
 obtain⟨p,q,r,s,e,t,u,w,x⟩:=o.out;rw[e]at k;clear e o;obtain⟨y,c,z⟩:=h;obtain⟨A,B,C,D,E,⟨F,G,H⟩⟩:=d;have K:Hid (∀d,ag a d->Calls prog 51 #[.agg #[O y c z],.agg #[A,B,C,D,E,F,G,H]] d λf j=>(∃e i:Int,f=.returned (.tuple #[.agg #[p,q,r,s],e,i,g]))/\ag d j):=
  λd e=>(k.out d e).mono λf j ⟨⟨d,e,i,_⟩,j⟩=>⟨⟨d,e,i⟩,j⟩
 clear k;have d:=λa b c=>run_store prog a b p c t;have d:=λa b c=>run_store prog a b q c u;have d:=λa b c=>run_store prog a b r c w;have b:=λa b c=>run_store prog a b s c x;clear t u w x;have b:(g !=0)=true:=by simp;exact n
 show Calls prog 31 #[.agg #[O y c z],.agg #[A,B,C,D,E,F,G,H]] a _;go_enter func31,ntmps31
 go_wp2_with fail
 refine(K.out _ ?_).mono ?_
 ·exact(((ag.refl a).alloc _).alloc _).alloc _
 rintro f I ⟨⟨b,b,rfl⟩,i⟩;have L:=Z i;have M:=i.cells;have N:=i.frees;have b:a.heap.size+3<=I.heap.size:=by have:=i.size;simp at this;omega
 have P:a.heap.size+1+1<I.heap.size:=af
 clear i;go_wp2_with fail
 refine bodyPost_ret (v:=.tuple #[.agg #[ab],g]) ?_ rfl ⟨rfl,?_⟩
 ·simp[results,results31,go_sem,M,N,P]
 repeat with_reducible first|refine ag.setCell ?_ aG _|refine ag.drew ?_|refine ag.alloc ?_ _
 exact((((ag.refl a).alloc _).alloc _).alloc _).trans L.out
theorem RT.one (b:RT):∀v∈b.cells,v.oneCell'=true:=by
 intro v a;simp only[RT.cells,List.mem_cons,List.not_mem_nil,or_false]at a;rcases a with rfl|rfl|rfl<;>rfl
theorem RA.one (a:RA):∀v∈a.cells,v.oneCell'=true:=by
 exact xd
theorem Hn (h:Hd) (a:List RT) (b:ah) (g:aE b 3 h RT.cells a) (i:h.n<=1000000000) (j:0<a.length):
 Calls prog 52 #[h.val] b λf e=>∃c d,f=.returned (O (some ⟨c,0,none⟩) a.length d)/\ag b e/\e.ownsRow b.heap.size 81 3 (O (some ⟨c,0,none⟩) a.length d) a.length (a.flatMap RT.cells):=by
 refine(EH h RT.cells RT.eV RT.one a b g i).mono ?_;rintro f e (⟨_,rfl,_⟩|⟨d,c,k,l,m⟩)
 ·simp at j
 exact⟨c,d,k,l,m⟩
theorem Ho (h:Hd) (a:List RA) (b:ah) (g:aE b 6 h RA.cells a) (i:h.n<=1000000000):
 Calls prog 53 #[h.val] b λj d=>∃f c,j=.returned (O f a.length c)/\ag b d/\d.ownsRow b.heap.size 111 6 (O f a.length c) a.length (a.flatMap RA.cells):=by
 refine(wV h RA.cells RA.eV RA.one a b g i).mono ?_;rintro a d (⟨rfl,rfl,e⟩|⟨c,l,rfl,e,k⟩)
 ·exact⟨none,0,rfl,e,rfl,.inl ⟨rfl,rfl⟩⟩
 exact⟨_,c,rfl,e,k⟩
theorem Hp (h:Hd) (a:List Int) (b:ah) (g:aE b 1 h bU a) (i:h.n<=1000000000):
 Calls prog 54 #[h.val] b λj d=>∃f c,j=.returned (O f a.length c)/\ag b d/\d.ownsRow b.heap.size 3 1 (O f a.length c) a.length (a.flatMap bU):=by
 refine(EJ h bU (λ_=>rfl) (λf f e=>by simp[bU]at e;subst e;rfl) a b g i).mono ?_;rintro a d (⟨rfl,rfl,e⟩|⟨c,l,rfl,e,k⟩)
 ·exact⟨none,0,rfl,e,rfl,.inl ⟨rfl,rfl⟩⟩
 exact⟨_,c,rfl,e,k⟩
theorem Hq {d:ah} {h:Hd} {e:bk} (b:b5 d h e) {g:Nat} {i:aU} {j k:Nat} (l:ae d (ac g 0) (O i j k)) (v:aA):b5 (d.setCell (ac g 0) v) h e:=by
 refine⟨⟨b.1.1,b.1.2.1,λd g=>?_⟩,b.2⟩;obtain⟨b,g,i,j,k⟩:=b.1.2.2 d g;refine⟨b,g,i,by simpa[World.setCell]using j,λf b a=>?_⟩;have c:=k f b a;rw[World.cell?_setCell_other _ _ _ _ (λg=>?_)]
 ·exact c
 rw[<-g,l]at c;have:b=.string e[d]:=by
  match f,a with
  |0,a=>simpa[cq]using a.symm
  |f+1,a=>simp[cq]at a
 rw[this]at c;cases c
theorem bN.Hr {e f:ah} {i j k:Nat} {l:List RT} {m:RT} (b:bN e f i j l k m) {c:Nat} {d:aX} {n:aQ} (g:aa f c d n) (n:81≠d) (o:111≠d) (q:3≠d) (r:e.heap.size<=c) (d:Nat) (v:aA):bN e (f.setCell (ac c d) v) i j l k m:=
 ⟨b.s.setCell (p:=(ac c d)) r v,ownsRow_setCell_other b.row (a:=⟨c,d,none⟩) (lU b.row g n) v,b.ti,b.an,ownsRow_setCell_other b.ar (a:=⟨c,d,none⟩) (lU b.ar g o) v,b.kn,ownsRow_setCell_other b.kr (a:=⟨c,d,none⟩) (lU b.kr g q) v⟩
theorem Hs {f m l:ah} {d u b g j:Nat} {i k:aU} {c:List RT} (n:b<c.length) (x:m.ownsRow f.heap.size 81 3 (O (some ⟨d,0,none⟩) c.length u) c.length (c.flatMap RT.cells)) (z:ag f m) (q:ag m l)
 (r:l.ownsRow f.heap.size 111 6 (O i c[b].ra.length g) c[b].ra.length (c[b].ra.flatMap RA.cells)) (s:l.ownsRow f.heap.size 3 1 (O k c[b].key.length j) c[b].key.length (c[b].key.flatMap bU)):
 bN f ((l.setCell (ac d (b*3+1)) (O i c[b].ra.length g)).setCell (ac d (b*3+2)) (O k c[b].key.length j)) d u (c.set b ⟨c[b].name,⟨i,c[b].ra.length,g⟩,c[b].ra,⟨k,c[b].key.length,j⟩,c[b].key⟩) b ⟨c[b].name,⟨i,c[b].ra.length,g⟩,c[b].ra,⟨k,c[b].key.length,j⟩,c[b].key⟩/\
 dg m ((l.setCell (ac d (b*3+1)) (O i c[b].ra.length g)).setCell (ac d (b*3+2)) (O k c[b].key.length j)):=by
 have o:=aK q x;obtain⟨f,l,t,v,w,_⟩:=f7 o af;injection t with t
 injection t with e
 subst e;obtain⟨f,l⟩:=av (c[b]);have c:c[b]?=some f:=by rw[l];exact List.getElem?_eq_getElem n
 rw[<-l]at r s⊢;have c:=gZ r o au;have m:=gZ s o au;have l:=nE (y:={f with ha:=⟨i,f.ra.length,g⟩}) RT.eV o rfl b n 1 au (O i f.ra.length g) (by rw[<-l];rfl);have f:=nE (y:=⟨f.name,⟨i,f.ra.length,g⟩,f.ra,⟨k,f.key.length,j⟩,f.key⟩) RT.eV l aj b n 2 au (O k f.key.length j) (by simp;rfl);rw[List.set_set]at f;refine⟨⟨((z.trans q).setCell (p:=(ac d (b*3+1))) v _).setCell (p:=(ac d (b*3+2))) v _,?_,by simp[n],rfl,?_,rfl,?_⟩,((dg.same q).set w (.inl rfl) _ _).set (w.aR _ _) (.inl rfl) _ _⟩
 ·rw[List.length_set];exact f
 ·exact ownsRow_setCell_other (ownsRow_setCell_other r (a:=⟨d,b*3+1,none⟩) c _) (a:=⟨d,b*3+2,none⟩) c _
 exact ownsRow_setCell_other (ownsRow_setCell_other s (a:=⟨d,b*3+1,none⟩) m _) (a:=⟨d,b*3+2,none⟩) m _
def iY (d:Nat) (c e:List RT):Prop:=∀b∈e,b∈c\/∀c e,b.hk.a=some ⟨c,e,none⟩->d<=c
theorem lO {c:ah} {d e g:Nat} {i:aX} {h:Hd} {xs:aP} (j:c.ownsRow d i e h.val g xs):∀c e,h.a=some ⟨c,e,none⟩->d<=c:=by
 intro c e f;rcases j.2 with⟨b,_⟩|⟨l,m,n,b,k,_⟩
 ·unfold Hd.val at b
  rw[f]at b;cases b
 unfold Hd.val at b;rw[f]at b;cases b;exact k
theorem iY.set {w:ah} {base b:Nat} {e:aX} {c:aP} {a:List RT} {d:Nat} {t:RT} (o:w.ownsRow base e 1 t.hk.val b c):iY base a (a.set d t):=by
 intro a f;rcases List.mem_or_eq_of_mem_set f with h|h
 ·exact .inl h
 rw[h];exact .inr (lO o)
theorem rj (G n H:aA) (aM:G.oneCell'=true) (aN:n.oneCell'=true) (aO:H.oneCell'=true) (p:Nat) (l:∀l c,(callFunc p l).run prog c=.ok (.enter p l) c) (h:Hd) (a:List RT) (j:Cg) (c:ah) (l:bI c h a) (I:a.length<=20)
 (b:Nat) (V:b<a.length) (W:Int) (X:jM c a[b]) (ap:Tb)
 (aP:Rt 51 #[.agg #[h.val],j.val] c (.tuple #[.agg #[G,n,bz p,H],b,W,J 0]))
 (aQ:∀e d o I Y,Y.name=a[b].name->Y.ra=a[b].ra->Y.key=a[b].key->bN c e d o I b Y->Calls prog p #[.pointer (some ⟨d,b*3,none⟩),j.val,W] e λf g=>f=.returned (.tuple #[])/\mx c g d o I b ap/\dg e g):
 Calls prog 31 #[.agg #[h.val],j.val] c λf g=>∃(Y:Hd) (I:List RT),f=.returned (.tuple #[.agg #[Y.val],J 0])/\bI g Y I/\I.map RT.tb=(a.map RT.tb).set b ap/\ag c g/\iY c.heap.size a I:=by
 have a0:=Z l;have I:=Z X;have aq:=l.1.1;have aR:=Z (λ(e:ah) (i:ag c e)=>Hn h a e (l.same i).1 (by rw[<-aq];omega) af);have I:=l.2 _ (List.getElem_mem V);have ar:=Z (λ(e:ah) (i:ag c e)=>Ho a[b].ha a[b].ra e (I.same i).1.1 (by rw[<-I.1.1.1];have:=X.al;omega));have aw:=Z (λ(e:ah) (i:ag c e)=>Hp a[b].hk a[b].key e (I.same i).2.1 (by rw[<-I.2.1.1];have:=X.kl;omega));have aS:=Z aP;have a1:=Z aQ;have a2:=λc l K=>run_store prog c l G K aM;have a3:=λc l K=>run_store prog c l n K aN;have a4:=λc l K=>run_store prog c l H K aO;clear l X I aP aQ aM aN aO;obtain⟨k,K,o⟩:=h;obtain⟨r,t,u,w,x,⟨y,z,A⟩⟩:=j;simp only at aq;subst aq;have a5:Hid (Rt 51 #[.agg #[O k a.length o],.agg #[r,t,u,w,x,y,z,A]] c (.tuple #[.agg #[G,n,.func (.func p) #[] #[],H],b,W,J 0])):=aS;have a6:Hid (∀e,ag c e->Calls prog 52 #[O k a.length o] e λf g=>∃d j,f=.returned (O (some ⟨d,0,none⟩) a.length j)/\ag e g/\g.ownsRow e.heap.size 81 3 (O (some ⟨d,0,none⟩) a.length j) a.length (a.flatMap RT.cells)):=aR;clear aS aR;show Calls prog 31 #[.agg #[O k a.length o],.agg #[r,t,u,w,x,y,z,A]] c _;go_enter func31,ntmps31
 go_wp2_with fail
 refine(a5 _ ?_).mono ?_
 ·exact(((ag.refl c).alloc _).alloc _).alloc _
 rintro f m ⟨rfl,L⟩;have ax:=Z ((((ag.refl c).alloc _).alloc _).alloc _|>.trans L);have a7:=L.cells;have a8:=L.frees;have l:c.heap.size+3<=m.heap.size:=by have:=L.size;simp at this;omega
 have l:c.heap.size<m.heap.size:=af
 have a9:c.heap.size+1<m.heap.size:=af
 have ba:c.heap.size+1+1<m.heap.size:=af
 have aT:=Z L;clear L;go_wp2_with fail
 refine(a6 _ ?_).mono ?_
 ·exact ax.alloc _
 rintro f ad ⟨d,q,rfl,ai,ay⟩;go_wp2_with fail
 obtain⟨l,P⟩:=av (m.alloc (.cells #[G,n,.func (.func p) #[] #[],H] 143));rw[<-P]at ai ay;have az:ag m l:=by rw[P];exact(ag.refl m).alloc _
 have aU:(c.alloc (.cells #[O k a.length o] 29)).heap.size=c.heap.size+1:=aj
 have aV:((c.alloc (.cells #[O k a.length o] 29)).alloc (.cells #[r,t,u,w,x,y,z,A] 99)).heap.size=c.heap.size+1+1:=aj
 have aB:=(aa.new (c.alloc (.cells #[O k a.length o] 29)) 99 #[r,t,u,w,x,y,z,A]).alloc (.cells #[ab] 29);have aC:=aa.new ((c.alloc (.cells #[O k a.length o] 29)).alloc (.cells #[r,t,u,w,x,y,z,A] 99)) 29 #[ab];rw[aU]at aB;rw[aV]at aC;obtain⟨i,M⟩:=av (ad.alloc (.cells #[O (some ⟨d,0,none⟩) a.length q] 29));rw[<-M];have ak:ag m i:=by rw[M];exact(az.trans ai).alloc _
 have D:Hid (ag c i):=ax.trans ak;have bb:Hid (aa i ad.heap.size 29 #[O (some ⟨d,0,none⟩) a.length q]):=by show aa _ _ _ _;rw[M];exact aa.new ad _ _
 have bc:Hid (aa i (c.heap.size+1+1) 29 #[ab]):=(ak.block _ ba).trans ((aT.block _ aj).trans aC);have bd:Hid (aa i (c.heap.size+1) 99 #[r,t,u,w,x,y,z,A]):=(ak.block _ a9).trans ((aT.block _ aj).trans aB);have bh:Hid (aa i m.heap.size 143 #[G,n,.func (.func p) #[] #[],H]):=by
  show aa _ _ _ _;rw[M];refine aa.alloc ?_ _;refine(ai.block _ ?_).trans ?_
  ·rw[P];simp
  rw[P];exact aa.new m _ _
 have N:Hid (i.ownsRow c.heap.size 81 3 (O (some ⟨d,0,none⟩) a.length q) a.length (a.flatMap RT.cells)):=by
  show World.ownsRow _ _ _ _ _ _ _;rw[M];exact(ay.mono (bJ ax.size az.size)).alloc _
 have B:=(N.lt d rfl).2;have l:Hid (c.heap.size<=d):=(N.lt d rfl).1;have n:i.cell? (ac d (b*3+1))=some a[b].ha.val:=kJ RT.eV N rfl b V 1 au;have aD:i.cell? (ac d (b*3+2))=some a[b].hk.val:=kJ RT.eV N rfl b V 2 au;have aE:∀am,i.frozen? (ac d am)=false:=by
  obtain⟨l,o,Q,_,an,_⟩:=f7 N af;injection Q with Q
  injection Q with f
  subst f;exact λam=>an.frozen am
 have aF:=aE (b*3+1);have aG:=aE (b*3+2);obtain⟨⟨l,o,G⟩,H⟩:∃h,a[b].ha=h:=⟨_,rfl⟩;obtain⟨⟨I,K,L⟩,X⟩:∃h,a[b].hk=h:=⟨_,rfl⟩;rw[H]at n ar;rw[X]at aD aw;have aH:ae i (ac d (b*3+1)) (O l o G):=n;have aI:ae i (ac d (b*3+2)) (O I K L):=aD;have bi:Hid (∀e,ag c e->Calls prog 53 #[O l o G] e λf g=>∃k j,f=.returned (O k a[b].ra.length j)/\ag e g/\g.ownsRow e.heap.size 111 6 (O k a[b].ra.length j) a[b].ra.length (a[b].ra.flatMap RA.cells)):=ar;have bj:Hid (∀e,ag c e->Calls prog 54 #[O I K L] e λf g=>∃k j,f=.returned (O k a[b].key.length j)/\ag e g/\g.ownsRow e.heap.size 3 1 (O k a[b].key.length j) a[b].key.length (a[b].key.flatMap bU)):=aw;clear M P aB aC aU aV ai ay az ak n aD aE H X ar aw a2 a3 a4 a7 a8;go_region_with
  (
   first
   |(go_at_call 53;refine(bi.out _ ?_).mono ?_;(first|exact aJ.out|exact D.out.drew);rintro f Q ⟨R,S,rfl,an,aW⟩;have E:Hid (ag i Q):=(by first|exact C.out.trans an|exact(ag.refl i).drew.trans an);have aL:Hid (ag c Q):=D.out.trans E.out;have aX:Hid (Q.ownsRow c.heap.size 111 6 (O R a[b].ra.length S) a[b].ra.length (a[b].ra.flatMap RA.cells)):=World.ownsRow.mono aW (by first|exact aJ.out.size|exact D.out.size);have e:=Z an;have e:=(E.out.cells _ _ B).trans aH;have e:=(E.out.cells _ _ B).trans aI;have e:Q.frozen? (ac d (b*3+1))=false:=(E.out.frees _ _ B).trans aF;have e:Q.frozen? (ac d (b*3+2))=false:=(E.out.frees _ _ B).trans aG;clear an aW)
   |(go_at_call 54;refine(bj.out _ ?_).mono ?_;(first|exact aL.out|exact D.out.drew);rintro f F ⟨T,U,rfl,sk,Q⟩;have C:Hid (ag i F):=(by first|exact E.out.trans sk|exact(ag.refl i).drew.trans sk);have aJ:Hid (ag c F):=D.out.trans C.out;have aY:Hid (F.ownsRow c.heap.size 3 1 (O T a[b].key.length U) a[b].key.length (a[b].key.flatMap bU)):=World.ownsRow.mono Q (by first|exact aL.out.size|exact D.out.size);have aZ:=Z sk;have e:=(C.out.cells _ _ B).trans aH;have e:=(C.out.cells _ _ B).trans aI;have e:F.frozen? (ac d (b*3+1))=false:=(C.out.frees _ _ B).trans aF;have e:F.frozen? (ac d (b*3+2))=false:=(C.out.frees _ _ B).trans aG;clear sk Q))
 all_goals
  obtain⟨e,k⟩:=av ((F.setCell (ac d (b*3+1)) (O R a[b].ra.length S)).setCell (ac d (b*3+2)) (O T a[b].key.length U));rw[<-k];have j:=Hs V N.out D.out C.out (aK aZ.out aX.out) aY.out;rw[<-k]at j;have B:=Z j.1;have l:=j.2 _ _ _ bb.out au au au;have n:=j.2 _ _ _ bc.out au au au;have i:=j.2 _ _ _ bd.out au au au;have o:=j.2 _ _ _ bh.out au au au;have m:ae e (ao m 2) (.func (.func p) #[] #[]):=o.cell 2;have m:ae e (ac (c.heap.size+1) 0) r:=i.cell 0;have m:ae e (ac (c.heap.size+1) 1) t:=i.cell 1;have m:ae e (ac (c.heap.size+1) 2) u:=i.cell 2;have m:ae e (ac (c.heap.size+1) 3) w:=i.cell 3;have m:ae e (ac (c.heap.size+1) 4) x:=i.cell 4;have m:ae e (ac (c.heap.size+1) 5) y:=i.cell 5;have m:ae e (ac (c.heap.size+1) 6) z:=i.cell 6;have m:ae e (ac (c.heap.size+1) 7) A:=i.cell 7;have bk:=Z l;have bl:=Z n;have bm:Hid (Calls prog p #[.pointer (some ⟨d,b*3,none⟩),.agg #[r,t,u,w,x,y,z,A],W] e λf g=>f=.returned (.tuple #[])/\mx c g d q (a.set b ⟨a[b].name,⟨R,a[b].ra.length,S⟩,a[b].ra,⟨T,a[b].key.length,U⟩,a[b].key⟩) b ap/\dg e g):=a1.out e d q _ ⟨a[b].name,⟨R,a[b].ra.length,S⟩,a[b].ra,⟨T,a[b].key.length,U⟩,a[b].key⟩ rfl rfl rfl B.out;clear j l n i o k aH aI aF aG;go_wp2_with fail
  refine bm.out.mono ?_;rintro f Q ⟨rfl,aW,an⟩;have f:=an _ _ _ bk.out au au au;have e:=an _ _ _ bl.out au au au;have u0:ae Q (ao ad 0) (O (some ⟨d,0,none⟩) a.length q):=f.cell 0;have u1:ae Q (ac (c.heap.size+1+1) 0) ab:=e.cell 0;have u2:Q.frozen? (ac (c.heap.size+1+1) 0)=false:=e.frozen 0;have bn:=Z aW;have bo:=Z e;clear aW an f e;go_wp2_with fail
  obtain⟨f,g,bp,i,k,e,j⟩:=bn.out;rw[List.set_set]at g;have e:(a.set b f).length=a.length:=List.length_set ..;have c:c.heap.size<=c.heap.size+1+1:=af
  have c:=g.Hr bo.out au au au c 0 (O (some ⟨d,0,none⟩) a.length q);have i:=c.tabs (by rw[e];omega) af af (λg j=>⟨Hq (i g j).1 u1 _,(i g j).2⟩) k (λam g i=>by
   rw[List.getElem_set_ne af];exact(a0.out.2 _ (List.getElem_mem (by rw[e]at g;exact g))).same c.s)
  rw[e]at i;refine bodyPost_ret (v:=.tuple #[.agg #[O (some ⟨d,0,none⟩) a.length q],J 0]) ?_ rfl ⟨⟨some ⟨d,0,none⟩,a.length,q⟩,a.set b f,rfl,i,?_,c.s,iY.set c.kr⟩
  ·simp[results,results31,go_sem,u0,u1,u2]
  rw[List.map_set,bp]
theorem Ht {d:ah} {a:RT} (e:fq d a) (g:∀b∈a.ra,b.at_.was.length<=1000000) (b:kT a.tb):jM d a:=by
 have d:a.tb.attrs.length=a.ra.length:=by simp[RT.tb]
 refine⟨e.1.2,e.2.2,?_,b.Hc,?_,g⟩
 ·have:=b.tf;omega
 intro d i;obtain⟨c,f,rfl⟩:=List.mem_iff_getElem.1 i;have:=(pF.1 (b.key c f)).1;have b:=b.tf;have a:a.tb.key.getD c 0=a.key[c]:=by show a.key.getD c 0=_;rw[List.getD_eq_getElem?_getD,List.getElem?_eq_getElem f];rfl
 rw[a]at this;omega
theorem jM.congr {e:ah} {b c:RT} (a:jM e b) (g:c.name=b.name) (d:c.ra=b.ra) (f:c.key=b.key):jM e c:=
 ⟨by rw[d];exact a.ras,by rw[g];exact a.nm,by rw[d];exact a.al,by rw[f];exact a.kl,by rw[f];exact a.kb,by rw[d];exact a.few⟩
theorem mR {a b:RT} (c:b.name=a.name) (d:b.ra=a.ra) (e:b.key=a.key):b.tb=a.tb:=by
 unfold RT.tb;rw[c,d,e]
def yx (d:Nat) (e:List RT) (f:List Tb) (a:Int) (g:ah) (b:Ending):Prop:=
 (a≠0/\b=.returned (.tuple #[.agg #[ab],a]))\/(a=0/\∃(c:Hd) (a:List RT),b=.returned (.tuple #[.agg #[c.val],J 0])/\bI g c a/\a.map RT.tb=f/\iY d e a)
theorem Hu (h:Hd) (b:List RT) (a:Cg) (d:ah) (l:bI d h b) (u:cL b) (p:aJ a.name) (y:aJ a.dflt.s):
 Calls prog 31 #[.agg #[h.val],a.val] d λm f=>yx d.heap.size b (gO (b.map RT.tb) a) (dz (b.map RT.tb) a) f m/\ag d f:=by
 by_cases o:dz (b.map RT.tb) a=0
 ·obtain⟨B,g,c,t,z,A,v,C⟩:=te o
  have n:c<b.length:=by simpa using t
  have w:(b.map RT.tb)[c]=b[c].tb:=aj
  rw[w]at v C A;obtain⟨A,C⟩:=G7.1 g;have q:b.length<=20:=by simpa using A
  have A:=(C c t).1;rw[w]at A;have C:=l.2 _ (List.getElem_mem n);have i:=Ht C (u _ (List.getElem_mem n)) A;have A:b[c].tb.attrs.length=b[c].ra.length:=by simp[RT.tb]
  have A:=(ou b[c].tb.attrs a.attr).2;have r:∀m f,(∃(j:Hd) (e:List RT),m=.returned (.tuple #[.agg #[j.val],J 0])/\bI f j e/\e.map RT.tb=(b.map RT.tb).set c (dH b[c].tb a)/\ag d f/\iY d.heap.size b e)->yx d.heap.size b (gO (b.map RT.tb) a) (dz (b.map RT.tb) a) f m/\ag d f:=by
   rintro m f ⟨e,j,k,x,A,C,D⟩;refine⟨.inr ⟨o,e,j,k,x,?_,D⟩,C⟩;rw[A];unfold gO;rw[z,Int.toNat_natCast,<-xb _ c t,w]
  have j:Rt 51 #[.agg #[h.val],a.val] d (.tuple #[eY a.kind,c,J (bu b[c].tb.attrs a.attr),J 0]):=by
   intro e k;refine(yw h b a e (l.same k) u p).mono ?_;rintro m f ⟨⟨e,e,t,e⟩,w⟩;obtain⟨k,e⟩:=e o;rw[z]at k e;rw[Int.toNat_natCast,List.getElem?_eq_getElem n]at e;rw[t,k,e,o];exact⟨rfl,w⟩
  have x:a.kind≠1->∃k:Nat,bu b[c].tb.attrs a.attr=k/\k<b[c].ra.length:=λh=>⟨(bu b[c].tb.attrs a.attr).toNat,(Int.toNat_of_nonneg (v h)).symm,by have:=v h;omega⟩;rcases yp B with e|e|e|e
  ·have g:eY a.kind=.agg #[.bool false,bz 245,bz 248,bz 249]:=by simp[eY,e,g4]
   rw[g]at j;refine(rj _ _ _ rfl rfl rfl 248 (enters_of func248 am rfl) h b a d l q c n _ i (dH b[c].tb a) j ?_).mono r;intro t t t t t t v w z;have:=Hi a (bu b[c].tb.attrs a.attr) z (i.congr t v w) e p y;rw[mR t v w]at this;exact this
  ·obtain⟨k,z,A⟩:=x af
   have g:eY a.kind=.agg #[.bool true,bz 250,bz 251,bz 253]:=by simp[eY,e,g5]
   rw[g]at j;refine(rj _ _ _ rfl rfl rfl 251 (enters_of func251 am rfl) h b a d l q c n _ i (dH b[c].tb a) j ?_).mono r;intro t t t t t v t w B;rw[z];have:=Hl a k B (i.congr v t w) e (by rw[t];exact A) (by rw[mR v t w];exact z);rw[mR v t w]at this;exact this
  ·obtain⟨k,z,A⟩:=x af
   have g:eY a.kind=.agg #[.bool true,bz 255,bz 256,bz 258]:=by simp[eY,e,g6]
   rw[g]at j;refine(rj _ _ _ rfl rfl rfl 256 (enters_of func256 am rfl) h b a d l q c n _ i (dH b[c].tb a) j ?_).mono r;intro t t t t t v t w B;rw[z];have:=Hk a k B (i.congr v t w) e (by rw[t];exact A) (by rw[mR v t w];exact z) p;rw[mR v t w]at this;exact this
  obtain⟨k,t,v⟩:=x af;have g:eY a.kind=.agg #[.bool true,bz 259,bz 260,bz 261]:=by simp[eY,e,g7]
  rw[g]at j;refine(rj _ _ _ rfl rfl rfl 260 (enters_of func260 am rfl) h b a d l q c n _ i (dH b[c].tb a) j ?_).mono r;intro c c c c c g c j n;rw[t];have:=Hj a k n (i.congr g c j) e (by rw[c];exact v) (by rw[mR g c j];exact t) y;rw[mR g c j]at this;exact this
 refine(Hm h b a d l u p o).mono ?_;rintro m f ⟨a,b⟩;exact⟨.inl ⟨o,a⟩,b⟩
end Go.Proofs.YteamkimbmdgdbaaGreatDoor

import Derived.Test.YteamkimbmdgdbaaGreatDoorK31
set_option linter.unusedSimpArgs false
set_option linter.unusedVariables false
set_option maxHeartbeats 16000000
set_option maxRecDepth 100000
namespace Go.Proofs.YteamkimbmdgdbaaGreatDoor
open Go.RowKit
theorem Tryz.IA:(Tryz.prog.info? 111).map (·.size)=some (#[ah,O 0,aa,O 0,O 0,ah]:Array Value).size:=ak
def H9 (h:Hd) (b:af) (c:aB):Prop:=∀a,ag b a->Calls Tryz.prog 32 #[.agg #[h.val],.agg c.cells.toArray] a λb c=>b=.returned (.bool true)/\ag a c
structure HB (wA wq:af) (A:aX) (n c:Nat) (zs:List RA):Prop where
 k:ag wA wq
 own:wq.ownsRow wA.heap.size 111 6 (U A n c) n (zs.flatMap RA.cells)
 len:zs.length=n
theorem HB.zero (a:af):HB a a none 0 0 []:=⟨ag.refl a,⟨rfl,.inl ⟨rfl,rfl⟩⟩,rfl⟩
theorem HB.same {b d wr:af} {e:aX} {n c:Nat} {f:List RA} (a:HB b d e n c f) (s:ag d wr):HB b wr e n c f:=⟨a.k.trans s,aH s a.own,a.len⟩
theorem HB.lies {g d:af} {b:aX} {a c:Nat} {e:List RA} (f:HB g d b a c e) (g:a<=9223372036854775807):aF d 6 ⟨b,a,c⟩ RA.cells e:=cF (h:=⟨b,a,c⟩) RA.eE f.len g f.own
theorem HB.push {b o c d:af} {e p:aX} {a f q g:Nat} {j xs:List RA} (l:HB b o e a f j) (r:xs.length=g) (s:ag o c) (m:c.grownBy d (Value.slice e a f).ownBlock)
 (t:d.ownsRow b.heap.size 111 6 (U p (a+g) q) (a+g) (j.flatMap RA.cells++xs.flatMap RA.cells)):HB b d p (a+g) q (j++xs):=by
 have u:∀i,(Value.slice e a f).ownBlock=some i->b.heap.size<=i:=λi h=>by
  obtain⟨b,g,j,v⟩:=bo l.own;rcases v with n|⟨w,n,x⟩
  ·rw[n]at h;cases h
  rw[n]at h;injection h with h;omega
 have a:Kp ((Value.slice e a f).ownBlock.toList) c d:=(Kp.refl _ c).grown m (λi m=>.inl (by rw[m];simp));exact⟨a.g4 (l.k.trans s) (λa b=>u a (by simpa using b)),by rw[List.flatMap_append];exact t,by simp[l.len,r]⟩
theorem HB.name {m j:af} {e n c b:Nat} {d:List RA} (i:HB m j (some ⟨e,0,none⟩) n c d) (s:b<d.length) (nm:aw):
 ∃o:List RA,o.map RA.at_=(d.map RA.at_).modify b (λa=>{a with name:=nm})/\HB m (j.setCell (ab e (b*6)) nm) (some ⟨e,0,none⟩) n c o:=by
 obtain⟨f,q⟩:∃f:RA,f=⟨{d[b].at_ with name:=nm},d[b].h⟩:=⟨_,rfl⟩;have r:=i.len;have t:=mP RA.eE i.own r b ae 0 ae nm f (by rw[q];rfl);obtain⟨m,o,g,u,_⟩:=fE i.own ae;injection g with g
 injection g with g
 subst g;exact⟨d.set b f,ry d b s f _ (by rw[q]),(Kp.aE (p:=(ab e (b*6))) (l:=[e]) ai (Kp.refl [e] j) nm).g4 i.k (λb b=>by rw[aA b];exact u),t,by simp[r]⟩
theorem HM {d:af} {S:Nat->Prop} {g:Hd} {b:List aB} (m:aF d 8 g aB.cells b) (n:∀i∈b,dJ d S i) (c:Nat) (j:c<b.length):
 ∃e f,g.a=some ⟨e,f,none⟩/\d.cell? (ab e (f+c*8+7))=some b[c].ha.val/\aF d 6 b[c].ha RA.cells b[c].attrs:=by
 obtain⟨e,f,o,_,k⟩:=m.2.2 c j;have l:=n b[c] (List.getElem_mem j);generalize b[c]=p at k l;obtain⟨i,r,s,t,u,v,w,x,y,z,A,B⟩:=p;cases l with
 |mk C D E F G H I q=>exact⟨e,f,o,k 7 _ rfl,q.a.1⟩
theorem H1 {d:af} {S:Nat->Prop} {a:List aB} (e:∀f∈a,dJ d S f) (b:Nat) (d:b<a.length):a[b].attrs.length<=10000:=by
 have c:=e a[b] (List.getElem_mem d);generalize a[b]=i at c;cases c with
 |mk j k m n o p q g=>exact g.l
theorem J.H5 {b:Type} {c:af} {d:Nat} {h:Hd} {e:b->List Value} {xs:List b} {b f:Nat} (l:aF c d h e xs) (d:h.a=some ⟨b,f,none⟩) (e:0<xs.length):b<c.heap.size:=by
 obtain⟨c,e,b,g,_⟩:=l.2.2 0 e;have:=Option.some.inj (d.symm.trans b);injection this with e1
 rw[e1];exact g
theorem IB {c:Type} {d:af} {e b f a:Nat} {g:aX} {i:c->List Value} {xs:List c} (l:aF d e ⟨g,b,f⟩ i xs) (c:a<=b):aF d e ⟨g,a,f⟩ i (xs.take a):=by
 have c:xs.length=b:=l.1;have b:b<=9223372036854775807:=l.2.1;refine⟨by show(xs.take a).length=a;rw[List.length_take];omega,by show a<=9223372036854775807;omega,λa b=>?_⟩;have b:a<xs.length:=by rw[List.length_take]at b;omega
 obtain⟨a,b,c,d,e⟩:=l.2.2 a b;exact⟨a,b,c,d,by rw[List.getElem_take];exact e⟩
theorem IC {a:Int} (b:0<=a) (b:a<9223372036854775808):wrap64 a=a:=by unfold wrap64;omega
theorem ID {l:List aB} (h:aB.aN l=[]):l=[]:=by
 rw[aB.iB]at h;exact List.map_eq_nil_iff.1 h
theorem H6 {l:List aB} {b:Pl} (h:aB.aN l=[b]):∃a,l=[a]/\a.pl=b:=by
 rw[aB.iB]at h;match l,h with
 |[a],h=>exact⟨a,rfl,by simpa using h⟩
theorem In {l:List aB} {c d:Pl} (h:aB.aN l=[c,d]):∃a b,l=[a,b]/\a.pl=c/\b.pl=d:=by
 rw[aB.iB]at h;match l,h with
 |[a,b],h=>exact⟨a,b,rfl,by simpa using h⟩
theorem IE {aA:af} {S:Nat->Prop} {h:Hd} {G:List RT} (b4:bI aA h G) {aQ bf:Int} {K:Hd} {y:List aB} {bg:Hd} {aD:List cT} {bi:Hd} {r:List Int} {a5 a6:Int} {aR:Hd} {j:List RA}
 (bk:aF aA 8 K aB.cells y) (b5:∀o∈y,dJ aA S o) (b6:aF aA 12 bg cT.cells aD) (b8:dQ aA bi r) (bC:fY aA S aR j) (b9:aQ=8->aR.n<=aR.c) (ca:∀o∈y,H9 h aA o)
 (cb:HI (G.map RT.tb) (aB.mk aQ bf K y bg aD bi r a5 a6 aR j).pl):H9 h aA (.mk aQ bf K y bg aD bi r a5 a6 aR j):=by
 intro t aE;obtain⟨bD,aS,cc⟩:=h;obtain⟨aG,ce,aw⟩:=K;obtain⟨bm,L,bE⟩:=bg;obtain⟨a7,q,ax⟩:=bi;obtain⟨E,m,z⟩:=aR;have bF:=Z (bk.same aE);have cf:=Z (b6.same aE);have cg:=Z (dQ.same b8 aE);have ch:=Z (bC.a.1.same aE);have ci:=Z bC.l;have cj:=Z (bI.same b4 aE);have ck:=Z (λo K=>(b5 o K).keep (Kp.of_same (l:=[]) aE) ai);have cl:=Z (λo K b (d:ag t b)=>ca o K b (aE.trans d));have cm:=Z cb;have cU:Hid (aQ=8->m<=z):=Z b9;have cV:y.length=ce:=bk.1;have cW:ce<=9223372036854775807:=bk.2.1;clear bk b5 b6 b8 bC b9 ca cb b4 aE;subst cV;show Calls Tryz.prog 32 #[.agg #[U bD aS cc],.agg #[aQ,bf,U aG y.length aw,U bm L bE,U a7 q ax,a5,a6,U E m z]] t _;go_enter Tryz.func32,Tryz.ntmps32
 go_upto_region 1 with(fail)
 obtain⟨bi,aE,aR,aA,bg⟩:=nb t 29 _;rw[aE];clear aE;have aE:=aA;obtain⟨cn,bi,cX,aA,bk⟩:=nc bg 105 _;rw[bi];clear bi;have S2:=Z (aE.trans aA);have cY:=qb aA aR;clear aA aE aR bg bk;go_upto_region 2 with(fail)
 go_loopg [5] (y.length+1) (λo f wr=>∃d:Nat,f=.int .i64 d/\d<=y.length/\y.length-d<o/\Hid (ag cn wr))
 case atStart=>exact⟨0,rfl,by omega,by omega,Z (ag.refl cn)⟩
 case round=>
 obtain⟨ap,rfl,dr,co,SW⟩:=hrel;have cp:=Z co;clear co;have aI:=Z (S2.trans SW);have bG:=qb SW cY;have A:=qb SW cX;by_cases bJ:ap<y.length
 case pos=>
  have g:(ap:Int)<(y.length:Int):=ae
  obtain⟨g,u,hA1,al,d⟩:=(bF.out.same aI.out).2.2 ap bJ;have hA2:aG=some ⟨g,u,none⟩:=hA1;clear hA1;subst hA2;have f:=Z (λb (f:ag wr b)=>cl.out y[ap] (List.getElem_mem bJ) b (aI.out.trans f));obtain⟨v,g⟩:=aq y[ap];rw[<-g]at d f;clear g;obtain⟨x,B,⟨C,D,F⟩,am,⟨H,I,M⟩,an,⟨N,P,Q⟩,ao,R,T,⟨V,W,X⟩,ar⟩:=v;have g:=d 0 _ rfl;simp only[Nat.add_zero]at g;have g:=bM g;have g:=bM (d 1 _ rfl);have aP:=bM (d 2 _ rfl);have g:=bM (d 3 _ rfl);have g:=bM (d 4 _ rfl);have g:=bM (d 5 _ rfl);have g:=bM (d 6 _ rfl);have g:=bM (d 7 _ rfl);have g:=bM (az bG);have g:=bM (bh A);have g:=bh A;clear d;have d:Hid (Rt 32 #[.agg #[U bD aS cc],.agg #[x,B,U C D F,U H I M,U N P Q,R,T,U V W X]] wr (.bool true)):=f;have Y:=gX (w:=wr) d.out;clear f d;go_upto_region 4 with(fail)
  refine wp_region_quiet_below ak ak ?_;repeat (go_big_quiet_step (first|(go_at_call 32;exact Y _ _)))
  refine wpQuiet_nil ?_;intro _ ad;obtain⟨⟨i,osq⟩,aj⟩:=ad;subst aj;have s:=Z (ag.reg wr i osq);generalize Sort.grow (redrawn wr i) osq=ay at s⊢;go_wp2;go_roundg (y.length-ap)
  case measure=>have:=cp.out;omega
  exact⟨ap+1,by go_num,by omega,by have:=cp.out;omega,Z (SW.out.trans s.out)⟩
 case neg=>
 have cZ:¬(ap:Int)<(y.length:Int):=ae
 have u:=bh A;go_upto_region 6 with(fail)
 have M:=Z (bF.out.same aI.out);have H:=Z (λo K=>(ck.out o K).keep (Kp.of_same (l:=[]) aI.out) ai);have I:=Z (ch.out.same aI.out);have bK:=Z (cf.out.same aI.out);have aU:=Z (dQ.same cg.out aI.out);have bL:=Z (bI.same cj.out aI.out);have cq:HI (G.map RT.tb) (.mk aQ bf (aB.aN y) aD r a5 a6 (j.map RA.at_)):=cm.out;clear cm bF ck ch cf cg cj cl cZ bJ cW;obtain⟨y,F⟩:=aq (aB.aN y);obtain⟨s,C⟩:=aq (j.map RA.at_);rw[<-F,<-C]at cq;have T:=az A;have v:=b7 A;clear u;have u:=bh A;cases cq with
 |@both _ bv bw K al=>
  obtain⟨d,i,rfl,Q,am⟩:=In F.symm;obtain⟨f,g,R,x,V⟩:=HM M.out H.out 0 ai;obtain⟨y,aA,an,B,ao⟩:=HM M.out H.out 1 ai;have aW:aG=some ⟨f,g,none⟩:=R;have aZ:(⟨f,g,none⟩:Addr)=⟨y,aA,none⟩:=Option.some.inj (R.symm.trans an);injection aZ with e4 e5
  subst aW e4 e5;have x:ac wr (ab f (g+7)) d.ha.val:=by simpa using x
  have B:ac wr (ab f (g+8+7)) i.ha.val:=by simpa using B
  have ar:fh (d.attrs.map RA.at_) (i.attrs.map RA.at_)=true:=by rw[<-aB.BN,<-aB.BN,Q,am];exact al
  have N:j.map RA.at_=d.attrs.map RA.at_:=by rw[<-C,<-aB.BN,Q]
  have P:=Z (λb (y:ag wr b)=>HZ d.ha i.ha d.attrs i.attrs b (aF.same V y) (aF.same ao y) ar);have W:=Z (λb (y:ag wr b)=>HZ ⟨E,m,z⟩ d.ha j d.attrs b (I.out.same y) (aF.same V y) (by rw[N];exact HV _));obtain⟨a0,ay⟩:=aq d.ha;obtain⟨a8,aJ⟩:=aq i.ha;rw[<-ay]at P W x;rw[<-aJ]at P B;obtain⟨X,Y,ad⟩:=a0;obtain⟨aL,aM,aO⟩:=a8;have d:Hid (Rt 57 #[U X Y ad,U aL aM aO] wr (.bool true)):=P;have a9:Hid (Rt 57 #[U E m z,U X Y ad] wr (.bool true)):=W;have i:ac wr (ab f (g+7)) (U X Y ad):=x;have f:ac wr (ab f (g+8+7)) (U aL aM aO):=B;have ba:=bM i;have f:=bM f;have bb:=bM u;have bp:=gX (w:=wr) d.out;clear P W x B ay aJ ar N Q am al F C R an V ao d;rcases K with rfl|rfl
  all_goals
   go_upto_region 49 with(fail)
   refine wp_region_quiet_below ak ak ?_;repeat (go_big_quiet_step (first|(go_at_call 57;exact bp _ _)))
   refine wpQuiet_nil ?_;intro _ N;obtain⟨⟨D,osq⟩,bq⟩:=N;subst bq;have aj:=Z (ag.reg wr D osq);have br:=ba D osq;have bs:=bb D osq;have bt:=bM v D osq;have aV:=Z (λb d=>a9.out b (aj.out.trans d));generalize Sort.grow (redrawn wr D) osq=bu at aj bs br bt aV⊢;go_wp2_with fail
   refine(aV.out bu (ag.refl _)).mono ?_;rintro e w5 ⟨rfl,s5⟩;go_wp2;go_ret;exact⟨rfl,S2.out.trans (SW.out.trans (aj.out.trans s5))⟩
 |@table _ bq bO=>
  obtain rfl:=ID F.symm;obtain⟨f,rfl⟩:=Int.eq_ofNat_of_zero_le bq.1;have aV:f<G.length:=by have:=bq.2;simp at this;omega
  have cK:G.length=aS:=bL.out.1.1;obtain⟨g,i,bP,ao,aL⟩:=bL.out.1.2.2 f aV;have cL:bD=some ⟨g,i,none⟩:=bP;subst cL;have aM:=bL.out.2 G[f] (List.getElem_mem aV);have y:(dw (G.map RT.tb) (f:Int)).attrs=G[f].ra.map RA.at_:=by
   unfold dw;rw[Int.toNat_natCast,List.getElem?_eq_getElem (by simpa using aV)];simp[RT.tb]
  have bs:∀d (br:d<G[f].ra.length),bH G[f].tb.attrs (iY G[f].ra[d].at_).name=d:=λd br=>by
   have h:=bO d (by rw[y];simpa using br);simp only[y,List.getElem_map]at h;exact h
  have aW:j.map RA.at_=(G[f].ra.map RA.at_).map iY:=by rw[<-C,y]
  clear bO y C bP;generalize G[f]=B at aL aM bs aW;have bt:j.length=B.ra.length:=by have h:=congrArg List.length aW;simpa using h
  have K:∀d (y:d<j.length) (G:d<B.ra.length),j[d].at_.name=(iY B.ra[d].at_).name/\j[d].at_.kind=B.ra[d].at_.kind:=λd y G=>by
   have h:(j.map RA.at_)[d]'(by simpa using y)=((B.ra.map RA.at_).map iY)[d]'(by simpa using G):=by simp only[aW]
   simp only[List.getElem_map]at h;rw[h];exact⟨rfl,rfl⟩
  have aZ:ac wr (ab g (i+f*3+1)) B.ha.val:=aL 1 _ rfl;have bu:ac wr (ab g (i+f*3)) B.name:=by have h:=aL 0 _ rfl;simpa using h
  have bv:ac wr (ab g (i+f*3+2)) B.hk.val:=aL 2 _ rfl;have cM:=Z (λb (x:ag wr b) y=>pq B y b (fw.same aM x));have cN:=Z aM.1.1;have cO:=Z bs;have cP:=Z K;have a0:B.ra.length=B.ha.n:=aM.1.1.1;clear aL aM bs K aW;obtain⟨bS,cQ,W,cR,di⟩:=B;obtain⟨bT,x,bU⟩:=cQ;obtain⟨bW,bX,bY⟩:=cR;have a0:W.length=x:=a0;have bZ:j.length=m:=I.out.1;have y:m<=9223372036854775807:=I.out.2.1;have bt:j.length=W.length:=bt;have cS:x=m:=ae
  subst cS;have bu:ac wr (ab g (i+f*3)) bS:=bu;have aZ:ac wr (ab g (i+f*3+1)) (U bT x bU):=aZ;have bv:ac wr (ab g (i+f*3+2)) (U bW bX bY):=bv;have a8:=az bG;have a9:=aY A;have c0:decide ((f:Int)<0)=false:=decide_eq_false ae;have c1:decide ((aS:Int)<=(f:Int))=false:=decide_eq_false ae;have c2:decide (aS<=f)=false:=decide_eq_false ae;have c3:(((x:Nat):Int) !=(x:Int))=false:=ai
  have y:(f:Int)<(aS:Int):=ae
  have c4:=Z bZ;have c5:=Z a0;clear bt bZ a0 bq cK aV;have c6:=bM a9;have c8:=bM a8;have c9:=bM v;have da:=bM aZ;go_upto_region 9 with(fail)
  refine wp_region_quiet_below ak ak ?_;repeat (go_big_quiet_step (fail))
  refine wpQuiet_nil ?_;intro _ bw;obtain⟨⟨aO,osq⟩,bx⟩:=bw;subst bx;have b0:=Z (ag.reg wr aO osq);generalize Sort.grow (redrawn wr aO) osq=b3 at b0⊢;go_upto_region 12 with(fail)
  clear c6 c8 c9 da c0 c1 c2 c3 T a9 u v a8;obtain⟨dj,rfl⟩:∃y:World,y=wr:=⟨_,rfl⟩;go_loopg [7] (x+1) (λo y B=>∃d:Nat,y=.int .i64 d/\d<=x/\x-d<o/\Hid (ag b3 B))
  case atStart=>exact⟨0,rfl,by omega,by omega,Z (ag.refl b3)⟩
  case round=>
  obtain⟨d,rfl,br,cr,SX⟩:=hrel;have cs:=Z cr;clear cr;have D:=Z (b0.out.trans SX.out);have ba:=qb D A;have ct:=qb D bG;have v:=b7 ba;by_cases y:d<x
  case neg=>
   have y:¬(d:Int)<(x:Int):=ae
   go_wp2;go_ret;exact⟨rfl,S2.out.trans (SW.out.trans D.out)⟩
  case pos=>
  have y:(d:Int)<(x:Int):=ae
  have bz:d<W.length:=by have:=c5.out;omega
  have cu:d<j.length:=by have:=c4.out;omega
  obtain⟨Q,R,cv,_,cw⟩:=(cN.out.same D.out).2.2 d bz;obtain⟨ar,ay,cx,cy,bA⟩:=(I.out.same D.out).2.2 d cu;have db:bT=some ⟨Q,R,none⟩:=cv;have dc:E=some ⟨ar,ay,none⟩:=cx;subst db dc;obtain⟨y,B⟩:=cP.out d cu bz;have G:=cO.out d bz;have bb:ac wr (ab ar (ay+d*6)) (.string j[d].at_.name):=by have h:=bA 0 _ rfl;simpa using h
  have aJ:ac wr (ab ar (ay+d*6+1)) (O j[d].at_.kind):=bA 1 _ rfl;rw[y]at bb;rw[B]at aJ;have bp:=Z (λb (K:ag wr b)=>cM.out b (D.out.trans K) (iY W[d].at_).name);simp only[G]at bp;obtain⟨dd,K⟩:=aq (iY W[d].at_).name;rw[<-K]at bb bp;have V:∀aA aE,(W[d]).cells[aA]?=some aE->ac wr (ab Q (R+d*6+aA)) aE:=cw;clear K y B G cw bA cv cx;generalize W[d]=de at V aJ;obtain⟨⟨Y,P,dk,⟨ad,aj,al⟩⟩,⟨am,an,X⟩⟩:=de;have u0:ac wr (ab Q (R+d*6)) Y:=by have h:=V 0 _ rfl;simpa using h
  have u1:ac wr (ab Q (R+d*6+1)) P:=V 1 _ rfl;have u2:ac wr (ab Q (R+d*6+2)) (U am an X):=V 2 _ rfl;have u3:ac wr (ab Q (R+d*6+3)) ad:=V 3 _ rfl;have u4:ac wr (ab Q (R+d*6+4)) aj:=V 4 _ rfl;have u5:ac wr (ab Q (R+d*6+5)) al:=V 5 _ rfl;have aJ:ac wr (ab ar (ay+d*6+1)) P:=aJ;clear V;have a8:=az ct;have a9:=aY ba;have cz:=(ag.cell D.out (p:=(ab g (i+f*3))) ao).trans bu;have cA:=(ag.cell D.out (p:=(ab g (i+f*3+1))) ao).trans aZ;have cB:=(ag.cell D.out (p:=(ab g (i+f*3+2))) ao).trans bv;have cD:=fx wr (.cells #[ah,O 0,aa,O 0,O 0,ah] 111);have cF:=World.setRow_alloc_new wr #[ah,O 0,aa,O 0,O 0,ah] #[Y,P,U am an X,ad,aj,al] 111;have cG:=Tryz.IA;have cH:(#[Y,P,U am an X,ad,aj,al]:Array Value).all (·.oneCell')=true:=bl
  have cI:=Z (J.new wr 111 #[Y,P,U am an X,ad,aj,al]);have N:=Z (show ag wr (wr.alloc (.cells #[Y,P,U am an X,ad,aj,al] 111))from(ag.refl wr).alloc _);have df:Hid (Rt 55 #[.agg #[bS,U (some ⟨Q,R,none⟩) x bU,U bW bX bY],dd] wr (d:Int)):=bp;clear bp;go_upto_region 15 with(first|(refine wpList_store_row rfl 111 (.tmp 8) (.tmp 82) rfl wr.heap.size #[Y,P,U am an X,ad,aj,al] rfl rfl 111 #[ah,O 0,aa,O 0,O 0,ah] cD cG rfl cH ?_;rw[cF])|fail)
  clear cD cF cH cG u0 u1 u2 u3 u4 u5;obtain⟨bN,y⟩:=aq (wr.alloc (.cells #[Y,P,U am an X,ad,aj,al] 111));rw[<-y]at cI N⊢;clear y;try rw[oX]
  have y:=bM (aY cI);have y:=bM (b7 (qb N ba));have y:=bM (aY (qb N ba));have y:=bM (az (qb N ct));have y:=bM ((ag.cell N.out (p:=(ab ar (ay+d*6))) cy).trans bb);have y:=bM ((ag.cell N.out (p:=(ab ar (ay+d*6+1))) cy).trans aJ);have y:=bM ((ag.cell N.out (p:=(ab g (i+f*3))) (aT ao D.out.size)).trans cz);have y:=bM ((ag.cell N.out (p:=(ab g (i+f*3+1))) (aT ao D.out.size)).trans cA);have f:=bM ((ag.cell N.out (p:=(ab g (i+f*3+2))) (aT ao D.out.size)).trans cB);have dh:=gX (w:=bN) (λb f=>df.out b (N.out.trans f));have f:(P !=P)=false:=ai
  have f:((d:Int) !=(d:Int))=false:=ai
  clear cz cA cB bb aJ v a9 a8;refine wp_region_quiet_below ak ak ?_;repeat (go_big_quiet_step (first|(go_at_call 55;exact dh _ _)))
  refine wpQuiet_nil ?_;intro _ bw;obtain⟨⟨aO,osq⟩,bx⟩:=bw;subst bx;have cJ:=Z (ag.reg bN aO osq);generalize Sort.grow (redrawn bN aO) osq=dl at cJ⊢;go_wp2;go_roundg (x-d)
  case measure=>have:=cs.out;omega
  exact⟨d+1,by go_num,by omega,by have:=cs.out;omega,Z (SX.out.trans (N.out.trans cJ.out))⟩
 |@select o _ aj=>
  obtain⟨f,rfl,aV⟩:=H6 F.symm;obtain⟨D,X,al,x,N⟩:=HM M.out H.out 0 ai;have cr:aG=some ⟨D,X,none⟩:=al;subst cr;have x:ac wr (ab D (X+7)) f.ha.val:=by simpa using x
  have N:aF wr 6 f.ha RA.cells f.attrs:=N;have am:o.attrs=f.attrs.map RA.at_:=by rw[<-aV,aB.BN]
  rw[am]at aj;have B:j.map RA.at_=f.attrs.map RA.at_:=by rw[<-C,am]
  have cs:D<wr.heap.size:=(J.H5 M.out al ai);have aW:=Z aj;have an:=Z (λb (d:ag wr b)=>HZ ⟨E,m,z⟩ f.ha j f.attrs b (I.out.same d) (aF.same N d) (by rw[B];exact HV _));have Y:=Z (λ(d:Sd) b (g:ag wr b)=>Iy f.ha f.attrs d b (aF.same N g));obtain⟨aZ,a0⟩:=aq (f.attrs.map RA.at_);rw[<-a0]at aW Y;obtain⟨ct,a8⟩:=aq f.ha;rw[<-a8]at an Y x;obtain⟨P,Q,R⟩:=ct;have cu:Hid (Rt 57 #[U E m z,U P Q R] wr (.bool true)):=an;have a9:Hid (∀(d:Sd) b,ag wr b->Calls Tryz.prog 56 #[U P Q R,.agg d.cells.toArray] b λe w'=>e=.returned (O (HG aZ d))/\ag b w'):=Y;have x:ac wr (ab D (X+7)) (U P Q R):=x;have f:aD.length=L:=bK.out.1;have y:L<=9223372036854775807:=bK.out.2.1;have cv:=Z f;clear an Y a8 B am aV F C al N aj a0 f;go_upto_region 20 with(fail)
  clear T v u;obtain⟨ba,rfl⟩:∃f:World,f=wr:=⟨_,rfl⟩;go_loopg [9] (L+1) (λo f g=>∃d:Nat,f=.int .i64 d/\d<=L/\L-d<o/\Hid (ag ba g))
  case atStart=>exact⟨0,rfl,by omega,by omega,Z (ag.refl ba)⟩
  case round=>
  obtain⟨i,rfl,cP,bb,SX⟩:=hrel;have bp:=Z bb;clear bb;have f:=qb SX A;have u:=bh f;have bq:=bj f;have v:=b7 f;have cw:=(ag.cell SX.out (p:=(ab D (X+7))) cs).trans x;by_cases f:i<L
  case neg=>
   have f:¬(i:Int)<(L:Int):=ae
   have d:=Z (λb d=>cu.out b (SX.out.trans d));go_wp2_with fail
   refine(d.out wr (ag.refl _)).mono ?_;exact sL
  case pos=>
  have f:(i:Int)<(L:Int):=ae
  have br:i<aD.length:=by have:=cv.out;omega
  obtain⟨bs,bt,bu,_,d⟩:=(bK.out.same SX.out).2.2 i br;have cx:bm=some ⟨bs,bt,none⟩:=bu;subst cx;obtain⟨V,ao⟩:=aW.out aD[i] (List.getElem_mem br);generalize aD[i]=cy at d V ao;obtain⟨⟨ad,ar,⟨ay,aJ,aL⟩⟩,cQ,⟨bv,bw,⟨bx,bz,bA⟩⟩,cR⟩:=cy;have u0:ac wr (ab bs (bt+i*12)) ad:=by have h:=d 0 _ rfl;simpa using h
  have cz:=bM u0;have cA:=bM (d 1 _ rfl);have cB:=bM (d 2 _ rfl);have cD:=bM (d 3 _ rfl);have cF:=bM (d 4 _ rfl);have bN:=bM (d 6 _ rfl);have bO:=bM (d 7 _ rfl);have bP:=bM (d 8 _ rfl);have bS:=bM (d 9 _ rfl);have bT:=bM (d 10 _ rfl);have bU:=bM u;have bW:=bM bq;have bX:=bM cw;have y:=Z (λb (f:ag wr b)=>a9.out ⟨ad,ar,⟨ay,aJ,aL⟩⟩ b (SX.out.trans f));have x:=Z (λb (f:ag wr b)=>a9.out ⟨bv,bw,⟨bx,bz,bA⟩⟩ b (SX.out.trans f));rw[<-ao]at x;obtain⟨f,D⟩:=aq (HG aZ ⟨ad,ar,⟨ay,aJ,aL⟩⟩);have V:f≠0:=by rw[D];exact V
  rw[<-D]at y x;have G:Hid (Rt 56 #[U P Q R,.agg #[ad,ar,ay,aJ,aL]] wr f):=y;have cG:Hid (Rt 56 #[U P Q R,.agg #[bv,bw,bx,bz,bA]] wr f):=x;have K:(f==0)=false:=by simp;exact V
  have f:(f !=f)=false:=ai
  have W:=gX (w:=wr) G.out;clear y x D V ao bu u0 u v d;go_upto_region 22 with(fail)
  clear bq;refine wp_region_quiet_below ak ak ?_;repeat (go_big_quiet_step (first|(go_at_call 56;exact W _ _)))
  refine wpQuiet_nil ?_;intro _ B;obtain⟨⟨g,osq⟩,aM⟩:=B;subst aM;have aO:=Z (ag.reg wr g osq);have cH:=bM (bN g osq);have cI:=bM (bO g osq);have cJ:=bM (bP g osq);have cK:=bM (bS g osq);have cL:=bM (bT g osq);have cM:=bM (bU g osq);have cN:=bM (bW g osq);have cO:=bM (bX g osq);clear cz cA cB cD cF bN bO bP bS bT bU bW bX W;have W:=gX (w:=Sort.grow (redrawn wr g) osq) (λb d=>cG.out b (aO.out.trans d));generalize Sort.grow (redrawn wr g) osq=bY at aO cH cI cJ cK cL cM cN cO W⊢;go_upto_region 23 with(fail)
  refine wp_region_quiet_below ak ak ?_;repeat (go_big_quiet_step (first|(go_at_call 56;exact W _ _)))
  refine wpQuiet_nil ?_;intro _ B;obtain⟨⟨bZ,b0⟩,aM⟩:=B;subst aM;have b3:=Z (ag.reg bY bZ b0);generalize Sort.grow (redrawn bY bZ) b0=cS at b3⊢;go_wp2;go_roundg (L-i)
  case measure=>have:=bp.out;omega
  exact⟨i+1,by go_num,by omega,by have:=bp.out;omega,Z (SX.out.trans (aO.out.trans b3.out))⟩
 |@join c0 bz ay=>
  obtain⟨P,g,rfl,cr,cs⟩:=In F.symm;obtain⟨aJ,aL,bA,aM,R⟩:=HM M.out H.out 0 ai;obtain⟨y,G,ct,aO,V⟩:=HM M.out H.out 1 ai;have c1:aG=some ⟨aJ,aL,none⟩:=bA;have c2:(⟨aJ,aL,none⟩:Addr)=⟨y,G,none⟩:=Option.some.inj (bA.symm.trans ct);injection c2 with e4 e5
  subst c1 e4 e5;replace aM:ac wr (ab aJ (aL+7)) P.ha.val:=by simpa using aM
  replace aO:ac wr (ab aJ (aL+8+7)) g.ha.val:=by simpa using aO
  have R:aF wr 6 P.ha RA.cells P.attrs:=R;have V:aF wr 6 g.ha RA.cells g.attrs:=V;have y:P.attrs.length<=10000:=H1 H.out 0 ai;have G:g.attrs.length<=10000:=H1 H.out 1 ai;have bN:c0.attrs=P.attrs.map RA.at_:=by rw[<-cr,aB.BN]
  have bO:bz.attrs=g.attrs.map RA.at_:=by rw[<-cs,aB.BN]
  rw[bN,bO]at ay;have aV:j.map RA.at_=P.attrs.map RA.at_++(g.attrs.map RA.at_).filter λa0=>decide (ed (P.attrs.map RA.at_) a0.name<0):=by rw[<-C,bN,bO]
  obtain⟨W,cu⟩:=aq P.attrs;obtain⟨Q,cv⟩:=aq g.attrs;obtain⟨c3,cw⟩:=aq P.ha;obtain⟨c4,cx⟩:=aq g.ha;rw[<-cu]at aV ay R y;rw[<-cv]at aV ay V G;rw[<-cw]at aM R;rw[<-cx]at aO V;obtain⟨a8,B,bp⟩:=c3;obtain⟨cy,i,c5⟩:=c4;have c6:W.length=B:=R.1;have y:Q.length=i:=V.1;have G:B<=9223372036854775807:=R.2.1;have G:i<=9223372036854775807:=V.2.1;replace aM:ac wr (ab aJ (aL+7)) (U a8 B bp):=aM;replace aO:ac wr (ab aJ (aL+8+7)) (U cy i c5):=aO;have cz:=Z aV;have cA:=Z ay;have bP:=Z R;have L1:=Z V;have bS:=Z y;clear aV ay R V cw cx cu cv bN bO cr cs F C bA ct y;have c8:∀y∈W.flatMap RA.cells,y.oneCell'=true:=λy G=>by
   obtain⟨a0,_,d⟩:=List.mem_flatMap.1 G;exact RA.BZ a0 y d
  obtain⟨cB,cD,cF,cG,cH⟩:=info_parts Tryz.infoAt;go_upto_region 41 with(first|(at_builtin;refine d6 _ rfl (.tmp 265) (.tmp 266) 79 rfl wr.heap.size 111 cB _ 6 80 Tryz.underlying79 cD cF cG cH rfl au aa 0 [] rfl (HB.zero wr).own wr.heap.size a8 B bp (W.flatMap RA.cells) rfl (pj RA.eE bP.out) c8 b1 ae (Nat.le_refl _) ?_;intro y y d f x;obtain⟨bB,a1,rfl,D⟩:=bo d;have I9:=Z (HB.push (HB.zero wr) c6 (ag.refl wr) f d);clear d f x D)|fail)
  clear aM aO T u v;obtain⟨bT,rfl⟩:∃bz:World,bz=wr:=⟨_,rfl⟩;obtain⟨Y,y⟩:=aq (W.map RA.at_);rw[<-y]at cz cA;have bq:=Z y;clear y;go_loopg [6,14] (i+1) (λo G K N=>∃(d f x:Nat) (y:aX) (D:List RA),G=.slice y f x/\K=.int .i64 d/\d<=i/\i-d<o/\f<=B+d/\Hid (HB bT N y f x D)/\Hid (D.map RA.at_=Y++((Q.take d).map RA.at_).filter λa0=>decide (ed Y a0.name<0)))
  case atStart=>exact⟨0,B,a1,bB,W,rfl,rfl,by omega,by omega,by omega,(by simpa using I9),Z (by rw[bq.out];simp)⟩
  case round=>
  obtain⟨d,aW,br,bs,a9,rfl,rfl,ay,cI,de,ba,bU⟩:=hrel;have bt:=Z cI;clear cI I9;have SX:=Z ba.out.k;have y:=qb SX A;have v:=b7 y;by_cases y:d<i
  case neg=>
   have f:¬(d:Int)<(i:Int):=ae
   have f:j.map RA.at_=a9.map RA.at_:=by rw[bU.out,List.take_of_length_le (by have:=bS.out;omega)];exact cz.out
   have x:=Z (λb (x:ag wr b)=>HZ ⟨E,m,z⟩ ⟨bs,aW,br⟩ j a9 b (I.out.same (SX.out.trans x)) (aF.same (ba.out.lies (by have:=bS.out;omega)) x) (by rw[f];exact HV _));have D:Hid (Rt 57 #[U E m z,U bs aW br] wr (.bool true)):=x;clear x f;go_wp2_with fail
   refine(D.out wr (ag.refl _)).mono ?_;exact sL
  case pos=>
  have y:(d:Int)<(i:Int):=ae
  have bW:d<Q.length:=by have:=bS.out;omega
  obtain⟨D,N,cJ,cK,bu⟩:=(L1.out.same SX.out).2.2 d bW;have c9:cy=some ⟨D,N,none⟩:=cJ;subst c9;have bX:=cA.out Q[d].at_ (List.mem_map.2 ⟨_,List.getElem_mem bW,rfl⟩);have bY:Q.take (d+1)=Q.take d++[Q[d]]:=by rw[List.take_succ_eq_append_getElem bW]
  have bv:=Z (λb (f:ag wr b)=>Il ⟨a8,B,bp⟩ W Q[d].at_.name b (bP.out.same (SX.out.trans f)));rw[<-bq.out]at bv;generalize Q[d]=da at bu bX bY bv;have cL:=Z bY;have db:=Z bX;obtain⟨⟨f,x,cM,⟨aj,al,am⟩⟩,⟨an,ao,ad⟩⟩:=da;clear bY bX cJ;have u0:ac wr (ab D (N+d*6)) f:=by have h:=bu 0 _ rfl;simpa using h
  have bZ:Hid (Rt 33 #[U a8 B bp,f] wr (O (ed Y f))):=bv;obtain⟨ar,y⟩:=aq (ed Y f);rw[<-y]at bZ;have b0:=Z y;clear bv y;go_wp2_with fail
  refine(bZ.out wr (ag.refl _)).mono ?_;rintro e w5 ⟨rfl,s5⟩;have X:=λg y G=>(ag.cell s5 (p:=(ab D (N+d*6+g))) cK).trans (bu g y G);have g:ac w5 (ab D (N+d*6)) f:=(ag.cell s5 (p:=(ab D (N+d*6))) cK).trans u0;have b3:=Z s5;clear s5 u0 v bZ bu;by_cases aZ:ar<0
  case pos=>
   have g:decide (ar<0)=true:=decide_eq_true aZ;have g:ac w5 (ab D (N+d*6+1)) x:=X 1 _ rfl;have g:ac w5 (ab D (N+d*6+2)) (U an ao ad):=X 2 _ rfl;have g:ac w5 (ab D (N+d*6+3)) aj:=X 3 _ rfl;have g:ac w5 (ab D (N+d*6+4)) al:=X 4 _ rfl;have g:ac w5 (ab D (N+d*6+5)) am:=X 5 _ rfl;have cN:=Z aZ;have bb:=Z (b3.out.alloc (.cells #[f,x,U an ao ad,aj,al,am] 111));have cO:=Z (aH bb.out ba.out.own);have cP:=Z (cC w5 #[f,x,U an ao ad,aj,al,am] 111 6 rfl);have cQ:bT.heap.size<=(w5.alloc (.cells #[f,x,U an ao ad,aj,al,am] 111)).heap.size:=bR SX.out.size bb.out.size;clear X aZ;go_wp2_with (first|(at_builtin;refine d6 _ rfl (.tmp 283) (.tmp 288) 79 rfl bT.heap.size 111 cB _ 6 80 Tryz.underlying79 cD cF cG cH rfl au (U bs aW br) aW (a9.flatMap RA.cells) rfl cO.out (w5.heap.size+1) (some ⟨w5.heap.size,0,none⟩) 1 1 (#[f,x,U an ao ad,aj,al,am]:Array Value).toList rfl cP.out bl b1 ae cQ ?_;intro g a2 bw bx cR;obtain⟨a3,aP,rfl,cS⟩:=bo bw;have a4:=Z (HB.push (xs:=[⟨⟨f,x,cM,⟨aj,al,am⟩⟩,⟨an,ao,ad⟩⟩]) ba.out rfl bb.out bx bw);clear bw bx cR cS)|fail)
   go_roundg (i-d)
   case measure=>have:=bt.out;omega
   exact⟨d+1,aW+1,aP,a3,a9++[⟨⟨f,x,cM,⟨aj,al,am⟩⟩,⟨an,ao,ad⟩⟩],rfl,by go_num,by omega,by have:=bt.out;omega,by omega,a4,Z (by rw[cL.out,List.map_append,bU.out,List.map_append,List.filter_append];have h:=cN.out;rw[b0.out]at h;simp[h])⟩
  have g:decide (ar<0)=false:=decide_eq_false aZ;have bw:=db.out;have bx:ar=ed Y f:=b0.out;have bw:(cE Y ar).kind=x:=by
   rw[bx];rcases bw with h|h
   ·exact absurd (bx▸h) aZ
   exact h
  have cN:-1<=ar/\ar<Y.length:=by rw[bx];exact lr _ _
  obtain⟨bb,rfl⟩:=Int.eq_ofNat_of_zero_le (Int.not_lt.1 aZ);have cO:bb<W.length:=by have h:=cN.2;rw[bq.out,List.length_map]at h;omega
  have f:bb<B:=ae
  obtain⟨f,g,cP,y,cQ⟩:=(bP.out.same (SX.out.trans b3.out)).2.2 bb cO;have dc:a8=some ⟨f,g,none⟩:=cP;subst dc;have g:W[bb].at_.kind=x:=by
   rw[<-bw,bq.out,HJ (by simpa using cO)];simp
  have f:=cQ 1 _ rfl;rw[g]at f;have y:=bM f;have y:=bM (X 1 _ rfl);have x:(x !=x)=false:=ai
  have x:(bb:Int)<(B:Int):=ae
  clear bw bx cN g cQ X f cP;go_upto_region 46 with(fail)
  refine wp_region_quiet_below ak ak ?_;repeat (go_big_quiet_step (fail))
  refine wpQuiet_nil ?_;intro _ aV;obtain⟨⟨cR,osq⟩,dd⟩:=aV;subst dd;have cS:=Z (ag.reg w5 cR osq);generalize Sort.grow (redrawn w5 cR) osq=df at cS⊢;go_wp2;go_roundg (i-d)
  case measure=>have:=bt.out;omega
  exact⟨d+1,aW,br,bs,a9,rfl,by go_num,by omega,by have:=bt.out;omega,by omega,Z (ba.out.same (b3.out.trans cS.out)),Z (by rw[cL.out,bU.out,List.map_append,List.filter_append];have h:=b0.out;simp[<-h])⟩
 |@project o _ a9=>
  obtain⟨ar,rfl,bZ⟩:=H6 F.symm;obtain⟨B,D,bv,aM,aJ⟩:=HM M.out H.out 0 ai;have cM:aG=some ⟨B,D,none⟩:=bv;subst cM;replace aM:ac wr (ab B (D+7)) ar.ha.val:=by simpa using aM
  replace aJ:aF wr 6 ar.ha RA.cells ar.attrs:=aJ;have bw:ar.attrs.length<=10000:=H1 H.out 0 ai;have bx:o.attrs=ar.attrs.map RA.at_:=by rw[<-bZ,aB.BN]
  rw[bx]at a9;have aL:j.map RA.at_=r.map (cE (ar.attrs.map RA.at_)):=by rw[<-C,bx]
  have ba:B<wr.heap.size:=J.H5 M.out bv ai;obtain⟨aV,b0⟩:=aq ar.attrs;obtain⟨cN,b3⟩:=aq ar.ha;rw[<-b0]at aL aJ bw a9;rw[<-b3]at aM aJ;obtain⟨cr,ao,bb⟩:=cN;have G:aV.length=ao:=aJ.1;replace aM:ac wr (ab B (D+7)) (U cr ao bb):=aM;have K:r.length=q:=aU.out.1;have cO:=Z (show r.length<=10000 by have d:=congrArg List.length aL;have f:=ci.out;simp at d;omega);have y:q<=9223372036854775807:=aU.out.2.1;have bz:=Z K;have cP:=Z a9;have cQ:=Z aJ;have y:=Z bw;have cR:=Z G;obtain⟨cs,y⟩:=aq (aV.map RA.at_);rw[<-y]at aL;have cS:=Z aL;have c0:=Z y;have ar:ao<=10000:=ae
  obtain⟨c1,c2,c3,c4,c5⟩:=info_parts Tryz.infoAt;clear aL aJ b3 b0 bx bZ F C bv y a9 K G bw;go_upto_region 29 with(fail)
  clear T u v;obtain⟨aW,rfl⟩:∃y:World,y=wr:=⟨_,rfl⟩;go_loopg [6,11] (q+1) (λo x y G=>∃(d f:Nat) (g:aX) (i:List RA),x=.slice g d f/\y=.int .i64 d/\d<=q/\q-d<o/\Hid (HB aW G g d f i)/\Hid (i.map RA.at_=(r.take d).map (cE cs)))
  case atStart=>exact⟨0,0,none,[],rfl,rfl,by omega,by omega,Z (HB.zero _),Z ai⟩
  case round=>
  obtain⟨i,bp,bq,br,rfl,rfl,dp,ct,bA,cu⟩:=hrel;have cv:=Z ct;clear ct;have SX:=Z bA.out.k;have aZ:=qb SX A;have u:=bh aZ;have cw:=bn aZ;have bN:=(ag.cell SX.out (p:=(ab B (D+7))) ba).trans aM;by_cases y:i<q
  case neg=>
   have d:¬(i:Int)<(q:Int):=ae
   have T:=az aZ;have v:=b7 aZ;have d:j.map RA.at_=br.map RA.at_:=by rw[cu.out,List.take_of_length_le (by have:=bz.out;omega)];exact cS.out
   have f:=Z (λb (f:ag wr b)=>HZ ⟨E,m,z⟩ ⟨bq,i,bp⟩ j br b (I.out.same (SX.out.trans f)) (aF.same (bA.out.lies ae) f) (by rw[d];exact HV _));have g:Hid (Rt 57 #[U E m z,U bq i bp] wr (.bool true)):=f;clear f d;go_wp2_with fail
   refine(g.out wr (ag.refl _)).mono ?_;exact sL
  case pos=>
  have y:(i:Int)<(q:Int):=ae
  have bO:i<r.length:=by have:=bz.out;omega
  obtain⟨V,W,cx,bs,cy⟩:=aU.out.2.2 i bO;have c6:a7=some ⟨V,W,none⟩:=cx;subst c6;have bt:=cP.out r[i] (List.getElem_mem bO);have bP:r.take (i+1)=r.take i++[r[i]]:=by rw[List.take_succ_eq_append_getElem bO]
  have u0:=(ag.cell SX.out (p:=(ab V (W+i*1+0))) bs).trans (cy 0 _ rfl);simp only[Nat.mul_one,Nat.add_zero]at u0;generalize r[i]=dq at bt bP u0;obtain⟨d,rfl⟩:=Int.eq_ofNat_of_zero_le bt.1;have cz:d<aV.length:=by have:=bt.2;simp at this;omega
  have y:d<ao:=by have:=cR.out;omega
  obtain⟨f,g,cA,x,bS⟩:=cQ.out.2.2 d cz;have c8:cr=some ⟨f,g,none⟩:=cA;subst c8;have bT:cE cs (d:Int)=aV[d].at_:=by rw[c0.out,HJ (by simpa using cz)];simp
  generalize aV[d]=c9 at bS bT;have da:=Z bP;have db:=Z bT;clear bP bT bt cx cA cy;obtain⟨⟨N,X,cB,⟨ad,aj,al⟩⟩,⟨am,an,Y⟩⟩:=c9;have y:=λy G K=>(ag.cell SX.out (p:=(ab f (g+d*6+y))) x).trans (bS y G K);have cD:ac wr (ab f (g+d*6)) N:=by have h:=y 0 _ rfl;simpa using h
  have a0:=Z y;clear bS y;have dc:=bM u;have dd:=bM cw;have de:=bM bN;have df:=bM u0;have dh:decide ((d:Int)<0)=false:=decide_eq_false ae;have di:decide ((ao:Int)<=(d:Int))=false:=decide_eq_false ae;have dj:decide (ao<=d)=false:=decide_eq_false ae;have y:(d:Int)<(ao:Int):=ae
  go_upto_region 31 with(fail)
  refine wp_region_quiet_below ak ak ?_;repeat (go_big_quiet_step (fail))
  refine wpQuiet_nil ?_;intro _ aL;obtain⟨⟨cF,osq⟩,dk⟩:=aL;subst dk;have P:=Z (ag.reg wr cF osq);generalize Sort.grow (redrawn wr cF) osq=Q at P⊢;have I9:=Z (bA.out.same P.out);have cG:=qb P aZ;have ay:=SX.out.size;have y:=P.out.size;have bu:=J.lt A.out;clear dc dd de df dh di dj u cw;go_upto_region 33 with(fail)
  have cH:(λw':World=>ac w' (ab (t.heap.size+1) 2) (U (some ⟨B,D,none⟩) 1 aw)/\ac w' (ab B (D+7)) (U (some ⟨f,g,none⟩) ao bb)/\ac w' (ab (t.heap.size+1) 4) (U (some ⟨V,W,none⟩) q ax)/\ac w' (ab V (W+i)) (d:Int)/\ac w' (ab f (g+d*6)) N/\ac w' (ab f (g+d*6+1)) X/\ac w' (ab f (g+d*6+2)) (U am an Y)/\ac w' (ab f (g+d*6+3)) ad/\ac w' (ab f (g+d*6+4)) aj/\ac w' (ab f (g+d*6+5)) al) Q.drew:=
   ⟨bh cG,(ag.cell P.out (p:=(ab B (D+7))) (aT ba ay)).trans bN,bn cG,(ag.cell P.out (p:=(ab V (W+i))) (aT bs ay)).trans u0,(ag.cell P.out (p:=(ab f (g+d*6))) (aT x ay)).trans cD,
    (ag.cell P.out (p:=(ab f (g+d*6+1))) (aT x ay)).trans (a0.out 1 _ rfl),(ag.cell P.out (p:=(ab f (g+d*6+2))) (aT x ay)).trans (a0.out 2 _ rfl),(ag.cell P.out (p:=(ab f (g+d*6+3))) (aT x ay)).trans (a0.out 3 _ rfl),
    (ag.cell P.out (p:=(ab f (g+d*6+4))) (aT x ay)).trans (a0.out 4 _ rfl),(ag.cell P.out (p:=(ab f (g+d*6+5))) (aT x ay)).trans (a0.out 5 _ rfl)⟩
  clear bN u0 cD;have cI:Hid (∀y:Addr,y.block<aW.heap.size->∀{b G:af},Q.heap.size<=b.heap.size->b.grownBy G (Value.slice bq i bp).ownBlock->G.cell? y=b.cell? y):=Z (λy G b G G G=>World.cell?_of_block (G.block y.block ae (λe=>by
   exact vk)))
  refine ez (S:=(λw':World=>ac w' (ab (t.heap.size+1) 2) (U (some ⟨B,D,none⟩) 1 aw)/\ac w' (ab B (D+7)) (U (some ⟨f,g,none⟩) ao bb)/\ac w' (ab (t.heap.size+1) 4) (U (some ⟨V,W,none⟩) q ax)/\ac w' (ab V (W+i)) (d:Int)/\ac w' (ab f (g+d*6)) N/\ac w' (ab f (g+d*6+1)) X/\ac w' (ab f (g+d*6+2)) (U am an Y)/\ac w' (ab f (g+d*6+3)) ad/\ac w' (ab f (g+d*6+4)) aj/\ac w' (ab f (g+d*6+5)) al)) 15 cH λhS=>?_;refine dg ?_;refine eh ?_;refine tk 11 hS ?_;refine tk 12 hS ?_;refine aK 13 (λbU a8=>?_);go_simp;have s:=λ(aO:Addr) (cJ:aO.block<aW.heap.size)=>World.cell?_alloc_lt Q.drew (.cells #[N,X,U am an Y,ad,aj,al] 111) aO (show aO.block<Q.heap.size by omega);have R:(λw':World=>ac w' (ab (t.heap.size+1) 2) (U (some ⟨B,D,none⟩) 1 aw)/\ac w' (ab B (D+7)) (U (some ⟨f,g,none⟩) ao bb)/\ac w' (ab (t.heap.size+1) 4) (U (some ⟨V,W,none⟩) q ax)/\ac w' (ab V (W+i)) (d:Int)/\ac w' (ab f (g+d*6)) N/\ac w' (ab f (g+d*6+1)) X/\ac w' (ab f (g+d*6+2)) (U am an Y)/\ac w' (ab f (g+d*6+3)) ad/\ac w' (ab f (g+d*6+4)) aj/\ac w' (ab f (g+d*6+5)) al) (Q.drew.alloc (.cells #[N,X,U am an Y,ad,aj,al] 111)):=
   ⟨(
    s ⟨t.heap.size+1,2,none⟩ bu).trans hS.1,(s ⟨B,D+7,none⟩ ba).trans hS.2.1,(s ⟨t.heap.size+1,4,none⟩ bu).trans hS.2.2.1,(s ⟨V,W+i,none⟩ bs).trans hS.2.2.2.1,(s ⟨f,g+d*6,none⟩ x).trans hS.2.2.2.2.1,(s ⟨f,g+d*6+1,none⟩ x).trans hS.2.2.2.2.2.1,
    (s ⟨f,g+d*6+2,none⟩ x).trans hS.2.2.2.2.2.2.1,(s ⟨f,g+d*6+3,none⟩ x).trans hS.2.2.2.2.2.2.2.1,(s ⟨f,g+d*6+4,none⟩ x).trans hS.2.2.2.2.2.2.2.2.1,(s ⟨f,g+d*6+5,none⟩ x).trans hS.2.2.2.2.2.2.2.2.2⟩
  refine a8 _ _ (λ_=>R) ?_;clear a8 bU s;refine av ?_;refine aK 14 (λbU a8=>?_);have bW:=Z (show ag Q (Q.drew.alloc (.cells #[N,X,U am an Y,ad,aj,al] 111))from((ag.refl Q).drew).alloc _);have cK:=Z (aH bW.out I9.out.own);have cL:=Z (cC Q.drew #[N,X,U am an Y,ad,aj,al] 111 6 rfl);have G:i<=9000000:=by have y:=cO.out;have y:=bz.out;omega
  have dl:=bW.out.size;refine c7 (Q.drew.alloc (.cells #[N,X,U am an Y,ad,aj,al] 111)) (.tmp 207) (.tmp 220) 79 rfl aW.heap.size 111 c1 _ 6 80 Tryz.underlying79 c2 c3 c4 c5 rfl au (U bq i bp) i (br.flatMap RA.cells) rfl cK.out (Q.heap.size+1) (some ⟨Q.heap.size,0,none⟩) 1 1 (#[N,X,U am an Y,ad,aj,al]:Array Value).toList rfl cL.out bl b1 ae ae ?_;intro y a2 bX bY dm;obtain⟨a3,aP,rfl,dn⟩:=bo bX;have a4:=Z (HB.push (xs:=[⟨⟨N,X,cB,⟨ad,aj,al⟩⟩,⟨am,an,Y⟩⟩]) I9.out rfl bW.out bY bX);have y:=λ(aO:Addr) (cJ:aO.block<aW.heap.size)=>cI.out aO cJ dl bY;refine a8 _ _ (λ_=>⟨(y ⟨t.heap.size+1,2,none⟩ bu).trans R.1,(y ⟨B,D+7,none⟩ ba).trans R.2.1,(y ⟨t.heap.size+1,4,none⟩ bu).trans R.2.2.1,(y ⟨V,W+i,none⟩ bs).trans R.2.2.2.1,(y ⟨f,g+d*6,none⟩ x).trans R.2.2.2.2.1,(y ⟨f,g+d*6+1,none⟩ x).trans R.2.2.2.2.2.1,
   (y ⟨f,g+d*6+2,none⟩ x).trans R.2.2.2.2.2.2.1,(y ⟨f,g+d*6+3,none⟩ x).trans R.2.2.2.2.2.2.2.1,(y ⟨f,g+d*6+4,none⟩ x).trans R.2.2.2.2.2.2.2.2.1,(y ⟨f,g+d*6+5,none⟩ x).trans R.2.2.2.2.2.2.2.2.2⟩) ?_
  clear a8 bU y bX bY dm dn hS cH R cK cL cI;refine av ?_;refine b2 ?_;refine tq 15 ?_;refine bV ?_;go_wp2_with fail
  go_roundg (q-i)
  case measure=>have:=cv.out;omega
  exact⟨i+1,aP,a3,br++[⟨⟨N,X,cB,⟨ad,aj,al⟩⟩,⟨am,an,Y⟩⟩],rfl,by go_num,by omega,by have:=cv.out;omega,a4,Z (by rw[da.out,List.map_append,cu.out,List.map_append];simp[db.out])⟩
 |@group o _ ds dt bp bq V=>
  obtain⟨ay,rfl,cr⟩:=H6 F.symm;obtain⟨B,D,bN,aL,aM⟩:=HM M.out H.out 0 ai;have cR:aG=some ⟨B,D,none⟩:=bN;subst cR;replace aL:ac wr (ab B (D+7)) ay.ha.val:=by simpa using aL
  replace aM:aF wr 6 ay.ha RA.cells ay.attrs:=aM;have bO:ay.attrs.length<=10000:=H1 H.out 0 ai;have bP:o.attrs=ay.attrs.map RA.at_:=by rw[<-cr,aB.BN]
  rw[bP]at bq V;have aO:j.map RA.at_=r.map (cE (ay.attrs.map RA.at_))++[bp]:=by rw[<-C,bP]
  have aV:B<wr.heap.size:=J.H5 M.out bN ai;obtain⟨a8,cs⟩:=aq ay.attrs;obtain⟨cS,ct⟩:=aq ay.ha;rw[<-cs]at aO aM bO bq V;rw[<-ct]at aL aM;obtain⟨cu,ar,br⟩:=cS;have G:a8.length=ar:=aM.1;replace aL:ac wr (ab B (D+7)) (U cu ar br):=aL;have K:r.length=q:=aU.out.1;have cv:=Z (show r.length<=10000 by have d:=congrArg List.length aO;have f:=ci.out;simp at d;omega);have y:q<=9223372036854775807:=aU.out.2.1;have aW:=Z K;have c0:=Z bq;have cw:=Z aM;have y:=Z bO;have c1:=Z G;obtain⟨cx,y⟩:=aq (a8.map RA.at_);rw[<-y]at aO V;have bS:=Z aO;have cy:=Z y;have c2:=Z V;have aA:ar<=10000:=ae
  obtain⟨c3,c4,c5,c6,c8⟩:=info_parts Tryz.infoAt;clear aO aM ct cs bP cr F C bN y bq K G bO V;go_upto_region 29 with(fail)
  clear T u v;obtain⟨a9,rfl⟩:∃y:World,y=wr:=⟨_,rfl⟩;go_loopg [6,11] (q+1) (λo x y G=>∃(d f:Nat) (g:aX) (i:List RA),x=.slice g d f/\y=.int .i64 d/\d<=q/\q-d<o/\Hid (HB a9 G g d f i)/\Hid (i.map RA.at_=(r.take d).map (cE cx)))
  case atStart=>exact⟨0,0,none,[],rfl,rfl,by omega,by omega,Z (HB.zero _),Z ai⟩
  case round=>
  obtain⟨i,bs,bt,bu,rfl,rfl,du,cz,bT,cA⟩:=hrel;have cB:=Z cz;clear cz;have SX:=Z bT.out.k;have aZ:=qb SX A;have u:=bh aZ;have bv:=bn aZ;have bw:=(ag.cell SX.out (p:=(ab B (D+7))) aV).trans aL;by_cases y:i<q
  case neg=>
   have d:¬(i:Int)<(q:Int):=ae
   have T:=az aZ;have v:=b7 aZ;have y:i=q:=ae
   have f:(j.take i).map RA.at_=bu.map RA.at_:=by
    rw[List.map_take,bS.out,cA.out,List.take_left' (by have:=aW.out;simp;omega),List.take_of_length_le (l:=r) (by have:=aW.out;omega)]
   have G:m=i+1:=by
    have d:=congrArg List.length bS.out;have g:j.length=m:=I.out.1;have g:=aW.out;simp at d;omega
   have d:((m:Int)==(i:Int)+1)=true:=aC
   have g:i<=m:=ae
   have x:(i:Int)<=(m:Int):=ae
   have x:i<=z:=by have h:=cU.out (by trivial);omega
   clear d;have g:=Z (λb (d:ag wr b)=>HZ ⟨E,i,z⟩ ⟨bt,i,bs⟩ (j.take i) bu b (IB (I.out.same (SX.out.trans d)) g) (aF.same (bT.out.lies ae) d) (by rw[f];exact HV _));have N:Hid (Rt 57 #[U E i z,U bt i bs] wr (.bool true)):=g;have P:=Z (λb (d:ag wr b)=>Iz b (o1:=aw) (FY:=bm) (wW:=L) (wX:=bE) (FZ:=a7) (wY:=q) (FR:=ax) (lj:=z) ((ag.cell (SX.out.trans d) (p:=(ab B (D+7))) aV).trans aL) (aT aV (SX.out.trans d).size) (I.out.same (SX.out.trans d)) (cw.out.same (SX.out.trans d)) bS.out (by have h:=c2.out;rw[cy.out]at h;exact h));have d:0<=(i:Int)+1/\(i:Int)+1<9223372036854775808:=by have x:=cv.out;have x:=aW.out;omega
   have x:(i:Int)+1=(m:Int):=ae
   have K:wrap64 ((i:Int)+1)=(m:Int):=(IC d.1 d.2).trans x;clear g f y G x d;go_upto_region 35 with(fail)
   go_wp2_with fail
   refine(N.out wr (ag.refl _)).mono ?_;rintro e w5 ⟨rfl,s5⟩;have d:=qb (Z s5) aZ;have Q:Calls Tryz.prog 58 #[.agg #[O 8,O 0,U (some ⟨B,D,none⟩) [ay].length aw,U bm L bE,U a7 q ax,a5,a6,U E m z]] w5 λe w'=>e=.returned (.bool true)/\ag w5 w':=P.out w5 s5;have R:=Z s5;clear T u bv v bw s5;have T:=az d;have f:=aY d;have u:=bh d;have f:=bj d;have bv:=bn d;have f:=bQ d;have f:=cd d;have v:=b7 d;go_wp2_with fail
   refine Q.mono ?_;rintro e d ⟨rfl,W⟩;go_wp2;go_ret;exact⟨rfl,S2.out.trans (SW.out.trans (SX.out.trans (R.out.trans W)))⟩
  case pos=>
  have y:(i:Int)<(q:Int):=ae
  have bU:i<r.length:=by have:=aW.out;omega
  obtain⟨W,X,cD,bx,cF⟩:=aU.out.2.2 i bU;have c9:a7=some ⟨W,X,none⟩:=cD;subst c9;have bz:=c0.out r[i] (List.getElem_mem bU);have bW:r.take (i+1)=r.take i++[r[i]]:=by rw[List.take_succ_eq_append_getElem bU]
  have u0:=(ag.cell SX.out (p:=(ab W (X+i*1+0))) bx).trans (cF 0 _ rfl);simp only[Nat.mul_one,Nat.add_zero]at u0;generalize r[i]=dv at bz bW u0;obtain⟨d,rfl⟩:=Int.eq_ofNat_of_zero_le bz.1;have cG:d<a8.length:=by have:=bz.2;simp at this;omega
  have r:d<ar:=by have:=c1.out;omega
  obtain⟨f,g,cH,x,bX⟩:=cw.out.2.2 d cG;have da:cu=some ⟨f,g,none⟩:=cH;subst da;have bY:cE cx (d:Int)=a8[d].at_:=by rw[cy.out,HJ (by simpa using cG)];simp
  generalize a8[d]=db at bX bY;have dc:=Z bW;have dd:=Z bY;clear bW bY bz cD cH cF;obtain⟨⟨N,Y,cI,⟨aj,al,am⟩⟩,⟨an,ao,ad⟩⟩:=db;have r:=λbp r y=>(ag.cell SX.out (p:=(ab f (g+d*6+bp))) x).trans (bX bp r y);have cJ:ac wr (ab f (g+d*6)) N:=by have h:=r 0 _ rfl;simpa using h
  have ba:=Z r;clear bX r;have de:=bM u;have df:=bM bv;have dh:=bM bw;have di:=bM u0;have dj:decide ((d:Int)<0)=false:=decide_eq_false ae;have dk:decide ((ar:Int)<=(d:Int))=false:=decide_eq_false ae;have dl:decide (ar<=d)=false:=decide_eq_false ae;have r:(d:Int)<(ar:Int):=ae
  go_upto_region 31 with(fail)
  refine wp_region_quiet_below ak ak ?_;repeat (go_big_quiet_step (fail))
  refine wpQuiet_nil ?_;intro _ aO;obtain⟨⟨cK,osq⟩,dm⟩:=aO;subst dm;have P:=Z (ag.reg wr cK osq);generalize Sort.grow (redrawn wr cK) osq=Q at P⊢;have I9:=Z (bT.out.same P.out);have cL:=qb P aZ;have aJ:=SX.out.size;have r:=P.out.size;have bA:=J.lt A.out;clear de df dh di dj dk dl u bv;go_upto_region 33 with(fail)
  have cM:(λw':World=>ac w' (ab (t.heap.size+1) 2) (U (some ⟨B,D,none⟩) 1 aw)/\ac w' (ab B (D+7)) (U (some ⟨f,g,none⟩) ar br)/\ac w' (ab (t.heap.size+1) 4) (U (some ⟨W,X,none⟩) q ax)/\ac w' (ab W (X+i)) (d:Int)/\ac w' (ab f (g+d*6)) N/\ac w' (ab f (g+d*6+1)) Y/\ac w' (ab f (g+d*6+2)) (U an ao ad)/\ac w' (ab f (g+d*6+3)) aj/\ac w' (ab f (g+d*6+4)) al/\ac w' (ab f (g+d*6+5)) am) Q.drew:=
   ⟨bh cL,(ag.cell P.out (p:=(ab B (D+7))) (aT aV aJ)).trans bw,bn cL,(ag.cell P.out (p:=(ab W (X+i))) (aT bx aJ)).trans u0,(ag.cell P.out (p:=(ab f (g+d*6))) (aT x aJ)).trans cJ,
    (ag.cell P.out (p:=(ab f (g+d*6+1))) (aT x aJ)).trans (ba.out 1 _ rfl),(ag.cell P.out (p:=(ab f (g+d*6+2))) (aT x aJ)).trans (ba.out 2 _ rfl),(ag.cell P.out (p:=(ab f (g+d*6+3))) (aT x aJ)).trans (ba.out 3 _ rfl),
    (ag.cell P.out (p:=(ab f (g+d*6+4))) (aT x aJ)).trans (ba.out 4 _ rfl),(ag.cell P.out (p:=(ab f (g+d*6+5))) (aT x aJ)).trans (ba.out 5 _ rfl)⟩
  clear bw u0 cJ;have cN:Hid (∀r:Addr,r.block<a9.heap.size->∀{b y:af},Q.heap.size<=b.heap.size->b.grownBy y (Value.slice bt i bs).ownBlock->y.cell? r=b.cell? r):=Z (λr y b y y V=>World.cell?_of_block (V.block r.block ae (λe=>by
   exact vk)))
  refine ez (S:=(λw':World=>ac w' (ab (t.heap.size+1) 2) (U (some ⟨B,D,none⟩) 1 aw)/\ac w' (ab B (D+7)) (U (some ⟨f,g,none⟩) ar br)/\ac w' (ab (t.heap.size+1) 4) (U (some ⟨W,X,none⟩) q ax)/\ac w' (ab W (X+i)) (d:Int)/\ac w' (ab f (g+d*6)) N/\ac w' (ab f (g+d*6+1)) Y/\ac w' (ab f (g+d*6+2)) (U an ao ad)/\ac w' (ab f (g+d*6+3)) aj/\ac w' (ab f (g+d*6+4)) al/\ac w' (ab f (g+d*6+5)) am)) 15 cM λhS=>?_;refine dg ?_;refine eh ?_;refine tk 11 hS ?_;refine tk 12 hS ?_;refine aK 13 (λbZ bb=>?_);go_simp;have s:=λ(a0:Addr) (cO:a0.block<a9.heap.size)=>World.cell?_alloc_lt Q.drew (.cells #[N,Y,U an ao ad,aj,al,am] 111) a0 (show a0.block<Q.heap.size by omega);have R:(λw':World=>ac w' (ab (t.heap.size+1) 2) (U (some ⟨B,D,none⟩) 1 aw)/\ac w' (ab B (D+7)) (U (some ⟨f,g,none⟩) ar br)/\ac w' (ab (t.heap.size+1) 4) (U (some ⟨W,X,none⟩) q ax)/\ac w' (ab W (X+i)) (d:Int)/\ac w' (ab f (g+d*6)) N/\ac w' (ab f (g+d*6+1)) Y/\ac w' (ab f (g+d*6+2)) (U an ao ad)/\ac w' (ab f (g+d*6+3)) aj/\ac w' (ab f (g+d*6+4)) al/\ac w' (ab f (g+d*6+5)) am) (Q.drew.alloc (.cells #[N,Y,U an ao ad,aj,al,am] 111)):=
   ⟨(
    s ⟨t.heap.size+1,2,none⟩ bA).trans hS.1,(s ⟨B,D+7,none⟩ aV).trans hS.2.1,(s ⟨t.heap.size+1,4,none⟩ bA).trans hS.2.2.1,(s ⟨W,X+i,none⟩ bx).trans hS.2.2.2.1,(s ⟨f,g+d*6,none⟩ x).trans hS.2.2.2.2.1,(s ⟨f,g+d*6+1,none⟩ x).trans hS.2.2.2.2.2.1,
    (s ⟨f,g+d*6+2,none⟩ x).trans hS.2.2.2.2.2.2.1,(s ⟨f,g+d*6+3,none⟩ x).trans hS.2.2.2.2.2.2.2.1,(s ⟨f,g+d*6+4,none⟩ x).trans hS.2.2.2.2.2.2.2.2.1,(s ⟨f,g+d*6+5,none⟩ x).trans hS.2.2.2.2.2.2.2.2.2⟩
  refine bb _ _ (λ_=>R) ?_;clear bb bZ s;refine av ?_;refine aK 14 (λbZ bb=>?_);have b0:=Z (show ag Q (Q.drew.alloc (.cells #[N,Y,U an ao ad,aj,al,am] 111))from((ag.refl Q).drew).alloc _);have cP:=Z (aH b0.out I9.out.own);have cQ:=Z (cC Q.drew #[N,Y,U an ao ad,aj,al,am] 111 6 rfl);have s:i<=9000000:=by have r:=cv.out;have r:=aW.out;omega
  have dn:=b0.out.size;refine c7 (Q.drew.alloc (.cells #[N,Y,U an ao ad,aj,al,am] 111)) (.tmp 207) (.tmp 220) 79 rfl a9.heap.size 111 c3 _ 6 80 Tryz.underlying79 c4 c5 c6 c8 rfl au (U bt i bs) i (bu.flatMap RA.cells) rfl cP.out (Q.heap.size+1) (some ⟨Q.heap.size,0,none⟩) 1 1 (#[N,Y,U an ao ad,aj,al,am]:Array Value).toList rfl cQ.out bl b1 ae ae ?_;intro r a2 b3 V dp;obtain⟨a3,aP,rfl,dq⟩:=bo b3;have a4:=Z (HB.push (xs:=[⟨⟨N,Y,cI,⟨aj,al,am⟩⟩,⟨an,ao,ad⟩⟩]) I9.out rfl b0.out V b3);have r:=λ(a0:Addr) (cO:a0.block<a9.heap.size)=>cN.out a0 cO dn V;refine bb _ _ (λ_=>⟨(r ⟨t.heap.size+1,2,none⟩ bA).trans R.1,(r ⟨B,D+7,none⟩ aV).trans R.2.1,(r ⟨t.heap.size+1,4,none⟩ bA).trans R.2.2.1,(r ⟨W,X+i,none⟩ bx).trans R.2.2.2.1,(r ⟨f,g+d*6,none⟩ x).trans R.2.2.2.2.1,(r ⟨f,g+d*6+1,none⟩ x).trans R.2.2.2.2.2.1,
   (r ⟨f,g+d*6+2,none⟩ x).trans R.2.2.2.2.2.2.1,(r ⟨f,g+d*6+3,none⟩ x).trans R.2.2.2.2.2.2.2.1,(r ⟨f,g+d*6+4,none⟩ x).trans R.2.2.2.2.2.2.2.2.1,(r ⟨f,g+d*6+5,none⟩ x).trans R.2.2.2.2.2.2.2.2.2⟩) ?_
  clear bb bZ r b3 V dp dq hS cM R cP cQ cN;refine av ?_;refine b2 ?_;refine tq 15 ?_;refine bV ?_;go_wp2_with fail
  go_roundg (q-i)
  case measure=>have:=cB.out;omega
  exact⟨i+1,aP,a3,bu++[⟨⟨N,Y,cI,⟨aj,al,am⟩⟩,⟨an,ao,ad⟩⟩],rfl,by go_num,by omega,by have:=cB.out;omega,a4,Z (by rw[dc.out,List.map_append,cA.out,List.map_append];simp[dd.out])⟩
 |@rename o _ P Q=>
  obtain⟨f,rfl,a0⟩:=H6 F.symm;obtain⟨X,Y,al,g,x⟩:=HM M.out H.out 0 ai;have bT:aG=some ⟨X,Y,none⟩:=al;subst bT;replace g:ac wr (ab X (Y+7)) f.ha.val:=by simpa using g
  replace x:aF wr 6 f.ha RA.cells f.attrs:=x;have a8:f.attrs.length<=10000:=H1 H.out 0 ai;have am:o.attrs=f.attrs.map RA.at_:=by rw[<-a0,aB.BN]
  rw[am]at Q;obtain⟨a9,Q⟩:=Q;obtain⟨d,rfl⟩:=Int.eq_ofNat_of_zero_le a9;have B:j.map RA.at_=(f.attrs.map RA.at_).modify d (λi=>{i with name:=P}):=by rw[<-C,am,Int.toNat_natCast]
  have bU:X<wr.heap.size:=J.H5 M.out al ai;obtain⟨D,ba⟩:=aq f.attrs;obtain⟨bW,bb⟩:=aq f.ha;rw[<-ba]at B x a8 Q;rw[<-bb]at g x;obtain⟨bp,an,bq⟩:=bW;have br:D.length=an:=x.1;replace g:ac wr (ab X (Y+7)) (U bp an bq):=g;have ao:d<D.length:=by simp at Q;omega
  have bX:j.length=m:=I.out.1;obtain rfl:m=an:=by have f:=congrArg List.length B;simp at f;omega
  have ar:d<j.length:=ae
  have bs:j[d].at_.name=P:=by
   have h:(j.map RA.at_)[d]'(by simpa using ar)=((D.map RA.at_).modify d (λf=>{f with name:=P}))[d]'(by simpa using ao):=by simp only[B]
   simp only[List.getElem_map,List.getElem_modify]at h;rw[h];simp
  obtain⟨R,V,bt,bu,bv⟩:=I.out.2.2 d ar;have bY:E=some ⟨R,V,none⟩:=bt;subst bY;have bw:ac wr (ab R (V+d*6)) P:=by have h:=bv 0 _ rfl;rw[bs]at h;simpa using h
  have bZ:=Z B;have b0:=Z x;have b3:=Z ao;have cr:=Z br;have f:m<=10000:=ae
  have bx:d<m:=ae
  have f:(d:Int)<(m:Int):=ae
  have cs:decide ((0:Int)<=(d:Int))=true:=decide_eq_true ae;have ct:decide ((d:Int)<(m:Int))=true:=decide_eq_true f;have cu:decide (d<m)=true:=decide_eq_true bx;have cv:((m:Int)==(m:Int))=true:=ai
  have bz:=bQ A;have cw:=bM T;have cx:=bM u;have ay:=bM bz;have aJ:=bM v;have cy:=bM g;obtain⟨cz,cA,cB,cD,cF⟩:=info_parts Tryz.infoAt;clear B x bb ba am a0 F C al a9 Q br a8 ao bX bs bt bv ar;go_upto_region 52 with(fail)
  refine wp_region_quiet_below ak ak ?_;repeat (go_big_quiet_step (fail))
  refine wpQuiet_nil ?_;intro _ B;obtain⟨⟨bA,osq⟩,cG⟩:=B;subst cG;have i:=Z (ag.reg wr bA osq);have bN:=(ag.cell i.out (p:=(ab X (Y+7))) bU).trans g;have aL:=(ag.cell i.out (p:=(ab R (V+d*6))) bu).trans bw;have bO:=aT bu i.out.size;generalize Sort.grow (redrawn wr bA) osq=W at i bN aL bO⊢;have aM:=qb i A;have cH:=Z (b0.out.same i.out);clear cw cx ay aJ cy cs ct cu cv T u bz v g bw;have u:=bh aM;have cI:∀f∈D.flatMap RA.cells,f.oneCell'=true:=λf g=>by
   obtain⟨g,_,o⟩:=List.mem_flatMap.1 g;exact RA.BZ g f o
  go_upto_region 54 with(first|(at_builtin;refine d6 _ rfl (.tmp 368) (.tmp 373) 79 rfl W.heap.size 111 cz _ 6 80 Tryz.underlying79 cA cB cD cF rfl au aa 0 [] rfl (HB.zero W).own W.heap.size bp m bq (D.flatMap RA.cells) rfl (pj RA.eE cH.out) cI b1 ae (Nat.le_refl _) ?_;intro f a2 N ad aj;obtain⟨bB,a1,rfl,aO⟩:=bo N;have I9:=Z (HB.push (HB.zero W) cr.out (ag.refl W) ad N);clear N ad aj aO)|fail)
  have aO:Hid (HB W a2 bB m a1 D):=Z (by simpa using I9.out);obtain⟨ad,f,N,_⟩:=fE aO.out.own ae;subst N;clear I9 bN u;have f:=Z aO.out.k;have g:=qb f aM;have bP:=(ag.cell f.out (p:=(ab R (V+d*6))) bO).trans aL;have ay:=bM (bQ g);have aJ:=bM (b7 g);have cJ:=bM bP;refine yi 12 ak ak ak ?_;simp only[List.take_succ_cons,List.take_zero,List.drop_succ_cons,List.drop_zero];repeat (go_big_quiet_step (fail))
  refine wpQuiet_nil ?_;intro aV bS;have cK:=Z (show ag a2 aV by obtain⟨aj,rfl⟩:=bS;exact ag.reg _ _ _);clear bS ay aJ cJ aL bP;have aj:=Z (aO.out.same cK.out);obtain⟨g',f,N,_,aW,_⟩:=fE aj.out.own ae;injection N with N
  injection N with N
  subst N;have cL:ac aV (ab ad (d*6)) (.string D[d].at_.name):=ke RA.eE aj.out.own aj.out.len d bx 0 ae;have cM:=λap=>J.frozen aW ap;have cN:=J.lt aW;go_upto_region 55 with(fail)
  obtain⟨g,o,q⟩:=HB.name aj.out b3.out P;have f:=Z q;have r:=Z o;clear q o cL cM cN aW;obtain⟨aZ,d⟩:=aq (aV.setCell (ab ad (d*6)) P);rw[<-d]at f⊢;clear d;have SX:=Z f.out.k;have d:=qb SX aM;have v:=b7 d;have d:j.map RA.at_=g.map RA.at_:=bZ.out.trans r.out.symm;have f:=Z (λb (o:ag aZ b)=>HZ ⟨some ⟨R,V,none⟩,m,z⟩ ⟨some ⟨ad,0,none⟩,m,a1⟩ j g b (I.out.same (i.out.trans (SX.out.trans o))) (aF.same (f.out.lies ae) o) (by rw[d];exact HV _));have cO:Hid (Rt 57 #[U (some ⟨R,V,none⟩) m z,U (some ⟨ad,0,none⟩) m a1] aZ (.bool true)):=f;clear f d;go_wp2_with fail
  refine(cO.out aZ (ag.refl _)).mono ?_;rintro e w5 ⟨rfl,s5⟩;go_wp2;go_ret;exact⟨rfl,S2.out.trans (SW.out.trans (i.out.trans (SX.out.trans s5)))⟩
theorem Io {d:List Tb}:∀{c:List aB},Pl.HU d (aB.aN c)->∀b∈c,b.pl.Ty d
 |[],_,b,a=>by cases a
 |r::c,h,b,a=>by
  rw[aB.aN,Pl.HU]at h;rcases dd a with rfl|a
  ·exact h.1
  exact Io h.2 b a
theorem IF {a:af} {e:Nat->Prop} {h:Hd} {b:List RT} (f:bI a h b) {c:aB} (g:dJ a e c) (i:c.pl.Ty (b.map RT.tb)):H9 h a c:=by
 induction g with
 |@mk j k d l y m z n o p A q r B s t C u D v w x=>
  have a:Pl.Ty (b.map RT.tb) (Pl.mk j k (aB.aN l) m n o p (q.map RA.at_)):=i;rw[Pl.Ty]at a;exact IE f r s t u v w (λb d=>x b d (Io a.2 b d)) a.1
end Go.Proofs.YteamkimbmdgdbaaGreatDoor

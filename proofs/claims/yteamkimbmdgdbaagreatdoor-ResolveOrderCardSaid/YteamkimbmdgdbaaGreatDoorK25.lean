import Derived.Test.YteamkimbmdgdbaaGreatDoorK22
import Derived.Test.YteamkimbmdgdbaaGreatDoorK23
set_option linter.unusedSimpArgs false
set_option linter.unusedVariables false
set_option maxHeartbeats 16000000
set_option maxRecDepth 100000
namespace Go.Proofs.YteamkimbmdgdbaaGreatDoor
open Go.Proofs.Tryz
open Go.RowKit
mutual
def Ex.cL:Ex->Prop
 |.mk _ _ kids _ names _ _ _ _=>names.length<=5001/\kids.length<=5001/\Ex.jK kids
def Ex.jK:List Ex->Prop
 |[]=>True
 |e::es=>e.cL/\Ex.jK es
end
theorem Ex.jK.mem:∀{a:List Ex},Ex.jK a->∀b∈a,b.cL
 |[],_,_,h=>by cases h
 |x::a,hf,b,h=>by
  rw[Ex.jK]at hf;rcases de h with rfl|h
  ·exact hf.1
  exact Ex.jK.mem hf.2 b h
theorem FC {d e f:Nat} {h:Hd} {g:List RT} {u:aP} {j:ah} {S:Nat->Prop} {b:RE} (l:dK j S b):b.ex.cL->∀a,jF a d e f h g u S->dK a S b->
 Calls prog 200 #[.agg b.cells.toArray,ak e,ak f] a λc j=>nH a d h u (fZ (g.map RT.tb) b.ex) (pk a.heap.size) c j:=by
 induction l with
 |@mk m n o i p q r k s t v w y z A B C D E F G H I J K L x=>
  intro b a j c;have b:k.length<=5001/\(RE.exs i).length<=5001/\Ex.jK (RE.exs i):=b;rw[RE.sn,List.length_map]at b;exact Ft d e f h g u S m n o i p q r k s t v w a j c b.1 b.2.1 (λd e a j c=>x d e (b.2.2.mem _ (List.mem_map.2 ⟨d,e,rfl⟩)) a j c)
structure dM where
 name:ByteArray
 rp:aD
def dM.cells (a:dM):List Value:=.string a.name::a.rp.cells
def dM.qy (a:dM):Qy:=⟨a.name,a.rp.pl⟩
theorem dM.len (a:dM):a.cells.length=9:=by show a.rp.cells.length+1=9;rw[aD.len]
def pw (a:ah) (S:Nat->Prop) (b:dM):Prop:=dL a S b.rp
theorem iT.FD {d k:Type} {a i e:ah} {j f:Nat} {l:aX} {m:Nat} {enc:d->List Value} {val:d->k} {At:World->(Nat->Prop)->d->Prop} {n:aU} {k o:Nat} {q:List d} {c:d} {v:aP} {r:Value->Array Value}
 (w:∀(a:ah) (S s:Nat->Prop) (c:d),At a S c->(∀b,S b->s b)->At a s c) (x:∀(a e:ah) (S:Nat->Prop) (c:d) (d:List Nat),At a S c->Kp d a e->(∀b∈d,¬S b)->At e S c)
 (t:Kp [j] a i) (y:a.ownsRow f l m (O n k o) k v) (d:j<f) (d:f<=a.heap.size) (z:At i (Bw a.heap.size i.heap.size) c) (A:fP i e j f l m enc n k o q c r):iT a e j f l m enc val At n k o q (val c) r:=by
 obtain⟨B,C,b,D,p,u⟩:=A;have hr:=b2 y;refine⟨c,B,C,rfl,b,D,(t.mono (λ_ h=>by rw[aC h];simp)).trans p,u.imp id (λ⟨a,h1,c⟩=>⟨a,h1,bJ t.size c⟩),w _ _ _ _ (x _ _ _ _ _ z p ?_) ?_⟩
 ·exact sB
 intro b hS;have h1:=hS.1;have a:=hS.2;have a:=p.size;refine⟨⟨h1,by omega⟩,λg=>?_⟩;rcases u with h|⟨E,h,F⟩
 ·rw[h]at g
  have:=(hr b g.symm).2;omega
 rw[h]at g;injection g with g
 omega
def mM (a:List Tb) (x:aB):RO Qy:=(fZ a x.expr).bind λa=>.ok ⟨x.name,a.1⟩
theorem FE (b:List Tb) (a:RI):mM b a.it=(fZ b a.e.ex).bind λb=>.ok ⟨a.name,b.1⟩:=by simp only[mM,RI.it]
def FF (d:ah) (b f:Nat) (h:Hd) (u:aP) (g:aU) (i j:Nat) (k:List dM) (l:Value->Int->Array Value) (m:RO Qy) (e:Ending) (c:ah):Prop:=
 match m with
 |.ok x=>e=.returned (.tuple #[])/\∃a,iT d c b f 107 9 dM.cells dM.qy pw g i j k x (λf=>l f a)
 |.bad er a=>e=.panicked [{v:=fD er a,recovered:=false}]/\Kp [b] d c/\gJ c b h u
theorem Tryz.FG:(prog.info? 107).map (λa=>(a.zero,a.size,a.bytes))=some (some (.agg #[ai,J 0,J 0,ab,ab,ab,J 0,J 0,ab]),9,144):=am
theorem FH (d L:Nat) (G:RI) (h:Hd) (H:List RT) (u1 u2 u3 u4 u5 u7:aA) (Y:Int) (g:aU) (b i:Nat) (T:List dM) (a:ah) (S:Nat->Prop)
 (V:aa a d 157 #[h.val,u1,u2,u3,u4,u5,O g b i,u7,Y]) (aN:nG [u1,u2,u3,u4,u5,.slice g b i,u7]) (aO:bI a h H) (aP:g0 d H) (bN:lB (H.map RT.tb)) (W:dK a S G.e) (aR:¬S d) (bO:∀I,S I->I<a.heap.size) (aT:G.e.ex.cL)
 (aV:a.ownsRow L 107 9 (O g b i) b (T.flatMap dM.cells)) (aW:T.length=b) (aX:d<L) (E:L<=a.heap.size) (ad:b<=1000):
 Calls prog 122 #[ak d,.agg G.cells.toArray] a λe w'=>FF a d L h [u1,u2,u3,u4,u5,.slice g b i,u7] g b i T (λad K=>#[h.val,u1,u2,u3,u4,u5,ad,u7,.int .i64 K]) (mM (H.map RT.tb) G.it) e w':=by
 obtain⟨bP,bQ,bR,bS,bT⟩:=info_parts Tryz.FG;obtain⟨M,N,P⟩:=h;have X:=Z aV;have aY:Hid (aa a d 157 #[O M N P,u1,u2,u3,u4,u5,O g b i,u7,Y]):=Z V;have bU:=V.lt;have a0:=Z aN;have a1:=Z (λ(c:ah) (f j:Nat) (k:jF c d f j ⟨M,N,P⟩ H [u1,u2,u3,u4,u5,.slice g b i,u7] S) (e:dK c S G.e)=>FC W aT c k e);have bV:=Z W;have bW:=Z aO;obtain⟨bX,Y⟩:=av (mM (H.map RT.tb) G.it);rw[<-Y];obtain⟨a2,ad⟩:=av (fZ (H.map RT.tb) G.e.ex);rw[<-ad]at a1;obtain⟨a3,ai⟩:=av G.name;have bY:=Z (show bX=a2.bind λc=>.ok ⟨a3,c.1⟩ by rw[Y,ad,ai,FE]);clear Y ad W aT aV V aO aN;obtain⟨b0,j,b1,b4,b5,⟨b6,b8,b9⟩,c2,⟨ca,cb,cd⟩,c3,ce,cg,ch,⟨ci,cj,ck⟩,c4,cl,cm,⟨cn,co,cp⟩,c5,⟨cq,cr,cs⟩,c6,⟨ct,cu,cw⟩,c7,⟨a4,a5,⟨a6,a7,a8⟩,c8,⟨a9,ba,bc⟩,c9,⟨bd,bh,bk⟩,da,bm,bn,bo,bp⟩⟩:=G;have cx:j=a3:=ai.symm;clear ai;subst cx;have cy:=Z (Kp.refl [d] a);have cz:=bb bU;show Calls prog 122 #[ak d,.agg #[b0,j,b1,b4,b5,O b6 b8 b9,O ca cb cd,ce,cg,ch,O ci cj ck,cl,cm,O cn co cp,O cq cr cs,O ct cu cw,a4,a5,O a6 a7 a8,O a9 ba bc,O bd bh bk,bm,bn,bo,bp]] a _;go_enter func122,ntmps122
 go_upto_region 1 with(fail)
 obtain⟨W,G,V,f,bq⟩:=nb a 154 _;rw[G];clear G;have W:=qk cy f;have Y:=qb f aY;obtain⟨ad,G,cA,f,br⟩:=nc bq 95 _;rw[G];clear G;have cB:=qk W f;have cC:=qb f Y;have cD:=qb f V;go_upto_region 3 with(fail)
 obtain⟨G,V,W,f,Y⟩:=nc br 289 _;rw[V];clear V;have Q:=qk cB f;have V:=qb f cC;have al:=qb f cD;have F:=qb f cA;have ad:G.heap.size=a.heap.size+3:=Y;have ad:ae G (ac (a.heap.size+2) 0) (.func (.func 200) #[] #[ak (a.heap.size+2),ak a.heap.size]):=aa.cell W 0;have W:=aa.lt W;have W:=AP F;have W:=AQ F;have W:=AR F;have W:=AS F;have W:=AT F;have W:=AU F;have W:=AV F;have W:=AW F;have W:=AX F;have W:=aa.lt al;have H:Hid (jF G d (a.heap.size+2) a.heap.size ⟨M,N,P⟩ H [u1,u2,u3,u4,u5,.slice g b i,u7] S):=Z
  {
   bx:=⟨_,V.out⟩,us:=a0.out,hf:=by omega,cf:=ad,hv:=W,cv:=aa.cell al.out 0,nf:=by omega,nv:=λe=>cz e.symm,
   ta:=bW.out.iR (gJ.hV (h:=⟨M,N,P⟩) (u:=[u1,u2,u3,u4,u5,.slice g b i,u7]) ⟨_,aY.out⟩ a0.out) aP Q.out,ko:=aP,fa:=bN,sx:=aR,sl:=λI E=>by have:=bO I E;omega}
 have V:=Z (bV.keep Q (λI E=>by rw[aC E];exact aR));have H:=Z (a1 G _ _ H V);have cE:Hid (Calls prog 200 #[.agg #[a4,a5,O a6 a7 a8,O a9 ba bc,O bd bh bk,bm,bn,bo,bp],ak (a.heap.size+2),ak a.heap.size] G λe w'=>nH G d ⟨M,N,P⟩ [u1,u2,u3,u4,u5,.slice g b i,u7] a2 (pk G.heap.size) e w'):=H;have cF:∀G a,(callFunc 200 G).run prog a=.ok (.enter 200 G) a:=enters_of func200 am rfl;clear bq br Y;go_wp2_with fail
 refine xh Q bY cE ?aj ?aB
 case aj=>
  intro m K m c k l;go_wp2;refine⟨rfl,?_⟩;rw[c.out];exact⟨rfl,Q.trans k,l⟩
 intro cG cH c cI bs cJ U bt;obtain⟨db,cM⟩:=cG;obtain⟨an,rfl,bu,bz⟩:=cJ;obtain⟨cN,cP⟩:=bt.out;have bA:=Z (Q.trans U);have G:=bA.size;have cQ:=qo U al;have cR:=qo U F;obtain⟨RP,F⟩:=av an;rw[<-F]at bz bs;have cS:=Z (show RP.cells=an.cells by rw[F]);clear bt cI cF U F;obtain⟨l,m,⟨n,o,p⟩,dc,⟨q,r,s⟩,dd,⟨t,v,w⟩,de,y,z,⟨A,B,C⟩,df⟩:=an;have cT:cH=.tuple #[.agg #[l,m,O n o p,O q r s,O t v w,y,z,O A B C],cM]:=bu;clear bu;subst cT;have cU:Hid (RP.cells=[.int .i64 l,.int .i64 m,.slice n o p,.slice q r s,.slice t v w,.int .i64 y,.int .i64 z,.slice A B C]):=cS;go_upto_region 4 with(first|(refine wpList_store_row rfl 105 (.tmp 5) (.tmp 13) rfl c.heap.size #[l,m,O n o p,O q r s,O t v w,y,z,O A B C] rfl rfl 105 #[J 0,J 0,ab,ab,ab,J 0,J 0,ab] (aa.new c 105 #[J 0,J 0,ab,ab,ab,J 0,J 0,ab]) am rfl bw ?_;rw[World.setRow_alloc_new])|fail)
 have M:=Z (Kp.refl [] c);obtain⟨k,G,F,f,-⟩:=nb c 105 #[l,m,O n o p,O q r s,O t v w,y,z,O A B C];rw[G];clear G;have bB:=qk bA f;have ap:=qb f cP;have H:=qb f cQ;have G:=qb f cR;have bC:=qk M f;have f:=aa.lt F;have f:=b3 ap;have M:=aa.lt ap;have aq:=ay H;have H:=aa.lt H;have ar:=aS G;have H:=aa.lt G;have ax:=ay F;have az:=aS F;have aD:=aZ F;have aE:=bi F;have aF:=bl F;have aG:=bF F;have aH:=b3 F;have aI:=b7 F;have cV:=Z (bG X bB (λI E=>by have:=aC E;omega));have G:=aa.lt G;have F:=aa.lt F;refine eI 12 (S:=(λw'=>ae w' (ac d 6) (O g b i)/\ae w' (ao a 0) (ak d)/\ae w' (ac (a.heap.size+1) 1) j/\ae w' (ao c 0) l/\ae w' (ao c 1) m/\ae w' (ao c 2) (O n o p)/\ae w' (ao c 3) (O q r s)/\ae w' (ao c 4) (O t v w)/\ae w' (ao c 5) y/\ae w' (ao c 6) z/\ae w' (ao c 7) (O A B C))) ⟨f,aq,ar,ax,az,aD,aE,aF,aG,aH,aI⟩ (λhS=>?_);refine dv ?_;refine tk 9 hS ?_;have cW:(λw':World=>ae w' (ac d 6) (O g b i)/\ae w' (ao a 0) (ak d)/\ae w' (ac (a.heap.size+1) 1) j/\ae w' (ao c 0) l/\ae w' (ao c 1) m/\ae w' (ao c 2) (O n o p)/\ae w' (ao c 3) (O q r s)/\ae w' (ao c 4) (O t v w)/\ae w' (ao c 5) y/\ae w' (ao c 6) z/\ae w' (ao c 7) (O A B C)) (k.drew.alloc (.cells #[j,l,m,O n o p,O q r s,O t v w,y,z,O A B C] 107)):=⟨bj f,bj aq,bj ar,bj ax,bj az,bj aD,bj aE,bj aF,bj aG,bj aH,bj aI⟩;refine aM 10 (λbE R=>?_);go_simp;refine R _ _ (λ_=>cW) ?_;refine aw ?_;have c:=Z (aK ((ag.refl k.drew).alloc (.cells #[j,l,m,O n o p,O q r s,O t v w,y,z,O A B C] 107)) (aK ((ag.refl k).drew) cV));have f:=Z (cO k.drew #[j,l,m,O n o p,O q r s,O t v w,y,z,O A B C] 107 9 rfl);have cX:=Z (ap.drew.alloc (.cells #[j,l,m,O n o p,O q r s,O t v w,y,z,O A B C] 107));refine aM 11 (λbE R=>?_);refine di (k.drew.alloc _) (.tmp 20) (.tmp 25) 35 rfl L 107 bP _ 9 144 underlying35 bQ bR bS bT rfl au (O g b i) b (T.flatMap dM.cells) rfl c (k.heap.size+1) (some ⟨k.heap.size,0,none⟩) 1 1 ((_:aQ).toList) rfl f bw cc af cK ?_;intro c c aJ bH bJ;obtain⟨bK,bL,rfl,cY⟩:=bv aJ;have hrow:=b2 X;have c:some d≠(.slice g b i:aA).ownBlock:=λe=>by have:=hrow d e.symm;omega
 have aL:=Z (cX.grown bH c);have d:=b3 aL;have c:=λc=>aa.frozen aL c;have cZ:=Z aJ;have D:=Z (fO (((Kp.refl [] k).drew).alloc _) bH);have c0:=Z (show(Value.slice bK (b+1) bL).ownBlock=(.slice g b i:aA).ownBlock\/∃c,(Value.slice bK (b+1) bL).ownBlock=some c/\k.heap.size<=c from bJ.imp id (λh=>⟨_,h,by simp[eo]⟩));clear aJ bJ cY;refine R _ _ (λ_=>⟨d,bD D aq,bD D.out ar,bD D.out ax,bD D.out az,bD D.out aD,bD D.out aE,bD D.out aF,bD D.out aG,bD D.out aH,bD D.out aI⟩) ?_;refine aw ?_;refine bZ ?_;refine tq 12 ?_;refine tq 13 ?_;refine tq 14 ?_;refine dt 15 (λbE R=>?_);go_simp;refine R _ _ ?_;refine aw ?_;refine bM ?_;go_wp2_with fail
 refine bodyPost_ret (results_none rfl _ _ _) rfl ?_;rw[bs.out];have c1:pw k (Bw a.heap.size k.heap.size) ⟨j,RP⟩:=(bz.keep bC (λ_ h=>by cases h)).mono (λI E=>⟨by have:=E.1;omega,by have:=E.2;have:=bC.out.size;omega⟩);have a:dM.cells ⟨j,RP⟩=[.string j,.int .i64 l,.int .i64 m,.slice n o p,.slice q r s,.slice t v w,.int .i64 y,.int .i64 z,.slice A B C]:=by show .string j::RP.cells=_;rw[cU.out]
 exact⟨rfl,cN,iT.FD (val:=dM.qy) (At:=pw) (λ_ _ _ _ K b=>dL.mono K b) (λ_ _ _ _ _ K b aW=>dL.keep K b aW) bB X aX E c1 (fP.jx (enc:=dM.cells) (x:=⟨j,RP⟩) (ag.refl k) aL (by rw[a];exact cZ.out) D aX rfl c0)⟩
structure gj (w:ah) (S:Nat->Prop) (t:RT):Prop where
 a:fq w t
 ia:bc S t.ha
 ik:bc S t.hk
 b:∀r∈t.ra,gX r
theorem gj.mono (w:ah) (S S':Nat->Prop) (t:RT) (a:gj w S t) (c:∀d,S d->S' d):gj w S' t:=⟨a.a,a.ia.mono c,a.ik.mono c,a.b⟩
theorem gj.keep (w e:ah) (S:Nat->Prop) (t:RT) (l:List Nat) (c:gj w S t) (k:Kp l w e) (f:∀d∈l,¬S d):gj e S t:=
 ⟨⟨⟨c.a.1.1.kp k (λd g i j=>f d j (c.ia d g i)),λg i=>⟨qL e (c.b g i),(c.a.1.2 g i).2⟩⟩,c.a.2.1.kp k (λd e g i=>f d i (c.ik d e g)),c.a.2.2⟩,c.ia,c.ik,c.b⟩
theorem sT (b:Int):∀a:List Int,(l8 b a).Perm (b::a)
 |[]=>List.Perm.refl _
 |y::a=>by
  unfold l8;split
  ·exact List.Perm.refl _
  exact((sT b a).cons y).trans (List.Perm.swap b y a)
theorem px:∀l:List Int,(ej l).Perm l
 |[]=>List.Perm.refl _
 |x::l=>(sT x (ej l)).trans ((px l).cons x)
theorem xz (b:Int):∀a:List Int,a.Pairwise (·<=·)->(l8 b a).Pairwise (·<=·)
 |[],_=>by simp[l8]
 |y::a,h=>by
  have c:=List.pairwise_cons.1 h;unfold l8;split
  ·rename_i e
   refine List.pairwise_cons.2 ⟨λf d=>?_,h⟩;rcases de d with rfl|d
   ·exact e
   exact Int.le_trans e (c.1 f d)
  rename_i f
  refine List.pairwise_cons.2 ⟨λe d=>?_,xz b a c.2⟩;rcases de ((sT b a).mem_iff.1 d)with rfl|d
  ·omega
  exact c.1 e d
theorem sU:∀a:List Int,(ej a).Pairwise (·<=·)
 |[]=>List.Pairwise.nil
 |x::a=>xz x _ (sU a)
theorem xA:∀(a b:List Int),a.Perm b->a.Pairwise (·<=·)->b.Pairwise (·<=·)->a=b
 |[],b,h,_,_=>(List.nil_perm.1 h).symm
 |x::a,[],h,_,_=>by have:=h.length_eq;simp at this
 |x::a,y::b,h,h1,h2=>by
  have e:=List.pairwise_cons.1 h1;have f:=List.pairwise_cons.1 h2;have g:x=y:=by
   have c:=h.mem_iff.1 (List.mem_cons_self ..);have d:=h.mem_iff.2 (List.mem_cons_self ..);rcases de c with c|c
   ·exact c
   rcases de d with d|d
   ·exact d.symm
   have:=e.1 y d;have:=f.1 x c;omega
  subst g;rw[xA a b (List.Perm.cons_inv h) e.2 f.2]
theorem FI (l:List Int):(l.mergeSort λx a=>decide (x<=a))=ej l:=by
 refine xA _ _ ((List.mergeSort_perm l _).trans (px l).symm) ?_ (sU l);have h:=List.pairwise_mergeSort (le:=λx a:Int=>decide (x<=a)) (λa a a a a=>by simp at*;omega) (λa a=>by simp;omega) l;exact h.imp (λh=>by simpa using h)
theorem FJ {f:Type} (b:Int) (l:List At) (a:cZ) (c:List cZ) (e:List At->RO f):(gg b l (a::c)).bind e=
 RO.ap (bC a.name&&aY a.k 1 4) 1 b (RO.ap (decide (bu l a.name<0)) 9 b (RO.ap a.d.ok 2 b (RO.ap (decide (a.d.k=0)||decide (a.d.k=a.k)) 10 b ((gg b (l++[⟨a.name,a.k,[],a.d⟩]) c).bind e)))):=by
 rw[gg];simp only[RO.gW]
theorem xB (b:Int) (d:List At):∀(c:bk) (l a:List Int),dA b d l c=.ok a->a.length=l.length+c.length
 |[],l,a,h=>by
  rw[dA]at h;injection h with h
  rw[h];rfl
 |s::c,l,a,h=>by
  rw[dA]at h;cases h1:cS b d s with
  |bad e f=>rw[h1]at h;cases h
  |ok f=>
   rw[h1]at h;have e:RO.ap (!l.any λe=>decide (e=f)) 9 b (dA b d (l++[f]) c)=.ok a:=h;unfold RO.ap at e;split at e
   ·have:=xB b d c _ a e
    simp at this⊢;omega
   cases e
theorem Tryz.FK:(prog.info? 81).map (λa=>(a.zero,a.size,a.bytes))=some (some (.agg #[ai,ab,ab]),3,64):=am
theorem RT.FM (a:RT):a.cells.length=3:=rfl
theorem FN (C Y:Nat) (i:RI) (u1 u2 u3 u4 u5 u6 u7:aA) (G:aU) (j H:Nat) (I:List RT) (o:ah) (bd:aa o C 157 #[O G j H,u1,u2,u3,u4,u5,u6,u7,i.at_])
 (aT:aE o 5 i.qF cZ.cells i.cQ) (bJ:∀x∈i.cQ,x.bo) (aW:b5 o i.hQ i.names) (bK:i.names.length<=5001) (bL:aJ i.name) (bN:o.ownsRow Y 81 3 (O G j H) j (I.flatMap RT.cells)) (dc:I.length=j) (bO:C<Y) (q:Y<=o.heap.size) (dd:j<=1000):
 Calls prog 62 #[ak C,.agg i.cells.toArray] o λe w'=>jy o (eP (I.map RT.tb) i.it) (λx w'=>iT o w' C Y 81 3 RT.cells RT.tb gj G j H I x (λdd=>#[dd,u1,u2,u3,u4,u5,u6,u7,i.at_])) e w':=by
 obtain⟨de,df,dg,dh,dj⟩:=info_parts Tryz.infoAt;obtain⟨dk,dl,dm,dn,dp⟩:=info_parts Tryz.FK;have ad:=Z aT;have aX:=Z aW;have bP:=Z bJ;have bQ:=Z bL;have bR:=aT.1;have bS:=aT.2.1;have bT:=aW.1.1;have bW:=aW.1.2.1;have bh:=Z bN;have ai:=Z bd;have dq:=bd.lt;obtain⟨E,bk⟩:=av (eP (I.map RT.tb) i.it);rw[<-bk];clear aT aW bJ bL bN bd;obtain⟨bX,n,k,bY,b0,⟨a0,b6,bm⟩,m,⟨al,b7,am⟩,u,b8,b9,ca,⟨cb,cd,ce⟩,eq,cf,cg,⟨ch,ci,cj⟩,es,⟨ck,cl,cm⟩,et,⟨cn,co,cp⟩,eu,⟨cq,cr,⟨cs,ct,cu⟩,ev,⟨an,cv,cw⟩,ew,⟨cx,cy,cz⟩,ex,cA,cB,cC,cD⟩⟩:=i;have dr:m.length=b6:=bR;have ds:u.length=b7:=bT;have aT:b6<=9223372036854775807:=bS;have aT:b7<=9223372036854775807:=bW;have du:u.length<=5001:=bK;clear bR bT bS bW bK;subst dr ds;have aW:Hid (aE o 5 ⟨a0,m.length,bm⟩ cZ.cells m):=ad;have bd:Hid (b5 o ⟨al,u.length,am⟩ u):=aX;have dv:Hid (∀x∈m,x.bo):=bP;have bn:Hid (aJ n):=bQ;obtain⟨D,aT⟩:∃D:List At->RO Tb,D=λf=>RO.ap (decide (0<u.length)) 1 k ((dA k f [] u).bind λb=>.ok ⟨n,f,ej b⟩):=⟨_,rfl⟩;have cE:=Z (λf=>congrFun aT f);have L:=Z (show E=RO.ap (decide (j<20)&&aY (m.length:Int) 1 12) 3 k ((gg k [] m).bind D) by
  have b:(I.map RT.tb).length=j:=by rw[List.length_map];exact dc
  rw[bk,aT,<-b];rfl)
 have bJ:Hid (aa o C 157 #[O G j H,u1,u2,u3,u4,u5,u6,u7,k]):=ai;clear bk aT ad aX bP bQ ai;have ai:=bJ;have ad:=aW;have aX:=bd;clear bJ aW bd;have dw:=Z (Kp.refl [] o);show Calls prog 62 #[ak C,.agg #[bX,n,k,bY,b0,O a0 m.length bm,O al u.length am,b8,b9,ca,O cb cd ce,cf,cg,O ch ci cj,O ck cl cm,O cn co cp,cq,cr,O cs ct cu,O an cv cw,O cx cy cz,cA,cB,cC,cD]] o _;go_enter func62,ntmps62
 go_upto_region 1 with(fail)
 obtain⟨r,aT,aq,b,aW⟩:=nb o 95 _;rw[aT];clear aT;have a1:=qk dw b;have aT:=qb b ai;have dx:=Z (ad.same b);clear b;clear aW;have dy:=ay aT;have a2:=b4 aT;have aT:=aa.lt aT;have dz:=bF aq;have dB:=aa.lt aq;have M:=Z (λc=>fM (m.length:Int) 1 12 c);obtain⟨dC,aT⟩:=av (aY (m.length:Int) 1 12);rw[<-aT]at M L;have cF:=Z aT;clear aT;have a3:decide ((j:Int)<20)=decide (j<20):=by by_cases h:j<20<;>simp[h]<;>omega
 by_cases a4:j<20
 case neg=>
  have c:decide ((j:Int)<20)=false:=by rw[a3];exact decide_eq_false a4
  rw[decide_eq_false a4,Bool.false_and]at L;clear a3;go_wp2_with fail
  exact b1 a1 L a2
 have dD:decide ((j:Int)<20)=true:=by rw[a3];exact decide_eq_true a4
 rw[decide_eq_true a4,Bool.true_and]at L;clear a3;go_wp2_with fail
 refine(M r).mono ?_;rintro e w' ⟨rfl,rfl⟩;cases dC
 case false=>
  go_wp2_with fail
  exact b1 a1 L a2
 go_wp2_with fail
 refine bV a1 L a2 λcG=>?_;have aT:m.length<=12:=by have h:=cF.out.symm;unfold aY at h;simp at h;omega
 clear L M cF dD dy dz;have dE:=aS aq;have dB:=aa.lt aq;go_upto_region 3 with(fail)
 obtain⟨dF,L,dG,b,-⟩:=nb r 81 #[n,ab,ab];rw[L];clear L;have dH:=qk a1 b;have cH:=qb b aq;have L:=Z (dx.same b);clear b;clear dE a2;have dI:=bF cH;go_upto_region 4 with(fail)
 clear dI;go_loopg [29] (m.length+1) (λw y wr=>∃(c:Nat) (f:List RA) (g:aU) (t:Nat),y=.int .i64 c/\c<=m.length/\m.length-c<w/\f.length=c/\dF.heap.size<=wr.heap.size/\Hid (wr.ownsRow (r.heap.size+1) 111 6 (O g c t) c (f.flatMap RA.cells))/\Hid (aa wr r.heap.size 81 #[n,O g c t,ab])/\Hid (aa wr o.heap.size 95 #[bX,n,k,bY,b0,O a0 m.length bm,O al u.length am,b8,b9,ca,O cb cd ce,cf,cg,O ch ci cj,O ck cl cm,O cn co cp,cq,cr,O cs ct cu,O an cv cw,O cx cy cz,cA,cB,cC,cD])/\Hid (∀i∈f,gX i/\aJ i.at_.name/\aJ i.at_.dflt.s)/\Hid (Kp [] o wr)/\Hid (E=(gg k (f.map RA.at_) (m.drop c)).bind D))
 case atStart=>exact⟨0,[],none,0,rfl,by omega,by omega,rfl,by omega,Z ⟨rfl,.inl ⟨rfl,rfl⟩⟩,dG,cH,Z (λi c=>by cases c),dH,cG⟩
 obtain⟨c,f,y,z,rfl,ey,cI,cL,ez,bp,T,bq,ar,F,a5⟩:=hrel;have cM:=Z cI;have N:=Z cL;clear cI cL cG;have dJ:=F.size;have dK:=Z (ad.same F.same);have dL:=Z (aX.same F.same);have br:=qo F ai;by_cases P:c<m.length
 case neg=>
  have L:¬(c:Int)<m.length:=af
  have aD:=Z (show E=RO.ap (decide (0<u.length)) 1 k ((dA k (f.map RA.at_) [] u).bind λg=>.ok ⟨n,f.map RA.at_,ej g⟩) by rw[a5.out,List.drop_of_length_le af];exact cE.out _);clear a5 cE;have dM:=b3 bq;have X:=b4 br;by_cases bA:0<u.length
  case neg=>
   have g:=Z (show E=RO.ap false 1 k _ by rw[aD.out,decide_eq_false bA]);go_wp2_with fail
   exact b1 F g X
  have bB:=Z (show E=RO.ap true 1 k _ by rw[aD.out,decide_eq_true bA]);go_wp2_with fail
  refine bV F bB X λdN=>?_;clear aD bB;have L:=lA bp N (omg N) ar;have ad:=Z (wj C ⟨n,⟨y,c,z⟩,f,aL,[]⟩ ⟨al,u.length,am⟩ u k wr (aV dq dJ) X ⟨L.a,aE.none_ wr 1 _,bn⟩ dL du);have bE:Hid (Calls prog 113 #[ak C,.agg #[n,O y c z,ab],O al u.length am] wr λe w'=>RP [] wr (dA k (f.map RA.at_) [] u) (d3 wr.heap.size 1 bU (λ_=>True)) e w'):=ad;clear ad L;have dO:=ay T;have dP:=aS T;have dR:=aZ T;have L:=aa.lt T;have dS:=Z (Kp.refl [] wr);go_wp2_with fail
  refine dQ dN bE (fb F) ?aB;intro a aG A bH dT dU Q;obtain⟨⟨an,cN,U⟩,cR,aH,_,eA,eB⟩:=dU;have dV:aG=.slice an cN U:=cR;clear cR;subst dV;have u:a.length=u.length:=by have:=xB _ _ _ _ _ bH;simpa using this
  have dW:0<a.length:=af
  clear u;have dY:a.length=cN:=aH.1;subst dY;have aN:=Z aH;clear aH bH;have cS:=Z (F.trans Q);have dZ:=qo Q br;have d0:=qo Q bq;have d1:=qo Q T;have d2:=Z (aK (Q.same) bp);have d4:=Z (dS.trans Q);have u:=cS.size;clear Q;clear bE;obtain⟨R,S,a6,d5,_⟩:=aN.2.2 0 dW;have d6:an=some ⟨R,S,none⟩:=a6;have cT:∀B (ax:B<a.length),ae A (ac R (S+B)) (J a[B]):=λB ax=>by
   obtain⟨u,L,t,_,w⟩:=aE.one aN B ax (v:=.int .i64 a[B]) rfl;have g:=a6.symm.trans t;injection g with g
   injection g with e1 e2
   rw[e1,e2];exact w
  subst d6;clear a6 aN;have u:=Z (Dt ⟨some ⟨R,S,none⟩,a.length,U⟩ A);have cU:Hid (Calls prog 112 #[O (some ⟨R,S,none⟩) a.length U] A λe w'=>e=.returned (.func (.func 186) #[] #[ak A.heap.size])/\w'=A.alloc (.cells #[O (some ⟨R,S,none⟩) a.length U] 60)):=u;clear u;have cV:=Z (Ds A.heap.size R S U a af (A.alloc (.cells #[O (some ⟨R,S,none⟩) a.length U] 60)) aF aj aj (λB ax=>(World.cell?_alloc_lt _ _ _ d5).trans (cT B ax)));clear cT;go_wp2_with fail
  refine cU.mono ?_;rintro e w' ⟨rfl,rfl⟩;go_wp2_with fail
  refine cV.mono ?_;rintro e a7 ⟨aG,rfl,cW,cX⟩;have b:=Z (((ag.refl A).alloc _).trans cX);have c0:Hid (a7.ownsRow A.heap.size 3 1 aG a.length ((ej a).map encZ)):=Z (by rw[<-FI];exact xf cW (by simp));clear cX cW cU cV;have d7:=qk cS b;have d8:=qb b dZ;have d9:=qb b d0;have a8:=qb b d1;have ea:=Z (aK b d2);obtain⟨t,w,eb,_⟩:=bv c0;subst eb;clear b dO dP dR dM X;have ec:=aZ a8;have ed:=λc=>aa.frozen a8 c;go_upto_region 14 with(fail)
  have B:=Z (uS a8 (O t a.length w));have u:=Z (Kp.aI (p:=(ao r 2)) (l:=[r.heap.size]) aj (Kp.refl [r.heap.size] a7) (O t a.length w));obtain⟨g,A⟩:=av (a7.setCell (ao r 2) (O t a.length w));rw[<-A]at B u⊢;clear A;have a9:=Z (u.old d7 (λA q P=>absurd P (by rw[aC q];omega)));have ba:=qo u d8;have A:=qo u d9;have A:=a9.size;have L:=u;have A:=B;clear B u;have c1:=Z (bG ea L (λu q=>by have:=aC q;omega));have ee:=Z (bG c0 L (λu q=>by have:=aC q;have:=d4.out.size;omega));clear ec ed;have u:=ay ba;have bb:=ay A;have bs:=aS A;have bt:=aZ A;have B:=aa.lt A;have ef:=Z (aK a9.same bh);have A:=aa.lt A;have A:=aa.lt ba;refine lj 10 u bb bs bt λhS=>?_;refine dX ?_;refine gV ?_;refine tk 7 hS ?_;have eg:(λw':World=>ae w' (ac C 0) (O G j H)/\ae w' (ao r 0) n/\ae w' (ao r 1) (O y c z)/\ae w' (ao r 2) (O t a.length w)) (g.drew.alloc (.cells #[n,O y c z,O t a.length w] 81)):=⟨bj u,bj bb,bj bs,bj bt⟩;refine aM 8 (λK W=>?_);go_simp;refine W _ _ (λ_=>eg) ?_;refine aw ?_;have c2:=Z (aK ((ag.refl g.drew).alloc (.cells #[n,O y c z,O t a.length w] 81)) (aK ((ag.refl g).drew) ef));have c3:=Z (cO g.drew #[n,O y c z,O t a.length w] 81 3 rfl);have c4:=Z (ba.drew.alloc (.cells #[n,O y c z,O t a.length w] 81));refine aM 9 (λK W=>?_);refine di (g.drew.alloc _) (.tmp 102) (.tmp 104) 27 rfl Y 81 dk _ 3 64 underlying27 dl dm dn dp rfl au (O G j H) j (I.flatMap RT.cells) rfl c2 (g.heap.size+1) (some ⟨g.heap.size,0,none⟩) 1 1 ((_:aQ).toList) rfl c3 bw cc af cK ?_;intro u u bx c5 c6;obtain⟨c7,c8,rfl,eh⟩:=bv bx;have hrow:=b2 bh;have u:some C≠(.slice G j H:aA).ownBlock:=λe=>by have:=hrow C e.symm;omega
  have bz:=Z (c4.grown c5 u);have A:=ay bz;have u:=λc=>aa.frozen bz c;have ei:=Z bx;have az:=Z (fO (((Kp.refl [] g).drew).alloc _) c5);have ek:=Z (show(Value.slice c7 (j+1) c8).ownBlock=(.slice G j H:aA).ownBlock\/∃u,(Value.slice c7 (j+1) c8).ownBlock=some u/\g.heap.size<=u from c6.imp id (λh=>⟨_,h,by simp[eo]⟩));clear bx c6 eh c2 c3 c4;refine W _ _ (λ_=>⟨A,bD az bb,bD az.out bs,bD az.out bt⟩) ?_;refine aw ?_;refine bZ ?_;refine tq 10 ?_;refine tq 11 ?_;refine tq 12 ?_;refine tq 13 ?_;refine dt 14 (λK W=>?_);go_simp;refine W _ _ ?_;refine aw ?_;refine bM ?_;go_wp2_with fail
  refine bodyPost_ret (results_none rfl _ _ _) rfl ?_;rw[dT.out];have el:=(px a).length_eq;have em:=lA c1 N (omg N) ar;have en:(ej a).map encZ=(ej a).flatMap bU:=by
   induction ej a with
   |nil=>rfl
   |cons x eC ep=>rw[List.map_cons,ep];rfl
  have j:=ee.out;rw[en]at j;have u:cY g ⟨t,a.length,w⟩ (ej a):=cJ (h:=⟨t,a.length,w⟩) bU.len el (by show a.length<=_;omega) j;have o:gj g (Bw o.heap.size g.heap.size) ⟨n,⟨y,c,z⟩,f,⟨t,a.length,w⟩,ej a⟩:=
   ⟨⟨em.a,u,bn.out⟩,(lz c1.out).mono (λu q=>⟨by have:=q.1;omega,q.2⟩),(lz j).mono (λj q=>⟨by have:=q.1;omega,q.2⟩),λi j=>(ar.out i j).1⟩
  exact⟨rfl,iT.of (val:=RT.tb) (At:=gj) gj.mono gj.keep a9 bh bO q o (fP.jx (enc:=RT.cells) (x:=⟨n,⟨y,c,z⟩,f,⟨t,a.length,w⟩,ej a⟩) (ag.refl g) bz ei az bO rfl ek)⟩
 have j:(c:Int)<m.length:=af
 have j:(0:Int)<=c:=af
 obtain⟨S,of,o,j,Q⟩:=dK.2.2 c P;have c3:a0=some ⟨S,of,none⟩:=o;have a6:=Z (dv _ (List.getElem_mem P));obtain⟨c4,j⟩:=av (m[c]);rw[<-j]at Q a6;have cN:=Z (show E=_ by rw[a5.out,List.drop_eq_getElem_cons P,FJ,<-j]);clear j o a5;obtain⟨w,t,⟨g,A,B⟩⟩:=c4;have ax:Hid (E=RO.ap (bC w&&aY t 1 4) 1 k (RO.ap (decide (bu (f.map RA.at_) w<0)) 9 k (RO.ap (V.ok ⟨g,A,B⟩) 2 k (RO.ap (decide (g=0)||decide (g=t)) 10 k ((gg k (f.map RA.at_++[⟨w,t,[],⟨g,A,B⟩⟩]) (m.drop (c+1))).bind D))))):=cN;clear cN;have c5:ae wr (ac S (of+c*5)) w:=by simpa using Q 0 _ rfl
 have cR:ae wr (ac S (of+c*5+1)) t:=Q 1 _ rfl;have c6:ae wr (ac S (of+c*5+2)) g:=Q 2 _ rfl;have c7:ae wr (ac S (of+c*5+3)) A:=Q 3 _ rfl;have c8:ae wr (ac S (of+c*5+4)) B:=Q 4 _ rfl;have j:IntKind.i64.wrap ((c:Int)+1)=(c:Int)+1:=IntWalk.i64_in _ af;clear Q;subst c3;go_upto_region 6 with(fail)
 clear c5 cR c6 c7 c8;obtain⟨U,j,bs,b,-⟩:=nb wr 208 #[w,t,g,A,B];rw[j];clear j;have az:=qk F b;have cS:=qb b br;have dM:=qb b bq;have a7:=qb b T;have cT:=Z (aK b bp);have j:=az.size;clear b;have dN:=ay bs;have dO:=aS bs;have bt:=b4 cS;have a8:=Z (qt w U a6.name);have M:=Z (fM t 1 4 U);obtain⟨dP,j⟩:=av (bC w);obtain⟨cU,o⟩:=av (aY t 1 4);rw[<-j]at a8 ax;rw[<-o]at M ax;clear j o;cases dP
 case false=>
  go_wp2_with fail
  refine a8.mono ?_;rintro e w' ⟨rfl,rfl⟩;go_wp2_with fail
  exact b1 az ax bt
 have bx:=Z (show E=RO.ap cU 1 k _ from ax);clear ax;go_wp2_with fail
 refine a8.mono ?_;rintro e w' ⟨rfl,rfl⟩;go_wp2_with fail
 refine M.mono ?_;rintro e w' ⟨rfl,rfl⟩;cases cU
 case false=>
  go_wp2_with fail
  exact b1 az bx bt
 go_wp2_with fail
 refine bV az bx bt λaD=>?_;have dR:=ay a7;have dS:=aS a7;have dT:=aZ a7;clear bx a8 M;have j:=lA cT N (omg N) ar;have o:=Z (qq ⟨n,⟨y,c,z⟩,f,aL,[]⟩ w U ⟨j.a,aE.none_ U 1 _,bn⟩);clear j;have bz:Hid (Calls prog 55 #[.agg #[n,O y c z,ab],w] U λe w'=>e=.returned (J (bu (f.map RA.at_) w))/\ag U w'):=o;obtain⟨dU,j⟩:=av (bu (f.map RA.at_) w);rw[<-j]at bz aD;clear o j;go_wp2_with fail
 refine(bz).mono ?_;rintro e bA ⟨rfl,b⟩;have bB:=qk az b;have cV:=qb b cS;have dV:=qb b dM;have dW:=qb b a7;have a9:=qb b bs;have dY:=Z (aK b cT);clear b;clear bz dR dS dT;have cW:=b4 cV;obtain⟨tq,j⟩:=av (decide (dU<0));have dZ:=j.symm;rw[<-j]at aD;clear j;cases tq
 case false=>
  go_wp2_with fail
  exact b1 bB aD cW
 go_wp2_with fail
 refine bV bB aD cW λba=>?_;clear aD dZ dN dO;have d0:=aZ a9;have d1:=bi a9;have d2:=bl a9;have j:=Z (p2 ⟨g,A,B⟩ bA);have bE:Hid (Calls prog 42 #[.agg #[g,A,B]] bA λe w'=>e=.returned (.bool (V.ok ⟨g,A,B⟩))/\ag bA w'):=j;obtain⟨d4,n⟩:=av (V.ok ⟨g,A,B⟩);rw[<-n]at bE ba;clear n j;go_wp2_with fail
 refine(bE).mono ?_;rintro e aG ⟨rfl,b⟩;have R:=qk bB b;have j:=qb b cV;have d5:=qb b dV;have bH:=qb b dW;have W:=qb b a9;have cX:=Z (aK b dY);have n:=R.size;clear b;clear bE d0 d1 d2;have aH:=b4 j;cases d4
 case false=>
  go_wp2_with fail
  exact b1 R ba aH
 go_wp2_with fail
 refine bV R ba aH λbb=>?_;clear ba;have b:=ay W;have b:=aS W;have b:=aZ W;have b:=bi W;have b:=bl W;have b:=aa.lt W;by_cases X:g=0
 case' pos=>
  have c0:(g==0)=true:=by simp[X]
  have aN:=Z (show E=RO.ap true 10 k _ by rw[bb.out,decide_eq_true X,Bool.true_or]);clear bb X;go_wp2_with fail
  refine bV R aN aH λbI=>?_;clear aN c0
 case' neg=>
  have c1:(g==0)=false:=by simp[X]
  have c0:(g==t)=decide (g=t):=by by_cases h:g=t<;>simp[h]
  have aN:=Z (show E=RO.ap (g==t) 10 k _ by rw[bb.out,decide_eq_false X,Bool.false_or,c0]);generalize c2:(g==t)=d6 at aN;clear bb X c0;cases d6
  case false=>
   go_wp2_with fail
   exact b1 R aN aH
  go_wp2_with fail
  refine bV R aN aH λbI=>?_;clear aN c1 c2
 all_goals
  have b:=aS bH;have b:=aa.lt bH;have c0:=Z (aK ((ag.refl aG).alloc (.cells #[w,t,ab,g,A,B] 111)) cX);have c1:=Z (cO aG #[w,t,ab,g,A,B] 111 6 rfl);have hrow:=b2 cX;go_upto_region 11 with(first|(at_builtin;refine eL _ rfl (.tmp 70) (.tmp 78) 79 rfl (r.heap.size+1) 111 de _ 6 80 underlying79 df dg dh dj rfl au (O y c z) c (f.flatMap RA.cells) rfl c0.out (aG.heap.size+1) (some ⟨aG.heap.size,0,none⟩) 1 1 (#[w,t,ab,g,A,B]:Array Value).toList rfl c1.out bw cc af aF ?_;intro cR aO aN c2 d6;obtain⟨aP,aR,rfl,d7⟩:=bv aN;have c9:=Z aN;have D:=Z c2;clear aN c2 d6 d7;have bc:=Z (aa.grown (bH.out.alloc (.cells #[w,t,ab,g,A,B] 111)) D.out (λe=>by have:=(hrow _ e.symm).1;omega));have da:ae aO (ao r 1) (O y c z):=aa.cell bc.out 1;have db:=λc=>aa.frozen bc.out c)|fail)
  have n:=Z (aa.grown (d5.alloc _) D (λe=>by have:=(hrow _ e.symm).1;omega));have o:=Z ((R.alloc _).grown D (λb j=>.inr (by have:=hrow b j;omega)));have b:aG.heap.size<=aO.heap.size:=by have:=D.out.size;simp at this;omega
  clear c0 c1 D hrow da db;have j:=Z (AY bc (O aP (c+1) aR));have b:=Z (Kp.aI (p:=(ao r 1)) (l:=[r.heap.size]) aj (Kp.refl [r.heap.size] aO) (O aP (c+1) aR));obtain⟨r,k⟩:=av (aO.setCell (ao r 1) (O aP (c+1) aR));rw[<-k]at j b⊢;clear k;have d6:=Z (b.old o (λk q P=>absurd P (by rw[aC q];omega)));have d7:=qo b n;have c2:=b;have d8:=j;clear j b;go_wp2_with fail
  go_roundg (m.length-c)
  case measure=>have:=cM.out;omega
  refine⟨c+1,f++[(⟨⟨w,t,[],⟨g,A,B⟩⟩,aL⟩:RA)],aP,aR,by go_num,by omega,omg cM,by rw[List.length_append,N.out];rfl,by have:=c2.out.size;omega,Z (bG (by rw[List.flatMap_append];exact c9.out) c2.out (λb q=>by have:=aC q;omega)),d8,d7,Z ?_,d6,Z (by rw[List.map_append];exact bI.out)⟩;intro i aN;rcases cP aN with aN|aN
  ·exact ar i aN
  rw[aC aN];exact⟨⟨rfl,rfl⟩,a6.name,a6.d.s1⟩
structure eD where
 t:TypeId
 m:Nat
 h:Hd
 cs:List Value
 N:World->(Nat->Prop)->Prop
def eD.own (a:eD):Option Nat:=a.h.val.ownBlock
def sV (a b:aP) (c:List eD) (d:Nat) (e:Int):List Value:=a++(c.map (λa:eD=>a.h.val)++(b++[Value.map (some d),Value.int .i64 e]))
structure eD.bo (r:eD):Prop where
 mono:∀(w:ah) (S S':Nat->Prop),r.N w S->(∀b,S b->S' b)->r.N w S'
 keep:∀(w w':ah) (S:Nat->Prop) (l:List Nat),r.N w S->Kp l w w'->(∀b∈l,¬S b)->r.N w' S
def sW (b:Nat->Prop) (c:List eD) (d:List (Int×Nat)) (a:Nat):Prop:=b a/\(∀b∈d,b.2≠a)/\∀b∈c,b.own≠some a
structure cT (w:ah) (X M base:Nat) (B:Nat->Prop) (pre post:aP) (rs:List eD) (nm:Bool) (l:List (Int×Nat)) (u:ce) (a:Int):Prop where
 bx:aa w X 157 (sV pre post rs M a).toArray
 hX:X<base
 hM:M<X
 hb:base<=w.heap.size
 lt:∀b,B b->base<=b/\b<w.heap.size
 na:nm=true->ea w M l u
 nin:∀p∈l,B p.2
 g2:∀p∈l,∀r∈rs,r.own≠some p.2
 own:∀r∈rs,w.ownsRow base r.t r.m r.h.val r.h.n r.cs
 fj:∀r∈rs,∀b,r.own=some b->B b
 one:∀(i j:Nat) (r s:eD) (b:Nat),rs[i]?=some r->rs[j]?=some s->r.own=some b->s.own=some b->i=j
 fine:∀r∈rs,r.bo
 nest:∀r∈rs,r.N w (sW B rs l)
theorem mN {c d e:Nat} {a:aX} {v:aA} {xs:aP} {f i:ah} (j:f.ownsRow c a d v e xs) {k:List Nat} (m:Kp k f i) (n:∀f,v.ownBlock=some f->f∉k):i.ownsRow c a d v e xs:=by
 refine⟨j.1,?_⟩;rcases j.2 with h|⟨b,o,p,l,q,r,s⟩
 ·exact .inl h
 exact .inr ⟨b,o,p,l,q,m.blk (g:=b) (t:=a) r (n b (by rw[l];rfl)),s⟩
theorem cT.kp {w f:ah} {X b g:Nat} {e:Nat->Prop} {i j:aP} {m:List eD} {n:Bool} {l:List (Int×Nat)} {u:ce} {o:Int} (h:cT w X b g e i j m n l u o) {k:List Nat} (c:Kp k w f) (d:∀a∈k,a≠X/\a≠b/\¬e a):cT f X b g e i j m n l u o:=
 {
  bx:=c.blk h.bx (λb=>(d _ b).1 rfl),hX:=h.hX,hM:=h.hM,hb:=bJ h.hb c.size
  lt:=λa b=>⟨(h.lt a b).1,aV (h.lt a b).2 c.size⟩
  na:=λe=>(h.na e).kp c (λa b=>⟨(d a b).2.1,λe f g=>(d a b).2.2 (g▸h.nin e f)⟩)
  nin:=h.nin,g2:=h.g2
  own:=λe f=>mN (h.own e f) c (λa b g=>(d a g).2.2 (h.fj e f a b))
  fj:=h.fj,one:=h.one,fine:=h.fine
  nest:=λe f=>(h.fine e f).keep _ _ _ _ (h.nest e f) c (λa b c=>(d a b).2.2 c.1)}
theorem cT.at_ {w b:ah} {c d base:Nat} {B:Nat->Prop} {e f:aP} {rs:List eD} {g:Bool} {l:List (Int×Nat)} {u:ce} {a i:Int} (h:cT w c d base B e f rs g l u a) (s:Kp [c] w b) (j:aa b c 157 (sV e f rs d i).toArray):cT b c d base B e f rs g l u i:=by
 have f:¬B c:=λb=>by have:=(h.lt c b).1;have:=h.hX;omega
 have d:d≠c:=bb h.hM;exact
 {
  bx:=j,hX:=h.hX,hM:=h.hM,hb:=bJ h.hb s.size
  lt:=λc b=>⟨(h.lt c b).1,aV (h.lt c b).2 s.size⟩
  na:=λe=>(h.na e).kp s (λc b=>by
   rw[aC b];exact⟨d.symm,λd e g=>f (g▸h.nin d e)⟩)
  nin:=h.nin,g2:=h.g2
  own:=λd e=>mN (h.own d e) s (λc b g=>f (aC g▸h.fj d e c b))
  fj:=h.fj,one:=h.one,fine:=h.fine
  nest:=λd e=>(h.fine d e).keep _ _ _ _ (h.nest d e) s (λc b c=>f (aC b▸c.1))}
theorem cT.names {w j:ah} {m g base:Nat} {B:Nat->Prop} {q r:aP} {rs:List eD} {s:Bool} {l i:List (Int×Nat)} {y t:ce} {u:Int} (h:cT w m g base B q r rs s l y u) (k:Kp (dC g l) w j) (o:ea j g i t) (A:∀b∈dC g i,b∈dC g l\/w.heap.size<=b):
 cT j m g base (λb=>B b\/Bw w.heap.size j.heap.size b) q r rs s i t u:=by
 have v:¬B g:=λhb=>by have:=(h.lt g hb).1;have:=h.hX;have:=h.hM;omega
 have C:¬B m:=λhb=>by have:=(h.lt m hb).1;have:=h.hX;omega
 have p:∀a∈i,(a.2∈l.map (·.2))\/w.heap.size<=a.2:=λa f=>by
  have e:a.2∈dC g i:=List.mem_cons_of_mem _ (List.mem_map.2 ⟨a,f,rfl⟩);rcases A _ e with c|c
  ·rcases de c with d|d
   ·exact absurd d (o.out a f)
   exact .inl d
  exact .inr c
 have D:∀a∈i,a.2<j.heap.size:=λa f=>o.lt _ (List.mem_cons_of_mem _ (List.mem_map.2 ⟨a,f,rfl⟩));have E:∀a∈i,∀d∈rs,d.own≠some a.2:=λa f d e c=>by
  rcases p a f with n|n
  ·obtain⟨g,i,j⟩:=List.mem_map.1 n
   exact h.g2 g i d e (by rw[j];exact c)
  have:=(h.lt _ (h.fj d e _ c)).2;omega
 exact
 {bx:=k.blk h.bx (λn=>by
  rcases de n with c|c
  ·have:=h.hM;omega
  ·obtain⟨g,i,j⟩:=List.mem_map.1 c
   exact C (j▸h.nin g i))
  hX:=h.hX,hM:=h.hM,hb:=bJ h.hb k.size
  lt:=λb hb=>by
   have z:=k.size;have hbb:=h.hb;exact xC
  na:=λ_=>o
  nin:=λa f=>by
   rcases p a f with n|n
   ·obtain⟨g,i,j⟩:=List.mem_map.1 n
    exact .inl (j▸h.nin g i)
   exact .inr ⟨n,D a f⟩
  g2:=E
  own:=λd e=>mN (h.own d e) k (λb hb n=>by
   rcases de n with c|c
   ·exact v (c▸h.fj d e b hb)
   obtain⟨g,i,j⟩:=List.mem_map.1 c;exact h.g2 g i d e (by rw[j];exact hb))
  fj:=λd e b hb=>.inl (h.fj d e b hb)
  one:=h.one,fine:=h.fine
  nest:=λd e=>(h.fine d e).mono _ _ _ ((h.fine d e).keep _ _ _ _ (h.nest d e) k (λb hb n=>by
   rcases de hb with c|c
   ·exact v (c▸n.1)
   obtain⟨d,e,g⟩:=List.mem_map.1 c;exact n.2.1 d e g)) (λb n=>⟨.inl n.1,λa f c=>by
    rcases p a f with x|x
    ·obtain⟨a,d,e⟩:=List.mem_map.1 x
     exact n.2.1 a d (e.trans c)
    have:=(h.lt b n.1).2;omega,n.2.2⟩)}
theorem qW {e:Type} {f:List e} {b a:Nat} {g c:e} (h:(f.set b g)[a]?=some c):(a=b/\c=g)\/(a≠b/\f[a]?=some c):=by
 by_cases d:b=a
 ·subst d
  rw[List.getElem?_set]at h;simp at h;exact .inl ⟨rfl,h.2.symm⟩
 rw[List.getElem?_set_ne d]at h;exact .inr ⟨λa=>d a.symm,h⟩
theorem mO {c:Type} {d:List c} {e:Nat} {f b:c} (h:b∈d.set e f):b=f\/∃a,a≠e/\d[a]?=some b:=by
 obtain⟨a,g⟩:=List.mem_iff_getElem?.1 h;rcases qW g with⟨_,h⟩|⟨i,j⟩
 ·exact .inl h
 exact .inr ⟨a,i,j⟩
theorem cT.push {w j:ah} {p y A:Nat} {x:Nat->Prop} {E F:aP} {o:List eD} {K:Bool} {l:List (Int×Nat)} {L:ce} {V a':Int} (h:cT w p y A x E F o K l L V) {i:Nat} {r r':eD} (G:o[i]?=some r) (B:Kp (p::r.own.toList) w j)
 (W:aa j p 157 (sV E F (o.set i r') y a').toArray) (M:j.ownsRow A r'.t r'.m r'.h.val r'.h.n r'.cs) (X:r'.own=r.own\/∃H,r'.own=some H/\w.heap.size<=H) (Y:r'.bo)
 (Z:∀S:Nat->Prop,r.N j S->(∀b,Bw w.heap.size j.heap.size b/\some b≠r'.own->S b)->r'.N j S):
 cT j p y A (λb=>x b\/Bw w.heap.size j.heap.size b) E F (o.set i r') K l L a':=by
 have q:r∈o:=List.mem_of_getElem? G;have O:¬x p:=λhb=>by have:=(h.lt p hb).1;have:=h.hX;omega
 have ab:¬x y:=λhb=>by have:=(h.lt y hb).1;have:=h.hX;have:=h.hM;omega
 have z:=B.size;have hbb:=h.hb;have ac:∀b,r'.own=some b->A<=b/\b<j.heap.size:=λb hb=>b2 M b hb;have C:∀b,r'.own=some b->r.own=some b\/w.heap.size<=b:=λb hb=>by
  rcases X with a|⟨H,a,c⟩
  ·exact .inl (a▸hb)
  rw[a]at hb;injection hb with hb
  exact .inr (hb▸c)
 have P:∀b,x b->r.own≠some b->b∉p::r.own.toList:=λb hb ad D=>by
  rcases de D with a|a
  ·exact O (a▸hb)
  exact ad (jB (v:=r.h.val) a)
 have Q:∀e d,e≠i->o[e]?=some d->∀b,d.own=some b->r'.own≠some b:=λe d I a b hb c=>by
  rcases C b c with f|f
  ·exact I (h.one e i d r b a G hb f)
  have:=(h.lt b (h.fj d (List.mem_of_getElem? a) b hb)).2;omega
 have R:∀d∈o,d.N j (sW (λb=>x b\/Bw w.heap.size j.heap.size b) (o.set i r') l):=λd k=>
  (
   h.fine d k).mono _ _ _ ((h.fine d k).keep _ _ _ _ (h.nest d k) B (λb hb f=>P b f.1 (f.2.2 r q) hb)) (λb f=>⟨.inl f.1,f.2.1,λs u c=>by
   rcases mO u with rfl|⟨e,_,a⟩
   ·rcases C b c with g|g
    ·exact f.2.2 r q g
    have:=(h.lt b f.1).2;omega
   exact f.2.2 s (List.mem_of_getElem? a) c⟩)
 exact
 {
  bx:=W,hX:=h.hX,hM:=h.hM,hb:=bJ h.hb z
  lt:=λb hb=>by
   exact xC
  na:=λj=>(h.na j).kp B (λb hb=>by
   rcases de hb with c|c
   ·have:=h.hM
    exact⟨by omega,λf g j=>O (c▸j▸h.nin f g)⟩
   have g:=jB (v:=r.h.val) c;exact⟨λf=>ab (f▸h.fj r q b g),λj o f=>h.g2 j o r q (by rw[f];exact g)⟩)
  nin:=λs u=>.inl (h.nin s u)
  g2:=λs u f g c=>by
   rcases mO g with rfl|⟨e,_,a⟩
   ·rcases C _ c with J|J
    ·exact h.g2 s u r q J
    have:=(h.lt _ (h.nin s u)).2;omega
   exact h.g2 s u f (List.mem_of_getElem? a) c
  own:=λf g=>by
   rcases mO g with rfl|⟨e,I,a⟩
   ·exact M
   have D:=List.mem_of_getElem? a;exact mN (h.own f D) B (λb hb=>P b (h.fj f D b hb) (λc=>I (h.one e i f r b a G hb c)))
  fj:=λf g b hb=>by
   rcases mO g with rfl|⟨e,_,a⟩
   ·rcases C b hb with J|J
    ·exact .inl (h.fj r q b J)
    exact .inr ⟨J,(ac b hb).2⟩
   exact .inl (h.fj f (List.mem_of_getElem? a) b hb)
  one:=λe J f d b a T g k=>by
   rcases qW a with⟨ae,af⟩|⟨ag,U⟩
   ·rcases qW T with⟨ai,al⟩|⟨aj,ak⟩
    ·rw[ae,ai]
    exact absurd (af▸g) (Q J d aj ak b k)
   rcases qW T with⟨ak,ai⟩|⟨al,aj⟩
   ·exact absurd (ai▸k) (Q e f ag U b g)
   exact h.one e J f d b U aj g k
  fine:=λf g=>by
   rcases mO g with rfl|⟨e,_,a⟩
   ·exact Y
   exact h.fine f (List.mem_of_getElem? a)
  nest:=λf g=>by
   rcases mO g with rfl|⟨e,_,a⟩
   ·refine Z _ (R r q) (λb hb=>⟨.inr hb.1,λs u c=>?_,λd k c=>?_⟩)
    ·have:=(h.lt _ (h.nin s u)).2
     have:=hb.1.1;omega
    rcases mO k with rfl|⟨e,_,a⟩
    ·exact hb.2 c.symm
    have:=(h.lt b (h.fj d (List.mem_of_getElem? a) b c)).2;have:=hb.1.1;omega
   exact R f (List.mem_of_getElem? a)}
def mP (h:Hd) (a:List RT):eD:=⟨81,3,h,a.flatMap RT.cells,λb c=>∀d∈a,gj b c d⟩
theorem xD (h:Hd) (a:List RT):(mP h a).bo:=
 ⟨λb c f d g a e=>gj.mono b c f a (d a e) g,λb f c g d i j a e=>gj.keep b f c a g (d a e) i j⟩
def qX:List Value:=[.slice none 0 0,.slice none 0 0,.slice none 0 0,.slice none 0 0,.slice none 0 0,.slice none 0 0]
def gl (b:List Tb) (d:ce) (c:aB):List Tb×(Int×Int):=
 if(bL d c).2≠0 then(b,((bL d c).2,c.at_))
 else if c.kind=1 then
  match eP b c with
  |.ok t=>(b++[t],(0,0))
  |.bad e a=>(b,(e,a))
 else(b,(0,0))
def lK (b:ah) (c d e:Nat) (f:Nat->Prop) (a:List RT) (g:ce) (i:Int):Prop:=
 ∃h j,h.n=a.length/\cT b c d e f [] qX [mP h a] true j g i
theorem cT.table {w d:ah} {e g j:Nat} {m:Nat->Prop} {f:aU} {n c:Nat} {a:List RT} {l:List (Int×Nat)} {o:ce} {k:Int} {q:Tb} (h:cT w e g j m [] qX [mP ⟨f,n,c⟩ a] true l o k) (v:a.length=n)
 (p:iT w d e j 81 3 RT.cells RT.tb gj f n c a q (λx=>#[x,ab,ab,ab,ab,ab,ab,.map (some g),k])):
 Kp (e::(Value.slice f n c).ownBlock.toList) w d/\∃r,r.tb=q/\lK d e g j (λe=>m e\/Bw w.heap.size d.heap.size e) (a++[r]) o k:=by
 obtain⟨r,s,t,y,z,A,u,B,C⟩:=p;refine⟨u,r,y,⟨s,n+1,t⟩,l,by simp[v],?_⟩;refine h.push (i:=0) (r:=mP ⟨f,n,c⟩ a) (r':=mP ⟨s,n+1,t⟩ (a++[r])) rfl u z A B (xD _ _) ?_;intro a D E F b;rcases cP b with b|b
 ·exact D F b
 rw[aC b];exact gj.mono _ _ _ _ C E
theorem FO (i e E q o:Nat) (c:RI) (t F:Nat->Prop) (k:aU) (g m:Nat) (f:List RT) (l:List (Int×Nat)) (p:ce) (j:ah) (n:cT j i e E t [] qX [mP ⟨k,g,m⟩ f] true l p c.at_) (S:f.length=g) (al:g<=1000)
 (G:aa j q 154 #[ak i]) (T:aa j o 95 c.cells.toArray) (U:q≠i/\q≠e/\¬t q) (V:o≠i/\o≠e/\¬t o) (H:cW j F c) (am:∀b,F b->b<e) (an:c.names.length<=5001):
 Calls prog 60 #[ak q,ak o] j λd I=>
  Kp (i::(dC e l++(Value.slice k g m).ownBlock.toList)) j I/\∃W pr,gl (f.map RT.tb) p c.it=(W.map RT.tb,pr)/\(∃X,lK I i e E X W (bL p c.it).1 c.at_/\∀b,X b->t b\/Bw j.heap.size I.heap.size b)/\
   ((d=.returned (.tuple #[])/\pr=(0,0))\/d=.panicked [{v:=fD pr.1 pr.2,recovered:=false}]):=by
 have ao:=Z n;have u:=Z S;have ap:=Z H;have J:=Z (Da i e c (O k g m) ab ab ab ab ab ab c.at_ l p j n.bx (n.na rfl) H.ok.2.1);obtain⟨Y,I⟩:=av (bL p c.it);rw[<-I]at J⊢;have K:=Z I;clear I;have I:=Nat.lt_trans n.hM n.hX;have aq:=λb a=>(n.lt b a).1;have L:∀b∈dC e l,b=e\/t b:=λb a=>by
  rcases de a with d|d
  ·exact .inl d
  obtain⟨r,s,t⟩:=List.mem_map.1 d;exact .inr (t▸n.nin r s)
 have ar:=n.hX;have t:=n.hb;have au:=Z G;have ac:=Z T;have aw:q∉dC e l:=λM=>by
  rcases L q M with d|d
  ·exact U.2.1 d
  exact U.2.2 d
 have ax:o∉dC e l:=λM=>by
  rcases L o M with d|d
  ·exact V.2.1 d
  exact V.2.2 d
 have az:∀b∈dC e l,¬F b:=λb a q=>by
  have:=am b q;rcases L b a with d|d
  ·omega
  have:=aq b d;omega
 have aA:=ay G;have ad:(some 25:Option Nat)=some c.cells.toArray.size:=by simp[RI.len]
 clear G T n H S;go_enter func60,ntmps60
 go_wp2_with (first|(refine iK rfl 95 (.tmp 1) rfl o c.cells.toArray rfl 95 ac.out _ underlying95 rfl ad ?_)|fail)
 refine J.mono ?_;rintro d N ⟨n,⟨P,q,t⟩,aB⟩;have r:=Z (ao.names n q t);have aC:=Z (n.blk au aw);have ae:=Z (n.blk ac ax);have w:=Z (ap.keep n az);have aD:=n.size;have x:=Z n;clear J aA q t n;rcases aB with⟨y,s⟩|⟨y,s⟩
 ·subst s
  have af:=Z y;clear y;have n:=ay ae;have n:=ay aC;by_cases z:c.kind=1
  ·have Q:=Z (FN i E c ab ab ab ab ab ab (.map (some e)) k g m f N r.out.bx w.out.lc w.out.fc w.out.ln an w.out.ok.2.1 (r.out.own _ (List.mem_singleton.2 rfl)) u.out ar r.out.hb al)
   have n:decide (c.kind=1)=true:=by simp[z]
   go_wp2_with (first|(refine iK rfl 95 (.tmp 1) rfl o c.cells.toArray rfl 95 ae.out _ underlying95 rfl ad ?_)|fail)
   refine Q.mono ?_;rintro d ag A;have B:=Z (show gl (f.map RT.tb) p c.it=(match eP (f.map RT.tb) c.it with|.ok R=>(f.map RT.tb++[R],((0:Int),(0:Int)))|.bad d D=>(f.map RT.tb,(d,D))) by
    unfold gl;rw[<-K.out,if_neg (by rw[af.out];simp),if_pos (show c.it.kind=1 from z)])
   cases ht:eP (f.map RT.tb) c.it with
   |ok R=>
    rw[ht]at A B;obtain⟨s,ai⟩:=A;subst s;obtain⟨C,aE,aF,aj⟩:=r.table u ai;have aG:=Z (show Kp (i::(dC e l++(Value.slice k g m).ownBlock.toList)) j ag from(x.out.mono (λb a=>List.mem_cons_of_mem _ (kk (.inl a)))).trans (C.mono (λb a=>by
     rcases de a with d|d
     ·rw[d];exact List.mem_cons_self ..
     exact List.mem_cons_of_mem _ (kk (.inr d)))))
    have aH:=C.size;have aI:=Z aj;clear ai C aj Q;go_wp2;refine⟨rfl,.tuple #[],results_none rfl _ _ _,?_⟩;refine⟨aG,f++[aE],(0,0),by rw[B.out];simp[aF],⟨_,aI.out,λb a=>?_⟩,.inl ⟨rfl,rfl⟩⟩;rcases a with(a|a)|a
    ·exact .inl a
    ·exact .inr ⟨a.1,aV a.2 aH⟩
    exact .inr ⟨bJ aD a.1,a.2⟩
   |bad ai D=>
    rw[ht]at A B;obtain⟨s,C⟩:=A;subst s;have aj:=Z (show Kp (i::(dC e l++(Value.slice k g m).ownBlock.toList)) j ag from(x.mono (λb a=>List.mem_cons_of_mem _ (kk (.inl a)))).trans (Kp.of_same C));have aE:=Z (r.kp (Kp.of_same (l:=[]) C) (λb a=>by cases a));have aF:=C.size;clear C Q;go_wp2;refine⟨rfl,aj,f,(ai,D),by rw[B.out],⟨_,⟨⟨k,g,m⟩,P,u.out.symm,aE.out⟩,λb a=>?_⟩,.inr rfl⟩;rcases a with a|a
    ·exact .inl a
    exact .inr ⟨a.1,aV a.2 aF⟩
  have A:=Z (show gl (f.map RT.tb) p c.it=(f.map RT.tb,((0:Int),(0:Int))) by
   unfold gl;rw[<-K.out,if_neg (by rw[af.out];simp),if_neg (show¬c.it.kind=1 from z)])
  have B:=Z (show Kp (i::(dC e l++(Value.slice k g m).ownBlock.toList)) j N from x.mono (λb a=>List.mem_cons_of_mem _ (kk (.inl a))));have d:decide (c.kind=1)=false:=by simp[z]
  go_wp2;refine⟨rfl,.tuple #[],results_none rfl _ _ _,?_⟩;exact⟨B,f,(0,0),A,⟨_,⟨⟨k,g,m⟩,P,u.symm,r⟩,λb a=>a⟩,.inl ⟨rfl,rfl⟩⟩
 subst s;have z:=Z (show gl (f.map RT.tb) p c.it=(f.map RT.tb,(Y.2,c.at_)) by
  unfold gl;rw[<-K.out,if_pos y];rfl)
 have A:=Z (show Kp (i::(dC e l++(Value.slice k g m).ownBlock.toList)) j N from x.mono (λb a=>List.mem_cons_of_mem _ (kk (.inl a))));go_wp2;exact⟨rfl,A,f,(Y.2,c.at_),z,⟨_,⟨⟨k,g,m⟩,P,u.symm,r⟩,λb a=>a⟩,.inr rfl⟩
def xH (c:ah) (g i j:Nat) (k:Nat->Prop) (e:List Nat) (f:List Tb) (d:ce) (a:aB) (l:Int×Int) (b:ah):Prop:=
 Kp e c b/\∃e:List RT,gl f d a=(e.map RT.tb,l)/\∃f,lK b g i j f e (bL d a).1 a.at_/\∀a,f a->k a\/(c.heap.size<a/\a<b.heap.size)
theorem F0 (X a o p f:Nat) (d:RI) (g S:Nat->Prop) (j:aU) (e k:Nat) (n:List RT) (l:List (Int×Nat)) (u:ce) (s:Int) (c:ah) (i:cT c X a o g [] qX [mP ⟨j,e,k⟩ n] true l u s) (y:n.length=e) (z:e<=1000)
 (A:aa c p 154 #[ak X]) (B:aa c f 95 d.cells.toArray) (t:p≠X/\p≠a/\¬g p) (v:f≠X/\f≠a/\¬g f) (C:cW c S d) (w:∀b,S b->b<a) (D:d.names.length<=5001):
 Calls prog 59 #[ak X,d.at_,.func (.func 60) #[] #[ak p,ak f]] c
  (sY (xH c X a o g (X::(dC a l++(Value.slice j e k).ownBlock.toList)) (n.map RT.tb) u d.it)):=by
 have E:X<c.heap.size:=i.bx.lt;have hBw:∀b,g b->b<c.heap.size:=λb hb=>(i.lt b hb).2;refine xG X d.at_ 60 #[ak p,ak f] (λ_ _=>by kernel_rfl) (O j e k) ab ab ab ab ab ab (.map (some a)) s c i.bx _ (X::(dC a l++(Value.slice j e k).ownBlock.toList)) ?_ ?_ ?_
 ·intro b hb
  rcases de hb with m|m
  ·omega
  rcases cP m with m|m
  ·exact(i.na rfl).lt b m
  exact(b2 (i.own _ (List.mem_singleton.2 rfl)) b (jB m)).2
 ·rintro m m m ⟨q,r,s,x,⟨h,E,F,q0⟩,hB'⟩ m G
  refine⟨m.old q (λb hb G=>absurd (aC hb) af),r,s,x,⟨h,E,F,q0.kp m ?_⟩,λb hb=>(hB' b hb).imp id (λh=>⟨h.1,aV h.2 m.size⟩)⟩;exact xI
 intro s E m F;have E:=i.at_ m E;have F:∀b,S b->b∉[X]:=λb hb hm=>by
  have:=w b hb;have:=i.hM;rw[aC hm]at*;omega
 refine(FO X a o p f d g S j e k n l u s E y z (m.blk A (by simp[t.1])) (m.blk B (by simp[v.1])) t v (C.keep m (λb hb f=>F b f hb)) w D).mono ?_;rintro f i ⟨f,s,q,t,⟨v,hF,hB'⟩,G⟩;refine⟨f,?_⟩;have x:xH c X a o g (X::(dC a l++(Value.slice j e k).ownBlock.toList)) (n.map RT.tb) u d.it q i:=
  ⟨(m.mono (λb hb=>by rw[aC hb];simp)).trans f,s,t,v,hF,λb hb=>(hB' b hb).imp id (λh=>⟨by have:=h.1;omega,h.2⟩)⟩
 rcases G with⟨r,H⟩|r
 ·exact .inl ⟨r,H▸x⟩
 exact .inr ⟨q.1,q.2,r,x⟩
def py (h:Hd) (a:List Og):eD:=⟨136,2,h,a.flatMap Og.cells,λ_ _=>True⟩
def pz (h:Hd) (a:List Bk):eD:=⟨50,6,h,a.flatMap Bk.cells,λ_ _=>True⟩
def pA (h:Hd) (a:List dF):eD:=⟨55,4,h,a.flatMap dF.cells,λw b=>∀c∈a,fh w b c⟩
def pB (h:Hd) (a:List dV):eD:=⟨52,3,h,a.flatMap dV.cells,λ_ _=>True⟩
def lM (h:Hd) (a:List cn):eD:=⟨64,10,h,a.flatMap cn.cells,λw b=>∀c∈a,eU w b c⟩
def pC (h:Hd) (a:List dM):eD:=⟨107,9,h,a.flatMap dM.cells,λw b=>∀c∈a,pw w b c⟩
theorem xJ (h:Hd) (a:List Og):(py h a).bo:=⟨λ_ _ _ _ _=>trivial,λ_ _ _ _ _ _ _=>trivial⟩
theorem xK (h:Hd) (a:List Bk):(pz h a).bo:=⟨λ_ _ _ _ _=>trivial,λ_ _ _ _ _ _ _=>trivial⟩
theorem xL (h:Hd) (a:List dV):(pB h a).bo:=⟨λ_ _ _ _ _=>trivial,λ_ _ _ _ _ _ _=>trivial⟩
theorem xM (h:Hd) (b:List dF):(pA h b).bo:=⟨λw c e a f b d=>fh.mono w c e b (a b d) f,λw w' c e a f g b d=>fh.keep w w' c b e (a b d) f g⟩
theorem xN (h:Hd) (b:List cn):(lM h b).bo:=⟨λw d b a e b c=>(a b c).mono e,λw w' d d a d e b c=>(a b c).keep d e⟩
theorem xO (h:Hd) (b:List dM):(pC h b).bo:=⟨λw d b a e b c=>dL.mono (a b c) e,λw w' d d a d e b c=>dL.keep (a b c) d e⟩
structure cd where
 h1:Hd
 h2:Hd
 h3:Hd
 h4:Hd
 h5:Hd
 h6:Hd
 os:List Og
 bs:List Bk
 ms:List dF
 ks:List dV
 rs:List cn
 qs:List dM
def cd.rows (x:cd):List eD:=[py x.h1 x.os,pz x.h2 x.bs,pA x.h3 x.ms,pB x.h4 x.ks,lM x.h5 x.rs,pC x.h6 x.qs]
structure cd.Fit (x:cd):Prop where
 e1:x.os.length=x.h1.n
 e2:x.bs.length=x.h2.n
 e3:x.ms.length=x.h3.n
 e4:x.ks.length=x.h4.n
 e5:x.rs.length=x.h5.n
 e6:x.qs.length=x.h6.n
def cd.su (x:cd) (tabs:List Tb):Su:=⟨tabs,x.os,x.bs,x.ms.map dF.mt,x.ks,x.rs.map cn.ru,x.qs.map dM.qy⟩
def jL (w:ah) (X M base:Nat) (B:Nat->Prop) (h:Hd) (tabs:List Tb) (b:Su):Prop:=
 ∃(x:cd) (a:Int),x.Fit/\x.su tabs=b/\cT w X M base B [h.val] [] x.rows false [] [] a
def fF (w:ah) (X M base:Nat) (B:Nat->Prop) (h:Hd) (tabs:List Tb) (d:Su) (f:RO Su) (e:Ending) (w':ah):Prop:=
 (∃b,Kp b w w'/\∀c∈b,c=X\/B c)/\∃b:Nat->Prop,(∀c,b c->B c\/Bw w.heap.size w'.heap.size c)/\
  match f with
  |.ok s'=>e=.returned (.tuple #[])/\jL w' X M base b h tabs s'
  |.bad er a=>e=.panicked [{v:=fD er a,recovered:=false}]/\jL w' X M base b h tabs d
section
variable {w w':ah} {X M base:Nat} {B:Nat->Prop} {h:Hd} {tabs:List Tb} {x:cd} {a:Int} {e:Ending}
theorem fF.of {c:Type} {d:RO c} {f:c->Su} {i:c->World->Prop} {c:RO Su} (m:x.Fit) (n:cT w X M base B [h.val] [] x.rows false [] [] a) (o:c=d.bind λv=>.ok (f v)) (p:jy w d i e w')
 (q:∀v,i v w'->(∃k,Kp k w w'/\∀b∈k,b=X\/B b)/\jL w' X M base (λb=>B b\/Bw w.heap.size w'.heap.size b) h tabs (f v)):fF w X M base B h tabs (x.su tabs) c e w':=by
 subst o;cases d with
 |ok v=>
  obtain⟨g,j⟩:=p;obtain⟨c,d⟩:=q v j;exact⟨c,_,λb c=>c,g,d⟩
 |bad s t=>
  obtain⟨r,j⟩:=p;exact⟨⟨[],Kp.of_same j,λb g=>by cases g⟩,B,λb g=>.inl g,r,x,a,m,rfl,n.kp (Kp.of_same (l:=[]) j) (λb g=>by cases g)⟩
theorem nV (f:cT w X M base B [h.val] [] x.rows false [] [] a) {i:Nat} {b:eD} (g:x.rows[i]?=some b) (c:Kp (X::b.own.toList) w w'):∃c,Kp c w w'/\∀d∈c,d=X\/B d:=
 ⟨_,c,λd j=>by
  rcases de j with e|e
  ·exact .inl e
  exact .inr (f.fj b (List.mem_of_getElem? g) d (jB (v:=b.h.val) e))⟩
theorem F4 (b:x.Fit) {g:RI} (d:cT w X M base B [h.val] [] x.rows false [] [] g.at_) (j:x.os.length<=64):
 Calls prog 114 #[ak X,.agg g.cells.toArray] w (fF w X M base B h tabs (x.su tabs) (lh (x.su tabs) g.it)):=by
 refine(F3 X base g g.at_ h.val x.h2.val x.h3.val x.h4.val x.h5.val x.h6.val (.map (some M)) x.h1.a x.h1.n x.h1.c x.os w d.bx (d.own (py x.h1 x.os) gx) b.e1 d.hX d.hb (by rw[<-b.e1];exact j)).mono ?_;intro e w' j;refine fF.of (f:=λk=>{x.su tabs with origins:=(x.su tabs).origins++[k]}) b d ?_ j ?_
 ·simp only[RO.gW,<-b.e1]
  rfl
 rintro j ⟨k,l,o,p,m,q⟩;refine⟨nV d (i:=0) rfl m,{x with h1:=⟨k,x.h1.n+1,l⟩,os:=x.os++[j]},g.at_,⟨by simp[b.e1],b.e2,b.e3,b.e4,b.e5,b.e6⟩,rfl,?_⟩;exact d.push (i:=0) (r':=py ⟨k,x.h1.n+1,l⟩ (x.os++[j])) rfl m o p q (xJ _ _) (λ_ _ _=>trivial)
theorem F5 (b:x.Fit) {j:RI} {d:List RT} (k:bI w h d) (g:cT w X M base B [h.val] [] x.rows false [] [] j.at_) (l:x.bs.length<=1000):
 Calls prog 115 #[ak X,.agg j.cells.toArray] w (fF w X M base B h (d.map RT.tb) (x.su (d.map RT.tb)) (j1 (x.su (d.map RT.tb)) j.it)):=by
 refine(Fv X base j h d j.at_ x.h1.val x.h3.val x.h4.val x.h5.val x.h6.val (.map (some M)) x.h2.a x.h2.n x.h2.c x.bs w g.bx k (g.own (pz x.h2 x.bs) gx) b.e2 g.hX g.hb (by rw[<-b.e2];exact l)).mono ?_;intro e w' k;refine fF.of (f:=λl=>{x.su (d.map RT.tb)with blocks:=(x.su (d.map RT.tb)).blocks++[l]}) b g ?_ k ?_
 ·unfold j1 sN
  simp only[RO.bind_assoc];rfl
 rintro d ⟨k,l,o,p,m,q⟩;refine⟨nV g (i:=1) rfl m,{x with h2:=⟨k,x.h2.n+1,l⟩,bs:=x.bs++[d]},j.at_,⟨b.e1,by simp[b.e2],b.e3,b.e4,b.e5,b.e6⟩,rfl,?_⟩;exact g.push (i:=1) (r':=pz ⟨k,x.h2.n+1,l⟩ (x.bs++[d])) rfl m o p q (xK _ _) (λ_ _ _=>trivial)
theorem F6 (b:x.Fit) {d:RI} {g:List RT} (o:bI w h g) (p:aE w 7 d.o8 ct.cells d.terms) (q:∀l∈d.terms,l.bo) (j:cT w X M base B [h.val] [] x.rows false [] [] d.at_) (m:x.ms.length<=1000):
 Calls prog 116 #[ak X,.agg d.cells.toArray] w (fF w X M base B h (g.map RT.tb) (x.su (g.map RT.tb)) (j2 (x.su (g.map RT.tb)) d.it)):=by
 refine(FB X base d h g d.at_ x.h1.val x.h2.val x.h4.val x.h5.val x.h6.val (.map (some M)) x.h3.a x.h3.n x.h3.c x.ms w j.bx o p q (j.own (pA x.h3 x.ms) gx) b.e3 j.hX j.hb (by rw[<-b.e3];exact m)).mono ?_;intro e w' o;refine fF.of (f:=λk=>{x.su (g.map RT.tb)with fr:=(x.su (g.map RT.tb)).fr++[k]}) b j ?_ o ?_
 ·unfold j2 sR
  simp only[RO.bind_assoc,RO.gW];rfl
 rintro g ⟨l,g,o,q,r,s,p,t,u⟩;refine⟨nV j (i:=2) rfl p,{x with h3:=⟨g,x.h3.n+1,o⟩,ms:=x.ms++[l]},d.at_,⟨b.e1,b.e2,by simp[b.e3],b.e4,b.e5,b.e6⟩,by simp[cd.su,q],?_⟩;refine j.push (i:=2) (r':=pA ⟨g,x.h3.n+1,o⟩ (x.ms++[l])) rfl p r s t (xM _ _) (λb v m y k=>?_);rcases cP k with k|k
 ·exact v y k
 rw[aC k];exact fh.mono _ _ _ _ u m
theorem F7 (b:x.Fit) {j:RI} {d:List RT} (k:bI w h d) (g:cT w X M base B [h.val] [] x.rows false [] [] j.at_) (l:x.ks.length<=1000):
 Calls prog 117 #[ak X,.agg j.cells.toArray] w (fF w X M base B h (d.map RT.tb) (x.su (d.map RT.tb)) (j3 (x.su (d.map RT.tb)) j.it)):=by
 refine(DK X base j h d j.at_ x.h1.val x.h2.val x.h3.val x.h5.val x.h6.val (.map (some M)) x.h4.a x.h4.n x.h4.c x.ks w g.bx k (g.own (pB x.h4 x.ks) gx) b.e4 g.hX g.hb (by rw[<-b.e4];exact l)).mono ?_;intro e w' k;refine fF.of (f:=λl=>{x.su (d.map RT.tb)with keeps:=(x.su (d.map RT.tb)).keeps++[l]}) b g ?_ k ?_
 ·unfold j3 sw
  simp only[RO.bind_assoc,RO.gW];rfl
 rintro d ⟨k,l,o,p,m,q⟩;refine⟨nV g (i:=3) rfl m,{x with h4:=⟨k,x.h4.n+1,l⟩,ks:=x.ks++[d]},j.at_,⟨b.e1,b.e2,b.e3,by simp[b.e4],b.e5,b.e6⟩,rfl,?_⟩;exact g.push (i:=3) (r':=pB ⟨k,x.h4.n+1,l⟩ (x.ks++[d])) rfl m o p q (xL _ _) (λ_ _ _=>trivial)
theorem jL.rule (d:x.Fit) {b:Int} (f:cT w X M base B [h.val] [] x.rows false [] [] b) {v:Ru} (o:iL w w' X base x.h5.a x.h5.n x.h5.c x.rs v (λg=>#[h.val,x.h1.val,x.h2.val,x.h3.val,x.h4.val,g,x.h6.val,.map (some M),b])):
 (∃g,Kp g w w'/\∀b∈g,b=X\/B b)/\jL w' X M base (λb=>B b\/Bw w.heap.size w'.heap.size b) h tabs {x.su tabs with rules:=(x.su tabs).rules++[v]}:=by
 obtain⟨j,k,l,p,q,r,m,s,t⟩:=o;refine⟨nV f (i:=4) rfl m,{x with h5:=⟨k,x.h5.n+1,l⟩,rs:=x.rs++[j]},b,⟨d.e1,d.e2,d.e3,d.e4,by simp[d.e5],d.e6⟩,by simp[cd.su,p],?_⟩;refine f.push (i:=4) (r':=lM ⟨k,x.h5.n+1,l⟩ (x.rs++[j])) rfl m q r s (xN _ _) (λb u y z e=>?_);rcases cP e with e|e
 ·exact u z e
 rw[aC e];exact eU.mono t y
theorem F8 (i:x.Fit) {b:RI} {d:List RT} (j:bI w h d) (k:b5 w b.hQ b.names) (l:b.names.length<=5001) (g:cT w X M base B [h.val] [] x.rows false [] [] b.at_) (m:x.rs.length<=1000):
 Calls prog 118 #[ak X,.agg b.cells.toArray] w (fF w X M base B h (d.map RT.tb) (x.su (d.map RT.tb)) (ma (x.su (d.map RT.tb)) b.it)):=by
 refine(Ep X base b h d x.h1.val x.h2.val x.h3.val x.h4.val x.h6.val (.map (some M)) x.h5.a x.h5.n x.h5.c x.rs w g.bx j k l (g.own (lM x.h5 x.rs) gx) i.e5 g.hX g.hb (by rw[<-i.e5];exact m)).mono ?_;intro e w' b;exact fF.of (f:=λj=>{x.su (d.map RT.tb)with rules:=(x.su (d.map RT.tb)).rules++[j]}) i g rfl b (λb b=>jL.rule i g b)
theorem F9 (i:x.Fit) {b:RI} {d:List RT} (j:bI w h d) (k:b5 w b.hQ b.names) (l:b.names.length<=5001) (m:aE w 4 b.nu da.cells b.fixed) (o:b.fixed.length<=5001) (g:cT w X M base B [h.val] [] x.rows false [] [] b.at_) (p:x.rs.length<=1000):
 Calls prog 119 #[ak X,.agg b.cells.toArray] w (fF w X M base B h (d.map RT.tb) (x.su (d.map RT.tb)) (j4 (x.su (d.map RT.tb)) b.it)):=by
 refine(Eu X base b h d x.h1.val x.h2.val x.h3.val x.h4.val x.h6.val (.map (some M)) x.h5.a x.h5.n x.h5.c x.rs w g.bx j k l m o (g.own (lM x.h5 x.rs) gx) i.e5 g.hX g.hb (by rw[<-i.e5];exact p)).mono ?_;intro e w' b;refine fF.of (f:=λj=>{x.su (d.map RT.tb)with rules:=(x.su (d.map RT.tb)).rules++[j]}) i g ?_ b (λb b=>jL.rule i g b);unfold j4 pa;simp only[RO.bind_assoc,RO.gW];rfl
theorem Ga (g:x.Fit) {i:RI} {b:List RT} (j:bI w h b) (d:cT w X M base B [h.val] [] x.rows false [] [] i.at_) (k:x.rs.length<=1000):
 Calls prog 120 #[ak X,.agg i.cells.toArray] w (fF w X M base B h (b.map RT.tb) (x.su (b.map RT.tb)) (j5 (x.su (b.map RT.tb)) i.it)):=by
 refine(Eo X base i h b x.h1.val x.h2.val x.h3.val x.h4.val x.h6.val (.map (some M)) x.h5.a x.h5.n x.h5.c x.rs w d.bx j (d.own (lM x.h5 x.rs) gx) g.e5 d.hX d.hb (by rw[<-g.e5];exact k)).mono ?_;intro e w' i;refine fF.of (f:=λj=>{x.su (b.map RT.tb)with rules:=(x.su (b.map RT.tb)).rules++[j]}) g d ?_ i (λb b=>jL.rule g d b);unfold j5 sC;simp only[RO.bind_assoc,RO.gW];rfl
theorem Gb (i:x.Fit) {b:RI} {d:List RT} (j:bI w h d) (k:aE w 2 b.hvars Vr.cells b.vars) (l:aE w 14 b.hconds bm.cells b.conds) (g:cT w X M base B [h.val] [] x.rows false [] [] b.at_) (m:x.rs.length<=1000):
 Calls prog 121 #[ak X,.agg b.cells.toArray] w (fF w X M base B h (d.map RT.tb) (x.su (d.map RT.tb)) (j6 (x.su (d.map RT.tb)) b.it)):=by
 refine(EC X base b h d x.h1.val x.h2.val x.h3.val x.h4.val x.h6.val (.map (some M)) x.h5.a x.h5.n x.h5.c x.rs w g.bx j k l (g.own (lM x.h5 x.rs) gx) i.e5 g.hX g.hb (by rw[<-i.e5];exact m)).mono ?_;intro e w' b;refine fF.of (f:=λj=>{x.su (d.map RT.tb)with rules:=(x.su (d.map RT.tb)).rules++[j]}) i g ?_ b (λb b=>jL.rule i g b);unfold j6 sF;simp only[RO.bind_assoc,RO.gW];rfl
end
section
variable {w w':ah} {X M base:Nat} {B:Nat->Prop} {h:Hd} {x:cd}
theorem Gc (f:x.Fit) {d:RI} {b:List RT} {k:Nat->Prop} (v:bI w h b) (y:g0 X b) (z:lB (b.map RT.tb)) (A:dK w k d.e) (C:¬k X) (D:∀g,k g->g<w.heap.size) (E:d.e.ex.cL) (j:cT w X M base B [h.val] [] x.rows false [] [] d.at_) (o:x.qs.length<=1000):
 Calls prog 122 #[ak X,.agg d.cells.toArray] w (fF w X M base B h (b.map RT.tb) (x.su (b.map RT.tb)) (jn (x.su (b.map RT.tb)) d.it)):=by
 have F:nG [x.h1.val,x.h2.val,x.h3.val,x.h4.val,x.h5.val,.slice x.h6.a x.h6.n x.h6.c,.map (some M)]:=⟨rfl,λp l p m=>by
  subst m;simp[Hd.val]at l⟩
 refine(FH X base d h b x.h1.val x.h2.val x.h3.val x.h4.val x.h5.val (.map (some M)) d.at_ x.h6.a x.h6.n x.h6.c x.qs w k j.bx F v y z A C D E (j.own (pC x.h6 x.qs) gx) f.e6 j.hX j.hb (by rw[<-f.e6];exact o)).mono ?_;intro v w' m;have v:jn (x.su (b.map RT.tb)) d.it=(mM (b.map RT.tb) d.it).bind λq=>.ok {x.su (b.map RT.tb)with queries:=(x.su (b.map RT.tb)).queries++[q]}:=by
  unfold jn mM;simp only[RO.bind_assoc];rfl
 rw[v];cases hq:mM (b.map RT.tb) d.it with
 |ok q=>
  rw[hq]at m;obtain⟨G,g,r,s,t,H,p,I,u,J,K⟩:=m;refine⟨nV j (i:=5) rfl u,_,λg p=>p,G,{x with h6:=⟨s,x.h6.n+1,t⟩,qs:=x.qs++[r]},g,⟨f.e1,f.e2,f.e3,f.e4,f.e5,by simp[f.e6]⟩,by simp[cd.su,H],?_⟩;refine j.push (i:=5) (r':=pC ⟨s,x.h6.n+1,t⟩ (x.qs++[r])) rfl u p I J (xO _ _) (λk L o N l=>?_);rcases cP l with l|l
  ·exact L N l
  rw[aC l];exact dL.mono K o
 |bad s t=>
  rw[hq]at m;obtain⟨r,p,g,l⟩:=m;exact⟨⟨[X],p,λb b=>.inl (aC b)⟩,B,λg l=>.inl l,r,x,g,f,rfl,j.at_ p l⟩
end
theorem Gd (X d e f:Nat) (a:FuncId) (g:∀g w,(callFunc a g).run prog w=.ok (.enter a g) w) (c:RI) (w:ah) (j:aa w d 162 #[.func (.func a) #[] #[]]) (k:aa w e 154 #[ak X]) (l:aa w f 95 c.cells.toArray)
 (g:Ending->World->Prop) (m:Calls prog a #[ak X,.agg c.cells.toArray] w g) (n:∀b w',g b w'->b=.returned (.tuple #[])\/∃o,b=.panicked o):
 Calls prog 64 #[ak d,ak e,ak f] w g:=by
 have p:=Z l;have q:=Z m;have r:=Z n;have a:ae w (ac d 0) (.func (.func a) #[] #[]):=aa.cell j 0;have a:ae w (ac e 0) (ak X):=aa.cell k 0;have s:(some 25:Option Nat)=some c.cells.toArray.size:=by simp[RI.len]
 clear l m n j k;go_enter func64,ntmps64
 go_wp2_with (first|(refine iK rfl 95 (.tmp 2) rfl f c.cells.toArray rfl 95 p.out _ underlying95 rfl s ?_)|fail)
 refine q.out.mono ?_;intro b w' h;rcases r.out b w' h with i|⟨o,i⟩
 ·subst i
  go_wp2;exact⟨rfl,.tuple #[],results_none rfl _ _ _,h⟩
 subst i;go_wp2;exact⟨rfl,h⟩
structure nW (w:ah) (X:Nat) (h:Hd) (ts:List RT) (S:Nat->Prop) (r:RI):Prop where
 ta:bI w h ts
 ko:g0 X ts
 fa:lB (ts.map RT.tb)
 it:cW w S r
 sx:¬S X
 sl:∀b,S b->b<w.heap.size
 few:r.e.ex.cL
 h5:r.names.length<=5001
 f5:r.fixed.length<=5001
def cd.Short (a:cd) (b:Nat):Prop:=a.os.length<=b/\a.bs.length<=1000/\a.ms.length<=1000/\a.ks.length<=1000/\a.rs.length<=1000/\a.qs.length<=1000
theorem Ge {k:ah} {l n o:Nat} {p:Nat->Prop} {h:Hd} {d:cd} (g:d.Fit) {a:RI} {e:List RT} {m:Nat->Prop} (c:nW k l h e m a) (i:cT k l n o p [h.val] [] d.rows false [] [] a.at_) (j:d.Short 64) {q:aA} (f:gI a.kind=some q):
 ∃m,q=.func (.func m) #[] #[]/\(∀q k,(callFunc m q).run prog k=.ok (.enter m q) k)/\
  Calls prog m #[ak l,.agg a.cells.toArray] k (fF k l n o p h (e.map RT.tb) (d.su (e.map RT.tb)) (ch (d.su (e.map RT.tb)) a.it)):=by
 have k:2<=a.kind/\a.kind<=10:=by
  unfold gI at f;repeat' split at f
  all_goals first|omega|cases f
 have r:a.kind=2\/a.kind=3\/a.kind=4\/a.kind=5\/a.kind=6\/a.kind=7\/a.kind=8\/a.kind=9\/a.kind=10:=af
 rcases r with b|b|b|b|b|b|b|b|b
 ·rw[b]at f
  refine⟨_,(Option.some.inj f).symm,λ_ _=>by kernel_rfl,?_⟩;rw[show ch (d.su (e.map RT.tb)) a.it=lh (d.su (e.map RT.tb)) a.it by unfold ch;rw[show a.it.kind=2 from b];rfl];exact F4 g i j.1
 ·rw[b]at f
  refine⟨_,(Option.some.inj f).symm,λ_ _=>by kernel_rfl,?_⟩;rw[show ch (d.su (e.map RT.tb)) a.it=j1 (d.su (e.map RT.tb)) a.it by unfold ch;rw[show a.it.kind=3 from b];rfl];exact F5 g c.ta i j.2.1
 ·rw[b]at f
  refine⟨_,(Option.some.inj f).symm,λ_ _=>by kernel_rfl,?_⟩;rw[show ch (d.su (e.map RT.tb)) a.it=j2 (d.su (e.map RT.tb)) a.it by unfold ch;rw[show a.it.kind=4 from b];rfl];exact F6 g c.ta c.it.lt c.it.ft i j.2.2.1
 ·rw[b]at f
  refine⟨_,(Option.some.inj f).symm,λ_ _=>by kernel_rfl,?_⟩;rw[show ch (d.su (e.map RT.tb)) a.it=j3 (d.su (e.map RT.tb)) a.it by unfold ch;rw[show a.it.kind=5 from b];rfl];exact F7 g c.ta i j.2.2.2.1
 ·rw[b]at f
  refine⟨_,(Option.some.inj f).symm,λ_ _=>by kernel_rfl,?_⟩;rw[show ch (d.su (e.map RT.tb)) a.it=ma (d.su (e.map RT.tb)) a.it by unfold ch;rw[show a.it.kind=6 from b];rfl];exact F8 g c.ta c.it.ln c.h5 i j.2.2.2.2.1
 ·rw[b]at f
  refine⟨_,(Option.some.inj f).symm,λ_ _=>by kernel_rfl,?_⟩;rw[show ch (d.su (e.map RT.tb)) a.it=j4 (d.su (e.map RT.tb)) a.it by unfold ch;rw[show a.it.kind=7 from b];rfl];exact F9 g c.ta c.it.ln c.h5 c.it.lf c.f5 i j.2.2.2.2.1
 ·rw[b]at f
  refine⟨_,(Option.some.inj f).symm,λ_ _=>by kernel_rfl,?_⟩;rw[show ch (d.su (e.map RT.tb)) a.it=j5 (d.su (e.map RT.tb)) a.it by unfold ch;rw[show a.it.kind=8 from b];rfl];exact Ga g c.ta i j.2.2.2.2.1
 ·rw[b]at f
  refine⟨_,(Option.some.inj f).symm,λ_ _=>by kernel_rfl,?_⟩;rw[show ch (d.su (e.map RT.tb)) a.it=j6 (d.su (e.map RT.tb)) a.it by unfold ch;rw[show a.it.kind=9 from b];rfl];exact Gb g c.ta c.it.lv c.it.ld i j.2.2.2.2.1
 rw[b]at f;refine⟨_,(Option.some.inj f).symm,λ_ _=>by kernel_rfl,?_⟩;rw[show ch (d.su (e.map RT.tb)) a.it=jn (d.su (e.map RT.tb)) a.it by unfold ch;rw[show a.it.kind=10 from b];rfl];exact Gc g c.ta c.ko c.fa c.it.ex c.sx c.sl c.few i j.2.2.2.2.2
def iW (b:Su) (c:aB):Su×(Int×Int):=
 match ch b c with
 |.ok s'=>(s',(0,0))
 |.bad e a=>(b,(e,a))
def sZ (c:ah) (a g i:Nat) (d:Nat->Prop) (h:Hd) (j:List Tb) (k:Su) (l:aB) (m:Int×Int) (b:ah):Prop:=
 (∃e,Kp e c b/\∀f∈e,f=a\/d f)/\∃(e:Su) (f:Nat->Prop),iW k l=(e,m)/\jL b a g i f h j e/\∀a,f a->d a\/(c.heap.size<a/\a<b.heap.size)
theorem nW.iR {w d:ah} {b:Nat} {h:Hd} {e:List RT} {S:Nat->Prop} {f:RI} (a:nW w b h e S f) (g:jE w b) (c:Kp [b] w d):nW d b h e S f:=
 ⟨a.ta.iR g a.ko c,a.ko,a.fa,a.it.keep c (λb b d=>a.sx (aC b▸d)),a.sx,λb d=>aV (a.sl b d) c.size,a.few,a.h5,a.f5⟩
theorem cT.hV {w:ah} {b a d:Nat} {e:Nat->Prop} {h:Hd} {x:cd} {c:Int} (f:cT w b a d e [h.val] [] x.rows false [] [] c):jE w b:=by
 have j:nG [x.h1.val,x.h2.val,x.h3.val,x.h4.val,x.h5.val,x.h6.val,.map (some a)]:=⟨rfl,λb g b i=>by
  subst i;simp[Hd.val]at g⟩
 exact gJ.hV (h:=h) (u:=[x.h1.val,x.h2.val,x.h3.val,x.h4.val,x.h5.val,x.h6.val,.map (some a)]) ⟨c,f.bx⟩ j
open Classical in
theorem Gf (X m o i p j:Nat) (d:RI) (f S:Nat->Prop) (h:Hd) (k:List RT) (c:cd) (t:Int) (v:aA) (a:ah) (z:c.Fit) (l:cT a X m o f [h.val] [] c.rows false [] [] t) (A:nW a X h k S d) (B:c.Short 64) (hv:gI d.kind=some v)
 (C:aa a i 162 #[v]) (D:aa a p 154 #[ak X]) (E:aa a j 95 d.cells.toArray) (F:i≠X) (G:p≠X) (H:j≠X):
 Calls prog 59 #[ak X,d.at_,.func (.func 64) #[] #[ak i,ak p,ak j]] a
  (sY (sZ a X m o f h (k.map RT.tb) (c.su (k.map RT.tb)) d.it)):=by
 have P:X<a.heap.size:=l.bx.lt;have hBw:∀b,f b->b<a.heap.size:=λb hb=>(l.lt b hb).2;refine xG X d.at_ 64 #[ak i,ak p,ak j] (λ_ _=>by kernel_rfl) h.val c.h1.val c.h2.val c.h3.val c.h4.val c.h5.val c.h6.val (.map (some m)) t a l.bx _ (X::(List.range a.heap.size).filter (λb=>decide (f b))) ?_ ?_ ?_
 ·intro b hb
  rcases de hb with e|e
  ·omega
  exact List.mem_range.1 (List.mem_filter.1 e).1
 ·rintro e e e ⟨⟨g,n,q⟩,r,s,t,⟨u,w,x,y,q0⟩,hB'⟩ e I
  refine⟨⟨g,e.old n (λb hb I=>absurd (aC hb) af),q⟩,r,s,t,⟨u,w,x,y,q0.kp e ?_⟩,λb hb=>(hB' b hb).imp id (λh=>⟨h.1,aV h.2 e.size⟩)⟩;exact xI
 intro q t g P;have m:cT q X m o f [h.val] [] c.rows false [] [] d.at_:=l.at_ g t;obtain⟨I,J,K,L⟩:=Ge z (A.iR l.hV g) m B hv;subst J;refine(Gd X i p j I K d q (g.blk C (by simp[F])) (g.blk D (by simp[G])) (g.blk E (by simp[H])) _ L ?_).mono ?_
 ·rintro e e ⟨_,e,_,h2⟩
  cases hR:ch (c.su (k.map RT.tb)) d.it with
  |ok n=>rw[hR]at h2;exact .inl h2.1
  |bad n r=>rw[hR]at h2;exact .inr ⟨_,h2.1⟩
 rintro e r ⟨⟨n,u,w⟩,s,hB',h2⟩;have M:Kp (X::(List.range a.heap.size).filter (λb=>decide (f b))) q r:=u.mono (λb hb=>by
  rcases w b hb with e|e
  ·rw[e];exact List.mem_cons_self ..
  exact List.mem_cons_of_mem _ (List.mem_filter.2 ⟨List.mem_range.2 (hBw b e),by simpa using e⟩))
 have x:∃n,Kp n a r/\∀b∈n,b=X\/f b:=⟨X::n,(g.mono (λb hb=>by rw[aC hb];simp)).trans (u.mono (λb hb=>List.mem_cons_of_mem _ hb)),λb hb=>by
  rcases de hb with e|e
  ·exact .inl e
  exact w b e⟩
 have y:∀b,s b->f b\/(a.heap.size<b/\b<r.heap.size):=λb hb=>(hB' b hb).imp id (λh=>⟨by have:=h.1;omega,h.2⟩);refine⟨M,?_⟩;cases hR:ch (c.su (k.map RT.tb)) d.it with
 |ok N=>
  rw[hR]at h2;exact .inl ⟨h2.1,x,N,s,by unfold iW;rw[hR],h2.2,y⟩
 |bad N O=>
  rw[hR]at h2;exact .inr ⟨N,O,h2.1,x,_,s,by unfold iW;rw[hR],h2.2,y⟩
theorem s0 (b:List Tb) (c:ce) (d:List (Int×Int)) (a:aB) (e:List aB):
 cI b c d (a::e)=cI (gl b c a).1 (bL c a).1 (d++[(gl b c a).2]) e:=by
 rw[cI];unfold gl;split
 ·rfl
 split
 ·cases eP b a<;>rfl
 rfl
def lN (a:Su) (b:Int×Int) (c:aB):Su×(Int×Int):=if b.1=0 then(match gI c.kind with|none=>(a,b)|some _=>iW a c)else(a,b)
theorem Gg {c:Su} {a:aB} (b:gI a.kind=none):ch c a=.ok c:=by
 have a:¬(2<=a.kind/\a.kind<=10):=by
  unfold gI at b;repeat' split at b
  all_goals first|omega|cases b
 unfold ch;rw[if_neg af,if_neg af,if_neg af,if_neg af,if_neg af,if_neg af,if_neg af,if_neg af,if_neg af]
theorem xP (b:Su) (d:List (Int×Int)) (e:Int×Int) (a:aB) (f:List ((Int×Int)×aB)):
 dr b d ((e,a)::f)=dr (lN b e a).1 (if(lN b e a).2.1=0 then d else d++[(lN b e a).2]) f:=by
 rw[dr];unfold lN;by_cases c:e.1=0
 ·rw[if_pos c,if_pos c]
  cases hs:gI a.kind with
  |none=>
   rw[Gg hs];simp[c]
  |some i=>
   show _=dr (iW b a).1 (if(iW b a).2.1=0 then d else d++[(iW b a).2]) f;unfold iW;cases hp:ch b a with
   |ok g=>simp
   |bad g j=>
    by_cases a:g=0
    ·simp[a]
    simp[a]
 rw[if_neg c,if_neg c];simp[c]
end Go.Proofs.YteamkimbmdgdbaaGreatDoor

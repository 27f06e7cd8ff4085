import Derived.Test.YteamkimbmdgdbaaGreatDoorK22
import Derived.Test.YteamkimbmdgdbaaGreatDoorK23
set_option linter.unusedSimpArgs false
set_option linter.unusedVariables false
set_option maxHeartbeats 16000000
set_option maxRecDepth 100000
namespace Go.Proofs.YteamkimbmdgdbaaGreatDoor
open Go.Proofs.Tryz
open Go.RowKit
mutual
def Ex.cW:Ex->Prop
 |.mk _ _ kids _ names _ _ _ _=>names.length<=5001/\kids.length<=5001/\Ex.ij kids
def Ex.ij:List Ex->Prop
 |[]=>True
 |e::es=>e.cW/\Ex.ij es
end
theorem Ex.ij.mem:∀{a:List Ex},Ex.ij a->∀b∈a,b.cW
 |[],_,_,h=>by cases h
 |x::a,hf,b,h=>by
  rw[Ex.ij]at hf;rcases dh h with rfl|h
  ·exact hf.1
  exact Ex.ij.mem hf.2 b h
theorem FM {d e f:Nat} {h:Hd} {g:List RT} {u:bg} {j:ah} {S:Nat->Prop} {b:RE} (l:dG j S b):b.ex.cW->∀a,jM a d e f h g u S->dG a S b->
 Calls prog 200 #[.agg b.cells.toArray,ak e,ak f] a λc j=>nN a d h u (fg (g.map RT.tb) b.ex) (pv a.heap.size) c j:=by
 induction l with
 |@mk m n o i p q r k s t v w y z A B C D E F G H I J K L x=>
  intro b a j c;have b:k.length<=5001/\(RE.exs i).length<=5001/\Ex.ij (RE.exs i):=b;rw[RE.o8,List.length_map]at b;exact FD d e f h g u S m n o i p q r k s t v w a j c b.1 b.2.1 (λd e a j c=>x d e (b.2.2.mem _ (List.mem_map.2 ⟨d,e,rfl⟩)) a j c)
structure dy where
 name:ByteArray
 rp:aC
def dy.cells (a:dy):List Value:=.string a.name::a.rp.cells
def dy.qy (a:dy):Qy:=⟨a.name,a.rp.pl⟩
theorem dy.len (a:dy):a.cells.length=9:=by show a.rp.cells.length+1=9;rw[aC.len]
def pD (a:ah) (S:Nat->Prop) (b:dy):Prop:=dM a S b.rp
theorem iZ.FN {d k:Type} {a i e:ah} {j f:Nat} {l:aX} {m:Nat} {enc:d->List Value} {val:d->k} {At:World->(Nat->Prop)->d->Prop} {n:aT} {k o:Nat} {q:List d} {c:d} {v:bg} {r:Value->Array Value}
 (w:∀(a:ah) (S s:Nat->Prop) (c:d),At a S c->(∀b,S b->s b)->At a s c) (x:∀(a e:ah) (S:Nat->Prop) (c:d) (d:List Nat),At a S c->Kp d a e->(∀b∈d,¬S b)->At e S c)
 (t:Kp [j] a i) (y:a.ownsRow f l m (O n k o) k v) (d:j<f) (d:f<=a.heap.size) (z:At i (Bw a.heap.size i.heap.size) c) (A:fL i e j f l m enc n k o q c r):iZ a e j f l m enc val At n k o q (val c) r:=by
 obtain⟨B,C,b,D,p,u⟩:=A;have hr:=b6 y;refine⟨c,B,C,rfl,b,D,(t.mono (λ_ h=>by rw[aB h];simp)).trans p,u.imp id (λ⟨a,h1,c⟩=>⟨a,h1,bL t.size c⟩),w _ _ _ _ (x _ _ _ _ _ z p ?_) ?_⟩
 ·exact sL
 intro b hS;have h1:=hS.1;have a:=hS.2;have a:=p.size;refine⟨⟨h1,by omega⟩,λg=>?_⟩;rcases u with h|⟨E,h,F⟩
 ·rw[h]at g
  have:=(hr b g.symm).2;omega
 rw[h]at g;injection g with g
 omega
def mS (a:List Tb) (x:aE):RO Qy:=(fg a x.expr).bind λa=>.ok ⟨x.name,a.1⟩
theorem FO (b:List Tb) (a:RI):mS b a.it=(fg b a.e.ex).bind λb=>.ok ⟨a.name,b.1⟩:=by simp only[mS,RI.it]
def FP (d:ah) (b f:Nat) (h:Hd) (u:bg) (g:aT) (i j:Nat) (k:List dy) (l:Value->Int->Array Value) (m:RO Qy) (e:Ending) (c:ah):Prop:=
 match m with
 |.ok x=>e=.returned (.tuple #[])/\∃a,iZ d c b f 107 9 dy.cells dy.qy pD g i j k x (λf=>l f a)
 |.bad er a=>e=.panicked [{v:=fC er a,recovered:=false}]/\Kp [b] d c/\gH c b h u
theorem Tryz.FQ:(prog.info? 107).map (λa=>(a.zero,a.size,a.bytes))=some (some (.agg #[ai,J 0,J 0,ab,ab,ab,J 0,J 0,ab]),9,144):=am
theorem FR (d L:Nat) (G:RI) (h:Hd) (H:List RT) (u1 u2 u3 u4 u5 u7:aA) (Y:Int) (g:aT) (b i:Nat) (T:List dy) (a:ah) (S:Nat->Prop)
 (V:aa a d 157 #[h.val,u1,u2,u3,u4,u5,O g b i,u7,Y]) (aN:nM [u1,u2,u3,u4,u5,.slice g b i,u7]) (aO:bJ a h H) (aP:g2 d H) (bM:lB (H.map RT.tb)) (W:dG a S G.e) (aR:¬S d) (bN:∀I,S I->I<a.heap.size) (aU:G.e.ex.cW)
 (aV:a.ownsRow L 107 9 (O g b i) b (T.flatMap dy.cells)) (aW:T.length=b) (aX:d<L) (E:L<=a.heap.size) (ad:b<=1000):
 Calls prog 122 #[ak d,.agg G.cells.toArray] a λe w'=>FP a d L h [u1,u2,u3,u4,u5,.slice g b i,u7] g b i T (λad K=>#[h.val,u1,u2,u3,u4,u5,ad,u7,.int .i64 K]) (mS (H.map RT.tb) G.it) e w':=by
 obtain⟨bO,bP,bR,bS,bT⟩:=info_parts Tryz.FQ;obtain⟨M,N,P⟩:=h;have X:=Z aV;have aY:Hid (aa a d 157 #[O M N P,u1,u2,u3,u4,u5,O g b i,u7,Y]):=Z V;have bU:=V.lt;have a0:=Z aN;have a1:=Z (λ(c:ah) (f j:Nat) (k:jM c d f j ⟨M,N,P⟩ H [u1,u2,u3,u4,u5,.slice g b i,u7] S) (e:dG c S G.e)=>FM W aU c k e);have bV:=Z W;have bW:=Z aO;obtain⟨bX,Y⟩:=au (mS (H.map RT.tb) G.it);rw[<-Y];obtain⟨a2,ad⟩:=au (fg (H.map RT.tb) G.e.ex);rw[<-ad]at a1;obtain⟨a3,ai⟩:=au G.name;have bY:=Z (show bX=a2.bind λc=>.ok ⟨a3,c.1⟩ by rw[Y,ad,ai,FO]);clear Y ad W aU aV V aO aN;obtain⟨bZ,j,b0,b2,b3,⟨b4,b5,b8⟩,c2,⟨ca,cb,cd⟩,c3,ce,cg,ch,⟨ci,cj,ck⟩,c4,cl,cm,⟨cn,co,cp⟩,c5,⟨cq,cr,cs⟩,c6,⟨ct,cu,cw⟩,c7,⟨a4,a5,⟨a6,a7,a8⟩,c8,⟨a9,ba,bb⟩,c9,⟨bg,bh,bk⟩,da,bl,bm,bp,bq⟩⟩:=G;have cx:j=a3:=ai.symm;clear ai;subst cx;have cy:=Z (Kp.refl [d] a);have cz:=aZ bU;show Calls prog 122 #[ak d,.agg #[bZ,j,b0,b2,b3,O b4 b5 b8,O ca cb cd,ce,cg,ch,O ci cj ck,cl,cm,O cn co cp,O cq cr cs,O ct cu cw,a4,a5,O a6 a7 a8,O a9 ba bb,O bg bh bk,bl,bm,bp,bq]] a _;go_enter func122,ntmps122
 go_upto_region 1 with(fail)
 obtain⟨W,G,V,f,br⟩:=nb a 154 _;rw[G];clear G;have W:=qk cy f;have Y:=qb f aY;obtain⟨ad,G,cA,f,bs⟩:=nc br 95 _;rw[G];clear G;have cB:=qk W f;have cC:=qb f Y;have cD:=qb f V;go_upto_region 3 with(fail)
 obtain⟨G,V,W,f,Y⟩:=nc bs 289 _;rw[V];clear V;have Q:=qk cB f;have V:=qb f cC;have al:=qb f cD;have F:=qb f cA;have ad:G.heap.size=a.heap.size+3:=Y;have ad:ae G (ac (a.heap.size+2) 0) (.func (.func 200) #[] #[ak (a.heap.size+2),ak a.heap.size]):=aa.cell W 0;have W:=aa.lt W;have W:=A1 F;have W:=A3 F;have W:=A4 F;have W:=A5 F;have W:=A6 F;have W:=A7 F;have W:=A8 F;have W:=A9 F;have W:=Ba F;have W:=aa.lt al;have H:Hid (jM G d (a.heap.size+2) a.heap.size ⟨M,N,P⟩ H [u1,u2,u3,u4,u5,.slice g b i,u7] S):=Z
  {
   bx:=⟨_,V.out⟩,us:=a0.out,hf:=by omega,cf:=ad,hv:=W,cv:=aa.cell al.out 0,nf:=by omega,nv:=λe=>cz e.symm,
   ta:=bW.out.iX (gH.ii (h:=⟨M,N,P⟩) (u:=[u1,u2,u3,u4,u5,.slice g b i,u7]) ⟨_,aY.out⟩ a0.out) aP Q.out,ko:=aP,fa:=bM,sx:=aR,sl:=λI E=>by have:=bN I E;omega}
 have V:=Z (bV.keep Q (λI E=>by rw[aB E];exact aR));have H:=Z (a1 G _ _ H V);have cE:Hid (Calls prog 200 #[.agg #[a4,a5,O a6 a7 a8,O a9 ba bb,O bg bh bk,bl,bm,bp,bq],ak (a.heap.size+2),ak a.heap.size] G λe w'=>nN G d ⟨M,N,P⟩ [u1,u2,u3,u4,u5,.slice g b i,u7] a2 (pv G.heap.size) e w'):=H;have cF:∀G a,(callFunc 200 G).run prog a=.ok (.enter 200 G) a:=enters_of func200 am rfl;clear br bs Y;go_wp2_with fail
 refine xq Q bY cE ?aj ?av
 case aj=>
  intro m K m c k l;go_wp2;refine⟨rfl,?_⟩;rw[c.out];exact⟨rfl,Q.trans k,l⟩
 intro cG cH c cI bt cL U bv;obtain⟨db,cM⟩:=cG;obtain⟨an,rfl,bw,bz⟩:=cL;obtain⟨cN,cO⟩:=bv.out;have bA:=Z (Q.trans U);have G:=bA.size;have cP:=qo U al;have cQ:=qo U F;obtain⟨RP,F⟩:=au an;rw[<-F]at bz bt;have cR:=Z (show RP.cells=an.cells by rw[F]);clear bv cI cF U F;obtain⟨l,m,⟨n,o,p⟩,dc,⟨q,r,s⟩,dd,⟨t,v,w⟩,df,y,z,⟨A,B,C⟩,dg⟩:=an;have cS:cH=.tuple #[.agg #[l,m,O n o p,O q r s,O t v w,y,z,O A B C],cM]:=bw;clear bw;subst cS;have cT:Hid (RP.cells=[.int .i64 l,.int .i64 m,.slice n o p,.slice q r s,.slice t v w,.int .i64 y,.int .i64 z,.slice A B C]):=cR;go_upto_region 4 with(first|(refine wpList_store_row rfl 105 (.tmp 5) (.tmp 13) rfl c.heap.size #[l,m,O n o p,O q r s,O t v w,y,z,O A B C] rfl rfl 105 #[J 0,J 0,ab,ab,ab,J 0,J 0,ab] (aa.new c 105 #[J 0,J 0,ab,ab,ab,J 0,J 0,ab]) am rfl bn ?_;rw[World.setRow_alloc_new])|fail)
 have M:=Z (Kp.refl [] c);obtain⟨k,G,F,f,-⟩:=nb c 105 #[l,m,O n o p,O q r s,O t v w,y,z,O A B C];rw[G];clear G;have bB:=qk bA f;have ao:=qb f cO;have H:=qb f cP;have G:=qb f cQ;have bC:=qk M f;have f:=aa.lt F;have f:=cc ao;have M:=aa.lt ao;have ap:=ay H;have H:=aa.lt H;have ar:=aS G;have H:=aa.lt G;have az:=ay F;have aC:=aS F;have aD:=bc F;have aE:=bj F;have aF:=bo F;have aG:=bI F;have aH:=cc F;have aI:=b7 F;have cU:=Z (bD X bB (λI E=>by have:=aB E;omega));have G:=aa.lt G;have F:=aa.lt F;refine eG 12 (S:=(λw'=>ae w' (ac d 6) (O g b i)/\ae w' (aq a 0) (ak d)/\ae w' (ac (a.heap.size+1) 1) j/\ae w' (aq c 0) l/\ae w' (aq c 1) m/\ae w' (aq c 2) (O n o p)/\ae w' (aq c 3) (O q r s)/\ae w' (aq c 4) (O t v w)/\ae w' (aq c 5) y/\ae w' (aq c 6) z/\ae w' (aq c 7) (O A B C))) ⟨f,ap,ar,az,aC,aD,aE,aF,aG,aH,aI⟩ (λhS=>?_);refine dq ?_;refine tk 9 hS ?_;have cV:(λw':World=>ae w' (ac d 6) (O g b i)/\ae w' (aq a 0) (ak d)/\ae w' (ac (a.heap.size+1) 1) j/\ae w' (aq c 0) l/\ae w' (aq c 1) m/\ae w' (aq c 2) (O n o p)/\ae w' (aq c 3) (O q r s)/\ae w' (aq c 4) (O t v w)/\ae w' (aq c 5) y/\ae w' (aq c 6) z/\ae w' (aq c 7) (O A B C)) (k.drew.alloc (.cells #[j,l,m,O n o p,O q r s,O t v w,y,z,O A B C] 107)):=⟨bi f,bi ap,bi ar,bi az,bi aC,bi aD,bi aE,bi aF,bi aG,bi aH,bi aI⟩;refine aM 10 (λbE R=>?_);go_simp;refine R _ _ (λ_=>cV) ?_;refine aw ?_;have c:=Z (aK ((ag.refl k.drew).alloc (.cells #[j,l,m,O n o p,O q r s,O t v w,y,z,O A B C] 107)) (aK ((ag.refl k).drew) cU));have f:=Z (cJ k.drew #[j,l,m,O n o p,O q r s,O t v w,y,z,O A B C] 107 9 rfl);have cX:=Z (ao.drew.alloc (.cells #[j,l,m,O n o p,O q r s,O t v w,y,z,O A B C] 107));refine aM 11 (λbE R=>?_);refine de (k.drew.alloc _) (.tmp 20) (.tmp 25) 35 rfl L 107 bO _ 9 144 underlying35 bP bR bS bT rfl ax (O g b i) b (T.flatMap dy.cells) rfl c (k.heap.size+1) (some ⟨k.heap.size,0,none⟩) 1 1 ((_:aQ).toList) rfl f bn b9 af cK ?_;intro c c aJ bG bH;obtain⟨bK,bL,rfl,cY⟩:=bu aJ;have hrow:=b6 X;have c:some d≠(.slice g b i:aA).ownBlock:=λe=>by have:=hrow d e.symm;omega
 have aL:=Z (cX.grown bG c);have d:=cc aL;have c:=λc=>aa.frozen aL c;have cZ:=Z aJ;have D:=Z (fK (((Kp.refl [] k).drew).alloc _) bG);have c0:=Z (show(Value.slice bK (b+1) bL).ownBlock=(.slice g b i:aA).ownBlock\/∃c,(Value.slice bK (b+1) bL).ownBlock=some c/\k.heap.size<=c from bH.imp id (λh=>⟨_,h,by simp[eu]⟩));clear aJ bH cY;refine R _ _ (λ_=>⟨d,bF D ap,bF D.out ar,bF D.out az,bF D.out aC,bF D.out aD,bF D.out aE,bF D.out aF,bF D.out aG,bF D.out aH,bF D.out aI⟩) ?_;refine aw ?_;refine b1 ?_;refine tq 12 ?_;refine tq 13 ?_;refine tq 14 ?_;refine dF 15 (λbE R=>?_);go_simp;refine R _ _ ?_;refine aw ?_;refine bQ ?_;go_wp2_with fail
 refine bodyPost_ret (results_none rfl _ _ _) rfl ?_;rw[bt.out];have c1:pD k (Bw a.heap.size k.heap.size) ⟨j,RP⟩:=(bz.keep bC (λ_ h=>by cases h)).mono (λI E=>⟨by have:=E.1;omega,by have:=E.2;have:=bC.out.size;omega⟩);have a:dy.cells ⟨j,RP⟩=[.string j,.int .i64 l,.int .i64 m,.slice n o p,.slice q r s,.slice t v w,.int .i64 y,.int .i64 z,.slice A B C]:=by show .string j::RP.cells=_;rw[cT.out]
 exact⟨rfl,cN,iZ.FN (val:=dy.qy) (At:=pD) (λ_ _ _ _ K b=>dM.mono K b) (λ_ _ _ _ _ K b aW=>dM.keep K b aW) bB X aX E c1 (fL.jC (enc:=dy.cells) (x:=⟨j,RP⟩) (ag.refl k) aL (by rw[a];exact cZ.out) D aX rfl c0)⟩
structure gb (w:ah) (S:Nat->Prop) (t:RT):Prop where
 a:fr w t
 ia:aV S t.ha
 ik:aV S t.hk
 b:∀r∈t.ra,gZ r
theorem gb.mono (w:ah) (S S':Nat->Prop) (t:RT) (a:gb w S t) (c:∀d,S d->S' d):gb w S' t:=⟨a.a,a.ia.mono c,a.ik.mono c,a.b⟩
theorem gb.keep (w e:ah) (S:Nat->Prop) (t:RT) (l:List Nat) (c:gb w S t) (k:Kp l w e) (f:∀d∈l,¬S d):gb e S t:=
 ⟨⟨⟨c.a.1.1.kp k (λd g i j=>f d j (c.ia d g i)),λg i=>⟨qU e (c.b g i),(c.a.1.2 g i).2⟩⟩,c.a.2.1.kp k (λd e g i=>f d i (c.ik d e g)),c.a.2.2⟩,c.ia,c.ik,c.b⟩
theorem s8 (b:Int):∀a:List Int,(mc b a).Perm (b::a)
 |[]=>List.Perm.refl _
 |y::a=>by
  unfold mc;split
  ·exact List.Perm.refl _
  exact((s8 b a).cons y).trans (List.Perm.swap b y a)
theorem pE:∀l:List Int,(d9 l).Perm l
 |[]=>List.Perm.refl _
 |x::l=>(s8 x (d9 l)).trans ((pE l).cons x)
theorem xF (b:Int):∀a:List Int,a.Pairwise (·<=·)->(mc b a).Pairwise (·<=·)
 |[],_=>by simp[mc]
 |y::a,h=>by
  have c:=List.pairwise_cons.1 h;unfold mc;split
  ·rename_i e
   refine List.pairwise_cons.2 ⟨λf d=>?_,h⟩;rcases dh d with rfl|d
   ·exact e
   exact Int.le_trans e (c.1 f d)
  rename_i f
  refine List.pairwise_cons.2 ⟨λe d=>?_,xF b a c.2⟩;rcases dh ((s8 b a).mem_iff.1 d)with rfl|d
  ·omega
  exact c.1 e d
theorem s9:∀a:List Int,(d9 a).Pairwise (·<=·)
 |[]=>List.Pairwise.nil
 |x::a=>xF x _ (s9 a)
theorem xG:∀(a b:List Int),a.Perm b->a.Pairwise (·<=·)->b.Pairwise (·<=·)->a=b
 |[],b,h,_,_=>(List.nil_perm.1 h).symm
 |x::a,[],h,_,_=>by have:=h.length_eq;simp at this
 |x::a,y::b,h,h1,h2=>by
  have e:=List.pairwise_cons.1 h1;have f:=List.pairwise_cons.1 h2;have g:x=y:=by
   have c:=h.mem_iff.1 (List.mem_cons_self ..);have d:=h.mem_iff.2 (List.mem_cons_self ..);rcases dh c with c|c
   ·exact c
   rcases dh d with d|d
   ·exact d.symm
   have:=e.1 y d;have:=f.1 x c;omega
  subst g;rw[xG a b (List.Perm.cons_inv h) e.2 f.2]
theorem FT (l:List Int):(l.mergeSort λx a=>decide (x<=a))=d9 l:=by
 refine xG _ _ ((List.mergeSort_perm l _).trans (pE l).symm) ?_ (s9 l);have h:=List.pairwise_mergeSort (le:=λx a:Int=>decide (x<=a)) (λa a a a a=>by simp at*;omega) (λa a=>by simp;omega) l;exact h.imp (λh=>by simpa using h)
theorem FU {f:Type} (b:Int) (l:List At) (a:dB) (c:List dB) (e:List At->RO f):(fV b l (a::c)).bind e=
 RO.ap (bz a.name&&aY a.k 1 4) 1 b (RO.ap (decide (bt l a.name<0)) 9 b (RO.ap a.d.ok 2 b (RO.ap (decide (a.d.k=0)||decide (a.d.k=a.k)) 10 b ((fV b (l++[⟨a.name,a.k,[],a.d⟩]) c).bind e)))):=by
 rw[fV];simp only[RO.gY]
theorem xH (b:Int) (d:List At):∀(c:bk) (l a:List Int),dc b d l c=.ok a->a.length=l.length+c.length
 |[],l,a,h=>by
  rw[dc]at h;injection h with h
  rw[h];rfl
 |s::c,l,a,h=>by
  rw[dc]at h;cases h1:cC b d s with
  |bad e f=>rw[h1]at h;cases h
  |ok f=>
   rw[h1]at h;have e:RO.ap (!l.any λe=>decide (e=f)) 9 b (dc b d (l++[f]) c)=.ok a:=h;unfold RO.ap at e;split at e
   ·have:=xH b d c _ a e
    simp at this⊢;omega
   cases e
theorem Tryz.FV:(prog.info? 81).map (λa=>(a.zero,a.size,a.bytes))=some (some (.agg #[ai,ab,ab]),3,64):=am
theorem RT.FW (a:RT):a.cells.length=3:=rfl
theorem FX (C Y:Nat) (i:RI) (u1 u2 u3 u4 u5 u6 u7:aA) (G:aT) (j H:Nat) (I:List RT) (o:ah) (bg:aa o C 157 #[O G j H,u1,u2,u3,u4,u5,u6,u7,i.at_])
 (aV:aD o 5 i.qO dB.cells i.cH) (bH:∀x∈i.cH,x.bW) (aW:bV o i.iP i.names) (bJ:i.names.length<=5001) (bK:aJ i.name) (bL:o.ownsRow Y 81 3 (O G j H) j (I.flatMap RT.cells)) (dd:I.length=j) (bM:C<Y) (q:Y<=o.heap.size) (df:j<=1000):
 Calls prog 62 #[ak C,.agg i.cells.toArray] o λe w'=>jD o (ea (I.map RT.tb) i.it) (λx w'=>iZ o w' C Y 81 3 RT.cells RT.tb gb G j H I x (λdf=>#[df,u1,u2,u3,u4,u5,u6,u7,i.at_])) e w':=by
 obtain⟨dg,dh,di,dj,dk⟩:=info_parts Tryz.infoAt;obtain⟨dl,dm,dn,dp,dq⟩:=info_parts Tryz.FV;have ad:=Z aV;have aX:=Z aW;have bN:=Z bH;have bO:=Z bK;have bP:=aV.1;have bR:=aV.2.1;have bS:=aW.1.1;have bT:=aW.1.2.1;have bh:=Z bL;have ai:=Z bg;have dr:=bg.lt;obtain⟨E,bk⟩:=au (ea (I.map RT.tb) i.it);rw[<-bk];clear aV aW bH bK bL bg;obtain⟨bU,n,k,bY,bZ,⟨aZ,b0,bl⟩,m,⟨al,b2,am⟩,u,b5,b7,b8,⟨ca,cb,cd⟩,eq,ce,cf,⟨cg,ch,ci⟩,es,⟨cj,ck,cl⟩,et,⟨cm,cn,co⟩,ew,⟨cp,cq,⟨cr,cs,ct⟩,ex,⟨an,cv,cw⟩,ey,⟨cx,cy,cz⟩,ez,cA,cB,cC,cD⟩⟩:=i;have ds:m.length=b0:=bP;have dt:u.length=b2:=bS;have aV:b0<=9223372036854775807:=bR;have aV:b2<=9223372036854775807:=bT;have du:u.length<=5001:=bJ;clear bP bS bR bT bJ;subst ds dt;have aW:Hid (aD o 5 ⟨aZ,m.length,bl⟩ dB.cells m):=ad;have bg:Hid (bV o ⟨al,u.length,am⟩ u):=aX;have dv:Hid (∀x∈m,x.bW):=bN;have bm:Hid (aJ n):=bO;obtain⟨D,aV⟩:∃D:List At->RO Tb,D=λf=>RO.ap (decide (0<u.length)) 1 k ((dc k f [] u).bind λb=>.ok ⟨n,f,d9 b⟩):=⟨_,rfl⟩;have cE:=Z (λf=>congrFun aV f);have L:=Z (show E=RO.ap (decide (j<20)&&aY (m.length:Int) 1 12) 3 k ((fV k [] m).bind D) by
  have b:(I.map RT.tb).length=j:=by rw[List.length_map];exact dd
  rw[bk,aV,<-b];rfl)
 have bH:Hid (aa o C 157 #[O G j H,u1,u2,u3,u4,u5,u6,u7,k]):=ai;clear bk aV ad aX bN bO ai;have ai:=bH;have ad:=aW;have aX:=bg;clear bH aW bg;have dw:=Z (Kp.refl [] o);show Calls prog 62 #[ak C,.agg #[bU,n,k,bY,bZ,O aZ m.length bl,O al u.length am,b5,b7,b8,O ca cb cd,ce,cf,O cg ch ci,O cj ck cl,O cm cn co,cp,cq,O cr cs ct,O an cv cw,O cx cy cz,cA,cB,cC,cD]] o _;go_enter func62,ntmps62
 go_upto_region 1 with(fail)
 obtain⟨r,aV,ao,b,aW⟩:=nb o 95 _;rw[aV];clear aV;have a0:=qk dw b;have aV:=qb b ai;have dx:=Z (ad.same b);clear b;clear aW;have dy:=ay aV;have a1:=b4 aV;have aV:=aa.lt aV;have dz:=bI ao;have dA:=aa.lt ao;have M:=Z (λc=>fI (m.length:Int) 1 12 c);obtain⟨dC,aV⟩:=au (aY (m.length:Int) 1 12);rw[<-aV]at M L;have cF:=Z aV;clear aV;have a2:decide ((j:Int)<20)=decide (j<20):=by by_cases h:j<20<;>simp[h]<;>omega
 by_cases a3:j<20
 case neg=>
  have c:decide ((j:Int)<20)=false:=by rw[a2];exact decide_eq_false a3
  rw[decide_eq_false a3,Bool.false_and]at L;clear a2;go_wp2_with fail
  exact b3 a0 L a1
 have dD:decide ((j:Int)<20)=true:=by rw[a2];exact decide_eq_true a3
 rw[decide_eq_true a3,Bool.true_and]at L;clear a2;go_wp2_with fail
 refine(M r).mono ?_;rintro e w' ⟨rfl,rfl⟩;cases dC
 case false=>
  go_wp2_with fail
  exact b3 a0 L a1
 go_wp2_with fail
 refine bX a0 L a1 λcG=>?_;have aV:m.length<=12:=by have h:=cF.out.symm;unfold aY at h;simp at h;omega
 clear L M cF dD dy dz;have dE:=aS ao;have dA:=aa.lt ao;go_upto_region 3 with(fail)
 obtain⟨dG,L,dH,b,-⟩:=nb r 81 #[n,ab,ab];rw[L];clear L;have dI:=qk a0 b;have cL:=qb b ao;have L:=Z (dx.same b);clear b;clear dE a1;have dJ:=bI cL;go_upto_region 4 with(fail)
 clear dJ;go_loopg [29] (m.length+1) (λw y wr=>∃(c:Nat) (f:List RA) (g:aT) (t:Nat),y=.int .i64 c/\c<=m.length/\m.length-c<w/\f.length=c/\dG.heap.size<=wr.heap.size/\Hid (wr.ownsRow (r.heap.size+1) 111 6 (O g c t) c (f.flatMap RA.cells))/\Hid (aa wr r.heap.size 81 #[n,O g c t,ab])/\Hid (aa wr o.heap.size 95 #[bU,n,k,bY,bZ,O aZ m.length bl,O al u.length am,b5,b7,b8,O ca cb cd,ce,cf,O cg ch ci,O cj ck cl,O cm cn co,cp,cq,O cr cs ct,O an cv cw,O cx cy cz,cA,cB,cC,cD])/\Hid (∀i∈f,gZ i/\aJ i.at_.name/\aJ i.at_.dflt.s)/\Hid (Kp [] o wr)/\Hid (E=(fV k (f.map RA.at_) (m.drop c)).bind D))
 case atStart=>exact⟨0,[],none,0,rfl,by omega,by omega,rfl,by omega,Z ⟨rfl,.inl ⟨rfl,rfl⟩⟩,dH,cL,Z (λi c=>by cases c),dI,cG⟩
 obtain⟨c,f,y,z,rfl,eA,cM,cN,eB,bp,T,bq,ar,F,a4⟩:=hrel;have cO:=Z cM;have N:=Z cN;clear cM cN cG;have dK:=F.size;have dL:=Z (ad.same F.same);have dM:=Z (aX.same F.same);have br:=qo F ai;by_cases P:c<m.length
 case neg=>
  have L:¬(c:Int)<m.length:=af
  have aE:=Z (show E=RO.ap (decide (0<u.length)) 1 k ((dc k (f.map RA.at_) [] u).bind λg=>.ok ⟨n,f.map RA.at_,d9 g⟩) by rw[a4.out,List.drop_of_length_le af];exact cE.out _);clear a4 cE;have dN:=cc bq;have X:=b4 br;by_cases bA:0<u.length
  case neg=>
   have g:=Z (show E=RO.ap false 1 k _ by rw[aE.out,decide_eq_false bA]);go_wp2_with fail
   exact b3 F g X
  have bB:=Z (show E=RO.ap true 1 k _ by rw[aE.out,decide_eq_true bA]);go_wp2_with fail
  refine bX F bB X λdO=>?_;clear aE bB;have L:=lA bp N (omg N) ar;have ad:=Z (wu C ⟨n,⟨y,c,z⟩,f,aL,[]⟩ ⟨al,u.length,am⟩ u k wr (aR dr dK) X ⟨L.a,aD.none_ wr 1 _,bm⟩ dM du);have bC:Hid (Calls prog 113 #[ak C,.agg #[n,O y c z,ab],O al u.length am] wr λe w'=>RP [] wr (dc k (f.map RA.at_) [] u) (d3 wr.heap.size 1 cu (λ_=>True)) e w'):=ad;clear ad L;have dP:=ay T;have dQ:=aS T;have dS:=bc T;have L:=aa.lt T;have dT:=Z (Kp.refl [] wr);go_wp2_with fail
  refine dR dO bC (fb F) ?av;intro a aG A bE dU dV Q;obtain⟨⟨an,cQ,U⟩,cS,aI,_,eC,eD⟩:=dV;have dW:aG=.slice an cQ U:=cS;clear cS;subst dW;have u:a.length=u.length:=by have:=xH _ _ _ _ _ bE;simpa using this
  have dX:0<a.length:=af
  clear u;have dY:a.length=cQ:=aI.1;subst dY;have aN:=Z aI;clear aI bE;have cT:=Z (F.trans Q);have dZ:=qo Q br;have d0:=qo Q bq;have d1:=qo Q T;have d2:=Z (aK (Q.same) bp);have d4:=Z (dT.trans Q);have u:=cT.size;clear Q;clear bC;obtain⟨R,S,a5,d5,_⟩:=aN.2.2 0 dX;have d6:an=some ⟨R,S,none⟩:=a5;have cU:∀B (az:B<a.length),ae A (ac R (S+B)) (J a[B]):=λB az=>by
   obtain⟨u,L,t,_,w⟩:=aD.one aN B az (v:=.int .i64 a[B]) rfl;have g:=a5.symm.trans t;injection g with g
   injection g with e1 e2
   rw[e1,e2];exact w
  subst d6;clear a5 aN;have u:=Z (DC ⟨some ⟨R,S,none⟩,a.length,U⟩ A);have cV:Hid (Calls prog 112 #[O (some ⟨R,S,none⟩) a.length U] A λe w'=>e=.returned (.func (.func 186) #[] #[ak A.heap.size])/\w'=A.alloc (.cells #[O (some ⟨R,S,none⟩) a.length U] 60)):=u;clear u;have cW:=Z (DB A.heap.size R S U a af (A.alloc (.cells #[O (some ⟨R,S,none⟩) a.length U] 60)) aF aj aj (λB az=>(World.cell?_alloc_lt _ _ _ d5).trans (cU B az)));clear cU;go_wp2_with fail
  refine cV.mono ?_;rintro e w' ⟨rfl,rfl⟩;go_wp2_with fail
  refine cW.mono ?_;rintro e a6 ⟨aG,rfl,cY,cZ⟩;have b:=Z (((ag.refl A).alloc _).trans cZ);have c0:Hid (a6.ownsRow A.heap.size 3 1 aG a.length ((d9 a).map encZ)):=Z (by rw[<-FT];exact xm cY (by simp));clear cZ cY cV cW;have d7:=qk cT b;have d8:=qb b dZ;have eb:=qb b d0;have a7:=qb b d1;have ec:=Z (aK b d2);obtain⟨t,w,ed,_⟩:=bu c0;subst ed;clear b dP dQ dS dN X;have ee:=bc a7;have ef:=λc=>aa.frozen a7 c;go_upto_region 14 with(fail)
  have B:=Z (r5 a7 (O t a.length w));have u:=Z (Kp.aH (p:=(aq r 2)) (l:=[r.heap.size]) aj (Kp.refl [r.heap.size] a6) (O t a.length w));obtain⟨g,A⟩:=au (a6.setCell (aq r 2) (O t a.length w));rw[<-A]at B u⊢;clear A;have a8:=Z (u.old d7 (λA q P=>absurd P (by rw[aB q];omega)));have a9:=qo u d8;have A:=qo u eb;have A:=a8.size;have L:=u;have A:=B;clear B u;have c1:=Z (bD ec L (λu q=>by have:=aB q;omega));have eg:=Z (bD c0 L (λu q=>by have:=aB q;have:=d4.out.size;omega));clear ee ef;have u:=ay a9;have ba:=ay A;have bs:=aS A;have bv:=bc A;have B:=aa.lt A;have eh:=Z (aK a8.same bh);have A:=aa.lt A;have A:=aa.lt a9;refine lm 10 u ba bs bv λhS=>?_;refine cR ?_;refine jH ?_;refine tk 7 hS ?_;have ei:(λw':World=>ae w' (ac C 0) (O G j H)/\ae w' (aq r 0) n/\ae w' (aq r 1) (O y c z)/\ae w' (aq r 2) (O t a.length w)) (g.drew.alloc (.cells #[n,O y c z,O t a.length w] 81)):=⟨bi u,bi ba,bi bs,bi bv⟩;refine aM 8 (λK W=>?_);go_simp;refine W _ _ (λ_=>ei) ?_;refine aw ?_;have c2:=Z (aK ((ag.refl g.drew).alloc (.cells #[n,O y c z,O t a.length w] 81)) (aK ((ag.refl g).drew) eh));have c3:=Z (cJ g.drew #[n,O y c z,O t a.length w] 81 3 rfl);have c4:=Z (a9.drew.alloc (.cells #[n,O y c z,O t a.length w] 81));refine aM 9 (λK W=>?_);refine de (g.drew.alloc _) (.tmp 102) (.tmp 104) 27 rfl Y 81 dl _ 3 64 underlying27 dm dn dp dq rfl ax (O G j H) j (I.flatMap RT.cells) rfl c2 (g.heap.size+1) (some ⟨g.heap.size,0,none⟩) 1 1 ((_:aQ).toList) rfl c3 bn b9 af cK ?_;intro u u bw c5 c6;obtain⟨c7,c8,rfl,ej⟩:=bu bw;have hrow:=b6 bh;have u:some C≠(.slice G j H:aA).ownBlock:=λe=>by have:=hrow C e.symm;omega
  have bx:=Z (c4.grown c5 u);have A:=ay bx;have u:=λc=>aa.frozen bx c;have ek:=Z bw;have aC:=Z (fK (((Kp.refl [] g).drew).alloc _) c5);have el:=Z (show(Value.slice c7 (j+1) c8).ownBlock=(.slice G j H:aA).ownBlock\/∃u,(Value.slice c7 (j+1) c8).ownBlock=some u/\g.heap.size<=u from c6.imp id (λh=>⟨_,h,by simp[eu]⟩));clear bw c6 ej c2 c3 c4;refine W _ _ (λ_=>⟨A,bF aC ba,bF aC.out bs,bF aC.out bv⟩) ?_;refine aw ?_;refine b1 ?_;refine tq 10 ?_;refine tq 11 ?_;refine tq 12 ?_;refine tq 13 ?_;refine dF 14 (λK W=>?_);go_simp;refine W _ _ ?_;refine aw ?_;refine bQ ?_;go_wp2_with fail
  refine bodyPost_ret (results_none rfl _ _ _) rfl ?_;rw[dU.out];have em:=(pE a).length_eq;have en:=lA c1 N (omg N) ar;have eo:(d9 a).map encZ=(d9 a).flatMap cu:=by
   induction d9 a with
   |nil=>rfl
   |cons x eE ep=>rw[List.map_cons,ep];rfl
  have j:=eg.out;rw[eo]at j;have u:cX g ⟨t,a.length,w⟩ (d9 a):=cI (h:=⟨t,a.length,w⟩) cu.len em (by show a.length<=_;omega) j;have o:gb g (Bw o.heap.size g.heap.size) ⟨n,⟨y,c,z⟩,f,⟨t,a.length,w⟩,d9 a⟩:=
   ⟨⟨en.a,u,bm.out⟩,(kH c1.out).mono (λu q=>⟨by have:=q.1;omega,q.2⟩),(kH j).mono (λj q=>⟨by have:=q.1;omega,q.2⟩),λi j=>(ar.out i j).1⟩
  exact⟨rfl,iZ.of (val:=RT.tb) (At:=gb) gb.mono gb.keep a8 bh bM q o (fL.jC (enc:=RT.cells) (x:=⟨n,⟨y,c,z⟩,f,⟨t,a.length,w⟩,d9 a⟩) (ag.refl g) bx ek aC bM rfl el)⟩
 have j:(c:Int)<m.length:=af
 have j:(0:Int)<=c:=af
 obtain⟨S,of,o,j,Q⟩:=dL.2.2 c P;have c3:aZ=some ⟨S,of,none⟩:=o;have a5:=Z (dv _ (List.getElem_mem P));obtain⟨c4,j⟩:=au (m[c]);rw[<-j]at Q a5;have cQ:=Z (show E=_ by rw[a4.out,List.drop_eq_getElem_cons P,FU,<-j]);clear j o a4;obtain⟨w,t,⟨g,A,B⟩⟩:=c4;have az:Hid (E=RO.ap (bz w&&aY t 1 4) 1 k (RO.ap (decide (bt (f.map RA.at_) w<0)) 9 k (RO.ap (V.ok ⟨g,A,B⟩) 2 k (RO.ap (decide (g=0)||decide (g=t)) 10 k ((fV k (f.map RA.at_++[⟨w,t,[],⟨g,A,B⟩⟩]) (m.drop (c+1))).bind D))))):=cQ;clear cQ;have c5:ae wr (ac S (of+c*5)) w:=by simpa using Q 0 _ rfl
 have cS:ae wr (ac S (of+c*5+1)) t:=Q 1 _ rfl;have c6:ae wr (ac S (of+c*5+2)) g:=Q 2 _ rfl;have c7:ae wr (ac S (of+c*5+3)) A:=Q 3 _ rfl;have c8:ae wr (ac S (of+c*5+4)) B:=Q 4 _ rfl;have j:IntKind.i64.wrap ((c:Int)+1)=(c:Int)+1:=IntWalk.i64_in _ af;clear Q;subst c3;go_upto_region 6 with(fail)
 clear c5 cS c6 c7 c8;obtain⟨U,j,bs,b,-⟩:=nb wr 208 #[w,t,g,A,B];rw[j];clear j;have aC:=qk F b;have cT:=qb b br;have dN:=qb b bq;have a6:=qb b T;have cU:=Z (aK b bp);have j:=aC.size;clear b;have dO:=ay bs;have dP:=aS bs;have bv:=b4 cT;have a7:=Z (qD w U a5.name);have M:=Z (fI t 1 4 U);obtain⟨dQ,j⟩:=au (bz w);obtain⟨cV,o⟩:=au (aY t 1 4);rw[<-j]at a7 az;rw[<-o]at M az;clear j o;cases dQ
 case false=>
  go_wp2_with fail
  refine a7.mono ?_;rintro e w' ⟨rfl,rfl⟩;go_wp2_with fail
  exact b3 aC az bv
 have bw:=Z (show E=RO.ap cV 1 k _ from az);clear az;go_wp2_with fail
 refine a7.mono ?_;rintro e w' ⟨rfl,rfl⟩;go_wp2_with fail
 refine M.mono ?_;rintro e w' ⟨rfl,rfl⟩;cases cV
 case false=>
  go_wp2_with fail
  exact b3 aC bw bv
 go_wp2_with fail
 refine bX aC bw bv λaE=>?_;have dS:=ay a6;have dT:=aS a6;have dU:=bc a6;clear bw a7 M;have j:=lA cU N (omg N) ar;have o:=Z (qB ⟨n,⟨y,c,z⟩,f,aL,[]⟩ w U ⟨j.a,aD.none_ U 1 _,bm⟩);clear j;have bx:Hid (Calls prog 55 #[.agg #[n,O y c z,ab],w] U λe w'=>e=.returned (J (bt (f.map RA.at_) w))/\ag U w'):=o;obtain⟨dV,j⟩:=au (bt (f.map RA.at_) w);rw[<-j]at bx aE;clear o j;go_wp2_with fail
 refine(bx).mono ?_;rintro e bA ⟨rfl,b⟩;have bB:=qk aC b;have cW:=qb b cT;have dW:=qb b dN;have dX:=qb b a6;have a8:=qb b bs;have dY:=Z (aK b cU);clear b;clear bx dS dT dU;have cY:=b4 cW;obtain⟨tq,j⟩:=au (decide (dV<0));have dZ:=j.symm;rw[<-j]at aE;clear j;cases tq
 case false=>
  go_wp2_with fail
  exact b3 bB aE cY
 go_wp2_with fail
 refine bX bB aE cY λa9=>?_;clear aE dZ dO dP;have d0:=bc a8;have d1:=bj a8;have d2:=bo a8;have j:=Z (p9 ⟨g,A,B⟩ bA);have bC:Hid (Calls prog 42 #[.agg #[g,A,B]] bA λe w'=>e=.returned (.bool (V.ok ⟨g,A,B⟩))/\ag bA w'):=j;obtain⟨d4,n⟩:=au (V.ok ⟨g,A,B⟩);rw[<-n]at bC a9;clear n j;go_wp2_with fail
 refine(bC).mono ?_;rintro e aG ⟨rfl,b⟩;have R:=qk bB b;have j:=qb b cW;have d5:=qb b dW;have bE:=qb b dX;have W:=qb b a8;have cZ:=Z (aK b dY);have n:=R.size;clear b;clear bC d0 d1 d2;have aI:=b4 j;cases d4
 case false=>
  go_wp2_with fail
  exact b3 R a9 aI
 go_wp2_with fail
 refine bX R a9 aI λba=>?_;clear a9;have b:=ay W;have b:=aS W;have b:=bc W;have b:=bj W;have b:=bo W;have b:=aa.lt W;by_cases X:g=0
 case' pos=>
  have c0:(g==0)=true:=by simp[X]
  have aN:=Z (show E=RO.ap true 10 k _ by rw[ba.out,decide_eq_true X,Bool.true_or]);clear ba X;go_wp2_with fail
  refine bX R aN aI λbG=>?_;clear aN c0
 case' neg=>
  have c1:(g==0)=false:=by simp[X]
  have c0:(g==t)=decide (g=t):=by by_cases h:g=t<;>simp[h]
  have aN:=Z (show E=RO.ap (g==t) 10 k _ by rw[ba.out,decide_eq_false X,Bool.false_or,c0]);generalize c2:(g==t)=d6 at aN;clear ba X c0;cases d6
  case false=>
   go_wp2_with fail
   exact b3 R aN aI
  go_wp2_with fail
  refine bX R aN aI λbG=>?_;clear aN c1 c2
 all_goals
  have b:=aS bE;have b:=aa.lt bE;have c0:=Z (aK ((ag.refl aG).alloc (.cells #[w,t,ab,g,A,B] 111)) cZ);have c1:=Z (cJ aG #[w,t,ab,g,A,B] 111 6 rfl);have hrow:=b6 cZ;go_upto_region 11 with(first|(at_builtin;refine ev _ rfl (.tmp 70) (.tmp 78) 79 rfl (r.heap.size+1) 111 dg _ 6 80 underlying79 dh di dj dk rfl ax (O y c z) c (f.flatMap RA.cells) rfl c0.out (aG.heap.size+1) (some ⟨aG.heap.size,0,none⟩) 1 1 (#[w,t,ab,g,A,B]:Array Value).toList rfl c1.out bn b9 af aF ?_;intro cS aO aN c2 d6;obtain⟨aP,aU,rfl,d7⟩:=bu aN;have c9:=Z aN;have D:=Z c2;clear aN c2 d6 d7;have bb:=Z (aa.grown (bE.out.alloc (.cells #[w,t,ab,g,A,B] 111)) D.out (λe=>by have:=(hrow _ e.symm).1;omega));have da:ae aO (aq r 1) (O y c z):=aa.cell bb.out 1;have db:=λc=>aa.frozen bb.out c)|fail)
  have n:=Z (aa.grown (d5.alloc _) D (λe=>by have:=(hrow _ e.symm).1;omega));have o:=Z ((R.alloc _).grown D (λb j=>.inr (by have:=hrow b j;omega)));have b:aG.heap.size<=aO.heap.size:=by have:=D.out.size;simp at this;omega
  clear c0 c1 D hrow da db;have j:=Z (uX bb (O aP (c+1) aU));have b:=Z (Kp.aH (p:=(aq r 1)) (l:=[r.heap.size]) aj (Kp.refl [r.heap.size] aO) (O aP (c+1) aU));obtain⟨r,k⟩:=au (aO.setCell (aq r 1) (O aP (c+1) aU));rw[<-k]at j b⊢;clear k;have d6:=Z (b.old o (λk q P=>absurd P (by rw[aB q];omega)));have d7:=qo b n;have c2:=b;have d8:=j;clear j b;go_wp2_with fail
  go_roundg (m.length-c)
  case measure=>have:=cO.out;omega
  refine⟨c+1,f++[(⟨⟨w,t,[],⟨g,A,B⟩⟩,aL⟩:RA)],aP,aU,by go_num,by omega,omg cO,by rw[List.length_append,N.out];rfl,by have:=c2.out.size;omega,Z (bD (by rw[List.flatMap_append];exact c9.out) c2.out (λb q=>by have:=aB q;omega)),d8,d7,Z ?_,d6,Z (by rw[List.map_append];exact bG.out)⟩;intro i aN;rcases cP aN with aN|aN
  ·exact ar i aN
  rw[aB aN];exact⟨⟨rfl,rfl⟩,a5.name,a5.d.s1⟩
structure eI where
 t:TypeId
 m:Nat
 h:Hd
 cs:List Value
 N:World->(Nat->Prop)->Prop
def eI.own (a:eI):Option Nat:=a.h.val.ownBlock
def tc (a b:bg) (c:List eI) (d:Nat) (e:Int):List Value:=a++(c.map (λa:eI=>a.h.val)++(b++[Value.map (some d),Value.int .i64 e]))
structure eI.bW (r:eI):Prop where
 mono:∀(w:ah) (S S':Nat->Prop),r.N w S->(∀b,S b->S' b)->r.N w S'
 keep:∀(w w':ah) (S:Nat->Prop) (l:List Nat),r.N w S->Kp l w w'->(∀b∈l,¬S b)->r.N w' S
def td (b:Nat->Prop) (c:List eI) (d:List (Int×Nat)) (a:Nat):Prop:=b a/\(∀b∈d,b.2≠a)/\∀b∈c,b.own≠some a
structure cS (w:ah) (X M base:Nat) (B:Nat->Prop) (pre post:bg) (rs:List eI) (nm:Bool) (l:List (Int×Nat)) (u:ch) (a:Int):Prop where
 bx:aa w X 157 (tc pre post rs M a).toArray
 hX:X<base
 hM:M<X
 hb:base<=w.heap.size
 lt:∀b,B b->base<=b/\b<w.heap.size
 na:nm=true->ed w M l u
 nin:∀p∈l,B p.2
 g4:∀p∈l,∀r∈rs,r.own≠some p.2
 own:∀r∈rs,w.ownsRow base r.t r.m r.h.val r.h.n r.cs
 fk:∀r∈rs,∀b,r.own=some b->B b
 one:∀(i j:Nat) (r s:eI) (b:Nat),rs[i]?=some r->rs[j]?=some s->r.own=some b->s.own=some b->i=j
 fine:∀r∈rs,r.bW
 nest:∀r∈rs,r.N w (td B rs l)
theorem mT {c d e:Nat} {a:aX} {v:aA} {xs:bg} {f i:ah} (j:f.ownsRow c a d v e xs) {k:List Nat} (m:Kp k f i) (n:∀f,v.ownBlock=some f->f∉k):i.ownsRow c a d v e xs:=by
 refine⟨j.1,?_⟩;rcases j.2 with h|⟨b,o,p,l,q,r,s⟩
 ·exact .inl h
 exact .inr ⟨b,o,p,l,q,m.blk (g:=b) (t:=a) r (n b (by rw[l];rfl)),s⟩
theorem cS.kp {w f:ah} {X b g:Nat} {e:Nat->Prop} {i j:bg} {m:List eI} {n:Bool} {l:List (Int×Nat)} {u:ch} {o:Int} (h:cS w X b g e i j m n l u o) {k:List Nat} (c:Kp k w f) (d:∀a∈k,a≠X/\a≠b/\¬e a):cS f X b g e i j m n l u o:=
 {
  bx:=c.blk h.bx (λb=>(d _ b).1 rfl),hX:=h.hX,hM:=h.hM,hb:=bL h.hb c.size
  lt:=λa b=>⟨(h.lt a b).1,aR (h.lt a b).2 c.size⟩
  na:=λe=>(h.na e).kp c (λa b=>⟨(d a b).2.1,λe f g=>(d a b).2.2 (g▸h.nin e f)⟩)
  nin:=h.nin,g4:=h.g4
  own:=λe f=>mT (h.own e f) c (λa b g=>(d a g).2.2 (h.fk e f a b))
  fk:=h.fk,one:=h.one,fine:=h.fine
  nest:=λe f=>(h.fine e f).keep _ _ _ _ (h.nest e f) c (λa b c=>(d a b).2.2 c.1)}
theorem cS.at_ {w b:ah} {c d base:Nat} {B:Nat->Prop} {e f:bg} {rs:List eI} {g:Bool} {l:List (Int×Nat)} {u:ch} {a i:Int} (h:cS w c d base B e f rs g l u a) (s:Kp [c] w b) (j:aa b c 157 (tc e f rs d i).toArray):cS b c d base B e f rs g l u i:=by
 have f:¬B c:=λb=>by have:=(h.lt c b).1;have:=h.hX;omega
 have d:d≠c:=aZ h.hM;exact
 {
  bx:=j,hX:=h.hX,hM:=h.hM,hb:=bL h.hb s.size
  lt:=λc b=>⟨(h.lt c b).1,aR (h.lt c b).2 s.size⟩
  na:=λe=>(h.na e).kp s (λc b=>by
   rw[aB b];exact⟨d.symm,λd e g=>f (g▸h.nin d e)⟩)
  nin:=h.nin,g4:=h.g4
  own:=λd e=>mT (h.own d e) s (λc b g=>f (aB g▸h.fk d e c b))
  fk:=h.fk,one:=h.one,fine:=h.fine
  nest:=λd e=>(h.fine d e).keep _ _ _ _ (h.nest d e) s (λc b c=>f (aB b▸c.1))}
theorem cS.names {w j:ah} {m g base:Nat} {B:Nat->Prop} {q r:bg} {rs:List eI} {s:Bool} {l i:List (Int×Nat)} {y t:ch} {u:Int} (h:cS w m g base B q r rs s l y u) (k:Kp (dE g l) w j) (o:ed j g i t) (A:∀b∈dE g i,b∈dE g l\/w.heap.size<=b):
 cS j m g base (λb=>B b\/Bw w.heap.size j.heap.size b) q r rs s i t u:=by
 have v:¬B g:=λhb=>by have:=(h.lt g hb).1;have:=h.hX;have:=h.hM;omega
 have C:¬B m:=λhb=>by have:=(h.lt m hb).1;have:=h.hX;omega
 have p:∀a∈i,(a.2∈l.map (·.2))\/w.heap.size<=a.2:=λa f=>by
  have e:a.2∈dE g i:=List.mem_cons_of_mem _ (List.mem_map.2 ⟨a,f,rfl⟩);rcases A _ e with c|c
  ·rcases dh c with d|d
   ·exact absurd d (o.out a f)
   exact .inl d
  exact .inr c
 have D:∀a∈i,a.2<j.heap.size:=λa f=>o.lt _ (List.mem_cons_of_mem _ (List.mem_map.2 ⟨a,f,rfl⟩));have E:∀a∈i,∀d∈rs,d.own≠some a.2:=λa f d e c=>by
  rcases p a f with n|n
  ·obtain⟨g,i,j⟩:=List.mem_map.1 n
   exact h.g4 g i d e (by rw[j];exact c)
  have:=(h.lt _ (h.fk d e _ c)).2;omega
 exact
 {bx:=k.blk h.bx (λn=>by
  rcases dh n with c|c
  ·have:=h.hM;omega
  ·obtain⟨g,i,j⟩:=List.mem_map.1 c
   exact C (j▸h.nin g i))
  hX:=h.hX,hM:=h.hM,hb:=bL h.hb k.size
  lt:=λb hb=>by
   have z:=k.size;have hbb:=h.hb;exact xI
  na:=λ_=>o
  nin:=λa f=>by
   rcases p a f with n|n
   ·obtain⟨g,i,j⟩:=List.mem_map.1 n
    exact .inl (j▸h.nin g i)
   exact .inr ⟨n,D a f⟩
  g4:=E
  own:=λd e=>mT (h.own d e) k (λb hb n=>by
   rcases dh n with c|c
   ·exact v (c▸h.fk d e b hb)
   obtain⟨g,i,j⟩:=List.mem_map.1 c;exact h.g4 g i d e (by rw[j];exact hb))
  fk:=λd e b hb=>.inl (h.fk d e b hb)
  one:=h.one,fine:=h.fine
  nest:=λd e=>(h.fine d e).mono _ _ _ ((h.fine d e).keep _ _ _ _ (h.nest d e) k (λb hb n=>by
   rcases dh hb with c|c
   ·exact v (c▸n.1)
   obtain⟨d,e,g⟩:=List.mem_map.1 c;exact n.2.1 d e g)) (λb n=>⟨.inl n.1,λa f c=>by
    rcases p a f with x|x
    ·obtain⟨a,d,e⟩:=List.mem_map.1 x
     exact n.2.1 a d (e.trans c)
    have:=(h.lt b n.1).2;omega,n.2.2⟩)}
theorem q4 {e:Type} {f:List e} {b a:Nat} {g c:e} (h:(f.set b g)[a]?=some c):(a=b/\c=g)\/(a≠b/\f[a]?=some c):=by
 by_cases d:b=a
 ·subst d
  rw[List.getElem?_set]at h;simp at h;exact .inl ⟨rfl,h.2.symm⟩
 rw[List.getElem?_set_ne d]at h;exact .inr ⟨λa=>d a.symm,h⟩
theorem mU {c:Type} {d:List c} {e:Nat} {f b:c} (h:b∈d.set e f):b=f\/∃a,a≠e/\d[a]?=some b:=by
 obtain⟨a,g⟩:=List.mem_iff_getElem?.1 h;rcases q4 g with⟨_,h⟩|⟨i,j⟩
 ·exact .inl h
 exact .inr ⟨a,i,j⟩
theorem cS.push {w j:ah} {p y A:Nat} {x:Nat->Prop} {E F:bg} {o:List eI} {K:Bool} {l:List (Int×Nat)} {L:ch} {V a':Int} (h:cS w p y A x E F o K l L V) {i:Nat} {r r':eI} (G:o[i]?=some r) (B:Kp (p::r.own.toList) w j)
 (W:aa j p 157 (tc E F (o.set i r') y a').toArray) (M:j.ownsRow A r'.t r'.m r'.h.val r'.h.n r'.cs) (X:r'.own=r.own\/∃H,r'.own=some H/\w.heap.size<=H) (Y:r'.bW)
 (Z:∀S:Nat->Prop,r.N j S->(∀b,Bw w.heap.size j.heap.size b/\some b≠r'.own->S b)->r'.N j S):
 cS j p y A (λb=>x b\/Bw w.heap.size j.heap.size b) E F (o.set i r') K l L a':=by
 have q:r∈o:=List.mem_of_getElem? G;have O:¬x p:=λhb=>by have:=(h.lt p hb).1;have:=h.hX;omega
 have ab:¬x y:=λhb=>by have:=(h.lt y hb).1;have:=h.hX;have:=h.hM;omega
 have z:=B.size;have hbb:=h.hb;have ac:∀b,r'.own=some b->A<=b/\b<j.heap.size:=λb hb=>b6 M b hb;have C:∀b,r'.own=some b->r.own=some b\/w.heap.size<=b:=λb hb=>by
  rcases X with a|⟨H,a,c⟩
  ·exact .inl (a▸hb)
  rw[a]at hb;injection hb with hb
  exact .inr (hb▸c)
 have P:∀b,x b->r.own≠some b->b∉p::r.own.toList:=λb hb ad D=>by
  rcases dh D with a|a
  ·exact O (a▸hb)
  exact ad (jI (v:=r.h.val) a)
 have Q:∀e d,e≠i->o[e]?=some d->∀b,d.own=some b->r'.own≠some b:=λe d I a b hb c=>by
  rcases C b c with f|f
  ·exact I (h.one e i d r b a G hb f)
  have:=(h.lt b (h.fk d (List.mem_of_getElem? a) b hb)).2;omega
 have R:∀d∈o,d.N j (td (λb=>x b\/Bw w.heap.size j.heap.size b) (o.set i r') l):=λd k=>
  (
   h.fine d k).mono _ _ _ ((h.fine d k).keep _ _ _ _ (h.nest d k) B (λb hb f=>P b f.1 (f.2.2 r q) hb)) (λb f=>⟨.inl f.1,f.2.1,λs u c=>by
   rcases mU u with rfl|⟨e,_,a⟩
   ·rcases C b c with g|g
    ·exact f.2.2 r q g
    have:=(h.lt b f.1).2;omega
   exact f.2.2 s (List.mem_of_getElem? a) c⟩)
 exact
 {
  bx:=W,hX:=h.hX,hM:=h.hM,hb:=bL h.hb z
  lt:=λb hb=>by
   exact xI
  na:=λj=>(h.na j).kp B (λb hb=>by
   rcases dh hb with c|c
   ·have:=h.hM
    exact⟨by omega,λf g j=>O (c▸j▸h.nin f g)⟩
   have g:=jI (v:=r.h.val) c;exact⟨λf=>ab (f▸h.fk r q b g),λj o f=>h.g4 j o r q (by rw[f];exact g)⟩)
  nin:=λs u=>.inl (h.nin s u)
  g4:=λs u f g c=>by
   rcases mU g with rfl|⟨e,_,a⟩
   ·rcases C _ c with J|J
    ·exact h.g4 s u r q J
    have:=(h.lt _ (h.nin s u)).2;omega
   exact h.g4 s u f (List.mem_of_getElem? a) c
  own:=λf g=>by
   rcases mU g with rfl|⟨e,I,a⟩
   ·exact M
   have D:=List.mem_of_getElem? a;exact mT (h.own f D) B (λb hb=>P b (h.fk f D b hb) (λc=>I (h.one e i f r b a G hb c)))
  fk:=λf g b hb=>by
   rcases mU g with rfl|⟨e,_,a⟩
   ·rcases C b hb with J|J
    ·exact .inl (h.fk r q b J)
    exact .inr ⟨J,(ac b hb).2⟩
   exact .inl (h.fk f (List.mem_of_getElem? a) b hb)
  one:=λe J f d b a T g k=>by
   rcases q4 a with⟨ae,af⟩|⟨ag,U⟩
   ·rcases q4 T with⟨ai,al⟩|⟨aj,ak⟩
    ·rw[ae,ai]
    exact absurd (af▸g) (Q J d aj ak b k)
   rcases q4 T with⟨ak,ai⟩|⟨al,aj⟩
   ·exact absurd (ai▸k) (Q e f ag U b g)
   exact h.one e J f d b U aj g k
  fine:=λf g=>by
   rcases mU g with rfl|⟨e,_,a⟩
   ·exact Y
   exact h.fine f (List.mem_of_getElem? a)
  nest:=λf g=>by
   rcases mU g with rfl|⟨e,_,a⟩
   ·refine Z _ (R r q) (λb hb=>⟨.inr hb.1,λs u c=>?_,λd k c=>?_⟩)
    ·have:=(h.lt _ (h.nin s u)).2
     have:=hb.1.1;omega
    rcases mU k with rfl|⟨e,_,a⟩
    ·exact hb.2 c.symm
    have:=(h.lt b (h.fk d (List.mem_of_getElem? a) b c)).2;have:=hb.1.1;omega
   exact R f (List.mem_of_getElem? a)}
def mV (h:Hd) (a:List RT):eI:=⟨81,3,h,a.flatMap RT.cells,λb c=>∀d∈a,gb b c d⟩
theorem xJ (h:Hd) (a:List RT):(mV h a).bW:=
 ⟨λb c f d g a e=>gb.mono b c f a (d a e) g,λb f c g d i j a e=>gb.keep b f c a g (d a e) i j⟩
def q5:List Value:=[.slice none 0 0,.slice none 0 0,.slice none 0 0,.slice none 0 0,.slice none 0 0,.slice none 0 0]
def gc (b:List Tb) (d:ch) (c:aE):List Tb×(Int×Int):=
 if(dm d c).2≠0 then(b,((dm d c).2,c.at_))
 else if c.kind=1 then
  match ea b c with
  |.ok t=>(b++[t],(0,0))
  |.bad e a=>(b,(e,a))
 else(b,(0,0))
def lK (b:ah) (c d e:Nat) (f:Nat->Prop) (a:List RT) (g:ch) (i:Int):Prop:=
 ∃h j,h.n=a.length/\cS b c d e f [] q5 [mV h a] true j g i
theorem cS.table {w d:ah} {e g j:Nat} {m:Nat->Prop} {f:aT} {n c:Nat} {a:List RT} {l:List (Int×Nat)} {o:ch} {k:Int} {x:Tb} (h:cS w e g j m [] q5 [mV ⟨f,n,c⟩ a] true l o k) (u:a.length=n)
 (p:iZ w d e j 81 3 RT.cells RT.tb gb f n c a x (λv=>#[v,ab,ab,ab,ab,ab,ab,.map (some g),k])):
 Kp (e::(Value.slice f n c).ownBlock.toList) w d/\∃r,r.tb=x/\lK d e g j (λe=>m e\/Bw w.heap.size d.heap.size e) (a++[r]) o k:=by
 obtain⟨r,q,s,y,z,A,t,B,C⟩:=p;refine⟨t,r,y,⟨q,n+1,s⟩,l,by simp[u],?_⟩;refine h.push (i:=0) (r:=mV ⟨f,n,c⟩ a) (r':=mV ⟨q,n+1,s⟩ (a++[r])) rfl t z A B (xJ _ _) ?_;intro a D E F b;rcases cP b with b|b
 ·exact D F b
 rw[aB b];exact gb.mono _ _ _ _ C E
theorem FY (i e E q o:Nat) (c:RI) (t F:Nat->Prop) (k:aT) (g m:Nat) (f:List RT) (l:List (Int×Nat)) (p:ch) (j:ah) (n:cS j i e E t [] q5 [mV ⟨k,g,m⟩ f] true l p c.at_) (S:f.length=g) (al:g<=1000)
 (G:aa j q 154 #[ak i]) (T:aa j o 95 c.cells.toArray) (U:q≠i/\q≠e/\¬t q) (V:o≠i/\o≠e/\¬t o) (H:cz j F c) (am:∀b,F b->b<e) (an:c.names.length<=5001):
 Calls prog 60 #[ak q,ak o] j λd I=>
  Kp (i::(dE e l++(Value.slice k g m).ownBlock.toList)) j I/\∃W pr,gc (f.map RT.tb) p c.it=(W.map RT.tb,pr)/\(∃X,lK I i e E X W (dm p c.it).1 c.at_/\∀b,X b->t b\/Bw j.heap.size I.heap.size b)/\
   ((d=.returned (.tuple #[])/\pr=(0,0))\/d=.panicked [{v:=fC pr.1 pr.2,recovered:=false}]):=by
 have ao:=Z n;have u:=Z S;have ap:=Z H;have J:=Z (Dj i e c (O k g m) ab ab ab ab ab ab c.at_ l p j n.bx (n.na rfl) H.ok.2.1);obtain⟨Y,I⟩:=au (dm p c.it);rw[<-I]at J⊢;have K:=Z I;clear I;have I:=Nat.lt_trans n.hM n.hX;have aq:=λb a=>(n.lt b a).1;have L:∀b∈dE e l,b=e\/t b:=λb a=>by
  rcases dh a with d|d
  ·exact .inl d
  obtain⟨r,s,t⟩:=List.mem_map.1 d;exact .inr (t▸n.nin r s)
 have ar:=n.hX;have t:=n.hb;have av:=Z G;have ac:=Z T;have aw:q∉dE e l:=λM=>by
  rcases L q M with d|d
  ·exact U.2.1 d
  exact U.2.2 d
 have ax:o∉dE e l:=λM=>by
  rcases L o M with d|d
  ·exact V.2.1 d
  exact V.2.2 d
 have az:∀b∈dE e l,¬F b:=λb a q=>by
  have:=am b q;rcases L b a with d|d
  ·omega
  have:=aq b d;omega
 have aA:=ay G;have ad:(some 25:Option Nat)=some c.cells.toArray.size:=by simp[RI.len]
 clear G T n H S;go_enter func60,ntmps60
 go_wp2_with (first|(refine gX rfl 95 (.tmp 1) rfl o c.cells.toArray rfl 95 ac.out _ underlying95 rfl ad ?_)|fail)
 refine J.mono ?_;rintro d N ⟨n,⟨P,q,t⟩,aB⟩;have r:=Z (ao.names n q t);have aC:=Z (n.blk av aw);have ae:=Z (n.blk ac ax);have w:=Z (ap.keep n az);have aD:=n.size;have x:=Z n;clear J aA q t n;rcases aB with⟨y,s⟩|⟨y,s⟩
 ·subst s
  have af:=Z y;clear y;have n:=ay ae;have n:=ay aC;by_cases z:c.kind=1
  ·have Q:=Z (FX i E c ab ab ab ab ab ab (.map (some e)) k g m f N r.out.bx w.out.lc w.out.fc w.out.ln an w.out.ok.2.1 (r.out.own _ (List.mem_singleton.2 rfl)) u.out ar r.out.hb al)
   have n:decide (c.kind=1)=true:=by simp[z]
   go_wp2_with (first|(refine gX rfl 95 (.tmp 1) rfl o c.cells.toArray rfl 95 ae.out _ underlying95 rfl ad ?_)|fail)
   refine Q.mono ?_;rintro d ag A;have B:=Z (show gc (f.map RT.tb) p c.it=(match ea (f.map RT.tb) c.it with|.ok R=>(f.map RT.tb++[R],((0:Int),(0:Int)))|.bad d D=>(f.map RT.tb,(d,D))) by
    unfold gc;rw[<-K.out,if_neg (by rw[af.out];simp),if_pos (show c.it.kind=1 from z)])
   cases ht:ea (f.map RT.tb) c.it with
   |ok R=>
    rw[ht]at A B;obtain⟨s,ai⟩:=A;subst s;obtain⟨C,aE,aF,aj⟩:=r.table u ai;have aG:=Z (show Kp (i::(dE e l++(Value.slice k g m).ownBlock.toList)) j ag from(x.out.mono (λb a=>List.mem_cons_of_mem _ (ie (.inl a)))).trans (C.mono (λb a=>by
     rcases dh a with d|d
     ·rw[d];exact List.mem_cons_self ..
     exact List.mem_cons_of_mem _ (ie (.inr d)))))
    have aH:=C.size;have aI:=Z aj;clear ai C aj Q;go_wp2;refine⟨rfl,.tuple #[],results_none rfl _ _ _,?_⟩;refine⟨aG,f++[aE],(0,0),by rw[B.out];simp[aF],⟨_,aI.out,λb a=>?_⟩,.inl ⟨rfl,rfl⟩⟩;rcases a with(a|a)|a
    ·exact .inl a
    ·exact .inr ⟨a.1,aR a.2 aH⟩
    exact .inr ⟨bL aD a.1,a.2⟩
   |bad ai D=>
    rw[ht]at A B;obtain⟨s,C⟩:=A;subst s;have aj:=Z (show Kp (i::(dE e l++(Value.slice k g m).ownBlock.toList)) j ag from(x.mono (λb a=>List.mem_cons_of_mem _ (ie (.inl a)))).trans (Kp.of_same C));have aE:=Z (r.kp (Kp.of_same (l:=[]) C) (λb a=>by cases a));have aF:=C.size;clear C Q;go_wp2;refine⟨rfl,aj,f,(ai,D),by rw[B.out],⟨_,⟨⟨k,g,m⟩,P,u.out.symm,aE.out⟩,λb a=>?_⟩,.inr rfl⟩;rcases a with a|a
    ·exact .inl a
    exact .inr ⟨a.1,aR a.2 aF⟩
  have A:=Z (show gc (f.map RT.tb) p c.it=(f.map RT.tb,((0:Int),(0:Int))) by
   unfold gc;rw[<-K.out,if_neg (by rw[af.out];simp),if_neg (show¬c.it.kind=1 from z)])
  have B:=Z (show Kp (i::(dE e l++(Value.slice k g m).ownBlock.toList)) j N from x.mono (λb a=>List.mem_cons_of_mem _ (ie (.inl a))));have d:decide (c.kind=1)=false:=by simp[z]
  go_wp2;refine⟨rfl,.tuple #[],results_none rfl _ _ _,?_⟩;exact⟨B,f,(0,0),A,⟨_,⟨⟨k,g,m⟩,P,u.symm,r⟩,λb a=>a⟩,.inl ⟨rfl,rfl⟩⟩
 subst s;have z:=Z (show gc (f.map RT.tb) p c.it=(f.map RT.tb,(Y.2,c.at_)) by
  unfold gc;rw[<-K.out,if_pos y];rfl)
 have A:=Z (show Kp (i::(dE e l++(Value.slice k g m).ownBlock.toList)) j N from x.mono (λb a=>List.mem_cons_of_mem _ (ie (.inl a))));go_wp2;exact⟨rfl,A,f,(Y.2,c.at_),z,⟨_,⟨⟨k,g,m⟩,P,u.symm,r⟩,λb a=>a⟩,.inr rfl⟩
def xN (c:ah) (g i j:Nat) (k:Nat->Prop) (e:List Nat) (f:List Tb) (d:ch) (a:aE) (l:Int×Int) (b:ah):Prop:=
 Kp e c b/\∃e:List RT,gc f d a=(e.map RT.tb,l)/\∃f,lK b g i j f e (dm d a).1 a.at_/\∀a,f a->k a\/(c.heap.size<a/\a<b.heap.size)
theorem Ga (X a o p f:Nat) (d:RI) (g S:Nat->Prop) (j:aT) (e k:Nat) (n:List RT) (l:List (Int×Nat)) (u:ch) (s:Int) (c:ah) (i:cS c X a o g [] q5 [mV ⟨j,e,k⟩ n] true l u s) (y:n.length=e) (z:e<=1000)
 (A:aa c p 154 #[ak X]) (B:aa c f 95 d.cells.toArray) (t:p≠X/\p≠a/\¬g p) (v:f≠X/\f≠a/\¬g f) (C:cz c S d) (w:∀b,S b->b<a) (D:d.names.length<=5001):
 Calls prog 59 #[ak X,d.at_,.func (.func 60) #[] #[ak p,ak f]] c
  (tf (xN c X a o g (X::(dE a l++(Value.slice j e k).ownBlock.toList)) (n.map RT.tb) u d.it)):=by
 have E:X<c.heap.size:=i.bx.lt;have hBw:∀b,g b->b<c.heap.size:=λb hb=>(i.lt b hb).2;refine xM X d.at_ 60 #[ak p,ak f] (λ_ _=>by kernel_rfl) (O j e k) ab ab ab ab ab ab (.map (some a)) s c i.bx _ (X::(dE a l++(Value.slice j e k).ownBlock.toList)) ?_ ?_ ?_
 ·intro b hb
  rcases dh hb with m|m
  ·omega
  rcases cP m with m|m
  ·exact(i.na rfl).lt b m
  exact(b6 (i.own _ (List.mem_singleton.2 rfl)) b (jI m)).2
 ·rintro m m m ⟨q,r,s,x,⟨h,E,F,q8⟩,hB'⟩ m G
  refine⟨m.old q (λb hb G=>absurd (aB hb) af),r,s,x,⟨h,E,F,q8.kp m ?_⟩,λb hb=>(hB' b hb).imp id (λh=>⟨h.1,aR h.2 m.size⟩)⟩;exact xO
 intro s E m F;have E:=i.at_ m E;have F:∀b,S b->b∉[X]:=λb hb hm=>by
  have:=w b hb;have:=i.hM;rw[aB hm]at*;omega
 refine(FY X a o p f d g S j e k n l u s E y z (m.blk A (by simp[t.1])) (m.blk B (by simp[v.1])) t v (C.keep m (λb hb f=>F b f hb)) w D).mono ?_;rintro f i ⟨f,s,q,t,⟨v,hF,hB'⟩,G⟩;refine⟨f,?_⟩;have x:xN c X a o g (X::(dE a l++(Value.slice j e k).ownBlock.toList)) (n.map RT.tb) u d.it q i:=
  ⟨(m.mono (λb hb=>by rw[aB hb];simp)).trans f,s,t,v,hF,λb hb=>(hB' b hb).imp id (λh=>⟨by have:=h.1;omega,h.2⟩)⟩
 rcases G with⟨r,H⟩|r
 ·exact .inl ⟨r,H▸x⟩
 exact .inr ⟨q.1,q.2,r,x⟩
def pF (h:Hd) (a:List Og):eI:=⟨136,2,h,a.flatMap Og.cells,λ_ _=>True⟩
def pG (h:Hd) (a:List Bk):eI:=⟨50,6,h,a.flatMap Bk.cells,λ_ _=>True⟩
def pH (h:Hd) (a:List dr):eI:=⟨55,4,h,a.flatMap dr.cells,λw b=>∀c∈a,fi w b c⟩
def pI (h:Hd) (a:List dX):eI:=⟨52,3,h,a.flatMap dX.cells,λ_ _=>True⟩
def lM (h:Hd) (a:List cj):eI:=⟨64,10,h,a.flatMap cj.cells,λw b=>∀c∈a,eV w b c⟩
def pJ (h:Hd) (a:List dy):eI:=⟨107,9,h,a.flatMap dy.cells,λw b=>∀c∈a,pD w b c⟩
theorem xP (h:Hd) (a:List Og):(pF h a).bW:=⟨λ_ _ _ _ _=>trivial,λ_ _ _ _ _ _ _=>trivial⟩
theorem xQ (h:Hd) (a:List Bk):(pG h a).bW:=⟨λ_ _ _ _ _=>trivial,λ_ _ _ _ _ _ _=>trivial⟩
theorem xR (h:Hd) (a:List dX):(pI h a).bW:=⟨λ_ _ _ _ _=>trivial,λ_ _ _ _ _ _ _=>trivial⟩
theorem xS (h:Hd) (b:List dr):(pH h b).bW:=⟨λw c e a f b d=>fi.mono w c e b (a b d) f,λw w' c e a f g b d=>fi.keep w w' c b e (a b d) f g⟩
theorem xT (h:Hd) (b:List cj):(lM h b).bW:=⟨λw d b a e b c=>(a b c).mono e,λw w' d d a d e b c=>(a b c).keep d e⟩
theorem xU (h:Hd) (b:List dy):(pJ h b).bW:=⟨λw d b a e b c=>dM.mono (a b c) e,λw w' d d a d e b c=>dM.keep (a b c) d e⟩
structure cd where
 h1:Hd
 h2:Hd
 h3:Hd
 h4:Hd
 h5:Hd
 h6:Hd
 os:List Og
 bs:List Bk
 ms:List dr
 ks:List dX
 rs:List cj
 qs:List dy
def cd.rows (x:cd):List eI:=[pF x.h1 x.os,pG x.h2 x.bs,pH x.h3 x.ms,pI x.h4 x.ks,lM x.h5 x.rs,pJ x.h6 x.qs]
structure cd.Fit (x:cd):Prop where
 e1:x.os.length=x.h1.n
 e2:x.bs.length=x.h2.n
 e3:x.ms.length=x.h3.n
 e4:x.ks.length=x.h4.n
 e5:x.rs.length=x.h5.n
 e6:x.qs.length=x.h6.n
def cd.su (x:cd) (tabs:List Tb):Su:=⟨tabs,x.os,x.bs,x.ms.map dr.mt,x.ks,x.rs.map cj.ru,x.qs.map dy.qy⟩
def jR (w:ah) (X M base:Nat) (B:Nat->Prop) (h:Hd) (tabs:List Tb) (b:Su):Prop:=
 ∃(x:cd) (a:Int),x.Fit/\x.su tabs=b/\cS w X M base B [h.val] [] x.rows false [] [] a
def fE (w:ah) (X M base:Nat) (B:Nat->Prop) (h:Hd) (tabs:List Tb) (d:Su) (f:RO Su) (e:Ending) (w':ah):Prop:=
 (∃b,Kp b w w'/\∀c∈b,c=X\/B c)/\∃b:Nat->Prop,(∀c,b c->B c\/Bw w.heap.size w'.heap.size c)/\
  match f with
  |.ok s'=>e=.returned (.tuple #[])/\jR w' X M base b h tabs s'
  |.bad er a=>e=.panicked [{v:=fC er a,recovered:=false}]/\jR w' X M base b h tabs d
section
variable {w w':ah} {X M base:Nat} {B:Nat->Prop} {h:Hd} {tabs:List Tb} {x:cd} {a:Int} {e:Ending}
theorem fE.of {c:Type} {d:RO c} {f:c->Su} {i:c->World->Prop} {c:RO Su} (m:x.Fit) (n:cS w X M base B [h.val] [] x.rows false [] [] a) (o:c=d.bind λv=>.ok (f v)) (p:jD w d i e w')
 (q:∀v,i v w'->(∃k,Kp k w w'/\∀b∈k,b=X\/B b)/\jR w' X M base (λb=>B b\/Bw w.heap.size w'.heap.size b) h tabs (f v)):fE w X M base B h tabs (x.su tabs) c e w':=by
 subst o;cases d with
 |ok v=>
  obtain⟨g,j⟩:=p;obtain⟨c,d⟩:=q v j;exact⟨c,_,λb c=>c,g,d⟩
 |bad s t=>
  obtain⟨r,j⟩:=p;exact⟨⟨[],Kp.of_same j,λb g=>by cases g⟩,B,λb g=>.inl g,r,x,a,m,rfl,n.kp (Kp.of_same (l:=[]) j) (λb g=>by cases g)⟩
theorem n4 (f:cS w X M base B [h.val] [] x.rows false [] [] a) {i:Nat} {b:eI} (g:x.rows[i]?=some b) (c:Kp (X::b.own.toList) w w'):∃c,Kp c w w'/\∀d∈c,d=X\/B d:=
 ⟨_,c,λd j=>by
  rcases dh j with e|e
  ·exact .inl e
  exact .inr (f.fk b (List.mem_of_getElem? g) d (jI (v:=b.h.val) e))⟩
theorem Gd (b:x.Fit) {g:RI} (d:cS w X M base B [h.val] [] x.rows false [] [] g.at_) (j:x.os.length<=64):
 Calls prog 114 #[ak X,.agg g.cells.toArray] w (fE w X M base B h tabs (x.su tabs) (me (x.su tabs) g.it)):=by
 refine(Gc X base g g.at_ h.val x.h2.val x.h3.val x.h4.val x.h5.val x.h6.val (.map (some M)) x.h1.a x.h1.n x.h1.c x.os w d.bx (d.own (pF x.h1 x.os) gr) b.e1 d.hX d.hb (by rw[<-b.e1];exact j)).mono ?_;intro e w' j;refine fE.of (f:=λk=>{x.su tabs with origins:=(x.su tabs).origins++[k]}) b d ?_ j ?_
 ·simp only[RO.gY,<-b.e1]
  rfl
 rintro j ⟨k,l,o,p,m,q⟩;refine⟨n4 d (i:=0) rfl m,{x with h1:=⟨k,x.h1.n+1,l⟩,os:=x.os++[j]},g.at_,⟨by simp[b.e1],b.e2,b.e3,b.e4,b.e5,b.e6⟩,rfl,?_⟩;exact d.push (i:=0) (r':=pF ⟨k,x.h1.n+1,l⟩ (x.os++[j])) rfl m o p q (xP _ _) (λ_ _ _=>trivial)
theorem Ge (b:x.Fit) {j:RI} {d:List RT} (k:bJ w h d) (g:cS w X M base B [h.val] [] x.rows false [] [] j.at_) (l:x.bs.length<=1000):
 Calls prog 115 #[ak X,.agg j.cells.toArray] w (fE w X M base B h (d.map RT.tb) (x.su (d.map RT.tb)) (la (x.su (d.map RT.tb)) j.it)):=by
 refine(FF X base j h d j.at_ x.h1.val x.h3.val x.h4.val x.h5.val x.h6.val (.map (some M)) x.h2.a x.h2.n x.h2.c x.bs w g.bx k (g.own (pG x.h2 x.bs) gr) b.e2 g.hX g.hb (by rw[<-b.e2];exact l)).mono ?_;intro e w' k;refine fE.of (f:=λl=>{x.su (d.map RT.tb)with blocks:=(x.su (d.map RT.tb)).blocks++[l]}) b g ?_ k ?_
 ·unfold la s0
  simp only[RO.bind_assoc];rfl
 rintro d ⟨k,l,o,p,m,q⟩;refine⟨n4 g (i:=1) rfl m,{x with h2:=⟨k,x.h2.n+1,l⟩,bs:=x.bs++[d]},j.at_,⟨b.e1,by simp[b.e2],b.e3,b.e4,b.e5,b.e6⟩,rfl,?_⟩;exact g.push (i:=1) (r':=pG ⟨k,x.h2.n+1,l⟩ (x.bs++[d])) rfl m o p q (xQ _ _) (λ_ _ _=>trivial)
theorem Gf (b:x.Fit) {d:RI} {g:List RT} (o:bJ w h g) (p:aD w 7 d.pf cL.cells d.terms) (q:∀l∈d.terms,l.bW) (j:cS w X M base B [h.val] [] x.rows false [] [] d.at_) (m:x.ms.length<=1000):
 Calls prog 116 #[ak X,.agg d.cells.toArray] w (fE w X M base B h (g.map RT.tb) (x.su (g.map RT.tb)) (lg (x.su (g.map RT.tb)) d.it)):=by
 refine(FK X base d h g d.at_ x.h1.val x.h2.val x.h4.val x.h5.val x.h6.val (.map (some M)) x.h3.a x.h3.n x.h3.c x.ms w j.bx o p q (j.own (pH x.h3 x.ms) gr) b.e3 j.hX j.hb (by rw[<-b.e3];exact m)).mono ?_;intro e w' o;refine fE.of (f:=λk=>{x.su (g.map RT.tb)with js:=(x.su (g.map RT.tb)).js++[k]}) b j ?_ o ?_
 ·unfold lg s6
  simp only[RO.bind_assoc,RO.gY];rfl
 rintro g ⟨l,g,o,q,r,s,p,t,u⟩;refine⟨n4 j (i:=2) rfl p,{x with h3:=⟨g,x.h3.n+1,o⟩,ms:=x.ms++[l]},d.at_,⟨b.e1,b.e2,by simp[b.e3],b.e4,b.e5,b.e6⟩,by simp[cd.su,q],?_⟩;refine j.push (i:=2) (r':=pH ⟨g,x.h3.n+1,o⟩ (x.ms++[l])) rfl p r s t (xS _ _) (λb v m y k=>?_);rcases cP k with k|k
 ·exact v y k
 rw[aB k];exact fi.mono _ _ _ _ u m
theorem Gg (b:x.Fit) {j:RI} {d:List RT} (k:bJ w h d) (g:cS w X M base B [h.val] [] x.rows false [] [] j.at_) (l:x.ks.length<=1000):
 Calls prog 117 #[ak X,.agg j.cells.toArray] w (fE w X M base B h (d.map RT.tb) (x.su (d.map RT.tb)) (lh (x.su (d.map RT.tb)) j.it)):=by
 refine(DT X base j h d j.at_ x.h1.val x.h2.val x.h3.val x.h5.val x.h6.val (.map (some M)) x.h4.a x.h4.n x.h4.c x.ks w g.bx k (g.own (pI x.h4 x.ks) gr) b.e4 g.hX g.hb (by rw[<-b.e4];exact l)).mono ?_;intro e w' k;refine fE.of (f:=λl=>{x.su (d.map RT.tb)with keeps:=(x.su (d.map RT.tb)).keeps++[l]}) b g ?_ k ?_
 ·unfold lh sH
  simp only[RO.bind_assoc,RO.gY];rfl
 rintro d ⟨k,l,o,p,m,q⟩;refine⟨n4 g (i:=3) rfl m,{x with h4:=⟨k,x.h4.n+1,l⟩,ks:=x.ks++[d]},j.at_,⟨b.e1,b.e2,b.e3,by simp[b.e4],b.e5,b.e6⟩,rfl,?_⟩;exact g.push (i:=3) (r':=pI ⟨k,x.h4.n+1,l⟩ (x.ks++[d])) rfl m o p q (xR _ _) (λ_ _ _=>trivial)
theorem jR.rule (d:x.Fit) {b:Int} (f:cS w X M base B [h.val] [] x.rows false [] [] b) {v:Ru} (o:iS w w' X base x.h5.a x.h5.n x.h5.c x.rs v (λg=>#[h.val,x.h1.val,x.h2.val,x.h3.val,x.h4.val,g,x.h6.val,.map (some M),b])):
 (∃g,Kp g w w'/\∀b∈g,b=X\/B b)/\jR w' X M base (λb=>B b\/Bw w.heap.size w'.heap.size b) h tabs {x.su tabs with rules:=(x.su tabs).rules++[v]}:=by
 obtain⟨j,k,l,p,q,r,m,s,t⟩:=o;refine⟨n4 f (i:=4) rfl m,{x with h5:=⟨k,x.h5.n+1,l⟩,rs:=x.rs++[j]},b,⟨d.e1,d.e2,d.e3,d.e4,by simp[d.e5],d.e6⟩,by simp[cd.su,p],?_⟩;refine f.push (i:=4) (r':=lM ⟨k,x.h5.n+1,l⟩ (x.rs++[j])) rfl m q r s (xT _ _) (λb u y z e=>?_);rcases cP e with e|e
 ·exact u z e
 rw[aB e];exact eV.mono t y
theorem Gh (i:x.Fit) {b:RI} {d:List RT} (j:bJ w h d) (k:bV w b.iP b.names) (l:b.names.length<=5001) (g:cS w X M base B [h.val] [] x.rows false [] [] b.at_) (m:x.rs.length<=1000):
 Calls prog 118 #[ak X,.agg b.cells.toArray] w (fE w X M base B h (d.map RT.tb) (x.su (d.map RT.tb)) (oQ (x.su (d.map RT.tb)) b.it)):=by
 refine(EA X base b h d x.h1.val x.h2.val x.h3.val x.h4.val x.h6.val (.map (some M)) x.h5.a x.h5.n x.h5.c x.rs w g.bx j k l (g.own (lM x.h5 x.rs) gr) i.e5 g.hX g.hb (by rw[<-i.e5];exact m)).mono ?_;intro e w' b;exact fE.of (f:=λj=>{x.su (d.map RT.tb)with rules:=(x.su (d.map RT.tb)).rules++[j]}) i g rfl b (λb b=>jR.rule i g b)
theorem Gi (i:x.Fit) {b:RI} {d:List RT} (j:bJ w h d) (k:bV w b.iP b.names) (l:b.names.length<=5001) (m:aD w 4 b.pg du.cells b.fixed) (o:b.fixed.length<=5001) (g:cS w X M base B [h.val] [] x.rows false [] [] b.at_) (p:x.rs.length<=1000):
 Calls prog 119 #[ak X,.agg b.cells.toArray] w (fE w X M base B h (d.map RT.tb) (x.su (d.map RT.tb)) (li (x.su (d.map RT.tb)) b.it)):=by
 refine(EE X base b h d x.h1.val x.h2.val x.h3.val x.h4.val x.h6.val (.map (some M)) x.h5.a x.h5.n x.h5.c x.rs w g.bx j k l m o (g.own (lM x.h5 x.rs) gr) i.e5 g.hX g.hb (by rw[<-i.e5];exact p)).mono ?_;intro e w' b;refine fE.of (f:=λj=>{x.su (d.map RT.tb)with rules:=(x.su (d.map RT.tb)).rules++[j]}) i g ?_ b (λb b=>jR.rule i g b);unfold li pi;simp only[RO.bind_assoc,RO.gY];rfl
theorem Gj (g:x.Fit) {i:RI} {b:List RT} (j:bJ w h b) (d:cS w X M base B [h.val] [] x.rows false [] [] i.at_) (k:x.rs.length<=1000):
 Calls prog 120 #[ak X,.agg i.cells.toArray] w (fE w X M base B h (b.map RT.tb) (x.su (b.map RT.tb)) (lj (x.su (b.map RT.tb)) i.it)):=by
 refine(Ez X base i h b x.h1.val x.h2.val x.h3.val x.h4.val x.h6.val (.map (some M)) x.h5.a x.h5.n x.h5.c x.rs w d.bx j (d.own (lM x.h5 x.rs) gr) g.e5 d.hX d.hb (by rw[<-g.e5];exact k)).mono ?_;intro e w' i;refine fE.of (f:=λj=>{x.su (b.map RT.tb)with rules:=(x.su (b.map RT.tb)).rules++[j]}) g d ?_ i (λb b=>jR.rule g d b);unfold lj sM;simp only[RO.bind_assoc,RO.gY];rfl
theorem Gk (i:x.Fit) {b:RI} {d:List RT} (j:bJ w h d) (k:aD w 2 b.hvars Vr.cells b.vars) (l:aD w 14 b.hconds bv.cells b.conds) (g:cS w X M base B [h.val] [] x.rows false [] [] b.at_) (m:x.rs.length<=1000):
 Calls prog 121 #[ak X,.agg b.cells.toArray] w (fE w X M base B h (d.map RT.tb) (x.su (d.map RT.tb)) (ll (x.su (d.map RT.tb)) b.it)):=by
 refine(EM X base b h d x.h1.val x.h2.val x.h3.val x.h4.val x.h6.val (.map (some M)) x.h5.a x.h5.n x.h5.c x.rs w g.bx j k l (g.own (lM x.h5 x.rs) gr) i.e5 g.hX g.hb (by rw[<-i.e5];exact m)).mono ?_;intro e w' b;refine fE.of (f:=λj=>{x.su (d.map RT.tb)with rules:=(x.su (d.map RT.tb)).rules++[j]}) i g ?_ b (λb b=>jR.rule i g b);unfold ll sQ;simp only[RO.bind_assoc,RO.gY];rfl
end
section
variable {w w':ah} {X M base:Nat} {B:Nat->Prop} {h:Hd} {x:cd}
theorem Gl (f:x.Fit) {d:RI} {b:List RT} {k:Nat->Prop} (v:bJ w h b) (y:g2 X b) (z:lB (b.map RT.tb)) (A:dG w k d.e) (C:¬k X) (D:∀g,k g->g<w.heap.size) (E:d.e.ex.cW) (j:cS w X M base B [h.val] [] x.rows false [] [] d.at_) (o:x.qs.length<=1000):
 Calls prog 122 #[ak X,.agg d.cells.toArray] w (fE w X M base B h (b.map RT.tb) (x.su (b.map RT.tb)) (j7 (x.su (b.map RT.tb)) d.it)):=by
 have F:nM [x.h1.val,x.h2.val,x.h3.val,x.h4.val,x.h5.val,.slice x.h6.a x.h6.n x.h6.c,.map (some M)]:=⟨rfl,λp l p m=>by
  subst m;simp[Hd.val]at l⟩
 refine(FR X base d h b x.h1.val x.h2.val x.h3.val x.h4.val x.h5.val (.map (some M)) d.at_ x.h6.a x.h6.n x.h6.c x.qs w k j.bx F v y z A C D E (j.own (pJ x.h6 x.qs) gr) f.e6 j.hX j.hb (by rw[<-f.e6];exact o)).mono ?_;intro v w' m;have v:j7 (x.su (b.map RT.tb)) d.it=(mS (b.map RT.tb) d.it).bind λq=>.ok {x.su (b.map RT.tb)with queries:=(x.su (b.map RT.tb)).queries++[q]}:=by
  unfold j7 mS;simp only[RO.bind_assoc];rfl
 rw[v];cases hq:mS (b.map RT.tb) d.it with
 |ok q=>
  rw[hq]at m;obtain⟨G,g,r,s,t,H,p,I,u,J,K⟩:=m;refine⟨n4 j (i:=5) rfl u,_,λg p=>p,G,{x with h6:=⟨s,x.h6.n+1,t⟩,qs:=x.qs++[r]},g,⟨f.e1,f.e2,f.e3,f.e4,f.e5,by simp[f.e6]⟩,by simp[cd.su,H],?_⟩;refine j.push (i:=5) (r':=pJ ⟨s,x.h6.n+1,t⟩ (x.qs++[r])) rfl u p I J (xU _ _) (λk L o N l=>?_);rcases cP l with l|l
  ·exact L N l
  rw[aB l];exact dM.mono K o
 |bad s t=>
  rw[hq]at m;obtain⟨r,p,g,l⟩:=m;exact⟨⟨[X],p,λb b=>.inl (aB b)⟩,B,λg l=>.inl l,r,x,g,f,rfl,j.at_ p l⟩
end
theorem Gm (X d e f:Nat) (a:FuncId) (g:∀g w,(callFunc a g).run prog w=.ok (.enter a g) w) (c:RI) (w:ah) (j:aa w d 162 #[.func (.func a) #[] #[]]) (k:aa w e 154 #[ak X]) (l:aa w f 95 c.cells.toArray)
 (g:Ending->World->Prop) (m:Calls prog a #[ak X,.agg c.cells.toArray] w g) (n:∀b w',g b w'->b=.returned (.tuple #[])\/∃o,b=.panicked o):
 Calls prog 64 #[ak d,ak e,ak f] w g:=by
 have p:=Z l;have q:=Z m;have r:=Z n;have a:ae w (ac d 0) (.func (.func a) #[] #[]):=aa.cell j 0;have a:ae w (ac e 0) (ak X):=aa.cell k 0;have s:(some 25:Option Nat)=some c.cells.toArray.size:=by simp[RI.len]
 clear l m n j k;go_enter func64,ntmps64
 go_wp2_with (first|(refine gX rfl 95 (.tmp 2) rfl f c.cells.toArray rfl 95 p.out _ underlying95 rfl s ?_)|fail)
 refine q.out.mono ?_;intro b w' h;rcases r.out b w' h with i|⟨o,i⟩
 ·subst i
  go_wp2;exact⟨rfl,.tuple #[],results_none rfl _ _ _,h⟩
 subst i;go_wp2;exact⟨rfl,h⟩
structure n5 (w:ah) (X:Nat) (h:Hd) (ts:List RT) (S:Nat->Prop) (r:RI):Prop where
 ta:bJ w h ts
 ko:g2 X ts
 fa:lB (ts.map RT.tb)
 it:cz w S r
 sx:¬S X
 sl:∀b,S b->b<w.heap.size
 few:r.e.ex.cW
 h5:r.names.length<=5001
 f5:r.fixed.length<=5001
def cd.Short (a:cd) (b:Nat):Prop:=a.os.length<=b/\a.bs.length<=1000/\a.ms.length<=1000/\a.ks.length<=1000/\a.rs.length<=1000/\a.qs.length<=1000
theorem Gn {k:ah} {l n o:Nat} {p:Nat->Prop} {h:Hd} {d:cd} (g:d.Fit) {a:RI} {e:List RT} {m:Nat->Prop} (c:n5 k l h e m a) (i:cS k l n o p [h.val] [] d.rows false [] [] a.at_) (j:d.Short 64) {q:aA} (f:gF a.kind=some q):
 ∃m,q=.func (.func m) #[] #[]/\(∀q k,(callFunc m q).run prog k=.ok (.enter m q) k)/\
  Calls prog m #[ak l,.agg a.cells.toArray] k (fE k l n o p h (e.map RT.tb) (d.su (e.map RT.tb)) (ci (d.su (e.map RT.tb)) a.it)):=by
 have k:2<=a.kind/\a.kind<=10:=by
  unfold gF at f;repeat' split at f
  all_goals first|omega|cases f
 have r:a.kind=2\/a.kind=3\/a.kind=4\/a.kind=5\/a.kind=6\/a.kind=7\/a.kind=8\/a.kind=9\/a.kind=10:=af
 rcases r with b|b|b|b|b|b|b|b|b
 ·rw[b]at f
  refine⟨_,(Option.some.inj f).symm,λ_ _=>by kernel_rfl,?_⟩;rw[show ci (d.su (e.map RT.tb)) a.it=me (d.su (e.map RT.tb)) a.it by unfold ci;rw[show a.it.kind=2 from b];rfl];exact Gd g i j.1
 ·rw[b]at f
  refine⟨_,(Option.some.inj f).symm,λ_ _=>by kernel_rfl,?_⟩;rw[show ci (d.su (e.map RT.tb)) a.it=la (d.su (e.map RT.tb)) a.it by unfold ci;rw[show a.it.kind=3 from b];rfl];exact Ge g c.ta i j.2.1
 ·rw[b]at f
  refine⟨_,(Option.some.inj f).symm,λ_ _=>by kernel_rfl,?_⟩;rw[show ci (d.su (e.map RT.tb)) a.it=lg (d.su (e.map RT.tb)) a.it by unfold ci;rw[show a.it.kind=4 from b];rfl];exact Gf g c.ta c.it.lt c.it.ft i j.2.2.1
 ·rw[b]at f
  refine⟨_,(Option.some.inj f).symm,λ_ _=>by kernel_rfl,?_⟩;rw[show ci (d.su (e.map RT.tb)) a.it=lh (d.su (e.map RT.tb)) a.it by unfold ci;rw[show a.it.kind=5 from b];rfl];exact Gg g c.ta i j.2.2.2.1
 ·rw[b]at f
  refine⟨_,(Option.some.inj f).symm,λ_ _=>by kernel_rfl,?_⟩;rw[show ci (d.su (e.map RT.tb)) a.it=oQ (d.su (e.map RT.tb)) a.it by unfold ci;rw[show a.it.kind=6 from b];rfl];exact Gh g c.ta c.it.ln c.h5 i j.2.2.2.2.1
 ·rw[b]at f
  refine⟨_,(Option.some.inj f).symm,λ_ _=>by kernel_rfl,?_⟩;rw[show ci (d.su (e.map RT.tb)) a.it=li (d.su (e.map RT.tb)) a.it by unfold ci;rw[show a.it.kind=7 from b];rfl];exact Gi g c.ta c.it.ln c.h5 c.it.lf c.f5 i j.2.2.2.2.1
 ·rw[b]at f
  refine⟨_,(Option.some.inj f).symm,λ_ _=>by kernel_rfl,?_⟩;rw[show ci (d.su (e.map RT.tb)) a.it=lj (d.su (e.map RT.tb)) a.it by unfold ci;rw[show a.it.kind=8 from b];rfl];exact Gj g c.ta i j.2.2.2.2.1
 ·rw[b]at f
  refine⟨_,(Option.some.inj f).symm,λ_ _=>by kernel_rfl,?_⟩;rw[show ci (d.su (e.map RT.tb)) a.it=ll (d.su (e.map RT.tb)) a.it by unfold ci;rw[show a.it.kind=9 from b];rfl];exact Gk g c.ta c.it.lv c.it.ld i j.2.2.2.2.1
 rw[b]at f;refine⟨_,(Option.some.inj f).symm,λ_ _=>by kernel_rfl,?_⟩;rw[show ci (d.su (e.map RT.tb)) a.it=j7 (d.su (e.map RT.tb)) a.it by unfold ci;rw[show a.it.kind=10 from b];rfl];exact Gl g c.ta c.ko c.fa c.it.ex c.sx c.sl c.few i j.2.2.2.2.2
def ja (b:Su) (c:aE):Su×(Int×Int):=
 match ci b c with
 |.ok s'=>(s',(0,0))
 |.bad e a=>(b,(e,a))
def tg (c:ah) (a g i:Nat) (d:Nat->Prop) (h:Hd) (j:List Tb) (k:Su) (l:aE) (m:Int×Int) (b:ah):Prop:=
 (∃e,Kp e c b/\∀f∈e,f=a\/d f)/\∃(e:Su) (f:Nat->Prop),ja k l=(e,m)/\jR b a g i f h j e/\∀a,f a->d a\/(c.heap.size<a/\a<b.heap.size)
theorem n5.iX {w d:ah} {b:Nat} {h:Hd} {e:List RT} {S:Nat->Prop} {f:RI} (a:n5 w b h e S f) (g:jL w b) (c:Kp [b] w d):n5 d b h e S f:=
 ⟨a.ta.iX g a.ko c,a.ko,a.fa,a.it.keep c (λb b d=>a.sx (aB b▸d)),a.sx,λb d=>aR (a.sl b d) c.size,a.few,a.h5,a.f5⟩
theorem cS.ii {w:ah} {b a d:Nat} {e:Nat->Prop} {h:Hd} {x:cd} {c:Int} (f:cS w b a d e [h.val] [] x.rows false [] [] c):jL w b:=by
 have j:nM [x.h1.val,x.h2.val,x.h3.val,x.h4.val,x.h5.val,x.h6.val,.map (some a)]:=⟨rfl,λb g b i=>by
  subst i;simp[Hd.val]at g⟩
 exact gH.ii (h:=h) (u:=[x.h1.val,x.h2.val,x.h3.val,x.h4.val,x.h5.val,x.h6.val,.map (some a)]) ⟨c,f.bx⟩ j
open Classical in
theorem Gp (X m o i p j:Nat) (d:RI) (f S:Nat->Prop) (h:Hd) (k:List RT) (c:cd) (t:Int) (v:aA) (a:ah) (z:c.Fit) (l:cS a X m o f [h.val] [] c.rows false [] [] t) (A:n5 a X h k S d) (B:c.Short 64) (hv:gF d.kind=some v)
 (C:aa a i 162 #[v]) (D:aa a p 154 #[ak X]) (E:aa a j 95 d.cells.toArray) (F:i≠X) (G:p≠X) (H:j≠X):
 Calls prog 59 #[ak X,d.at_,.func (.func 64) #[] #[ak i,ak p,ak j]] a
  (tf (tg a X m o f h (k.map RT.tb) (c.su (k.map RT.tb)) d.it)):=by
 have P:X<a.heap.size:=l.bx.lt;have hBw:∀b,f b->b<a.heap.size:=λb hb=>(l.lt b hb).2;refine xM X d.at_ 64 #[ak i,ak p,ak j] (λ_ _=>by kernel_rfl) h.val c.h1.val c.h2.val c.h3.val c.h4.val c.h5.val c.h6.val (.map (some m)) t a l.bx _ (X::(List.range a.heap.size).filter (λb=>decide (f b))) ?_ ?_ ?_
 ·intro b hb
  rcases dh hb with e|e
  ·omega
  exact List.mem_range.1 (List.mem_filter.1 e).1
 ·rintro e e e ⟨⟨g,n,q⟩,r,s,t,⟨u,w,x,y,q8⟩,hB'⟩ e I
  refine⟨⟨g,e.old n (λb hb I=>absurd (aB hb) af),q⟩,r,s,t,⟨u,w,x,y,q8.kp e ?_⟩,λb hb=>(hB' b hb).imp id (λh=>⟨h.1,aR h.2 e.size⟩)⟩;exact xO
 intro q t g P;have m:cS q X m o f [h.val] [] c.rows false [] [] d.at_:=l.at_ g t;obtain⟨I,J,K,L⟩:=Gn z (A.iX l.ii g) m B hv;subst J;refine(Gm X i p j I K d q (g.blk C (by simp[F])) (g.blk D (by simp[G])) (g.blk E (by simp[H])) _ L ?_).mono ?_
 ·rintro e e ⟨_,e,_,h2⟩
  cases hR:ci (c.su (k.map RT.tb)) d.it with
  |ok n=>rw[hR]at h2;exact .inl h2.1
  |bad n r=>rw[hR]at h2;exact .inr ⟨_,h2.1⟩
 rintro e r ⟨⟨n,u,w⟩,s,hB',h2⟩;have M:Kp (X::(List.range a.heap.size).filter (λb=>decide (f b))) q r:=u.mono (λb hb=>by
  rcases w b hb with e|e
  ·rw[e];exact List.mem_cons_self ..
  exact List.mem_cons_of_mem _ (List.mem_filter.2 ⟨List.mem_range.2 (hBw b e),by simpa using e⟩))
 have x:∃n,Kp n a r/\∀b∈n,b=X\/f b:=⟨X::n,(g.mono (λb hb=>by rw[aB hb];simp)).trans (u.mono (λb hb=>List.mem_cons_of_mem _ hb)),λb hb=>by
  rcases dh hb with e|e
  ·exact .inl e
  exact w b e⟩
 have y:∀b,s b->f b\/(a.heap.size<b/\b<r.heap.size):=λb hb=>(hB' b hb).imp id (λh=>⟨by have:=h.1;omega,h.2⟩);refine⟨M,?_⟩;cases hR:ci (c.su (k.map RT.tb)) d.it with
 |ok N=>
  rw[hR]at h2;exact .inl ⟨h2.1,x,N,s,by unfold ja;rw[hR],h2.2,y⟩
 |bad N O=>
  rw[hR]at h2;exact .inr ⟨N,O,h2.1,x,_,s,by unfold ja;rw[hR],h2.2,y⟩
theorem th (b:List Tb) (c:ch) (d:List (Int×Int)) (a:aE) (e:List aE):
 cy b c d (a::e)=cy (gc b c a).1 (dm c a).1 (d++[(gc b c a).2]) e:=by
 rw[cy];unfold gc;split
 ·rfl
 split
 ·cases ea b a<;>rfl
 rfl
def lN (a:Su) (b:Int×Int) (c:aE):Su×(Int×Int):=if b.1=0 then(match gF c.kind with|none=>(a,b)|some _=>ja a c)else(a,b)
theorem Gq {c:Su} {a:aE} (b:gF a.kind=none):ci c a=.ok c:=by
 have a:¬(2<=a.kind/\a.kind<=10):=by
  unfold gF at b;repeat' split at b
  all_goals first|omega|cases b
 unfold ci;rw[if_neg af,if_neg af,if_neg af,if_neg af,if_neg af,if_neg af,if_neg af,if_neg af,if_neg af]
theorem xV (b:Su) (d:List (Int×Int)) (e:Int×Int) (a:aE) (f:List ((Int×Int)×aE)):
 dg b d ((e,a)::f)=dg (lN b e a).1 (if(lN b e a).2.1=0 then d else d++[(lN b e a).2]) f:=by
 rw[dg];unfold lN;by_cases c:e.1=0
 ·rw[if_pos c,if_pos c]
  cases hs:gF a.kind with
  |none=>
   rw[Gq hs];simp[c]
  |some i=>
   show _=dg (ja b a).1 (if(ja b a).2.1=0 then d else d++[(ja b a).2]) f;unfold ja;cases hp:ci b a with
   |ok g=>simp
   |bad g j=>
    by_cases a:g=0
    ·simp[a]
    simp[a]
 rw[if_neg c,if_neg c];simp[c]
end Go.Proofs.YteamkimbmdgdbaaGreatDoor

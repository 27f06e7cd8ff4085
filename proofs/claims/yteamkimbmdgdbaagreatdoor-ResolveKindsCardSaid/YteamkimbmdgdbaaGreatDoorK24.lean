import Derived.Test.YteamkimbmdgdbaaGreatDoorK22
import Derived.Test.YteamkimbmdgdbaaGreatDoorK23
set_option linter.unusedSimpArgs false
set_option linter.unusedVariables false
set_option maxHeartbeats 16000000
set_option maxRecDepth 100000
namespace Go.Proofs.YteamkimbmdgdbaaGreatDoor
open Go.RowKit
mutual
def Ex.dh:Ex->Prop
 |.mk _ _ kids _ names _ _ _ _=>names.length<=5001/\kids.length<=5001/\Ex.kZ kids
def Ex.kZ:List Ex->Prop
 |[]=>True
 |e::es=>e.dh/\Ex.kZ es
end
theorem Ex.kZ.mem:∀{a:List Ex},Ex.kZ a->∀b∈a,b.dh
 |[],_,_,h=>by cases h
 |x::a,hf,b,h=>by
  rw[Ex.kZ]at hf;rcases dd h with rfl|h
  ·exact hf.1
  exact Ex.kZ.mem hf.2 b h
theorem CE {d e f:Nat} {h:Hd} {g:List RT} {u:bg} {j:af} {S:Nat->Prop} {b:RE} (l:dX j S b):b.ex.dh->∀a,jq a d e f h g u S->dX a S b->
 Calls Tryz.prog 200 #[.agg b.cells.toArray,aj e,aj f] a λc j=>mS a d h u (fR (g.map RT.tb) b.ex) (oB a.heap.size) c j:=by
 induction l with
 |@mk m n o i p q r k s t v w y z A B C D E F G H I J K L x=>
  intro b a j c;have b:k.length<=5001/\(RE.exs i).length<=5001/\Ex.kZ (RE.exs i):=b;rw[RE.zG,List.length_map]at b;exact Cw d e f h g u S m n o i p q r k s t v w a j c b.1 b.2.1 (λd e a j c=>x d e (b.2.2.mem _ (List.mem_map.2 ⟨d,e,rfl⟩)) a j c)
structure eu where
 name:ByteArray
 rp:aB
def eu.cells (a:eu):List Value:=.string a.name::a.rp.cells
def eu.qy (a:eu):Qy:=⟨a.name,a.rp.pl⟩
theorem eu.len (a:eu):a.cells.length=9:=by show a.rp.cells.length+1=9;rw[aB.len]
def oI (a:af) (S:Nat->Prop) (b:eu):Prop:=dJ a S b.rp
theorem iI.CF {d k:Type} {a i e:af} {j f:Nat} {l:bb} {m:Nat} {enc:d->List Value} {val:d->k} {At:World->(Nat->Prop)->d->Prop} {n:aX} {k o:Nat} {q:List d} {c:d} {v:bg} {r:Value->Array Value}
 (w:∀(a:af) (S s:Nat->Prop) (c:d),At a S c->(∀b,S b->s b)->At a s c) (x:∀(a e:af) (S:Nat->Prop) (c:d) (d:List Nat),At a S c->Kp d a e->(∀b∈d,¬S b)->At e S c)
 (t:Kp [j] a i) (y:a.ownsRow f l m (U n k o) k v) (d:j<f) (d:f<=a.heap.size) (z:At i (Bw a.heap.size i.heap.size) c) (A:fo i e j f l m enc n k o q c r):iI a e j f l m enc val At n k o q (val c) r:=by
 obtain⟨B,C,b,D,p,u⟩:=A;have hr:=b3 y;refine⟨c,B,C,rfl,b,D,(t.mono (λ_ h=>by rw[aA h];simp)).trans p,u.imp id (λ⟨a,h1,c⟩=>⟨a,h1,bR t.size c⟩),w _ _ _ _ (x _ _ _ _ _ z p ?_) ?_⟩
 ·exact tT
 intro b hS;have h1:=hS.1;have a:=hS.2;have a:=p.size;refine⟨⟨h1,by omega⟩,λg=>?_⟩;rcases u with h|⟨E,h,F⟩
 ·rw[h]at g
  have:=(hr b g.symm).2;omega
 rw[h]at g;injection g with g
 omega
def l7 (a:List Tb) (x:aI):RO Qy:=(fR a x.expr).bind λa=>.ok ⟨x.name,a.1⟩
theorem CG (b:List Tb) (a:RI):l7 b a.it=(fR b a.e.ex).bind λb=>.ok ⟨a.name,b.1⟩:=by simp only[l7,RI.it]
def CH (d:af) (b f:Nat) (h:Hd) (u:bg) (g:aX) (i j:Nat) (k:List eu) (l:Value->Int->Array Value) (m:RO Qy) (e:Ending) (c:af):Prop:=
 match m with
 |.ok x=>e=.returned (.tuple #[])/\∃a,iI d c b f 107 9 eu.cells eu.qy oI g i j k x (λf=>l f a)
 |.bad er a=>e=.panicked [{v:=eY er a,recovered:=false}]/\Kp [b] d c/\gv c b h u
theorem Tryz.CI:(Tryz.prog.info? 107).map (λa=>(a.zero,a.size,a.bytes))=some (some (.agg #[ah,O 0,O 0,aa,aa,aa,O 0,O 0,aa]),9,144):=ak
theorem CJ (d L:Nat) (G:RI) (h:Hd) (H:List RT) (u1 u2 u3 u4 u5 u7:ay) (ad:Int) (g:aX) (b i:Nat) (T:List eu) (a:af) (S:Nat->Prop)
 (W:J a d 157 #[h.val,u1,u2,u3,u4,u5,U g b i,u7,ad]) (aN:mR [u1,u2,u3,u4,u5,.slice g b i,u7]) (aP:bI a h H) (aQ:gN d H) (bL:kR (H.map RT.tb)) (X:dX a S G.e) (aR:¬S d) (bM:∀I,S I->I<a.heap.size) (aS:G.e.ex.dh)
 (aT:a.ownsRow L 107 9 (U g b i) b (T.flatMap eu.cells)) (aU:T.length=b) (aV:d<L) (E:L<=a.heap.size) (ai:b<=1000):
 Calls Tryz.prog 122 #[aj d,.agg G.cells.toArray] a λe w'=>CH a d L h [u1,u2,u3,u4,u5,.slice g b i,u7] g b i T (λai K=>#[h.val,u1,u2,u3,u4,u5,ai,u7,.int .i64 K]) (l7 (H.map RT.tb) G.it) e w':=by
 obtain⟨bN,bO,bP,bR,bS⟩:=info_parts Tryz.CI;obtain⟨M,N,P⟩:=h;have Y:=Z aT;have aZ:Hid (J a d 157 #[U M N P,u1,u2,u3,u4,u5,U g b i,u7,ad]):=Z W;have bT:=W.lt;have a0:=Z aN;have a1:=Z (λ(c:af) (f j:Nat) (k:jq c d f j ⟨M,N,P⟩ H [u1,u2,u3,u4,u5,.slice g b i,u7] S) (e:dX c S G.e)=>CE X aS c k e);have bU:=Z X;have bW:=Z aP;obtain⟨bX,ad⟩:=aq (l7 (H.map RT.tb) G.it);rw[<-ad];obtain⟨a2,ai⟩:=aq (fR (H.map RT.tb) G.e.ex);rw[<-ai]at a1;obtain⟨a3,al⟩:=aq G.name;have bY:=Z (show bX=a2.bind λc=>.ok ⟨a3,c.1⟩ by rw[ad,ai,al,CG]);clear ad ai X aS aT W aP aN;obtain⟨bZ,j,b0,b4,b5,⟨b6,b8,b9⟩,c1,⟨ca,cb,cc⟩,c2,ce,cg,ch,⟨ci,cj,ck⟩,c3,cl,cm,⟨cn,co,cp⟩,c4,⟨cq,cr,cs⟩,c5,⟨ct,cu,cw⟩,c6,⟨a4,a5,⟨a6,a7,a8⟩,c8,⟨a9,ba,bb⟩,c9,⟨bf,bg,bk⟩,da,bm,bp,bq,br⟩⟩:=G;have cx:j=a3:=al.symm;clear al;subst cx;have cy:=Z (Kp.refl [d] a);have cz:=aW bT;show Calls Tryz.prog 122 #[aj d,.agg #[bZ,j,b0,b4,b5,U b6 b8 b9,U ca cb cc,ce,cg,ch,U ci cj ck,cl,cm,U cn co cp,U cq cr cs,U ct cu cw,a4,a5,U a6 a7 a8,U a9 ba bb,U bf bg bk,bm,bp,bq,br]] a _;go_enter Tryz.func122,Tryz.ntmps122
 go_upto_region 1 with(fail)
 obtain⟨X,G,W,f,bs⟩:=nb a 154 _;rw[G];clear G;have X:=qk cy f;have ad:=qb f aZ;obtain⟨ai,G,cA,f,bt⟩:=nc bs 95 _;rw[G];clear G;have cD:=qk X f;have cE:=qb f ad;have cF:=qb f W;go_upto_region 3 with(fail)
 obtain⟨G,W,X,f,ad⟩:=nc bt 289 _;rw[W];clear W;have Q:=qk cD f;have W:=qb f cE;have an:=qb f cF;have F:=qb f cA;have ai:G.heap.size=a.heap.size+3:=ad;have ai:ac G (ab (a.heap.size+2) 0) (.func (.func 200) #[] #[aj (a.heap.size+2),aj a.heap.size]):=J.cell X 0;have X:=J.lt X;have X:=xE F;have X:=xF F;have X:=xG F;have X:=xH F;have X:=xI F;have X:=xJ F;have X:=xK F;have X:=xL F;have X:=xM F;have X:=J.lt an;have H:Hid (jq G d (a.heap.size+2) a.heap.size ⟨M,N,P⟩ H [u1,u2,u3,u4,u5,.slice g b i,u7] S):=Z
  {
   bx:=⟨_,W.out⟩,us:=a0.out,hf:=by omega,cf:=ai,hv:=X,cv:=J.cell an.out 0,nf:=by omega,nv:=λe=>cz e.symm,
   ta:=bW.out.iG (gv.g9 (h:=⟨M,N,P⟩) (u:=[u1,u2,u3,u4,u5,.slice g b i,u7]) ⟨_,aZ.out⟩ a0.out) aQ Q.out,ko:=aQ,fa:=bL,sx:=aR,sl:=λI E=>by have:=bM I E;omega}
 have W:=Z (bU.keep Q (λI E=>by rw[aA E];exact aR));have H:=Z (a1 G _ _ H W);have cG:Hid (Calls Tryz.prog 200 #[.agg #[a4,a5,U a6 a7 a8,U a9 ba bb,U bf bg bk,bm,bp,bq,br],aj (a.heap.size+2),aj a.heap.size] G λe w'=>mS G d ⟨M,N,P⟩ [u1,u2,u3,u4,u5,.slice g b i,u7] a2 (oB G.heap.size) e w'):=H;have cH:∀G a,(callFunc 200 G).run Tryz.prog a=.ok (.enter 200 G) a:=enters_of Tryz.func200 ak rfl;clear bs bt ad;go_wp2_with fail
 refine uU Q bY cG ?ah ?aB
 case ah=>
  intro m K m c k l;go_wp2;refine⟨rfl,?_⟩;rw[c.out];exact⟨rfl,Q.trans k,l⟩
 intro cI cJ c cK bu cL V bv;obtain⟨db,cM⟩:=cI;obtain⟨ao,rfl,bz,bA⟩:=cL;obtain⟨cN,cO⟩:=bv.out;have bB:=Z (Q.trans V);have G:=bB.size;have cP:=qo V an;have cQ:=qo V F;obtain⟨RP,F⟩:=aq ao;rw[<-F]at bA bu;have cR:=Z (show RP.cells=ao.cells by rw[F]);clear bv cK cH V F;obtain⟨l,m,⟨n,o,p⟩,dc,⟨q,r,s⟩,dd,⟨t,v,w⟩,de,y,z,⟨A,B,C⟩,df⟩:=ao;have cS:cJ=.tuple #[.agg #[l,m,U n o p,U q r s,U t v w,y,z,U A B C],cM]:=bz;clear bz;subst cS;have cT:Hid (RP.cells=[.int .i64 l,.int .i64 m,.slice n o p,.slice q r s,.slice t v w,.int .i64 y,.int .i64 z,.slice A B C]):=cR;go_upto_region 4 with(first|(refine wpList_store_row rfl 105 (.tmp 5) (.tmp 13) rfl c.heap.size #[l,m,U n o p,U q r s,U t v w,y,z,U A B C] rfl rfl 105 #[O 0,O 0,aa,aa,aa,O 0,O 0,aa] (J.new c 105 #[O 0,O 0,aa,aa,aa,O 0,O 0,aa]) ak rfl bl ?_;rw[World.setRow_alloc_new])|fail)
 have M:=Z (Kp.refl [] c);obtain⟨k,G,F,f,-⟩:=nb c 105 #[l,m,U n o p,U q r s,U t v w,y,z,U A B C];rw[G];clear G;have bD:=qk bB f;have ap:=qb f cO;have H:=qb f cP;have G:=qb f cQ;have bE:=qk M f;have f:=J.lt F;have f:=cd ap;have M:=J.lt ap;have ar:=az H;have H:=J.lt H;have aw:=aY G;have H:=J.lt G;have ax:=az F;have aC:=aY F;have aD:=bh F;have aE:=bj F;have aF:=bn F;have aG:=bQ F;have aI:=cd F;have aJ:=b7 F;have cU:=Z (bC Y bD (λI E=>by have:=aA E;omega));have G:=J.lt G;have F:=J.lt F;refine ez 12 (S:=(λw'=>ac w' (ab d 6) (U g b i)/\ac w' (am a 0) (aj d)/\ac w' (ab (a.heap.size+1) 1) j/\ac w' (am c 0) l/\ac w' (am c 1) m/\ac w' (am c 2) (U n o p)/\ac w' (am c 3) (U q r s)/\ac w' (am c 4) (U t v w)/\ac w' (am c 5) y/\ac w' (am c 6) z/\ac w' (am c 7) (U A B C))) ⟨f,ar,aw,ax,aC,aD,aE,aF,aG,aI,aJ⟩ (λhS=>?_);refine dg ?_;refine tk 9 hS ?_;have cV:(λw':World=>ac w' (ab d 6) (U g b i)/\ac w' (am a 0) (aj d)/\ac w' (ab (a.heap.size+1) 1) j/\ac w' (am c 0) l/\ac w' (am c 1) m/\ac w' (am c 2) (U n o p)/\ac w' (am c 3) (U q r s)/\ac w' (am c 4) (U t v w)/\ac w' (am c 5) y/\ac w' (am c 6) z/\ac w' (am c 7) (U A B C)) (k.drew.alloc (.cells #[j,l,m,U n o p,U q r s,U t v w,y,z,U A B C] 107)):=⟨bi f,bi ar,bi aw,bi ax,bi aC,bi aD,bi aE,bi aF,bi aG,bi aI,bi aJ⟩;refine aK 10 (λbF R=>?_);go_simp;refine R _ _ (λ_=>cV) ?_;refine av ?_;have c:=Z (aH ((ag.refl k.drew).alloc (.cells #[j,l,m,U n o p,U q r s,U t v w,y,z,U A B C] 107)) (aH ((ag.refl k).drew) cU));have f:=Z (cC k.drew #[j,l,m,U n o p,U q r s,U t v w,y,z,U A B C] 107 9 rfl);have cW:=Z (ap.drew.alloc (.cells #[j,l,m,U n o p,U q r s,U t v w,y,z,U A B C] 107));refine aK 11 (λbF R=>?_);refine c7 (k.drew.alloc _) (.tmp 20) (.tmp 25) 35 rfl L 107 bN _ 9 144 Tryz.underlying35 bO bP bR bS rfl au (U g b i) b (T.flatMap eu.cells) rfl c (k.heap.size+1) (some ⟨k.heap.size,0,none⟩) 1 1 ((_:aO).toList) rfl f bl b1 ae cB ?_;intro c c aL bG bH;obtain⟨bJ,bK,rfl,cX⟩:=bo aL;have hrow:=b3 Y;have c:some d≠(.slice g b i:ay).ownBlock:=λe=>by have:=hrow d e.symm;omega
 have aM:=Z (cW.grown bG c);have d:=cd aM;have c:=λc=>J.frozen aM c;have cY:=Z aL;have D:=Z (fm (((Kp.refl [] k).drew).alloc _) bG);have cZ:=Z (show(Value.slice bJ (b+1) bK).ownBlock=(.slice g b i:ay).ownBlock\/∃c,(Value.slice bJ (b+1) bK).ownBlock=some c/\k.heap.size<=c from bH.imp id (λh=>⟨_,h,by simp[d5]⟩));clear aL bH cX;refine R _ _ (λ_=>⟨d,bw D ar,bw D.out aw,bw D.out ax,bw D.out aC,bw D.out aD,bw D.out aE,bw D.out aF,bw D.out aG,bw D.out aI,bw D.out aJ⟩) ?_;refine av ?_;refine b2 ?_;refine tq 12 ?_;refine tq 13 ?_;refine tq 14 ?_;refine dp 15 (λbF R=>?_);go_simp;refine R _ _ ?_;refine av ?_;refine bV ?_;go_wp2_with fail
 refine bodyPost_ret (results_none rfl _ _ _) rfl ?_;rw[bu.out];have c0:oI k (Bw a.heap.size k.heap.size) ⟨j,RP⟩:=(bA.keep bE (λ_ h=>by cases h)).mono (λI E=>⟨by have:=E.1;omega,by have:=E.2;have:=bE.out.size;omega⟩);have a:eu.cells ⟨j,RP⟩=[.string j,.int .i64 l,.int .i64 m,.slice n o p,.slice q r s,.slice t v w,.int .i64 y,.int .i64 z,.slice A B C]:=by show .string j::RP.cells=_;rw[cT.out]
 exact⟨rfl,cN,iI.CF (val:=eu.qy) (At:=oI) (λ_ _ _ _ K b=>dJ.mono K b) (λ_ _ _ _ _ K b aU=>dJ.keep K b aU) bD Y aV E c0 (fo.jg (enc:=eu.cells) (x:=⟨j,RP⟩) (ag.refl k) aM (by rw[a];exact cY.out) D aV rfl cZ)⟩
structure fM (w:af) (S:Nat->Prop) (t:RT):Prop where
 a:fw w t
 ia:aS S t.ha
 ik:aS S t.hk
 b:∀r∈t.ra,gL r
theorem fM.mono (w:af) (S S':Nat->Prop) (t:RT) (a:fM w S t) (c:∀d,S d->S' d):fM w S' t:=⟨a.a,a.ia.mono c,a.ik.mono c,a.b⟩
theorem fM.keep (w e:af) (S:Nat->Prop) (t:RT) (l:List Nat) (c:fM w S t) (k:Kp l w e) (f:∀d∈l,¬S d):fM e S t:=
 ⟨⟨⟨c.a.1.1.kp k (λd g i j=>f d j (c.ia d g i)),λg i=>⟨pM e (c.b g i),(c.a.1.2 g i).2⟩⟩,c.a.2.1.kp k (λd e g i=>f d i (c.ik d e g)),c.a.2.2⟩,c.ia,c.ik,c.b⟩
theorem rI (b:Int):∀a:List Int,(lB b a).Perm (b::a)
 |[]=>List.Perm.refl _
 |y::a=>by
  unfold lB;split
  ·exact List.Perm.refl _
  exact((rI b a).cons y).trans (List.Perm.swap b y a)
theorem oJ:∀l:List Int,(d2 l).Perm l
 |[]=>List.Perm.refl _
 |x::l=>(rI x (d2 l)).trans ((oJ l).cons x)
theorem vh (b:Int):∀a:List Int,a.Pairwise (·<=·)->(lB b a).Pairwise (·<=·)
 |[],_=>by simp[lB]
 |y::a,h=>by
  have c:=List.pairwise_cons.1 h;unfold lB;split
  ·rename_i e
   refine List.pairwise_cons.2 ⟨λf d=>?_,h⟩;rcases dd d with rfl|d
   ·exact e
   exact Int.le_trans e (c.1 f d)
  rename_i f
  refine List.pairwise_cons.2 ⟨λe d=>?_,vh b a c.2⟩;rcases dd ((rI b a).mem_iff.1 d)with rfl|d
  ·omega
  exact c.1 e d
theorem rJ:∀a:List Int,(d2 a).Pairwise (·<=·)
 |[]=>List.Pairwise.nil
 |x::a=>vh x _ (rJ a)
theorem vi:∀(a b:List Int),a.Perm b->a.Pairwise (·<=·)->b.Pairwise (·<=·)->a=b
 |[],b,h,_,_=>(List.nil_perm.1 h).symm
 |x::a,[],h,_,_=>by have:=h.length_eq;simp at this
 |x::a,y::b,h,h1,h2=>by
  have e:=List.pairwise_cons.1 h1;have f:=List.pairwise_cons.1 h2;have g:x=y:=by
   have c:=h.mem_iff.1 (List.mem_cons_self ..);have d:=h.mem_iff.2 (List.mem_cons_self ..);rcases dd c with c|c
   ·exact c
   rcases dd d with d|d
   ·exact d.symm
   have:=e.1 y d;have:=f.1 x c;omega
  subst g;rw[vi a b (List.Perm.cons_inv h) e.2 f.2]
theorem CK (l:List Int):(l.mergeSort λx a=>decide (x<=a))=d2 l:=by
 refine vi _ _ ((List.mergeSort_perm l _).trans (oJ l).symm) ?_ (rJ l);have h:=List.pairwise_mergeSort (le:=λx a:Int=>decide (x<=a)) (λa a a a a=>by simp at*;omega) (λa a=>by simp;omega) l;exact h.imp (λh=>by simpa using h)
theorem CL {f:Type} (b:Int) (l:List At) (a:dl) (c:List dl) (e:List At->RO f):(fy b l (a::c)).bind e=
 RO.ap (bD a.name&&aZ a.k 1 4) 1 b (RO.ap (decide (bH l a.name<0)) 9 b (RO.ap a.d.ok 2 b (RO.ap (decide (a.d.k=0)||decide (a.d.k=a.k)) 10 b ((fy b (l++[⟨a.name,a.k,[],a.d⟩]) c).bind e)))):=by
 rw[fy];simp only[RO.gK]
theorem vj (b:Int) (d:List At):∀(c:bm) (l a:List Int),dv b d l c=.ok a->a.length=l.length+c.length
 |[],l,a,h=>by
  rw[dv]at h;injection h with h
  rw[h];rfl
 |s::c,l,a,h=>by
  rw[dv]at h;cases h1:cO b d s with
  |bad e f=>rw[h1]at h;cases h
  |ok f=>
   rw[h1]at h;have e:RO.ap (!l.any λe=>decide (e=f)) 9 b (dv b d (l++[f]) c)=.ok a:=h;unfold RO.ap at e;split at e
   ·have:=vj b d c _ a e
    simp at this⊢;omega
   cases e
theorem Tryz.CM:(Tryz.prog.info? 81).map (λa=>(a.zero,a.size,a.bytes))=some (some (.agg #[ah,aa,aa]),3,64):=ak
theorem RT.CN (a:RT):a.cells.length=3:=rfl
theorem CO (C ad:Nat) (i:RI) (u1 u2 u3 u4 u5 u6 u7:ay) (G:aX) (j H:Nat) (I:List RT) (o:af) (bf:J o C 157 #[U G j H,u1,u2,u3,u4,u5,u6,u7,i.at_])
 (aS:aF o 5 i.pF dl.cells i.cD) (bI:∀x∈i.cD,x.bY) (aU:b4 o i.il i.names) (bK:i.names.length<=5001) (bL:aG i.name) (bM:o.ownsRow ad 81 3 (U G j H) j (I.flatMap RT.cells)) (dc:I.length=j) (bO:C<ad) (q:ad<=o.heap.size) (dd:j<=1000):
 Calls Tryz.prog 62 #[aj C,.agg i.cells.toArray] o λe w'=>jh o (fL (I.map RT.tb) i.it) (λx w'=>iI o w' C ad 81 3 RT.cells RT.tb fM G j H I x (λdd=>#[dd,u1,u2,u3,u4,u5,u6,u7,i.at_])) e w':=by
 obtain⟨de,df,dg,dh,di⟩:=info_parts Tryz.infoAt;obtain⟨dj,dk,dm,dn,dq⟩:=info_parts Tryz.CM;have ak:=Z aS;have aV:=Z aU;have bP:=Z bI;have bR:=Z bL;have bS:=aS.1;have bT:=aS.2.1;have bU:=aU.1.1;have bW:=aU.1.2.1;have bg:=Z bM;have al:=Z bf;have dr:=bf.lt;obtain⟨E,bk⟩:=aq (fL (I.map RT.tb) i.it);rw[<-bk];clear aS aU bI bL bM bf;obtain⟨bX,n,k,bZ,b0,⟨aW,b5,bm⟩,m,⟨an,b6,ao⟩,u,b7,b8,b9,⟨ca,cb,cc⟩,es,ce,cf,⟨cg,ch,ci⟩,et,⟨ck,cl,cm⟩,eu,⟨cn,co,cp⟩,ev,⟨cq,cr,⟨cs,ct,cu⟩,ew,⟨ar,cv,cw⟩,ex,⟨cx,cy,cz⟩,ey,cA,cE,cG,cH⟩⟩:=i;have ds:m.length=b5:=bS;have dt:u.length=b6:=bU;have aS:b5<=9223372036854775807:=bT;have aS:b6<=9223372036854775807:=bW;have du:u.length<=5001:=bK;clear bS bU bT bW bK;subst ds dt;have aU:Hid (aF o 5 ⟨aW,m.length,bm⟩ dl.cells m):=ak;have bf:Hid (b4 o ⟨an,u.length,ao⟩ u):=aV;have dw:Hid (∀x∈m,x.bY):=bP;have bp:Hid (aG n):=bR;obtain⟨D,aS⟩:∃D:List At->RO Tb,D=λf=>RO.ap (decide (0<u.length)) 1 k ((dv k f [] u).bind λb=>.ok ⟨n,f,d2 b⟩):=⟨_,rfl⟩;have cI:=Z (λf=>congrFun aS f);have L:=Z (show E=RO.ap (decide (j<20)&&aZ (m.length:Int) 1 12) 3 k ((fy k [] m).bind D) by
  have b:(I.map RT.tb).length=j:=by rw[List.length_map];exact dc
  rw[bk,aS,<-b];rfl)
 have bI:Hid (J o C 157 #[U G j H,u1,u2,u3,u4,u5,u6,u7,k]):=al;clear bk aS ak aV bP bR al;have al:=bI;have ak:=aU;have aV:=bf;clear bI aU bf;have dx:=Z (Kp.refl [] o);show Calls Tryz.prog 62 #[aj C,.agg #[bX,n,k,bZ,b0,U aW m.length bm,U an u.length ao,b7,b8,b9,U ca cb cc,ce,cf,U cg ch ci,U ck cl cm,U cn co cp,cq,cr,U cs ct cu,U ar cv cw,U cx cy cz,cA,cE,cG,cH]] o _;go_enter Tryz.func62,Tryz.ntmps62
 go_upto_region 1 with(fail)
 obtain⟨r,aS,aw,b,aU⟩:=nb o 95 _;rw[aS];clear aS;have a0:=qk dx b;have aS:=qb b al;have dy:=Z (ak.same b);clear b;clear aU;have dz:=az aS;have a1:=bN aS;have aS:=J.lt aS;have dA:=bQ aw;have dB:=J.lt aw;have M:=Z (λc=>fj (m.length:Int) 1 12 c);obtain⟨dD,aS⟩:=aq (aZ (m.length:Int) 1 12);rw[<-aS]at M L;have cK:=Z aS;clear aS;have a2:decide ((j:Int)<20)=decide (j<20):=by by_cases h:j<20<;>simp[h]<;>omega
 by_cases a3:j<20
 case neg=>
  have c:decide ((j:Int)<20)=false:=by rw[a2];exact decide_eq_false a3
  rw[decide_eq_false a3,Bool.false_and]at L;clear a2;go_wp2_with fail
  exact bv a0 L a1
 have dE:decide ((j:Int)<20)=true:=by rw[a2];exact decide_eq_true a3
 rw[decide_eq_true a3,Bool.true_and]at L;clear a2;go_wp2_with fail
 refine(M r).mono ?_;rintro e w' ⟨rfl,rfl⟩;cases dD
 case false=>
  go_wp2_with fail
  exact bv a0 L a1
 go_wp2_with fail
 refine bJ a0 L a1 λcL=>?_;have aS:m.length<=12:=by have h:=cK.out.symm;unfold aZ at h;simp at h;omega
 clear L M cK dE dz dA;have dF:=aY aw;have dB:=J.lt aw;go_upto_region 3 with(fail)
 obtain⟨dG,L,dH,b,-⟩:=nb r 81 #[n,aa,aa];rw[L];clear L;have dI:=qk a0 b;have cM:=qb b aw;have L:=Z (dy.same b);clear b;clear dF a1;have dJ:=bQ cM;go_upto_region 4 with(fail)
 clear dJ;go_loopg [29] (m.length+1) (λw y wr=>∃(c:Nat) (f:List RA) (g:aX) (t:Nat),y=.int .i64 c/\c<=m.length/\m.length-c<w/\f.length=c/\dG.heap.size<=wr.heap.size/\Hid (wr.ownsRow (r.heap.size+1) 111 6 (U g c t) c (f.flatMap RA.cells))/\Hid (J wr r.heap.size 81 #[n,U g c t,aa])/\Hid (J wr o.heap.size 95 #[bX,n,k,bZ,b0,U aW m.length bm,U an u.length ao,b7,b8,b9,U ca cb cc,ce,cf,U cg ch ci,U ck cl cm,U cn co cp,cq,cr,U cs ct cu,U ar cv cw,U cx cy cz,cA,cE,cG,cH])/\Hid (∀i∈f,gL i/\aG i.at_.name/\aG i.at_.dflt.s)/\Hid (Kp [] o wr)/\Hid (E=(fy k (f.map RA.at_) (m.drop c)).bind D))
 case atStart=>exact⟨0,[],none,0,rfl,by omega,by omega,rfl,by omega,Z ⟨rfl,.inl ⟨rfl,rfl⟩⟩,dH,cM,Z (λi c=>by cases c),dI,cL⟩
 obtain⟨c,f,y,z,rfl,ez,cN,cO,eA,bq,T,br,ax,F,a4⟩:=hrel;have cP:=Z cN;have N:=Z cO;clear cN cO cL;have dK:=F.size;have dL:=Z (ak.same F.same);have dN:=Z (aV.same F.same);have bs:=qo F al;by_cases P:c<m.length
 case neg=>
  have L:¬(c:Int)<m.length:=ae
  have aI:=Z (show E=RO.ap (decide (0<u.length)) 1 k ((dv k (f.map RA.at_) [] u).bind λg=>.ok ⟨n,f.map RA.at_,d2 g⟩) by rw[a4.out,List.drop_of_length_le ae];exact cI.out _);clear a4 cI;have dO:=cd br;have Y:=bN bs;by_cases bA:0<u.length
  case neg=>
   have g:=Z (show E=RO.ap false 1 k _ by rw[aI.out,decide_eq_false bA]);go_wp2_with fail
   exact bv F g Y
  have bB:=Z (show E=RO.ap true 1 k _ by rw[aI.out,decide_eq_true bA]);go_wp2_with fail
  refine bJ F bB Y λdP=>?_;clear aI bB;have L:=kQ bq N (by have:=N.out;omega) ax;have ak:=Z (ua C ⟨n,⟨y,c,z⟩,f,aJ,[]⟩ ⟨an,u.length,ao⟩ u k wr (aT dr dK) Y ⟨L.a,aF.none_ wr 1 _,bp⟩ dN du);have bE:Hid (Calls Tryz.prog 113 #[aj C,.agg #[n,U y c z,aa],U an u.length ao] wr λe w'=>RP [] wr (dv k (f.map RA.at_) [] u) (dM wr.heap.size 1 cj (λ_=>True)) e w'):=ak;clear ak L;have dR:=az T;have dS:=aY T;have dT:=bh T;have L:=J.lt T;have dU:=Z (Kp.refl [] wr);go_wp2_with fail
  refine dC dP bE (eL F) ?ah;intro a aL A bF dV dW Q;obtain⟨⟨ar,cQ,W⟩,cR,aM,_,eB,eC⟩:=dW;have dX:aL=.slice ar cQ W:=cR;clear cR;subst dX;have u:a.length=u.length:=by have:=vj _ _ _ _ _ bF;simpa using this
  have dY:0<a.length:=ae
  clear u;have dZ:a.length=cQ:=aM.1;subst dZ;have aN:=Z aM;clear aM bF;have cS:=Z (F.trans Q);have d0:=qo Q bs;have d1:=qo Q br;have d3:=qo Q T;have d4:=Z (aH (Q.same) bq);have d7:=Z (dU.trans Q);have u:=cS.size;clear Q;clear bE;obtain⟨R,S,a5,d8,_⟩:=aN.2.2 0 dY;have d9:ar=some ⟨R,S,none⟩:=a5;have cT:∀B (aB:B<a.length),ac A (ab R (S+B)) (O a[B]):=λB aB=>by
   obtain⟨u,L,t,_,w⟩:=aF.one aN B aB (v:=.int .i64 a[B]) rfl;have g:=a5.symm.trans t;injection g with g
   injection g with e1 e2
   rw[e1,e2];exact w
  subst d9;clear a5 aN;have u:=Z (Ax ⟨some ⟨R,S,none⟩,a.length,W⟩ A);have cU:Hid (Calls Tryz.prog 112 #[U (some ⟨R,S,none⟩) a.length W] A λe w'=>e=.returned (.func (.func 186) #[] #[aj A.heap.size])/\w'=A.alloc (.cells #[U (some ⟨R,S,none⟩) a.length W] 60)):=u;clear u;have cV:=Z (Aw A.heap.size R S W a ae (A.alloc (.cells #[U (some ⟨R,S,none⟩) a.length W] 60)) aC ai ai (λB aB=>(World.cell?_alloc_lt _ _ _ d8).trans (cT B aB)));clear cT;go_wp2_with fail
  refine cU.mono ?_;rintro e w' ⟨rfl,rfl⟩;go_wp2_with fail
  refine cV.mono ?_;rintro e a6 ⟨aL,rfl,cW,cX⟩;have b:=Z (((ag.refl A).alloc _).trans cX);have cZ:Hid (a6.ownsRow A.heap.size 3 1 aL a.length ((d2 a).map encZ)):=Z (by rw[<-CK];exact uS cW (by simp));clear cX cW cU cV;have ea:=qk cS b;have eb:=qb b d0;have ec:=qb b d1;have a7:=qb b d3;have ed:=Z (aH b d4);obtain⟨t,w,ee,_⟩:=bo cZ;subst ee;clear b dR dS dT dO Y;have ef:=bh a7;have eg:=λc=>J.frozen a7 c;go_upto_region 14 with(fail)
  have B:=Z (qF a7 (U t a.length w));have u:=Z (Kp.aE (p:=(am r 2)) (l:=[r.heap.size]) ai (Kp.refl [r.heap.size] a6) (U t a.length w));obtain⟨g,A⟩:=aq (a6.setCell (am r 2) (U t a.length w));rw[<-A]at B u⊢;clear A;have a8:=Z (u.old ea (λA q P=>absurd P (by rw[aA q];omega)));have a9:=qo u eb;have A:=qo u ec;have A:=a8.size;have L:=u;have A:=B;clear B u;have c0:=Z (bC ed L (λu q=>by have:=aA q;omega));have eh:=Z (bC cZ L (λu q=>by have:=aA q;have:=d7.out.size;omega));clear ef eg;have u:=az a9;have ba:=az A;have bt:=aY A;have bu:=bh A;have B:=J.lt A;have ei:=Z (aH a8.same bg);have A:=J.lt A;have A:=J.lt a9;refine kH 10 u ba bt bu λhS=>?_;refine cJ ?_;refine jl ?_;refine tk 7 hS ?_;have ej:(λw':World=>ac w' (ab C 0) (U G j H)/\ac w' (am r 0) n/\ac w' (am r 1) (U y c z)/\ac w' (am r 2) (U t a.length w)) (g.drew.alloc (.cells #[n,U y c z,U t a.length w] 81)):=⟨bi u,bi ba,bi bt,bi bu⟩;refine aK 8 (λK X=>?_);go_simp;refine X _ _ (λ_=>ej) ?_;refine av ?_;have c1:=Z (aH ((ag.refl g.drew).alloc (.cells #[n,U y c z,U t a.length w] 81)) (aH ((ag.refl g).drew) ei));have c2:=Z (cC g.drew #[n,U y c z,U t a.length w] 81 3 rfl);have c3:=Z (a9.drew.alloc (.cells #[n,U y c z,U t a.length w] 81));refine aK 9 (λK X=>?_);refine c7 (g.drew.alloc _) (.tmp 102) (.tmp 104) 27 rfl ad 81 dj _ 3 64 Tryz.underlying27 dk dm dn dq rfl au (U G j H) j (I.flatMap RT.cells) rfl c1 (g.heap.size+1) (some ⟨g.heap.size,0,none⟩) 1 1 ((_:aO).toList) rfl c2 bl b1 ae cB ?_;intro u u bx c4 c5;obtain⟨c6,c8,rfl,ek⟩:=bo bx;have hrow:=b3 bg;have u:some C≠(.slice G j H:ay).ownBlock:=λe=>by have:=hrow C e.symm;omega
  have bz:=Z (c3.grown c4 u);have A:=az bz;have u:=λc=>J.frozen bz c;have el:=Z bx;have aD:=Z (fm (((Kp.refl [] g).drew).alloc _) c4);have em:=Z (show(Value.slice c6 (j+1) c8).ownBlock=(.slice G j H:ay).ownBlock\/∃u,(Value.slice c6 (j+1) c8).ownBlock=some u/\g.heap.size<=u from c5.imp id (λh=>⟨_,h,by simp[d5]⟩));clear bx c5 ek c1 c2 c3;refine X _ _ (λ_=>⟨A,bw aD ba,bw aD.out bt,bw aD.out bu⟩) ?_;refine av ?_;refine b2 ?_;refine tq 10 ?_;refine tq 11 ?_;refine tq 12 ?_;refine tq 13 ?_;refine dp 14 (λK X=>?_);go_simp;refine X _ _ ?_;refine av ?_;refine bV ?_;go_wp2_with fail
  refine bodyPost_ret (results_none rfl _ _ _) rfl ?_;rw[dV.out];have en:=(oJ a).length_eq;have eo:=kQ c0 N (by have:=N.out;omega) ax;have ep:(d2 a).map encZ=(d2 a).flatMap cj:=by
   induction d2 a with
   |nil=>rfl
   |cons x eD eq=>rw[List.map_cons,eq];rfl
  have j:=eh.out;rw[ep]at j;have u:dQ g ⟨t,a.length,w⟩ (d2 a):=cF (h:=⟨t,a.length,w⟩) cj.len en (by show a.length<=_;omega) j;have o:fM g (Bw o.heap.size g.heap.size) ⟨n,⟨y,c,z⟩,f,⟨t,a.length,w⟩,d2 a⟩:=
   ⟨⟨eo.a,u,bp.out⟩,(lX c0.out).mono (λu q=>⟨by have:=q.1;omega,q.2⟩),(lX j).mono (λj q=>⟨by have:=q.1;omega,q.2⟩),λi j=>(ax.out i j).1⟩
  exact⟨rfl,iI.of (val:=RT.tb) (At:=fM) fM.mono fM.keep a8 bg bO q o (fo.jg (enc:=RT.cells) (x:=⟨n,⟨y,c,z⟩,f,⟨t,a.length,w⟩,d2 a⟩) (ag.refl g) bz el aD bO rfl em)⟩
 have j:(c:Int)<m.length:=ae
 have j:(0:Int)<=c:=ae
 obtain⟨S,of,o,j,Q⟩:=dL.2.2 c P;have c2:aW=some ⟨S,of,none⟩:=o;have a5:=Z (dw _ (List.getElem_mem P));obtain⟨c3,j⟩:=aq (m[c]);rw[<-j]at Q a5;have cQ:=Z (show E=_ by rw[a4.out,List.drop_eq_getElem_cons P,CL,<-j]);clear j o a4;obtain⟨w,t,⟨g,A,B⟩⟩:=c3;have aB:Hid (E=RO.ap (bD w&&aZ t 1 4) 1 k (RO.ap (decide (bH (f.map RA.at_) w<0)) 9 k (RO.ap (V.ok ⟨g,A,B⟩) 2 k (RO.ap (decide (g=0)||decide (g=t)) 10 k ((fy k (f.map RA.at_++[⟨w,t,[],⟨g,A,B⟩⟩]) (m.drop (c+1))).bind D))))):=cQ;clear cQ;have c4:ac wr (ab S (of+c*5)) w:=by simpa using Q 0 _ rfl
 have cR:ac wr (ab S (of+c*5+1)) t:=Q 1 _ rfl;have c5:ac wr (ab S (of+c*5+2)) g:=Q 2 _ rfl;have c6:ac wr (ab S (of+c*5+3)) A:=Q 3 _ rfl;have c8:ac wr (ab S (of+c*5+4)) B:=Q 4 _ rfl;have j:IntKind.i64.wrap ((c:Int)+1)=(c:Int)+1:=IntWalk.i64_in _ ae;clear Q;subst c2;go_upto_region 6 with(fail)
 clear c4 cR c5 c6 c8;obtain⟨W,j,bt,b,-⟩:=nb wr 208 #[w,t,g,A,B];rw[j];clear j;have aD:=qk F b;have cS:=qb b bs;have dO:=qb b br;have a6:=qb b T;have cT:=Z (aH b bq);have j:=aD.size;clear b;have dP:=az bt;have dR:=aY bt;have bu:=bN cS;have a7:=Z (pu w W a5.name);have M:=Z (fj t 1 4 W);obtain⟨dS,j⟩:=aq (bD w);obtain⟨cU,o⟩:=aq (aZ t 1 4);rw[<-j]at a7 aB;rw[<-o]at M aB;clear j o;cases dS
 case false=>
  go_wp2_with fail
  refine a7.mono ?_;rintro e w' ⟨rfl,rfl⟩;go_wp2_with fail
  exact bv aD aB bu
 have bx:=Z (show E=RO.ap cU 1 k _ from aB);clear aB;go_wp2_with fail
 refine a7.mono ?_;rintro e w' ⟨rfl,rfl⟩;go_wp2_with fail
 refine M.mono ?_;rintro e w' ⟨rfl,rfl⟩;cases cU
 case false=>
  go_wp2_with fail
  exact bv aD bx bu
 go_wp2_with fail
 refine bJ aD bx bu λaI=>?_;have dT:=az a6;have dU:=aY a6;have dV:=bh a6;clear bx a7 M;have j:=kQ cT N (by have:=N.out;omega) ax;have o:=Z (pq ⟨n,⟨y,c,z⟩,f,aJ,[]⟩ w W ⟨j.a,aF.none_ W 1 _,bp⟩);clear j;have bz:Hid (Calls Tryz.prog 55 #[.agg #[n,U y c z,aa],w] W λe w'=>e=.returned (O (bH (f.map RA.at_) w))/\ag W w'):=o;obtain⟨dW,j⟩:=aq (bH (f.map RA.at_) w);rw[<-j]at bz aI;clear o j;go_wp2_with fail
 refine(bz).mono ?_;rintro e bA ⟨rfl,b⟩;have bB:=qk aD b;have cV:=qb b cS;have dX:=qb b dO;have dY:=qb b a6;have a8:=qb b bt;have dZ:=Z (aH b cT);clear b;clear bz dT dU dV;have cW:=bN cV;obtain⟨tq,j⟩:=aq (decide (dW<0));have d0:=j.symm;rw[<-j]at aI;clear j;cases tq
 case false=>
  go_wp2_with fail
  exact bv bB aI cW
 go_wp2_with fail
 refine bJ bB aI cW λa9=>?_;clear aI d0 dP dR;have d1:=bh a8;have d3:=bj a8;have d4:=bn a8;have j:=Z (ng ⟨g,A,B⟩ bA);have bE:Hid (Calls Tryz.prog 42 #[.agg #[g,A,B]] bA λe w'=>e=.returned (.bool (V.ok ⟨g,A,B⟩))/\ag bA w'):=j;obtain⟨d7,n⟩:=aq (V.ok ⟨g,A,B⟩);rw[<-n]at bE a9;clear n j;go_wp2_with fail
 refine(bE).mono ?_;rintro e aL ⟨rfl,b⟩;have R:=qk bB b;have j:=qb b cV;have d8:=qb b dX;have bF:=qb b dY;have X:=qb b a8;have cX:=Z (aH b dZ);have n:=R.size;clear b;clear bE d1 d3 d4;have aM:=bN j;cases d7
 case false=>
  go_wp2_with fail
  exact bv R a9 aM
 go_wp2_with fail
 refine bJ R a9 aM λba=>?_;clear a9;have b:=az X;have b:=aY X;have b:=bh X;have b:=bj X;have b:=bn X;have b:=J.lt X;by_cases Y:g=0
 case' pos=>
  have cZ:(g==0)=true:=by simp[Y]
  have aN:=Z (show E=RO.ap true 10 k _ by rw[ba.out,decide_eq_true Y,Bool.true_or]);clear ba Y;go_wp2_with fail
  refine bJ R aN aM λbG=>?_;clear aN cZ
 case' neg=>
  have c0:(g==0)=false:=by simp[Y]
  have cZ:(g==t)=decide (g=t):=by by_cases h:g=t<;>simp[h]
  have aN:=Z (show E=RO.ap (g==t) 10 k _ by rw[ba.out,decide_eq_false Y,Bool.false_or,cZ]);generalize c1:(g==t)=d9 at aN;clear ba Y cZ;cases d9
  case false=>
   go_wp2_with fail
   exact bv R aN aM
  go_wp2_with fail
  refine bJ R aN aM λbG=>?_;clear aN c0 c1
 all_goals
  have b:=aY bF;have b:=J.lt bF;have cZ:=Z (aH ((ag.refl aL).alloc (.cells #[w,t,aa,g,A,B] 111)) cX);have c0:=Z (cC aL #[w,t,aa,g,A,B] 111 6 rfl);have hrow:=b3 cX;go_upto_region 11 with(first|(at_builtin;refine d6 _ rfl (.tmp 70) (.tmp 78) 79 rfl (r.heap.size+1) 111 de _ 6 80 Tryz.underlying79 df dg dh di rfl au (U y c z) c (f.flatMap RA.cells) rfl cZ.out (aL.heap.size+1) (some ⟨aL.heap.size,0,none⟩) 1 1 (#[w,t,aa,g,A,B]:Array Value).toList rfl c0.out bl b1 ae aC ?_;intro cR aP aN c1 d9;obtain⟨aQ,aR,rfl,ea⟩:=bo aN;have c9:=Z aN;have D:=Z c1;clear aN c1 d9 ea;have bb:=Z (J.grown (bF.out.alloc (.cells #[w,t,aa,g,A,B] 111)) D.out (λe=>by have:=(hrow _ e.symm).1;omega));have da:ac aP (am r 1) (U y c z):=J.cell bb.out 1;have db:=λc=>J.frozen bb.out c)|fail)
  have n:=Z (J.grown (d8.alloc _) D (λe=>by have:=(hrow _ e.symm).1;omega));have o:=Z ((R.alloc _).grown D (λb j=>.inr (by have:=hrow b j;omega)));have b:aL.heap.size<=aP.heap.size:=by have:=D.out.size;simp at this;omega
  clear cZ c0 D hrow da db;have j:=Z (xN bb (U aQ (c+1) aR));have b:=Z (Kp.aE (p:=(am r 1)) (l:=[r.heap.size]) ai (Kp.refl [r.heap.size] aP) (U aQ (c+1) aR));obtain⟨r,k⟩:=aq (aP.setCell (am r 1) (U aQ (c+1) aR));rw[<-k]at j b⊢;clear k;have d9:=Z (b.old o (λk q P=>absurd P (by rw[aA q];omega)));have ea:=qo b n;have c1:=b;have eb:=j;clear j b;go_wp2_with fail
  go_roundg (m.length-c)
  case measure=>have:=cP.out;omega
  refine⟨c+1,f++[(⟨⟨w,t,[],⟨g,A,B⟩⟩,aJ⟩:RA)],aQ,aR,by go_num,by omega,by have:=cP.out;omega,by rw[List.length_append,N.out];rfl,by have:=c1.out.size;omega,Z (bC (by rw[List.flatMap_append];exact c9.out) c1.out (λb q=>by have:=aA q;omega)),eb,ea,Z ?_,d9,Z (by rw[List.map_append];exact bG.out)⟩;intro i aN;rcases cY aN with aN|aN
  ·exact ax i aN
  rw[aA aN];exact⟨⟨rfl,rfl⟩,a5.name,a5.d.s1⟩
structure ej where
 t:TypeId
 m:Nat
 h:Hd
 cs:List Value
 N:World->(Nat->Prop)->Prop
def ej.own (a:ej):Option Nat:=a.h.val.ownBlock
def rK (a b:bg) (c:List ej) (d:Nat) (e:Int):List Value:=a++(c.map (λa:ej=>a.h.val)++(b++[Value.map (some d),Value.int .i64 e]))
structure ej.bY (r:ej):Prop where
 mono:∀(w:af) (S S':Nat->Prop),r.N w S->(∀b,S b->S' b)->r.N w S'
 keep:∀(w w':af) (S:Nat->Prop) (l:List Nat),r.N w S->Kp l w w'->(∀b∈l,¬S b)->r.N w' S
def rL (b:Nat->Prop) (c:List ej) (d:List (Int×Nat)) (a:Nat):Prop:=b a/\(∀b∈d,b.2≠a)/\∀b∈c,b.own≠some a
structure cK (w:af) (X M base:Nat) (B:Nat->Prop) (pre post:bg) (rs:List ej) (nm:Bool) (l:List (Int×Nat)) (u:cI) (a:Int):Prop where
 bx:J w X 157 (rK pre post rs M a).toArray
 hX:X<base
 hM:M<X
 hb:base<=w.heap.size
 lt:∀b,B b->base<=b/\b<w.heap.size
 na:nm=true->dT w M l u
 nin:∀p∈l,B p.2
 gO:∀p∈l,∀r∈rs,r.own≠some p.2
 own:∀r∈rs,w.ownsRow base r.t r.m r.h.val r.h.n r.cs
 eP:∀r∈rs,∀b,r.own=some b->B b
 one:∀(i j:Nat) (r s:ej) (b:Nat),rs[i]?=some r->rs[j]?=some s->r.own=some b->s.own=some b->i=j
 fine:∀r∈rs,r.bY
 nest:∀r∈rs,r.N w (rL B rs l)
theorem l8 {c d e:Nat} {a:bb} {v:ay} {xs:bg} {f i:af} (j:f.ownsRow c a d v e xs) {k:List Nat} (m:Kp k f i) (n:∀f,v.ownBlock=some f->f∉k):i.ownsRow c a d v e xs:=by
 refine⟨j.1,?_⟩;rcases j.2 with h|⟨b,o,p,l,q,r,s⟩
 ·exact .inl h
 exact .inr ⟨b,o,p,l,q,m.blk (g:=b) (t:=a) r (n b (by rw[l];rfl)),s⟩
theorem cK.kp {w f:af} {X b g:Nat} {e:Nat->Prop} {i j:bg} {m:List ej} {n:Bool} {l:List (Int×Nat)} {u:cI} {o:Int} (h:cK w X b g e i j m n l u o) {k:List Nat} (c:Kp k w f) (d:∀a∈k,a≠X/\a≠b/\¬e a):cK f X b g e i j m n l u o:=
 {
  bx:=c.blk h.bx (λb=>(d _ b).1 rfl),hX:=h.hX,hM:=h.hM,hb:=bR h.hb c.size
  lt:=λa b=>⟨(h.lt a b).1,aT (h.lt a b).2 c.size⟩
  na:=λe=>(h.na e).kp c (λa b=>⟨(d a b).2.1,λe f g=>(d a b).2.2 (g▸h.nin e f)⟩)
  nin:=h.nin,gO:=h.gO
  own:=λe f=>l8 (h.own e f) c (λa b g=>(d a g).2.2 (h.eP e f a b))
  eP:=h.eP,one:=h.one,fine:=h.fine
  nest:=λe f=>(h.fine e f).keep _ _ _ _ (h.nest e f) c (λa b c=>(d a b).2.2 c.1)}
theorem cK.at_ {w b:af} {c d base:Nat} {B:Nat->Prop} {e f:bg} {rs:List ej} {g:Bool} {l:List (Int×Nat)} {u:cI} {a i:Int} (h:cK w c d base B e f rs g l u a) (s:Kp [c] w b) (j:J b c 157 (rK e f rs d i).toArray):cK b c d base B e f rs g l u i:=by
 have f:¬B c:=λb=>by have:=(h.lt c b).1;have:=h.hX;omega
 have d:d≠c:=aW h.hM;exact
 {
  bx:=j,hX:=h.hX,hM:=h.hM,hb:=bR h.hb s.size
  lt:=λc b=>⟨(h.lt c b).1,aT (h.lt c b).2 s.size⟩
  na:=λe=>(h.na e).kp s (λc b=>by
   rw[aA b];exact⟨d.symm,λd e g=>f (g▸h.nin d e)⟩)
  nin:=h.nin,gO:=h.gO
  own:=λd e=>l8 (h.own d e) s (λc b g=>f (aA g▸h.eP d e c b))
  eP:=h.eP,one:=h.one,fine:=h.fine
  nest:=λd e=>(h.fine d e).keep _ _ _ _ (h.nest d e) s (λc b c=>f (aA b▸c.1))}
theorem cK.names {w j:af} {m g base:Nat} {B:Nat->Prop} {q r:bg} {rs:List ej} {s:Bool} {l i:List (Int×Nat)} {y t:cI} {u:Int} (h:cK w m g base B q r rs s l y u) (k:Kp (dm g l) w j) (o:dT j g i t) (A:∀b∈dm g i,b∈dm g l\/w.heap.size<=b):
 cK j m g base (λb=>B b\/Bw w.heap.size j.heap.size b) q r rs s i t u:=by
 have v:¬B g:=λhb=>by have:=(h.lt g hb).1;have:=h.hX;have:=h.hM;omega
 have C:¬B m:=λhb=>by have:=(h.lt m hb).1;have:=h.hX;omega
 have p:∀a∈i,(a.2∈l.map (·.2))\/w.heap.size<=a.2:=λa f=>by
  have e:a.2∈dm g i:=List.mem_cons_of_mem _ (List.mem_map.2 ⟨a,f,rfl⟩);rcases A _ e with c|c
  ·rcases dd c with d|d
   ·exact absurd d (o.out a f)
   exact .inl d
  exact .inr c
 have D:∀a∈i,a.2<j.heap.size:=λa f=>o.lt _ (List.mem_cons_of_mem _ (List.mem_map.2 ⟨a,f,rfl⟩));have E:∀a∈i,∀d∈rs,d.own≠some a.2:=λa f d e c=>by
  rcases p a f with n|n
  ·obtain⟨g,i,j⟩:=List.mem_map.1 n
   exact h.gO g i d e (by rw[j];exact c)
  have:=(h.lt _ (h.eP d e _ c)).2;omega
 exact
 {bx:=k.blk h.bx (λn=>by
  rcases dd n with c|c
  ·have:=h.hM;omega
  ·obtain⟨g,i,j⟩:=List.mem_map.1 c
   exact C (j▸h.nin g i))
  hX:=h.hX,hM:=h.hM,hb:=bR h.hb k.size
  lt:=λb hb=>by
   have z:=k.size;have hbb:=h.hb;exact Id
  na:=λ_=>o
  nin:=λa f=>by
   rcases p a f with n|n
   ·obtain⟨g,i,j⟩:=List.mem_map.1 n
    exact .inl (j▸h.nin g i)
   exact .inr ⟨n,D a f⟩
  gO:=E
  own:=λd e=>l8 (h.own d e) k (λb hb n=>by
   rcases dd n with c|c
   ·exact v (c▸h.eP d e b hb)
   obtain⟨g,i,j⟩:=List.mem_map.1 c;exact h.gO g i d e (by rw[j];exact hb))
  eP:=λd e b hb=>.inl (h.eP d e b hb)
  one:=h.one,fine:=h.fine
  nest:=λd e=>(h.fine d e).mono _ _ _ ((h.fine d e).keep _ _ _ _ (h.nest d e) k (λb hb n=>by
   rcases dd hb with c|c
   ·exact v (c▸n.1)
   obtain⟨d,e,g⟩:=List.mem_map.1 c;exact n.2.1 d e g)) (λb n=>⟨.inl n.1,λa f c=>by
    rcases p a f with x|x
    ·obtain⟨a,d,e⟩:=List.mem_map.1 x
     exact n.2.1 a d (e.trans c)
    have:=(h.lt b n.1).2;omega,n.2.2⟩)}
theorem pV {e:Type} {f:List e} {b a:Nat} {g c:e} (h:(f.set b g)[a]?=some c):(a=b/\c=g)\/(a≠b/\f[a]?=some c):=by
 by_cases d:b=a
 ·subst d
  rw[List.getElem?_set]at h;simp at h;exact .inl ⟨rfl,h.2.symm⟩
 rw[List.getElem?_set_ne d]at h;exact .inr ⟨λa=>d a.symm,h⟩
theorem l9 {c:Type} {d:List c} {e:Nat} {f b:c} (h:b∈d.set e f):b=f\/∃a,a≠e/\d[a]?=some b:=by
 obtain⟨a,g⟩:=List.mem_iff_getElem?.1 h;rcases pV g with⟨_,h⟩|⟨i,j⟩
 ·exact .inl h
 exact .inr ⟨a,i,j⟩
theorem cK.push {w j:af} {p y A:Nat} {x:Nat->Prop} {E F:bg} {o:List ej} {L:Bool} {l:List (Int×Nat)} {M:cI} {W a':Int} (h:cK w p y A x E F o L l M W) {i:Nat} {r r':ej} (G:o[i]?=some r) (B:Kp (p::r.own.toList) w j)
 (X:J j p 157 (rK E F (o.set i r') y a').toArray) (O:j.ownsRow A r'.t r'.m r'.h.val r'.h.n r'.cs) (Y:r'.own=r.own\/∃H,r'.own=some H/\w.heap.size<=H) (Z:r'.bY)
 (aa:∀S:Nat->Prop,r.N j S->(∀b,Bw w.heap.size j.heap.size b/\some b≠r'.own->S b)->r'.N j S):
 cK j p y A (λb=>x b\/Bw w.heap.size j.heap.size b) E F (o.set i r') L l M a':=by
 have q:r∈o:=List.mem_of_getElem? G;have P:¬x p:=λhb=>by have:=(h.lt p hb).1;have:=h.hX;omega
 have ab:¬x y:=λhb=>by have:=(h.lt y hb).1;have:=h.hX;have:=h.hM;omega
 have z:=B.size;have hbb:=h.hb;have ac:∀b,r'.own=some b->A<=b/\b<j.heap.size:=λb hb=>b3 O b hb;have C:∀b,r'.own=some b->r.own=some b\/w.heap.size<=b:=λb hb=>by
  rcases Y with a|⟨H,a,c⟩
  ·exact .inl (a▸hb)
  rw[a]at hb;injection hb with hb
  exact .inr (hb▸c)
 have Q:∀b,x b->r.own≠some b->b∉p::r.own.toList:=λb hb ad D=>by
  rcases dd D with a|a
  ·exact P (a▸hb)
  exact ad (jm (v:=r.h.val) a)
 have R:∀e d,e≠i->o[e]?=some d->∀b,d.own=some b->r'.own≠some b:=λe d I a b hb c=>by
  rcases C b c with f|f
  ·exact I (h.one e i d r b a G hb f)
  have:=(h.lt b (h.eP d (List.mem_of_getElem? a) b hb)).2;omega
 have T:∀d∈o,d.N j (rL (λb=>x b\/Bw w.heap.size j.heap.size b) (o.set i r') l):=λd k=>
  (
   h.fine d k).mono _ _ _ ((h.fine d k).keep _ _ _ _ (h.nest d k) B (λb hb f=>Q b f.1 (f.2.2 r q) hb)) (λb f=>⟨.inl f.1,f.2.1,λs u c=>by
   rcases l9 u with rfl|⟨e,_,a⟩
   ·rcases C b c with g|g
    ·exact f.2.2 r q g
    have:=(h.lt b f.1).2;omega
   exact f.2.2 s (List.mem_of_getElem? a) c⟩)
 exact
 {
  bx:=X,hX:=h.hX,hM:=h.hM,hb:=bR h.hb z
  lt:=λb hb=>by
   exact Id
  na:=λj=>(h.na j).kp B (λb hb=>by
   rcases dd hb with c|c
   ·have:=h.hM
    exact⟨by omega,λf g j=>P (c▸j▸h.nin f g)⟩
   have g:=jm (v:=r.h.val) c;exact⟨λf=>ab (f▸h.eP r q b g),λj o f=>h.gO j o r q (by rw[f];exact g)⟩)
  nin:=λs u=>.inl (h.nin s u)
  gO:=λs u f g c=>by
   rcases l9 g with rfl|⟨e,_,a⟩
   ·rcases C _ c with K|K
    ·exact h.gO s u r q K
    have:=(h.lt _ (h.nin s u)).2;omega
   exact h.gO s u f (List.mem_of_getElem? a) c
  own:=λf g=>by
   rcases l9 g with rfl|⟨e,I,a⟩
   ·exact O
   have D:=List.mem_of_getElem? a;exact l8 (h.own f D) B (λb hb=>Q b (h.eP f D b hb) (λc=>I (h.one e i f r b a G hb c)))
  eP:=λf g b hb=>by
   rcases l9 g with rfl|⟨e,_,a⟩
   ·rcases C b hb with K|K
    ·exact .inl (h.eP r q b K)
    exact .inr ⟨K,(ac b hb).2⟩
   exact .inl (h.eP f (List.mem_of_getElem? a) b hb)
  one:=λe K f d b a U g k=>by
   rcases pV a with⟨ae,ag⟩|⟨ah,V⟩
   ·rcases pV U with⟨ai,al⟩|⟨aj,ak⟩
    ·rw[ae,ai]
    exact absurd (ag▸g) (R K d aj ak b k)
   rcases pV U with⟨ak,ai⟩|⟨al,aj⟩
   ·exact absurd (ai▸k) (R e f ah V b g)
   exact h.one e K f d b V aj g k
  fine:=λf g=>by
   rcases l9 g with rfl|⟨e,_,a⟩
   ·exact Z
   exact h.fine f (List.mem_of_getElem? a)
  nest:=λf g=>by
   rcases l9 g with rfl|⟨e,_,a⟩
   ·refine aa _ (T r q) (λb hb=>⟨.inr hb.1,λs u c=>?_,λd k c=>?_⟩)
    ·have:=(h.lt _ (h.nin s u)).2
     have:=hb.1.1;omega
    rcases l9 k with rfl|⟨e,_,a⟩
    ·exact hb.2 c.symm
    have:=(h.lt b (h.eP d (List.mem_of_getElem? a) b c)).2;have:=hb.1.1;omega
   exact T f (List.mem_of_getElem? a)}
def ma (h:Hd) (a:List RT):ej:=⟨81,3,h,a.flatMap RT.cells,λb c=>∀d∈a,fM b c d⟩
theorem vl (h:Hd) (a:List RT):(ma h a).bY:=
 ⟨λb c f d g a e=>fM.mono b c f a (d a e) g,λb f c g d i j a e=>fM.keep b f c a g (d a e) i j⟩
def pW:List Value:=[.slice none 0 0,.slice none 0 0,.slice none 0 0,.slice none 0 0,.slice none 0 0,.slice none 0 0]
def fI (b:List Tb) (d:cI) (c:aI):List Tb×(Int×Int):=
 if(eo d c).2≠0 then(b,((eo d c).2,c.at_))
 else if c.kind=1 then
  match fL b c with
  |.ok t=>(b++[t],(0,0))
  |.bad e a=>(b,(e,a))
 else(b,(0,0))
def k0 (b:af) (c d e:Nat) (f:Nat->Prop) (a:List RT) (g:cI) (i:Int):Prop:=
 ∃h j,h.n=a.length/\cK b c d e f [] pW [ma h a] true j g i
theorem cK.table {w d:af} {e g j:Nat} {m:Nat->Prop} {f:aX} {n c:Nat} {a:List RT} {l:List (Int×Nat)} {o:cI} {k:Int} {q:Tb} (h:cK w e g j m [] pW [ma ⟨f,n,c⟩ a] true l o k) (v:a.length=n)
 (p:iI w d e j 81 3 RT.cells RT.tb fM f n c a q (λx=>#[x,aa,aa,aa,aa,aa,aa,.map (some g),k])):
 Kp (e::(Value.slice f n c).ownBlock.toList) w d/\∃r,r.tb=q/\k0 d e g j (λe=>m e\/Bw w.heap.size d.heap.size e) (a++[r]) o k:=by
 obtain⟨r,s,t,y,z,A,u,B,C⟩:=p;refine⟨u,r,y,⟨s,n+1,t⟩,l,by simp[v],?_⟩;refine h.push (i:=0) (r:=ma ⟨f,n,c⟩ a) (r':=ma ⟨s,n+1,t⟩ (a++[r])) rfl u z A B (vl _ _) ?_;intro a D E F b;rcases cY b with b|b
 ·exact D F b
 rw[aA b];exact fM.mono _ _ _ _ C E
theorem CP (i e E q o:Nat) (c:RI) (t F:Nat->Prop) (k:aX) (g m:Nat) (f:List RT) (l:List (Int×Nat)) (p:cI) (j:af) (n:cK j i e E t [] pW [ma ⟨k,g,m⟩ f] true l p c.at_) (S:f.length=g) (al:g<=1000)
 (G:J j q 154 #[aj i]) (T:J j o 95 c.cells.toArray) (V:q≠i/\q≠e/\¬t q) (W:o≠i/\o≠e/\¬t o) (H:df j F c) (am:∀b,F b->b<e) (an:c.names.length<=5001):
 Calls Tryz.prog 60 #[aj q,aj o] j λd I=>
  Kp (i::(dm e l++(Value.slice k g m).ownBlock.toList)) j I/\∃X pr,fI (f.map RT.tb) p c.it=(X.map RT.tb,pr)/\(∃Y,k0 I i e E Y X (eo p c.it).1 c.at_/\∀b,Y b->t b\/Bw j.heap.size I.heap.size b)/\
   ((d=.returned (.tuple #[])/\pr=(0,0))\/d=.panicked [{v:=eY pr.1 pr.2,recovered:=false}]):=by
 have ao:=Z n;have u:=Z S;have ap:=Z H;have K:=Z (Ad i e c (U k g m) aa aa aa aa aa aa c.at_ l p j n.bx (n.na rfl) H.ok.2.1);obtain⟨ab,I⟩:=aq (eo p c.it);rw[<-I]at K⊢;have L:=Z I;clear I;have I:=Nat.lt_trans n.hM n.hX;have ar:=λb a=>(n.lt b a).1;have M:∀b∈dm e l,b=e\/t b:=λb a=>by
  rcases dd a with d|d
  ·exact .inl d
  obtain⟨r,s,t⟩:=List.mem_map.1 d;exact .inr (t▸n.nin r s)
 have au:=n.hX;have t:=n.hb;have av:=Z G;have ac:=Z T;have aw:q∉dm e l:=λN=>by
  rcases M q N with d|d
  ·exact V.2.1 d
  exact V.2.2 d
 have ax:o∉dm e l:=λN=>by
  rcases M o N with d|d
  ·exact W.2.1 d
  exact W.2.2 d
 have ay:∀b∈dm e l,¬F b:=λb a q=>by
  have:=am b q;rcases M b a with d|d
  ·omega
  have:=ar b d;omega
 have aA:=az G;have ad:(some 25:Option Nat)=some c.cells.toArray.size:=by simp[RI.len]
 clear G T n H S;go_enter Tryz.func60,Tryz.ntmps60
 go_wp2_with (first|(refine ir rfl 95 (.tmp 1) rfl o c.cells.toArray rfl 95 ac.out _ Tryz.underlying95 rfl ad ?_)|fail)
 refine K.mono ?_;rintro d O ⟨n,⟨P,q,t⟩,aB⟩;have r:=Z (ao.names n q t);have aC:=Z (n.blk av aw);have ae:=Z (n.blk ac ax);have w:=Z (ap.keep n ay);have aD:=n.size;have x:=Z n;clear K aA q t n;rcases aB with⟨y,s⟩|⟨y,s⟩
 ·subst s
  have ag:=Z y;clear y;have n:=az ae;have n:=az aC;by_cases z:c.kind=1
  ·have Q:=Z (CO i E c aa aa aa aa aa aa (.map (some e)) k g m f O r.out.bx w.out.lc w.out.fc w.out.ln an w.out.ok.2.1 (r.out.own _ (List.mem_singleton.2 rfl)) u.out au r.out.hb al)
   have n:decide (c.kind=1)=true:=by simp[z]
   go_wp2_with (first|(refine ir rfl 95 (.tmp 1) rfl o c.cells.toArray rfl 95 ae.out _ Tryz.underlying95 rfl ad ?_)|fail)
   refine Q.mono ?_;rintro d ah A;have B:=Z (show fI (f.map RT.tb) p c.it=(match fL (f.map RT.tb) c.it with|.ok R=>(f.map RT.tb++[R],((0:Int),(0:Int)))|.bad d D=>(f.map RT.tb,(d,D))) by
    unfold fI;rw[<-L.out,if_neg (by rw[ag.out];simp),if_pos (show c.it.kind=1 from z)])
   cases ht:fL (f.map RT.tb) c.it with
   |ok R=>
    rw[ht]at A B;obtain⟨s,ai⟩:=A;subst s;obtain⟨C,aE,aF,ak⟩:=r.table u ai;have aG:=Z (show Kp (i::(dm e l++(Value.slice k g m).ownBlock.toList)) j ah from(x.out.mono (λb a=>List.mem_cons_of_mem _ (jX (.inl a)))).trans (C.mono (λb a=>by
     rcases dd a with d|d
     ·rw[d];exact List.mem_cons_self ..
     exact List.mem_cons_of_mem _ (jX (.inr d)))))
    have aH:=C.size;have aI:=Z ak;clear ai C ak Q;go_wp2;refine⟨rfl,.tuple #[],results_none rfl _ _ _,?_⟩;refine⟨aG,f++[aE],(0,0),by rw[B.out];simp[aF],⟨_,aI.out,λb a=>?_⟩,.inl ⟨rfl,rfl⟩⟩;rcases a with(a|a)|a
    ·exact .inl a
    ·exact .inr ⟨a.1,aT a.2 aH⟩
    exact .inr ⟨bR aD a.1,a.2⟩
   |bad ai D=>
    rw[ht]at A B;obtain⟨s,C⟩:=A;subst s;have ak:=Z (show Kp (i::(dm e l++(Value.slice k g m).ownBlock.toList)) j ah from(x.mono (λb a=>List.mem_cons_of_mem _ (jX (.inl a)))).trans (Kp.of_same C));have aE:=Z (r.kp (Kp.of_same (l:=[]) C) (λb a=>by cases a));have aF:=C.size;clear C Q;go_wp2;refine⟨rfl,ak,f,(ai,D),by rw[B.out],⟨_,⟨⟨k,g,m⟩,P,u.out.symm,aE.out⟩,λb a=>?_⟩,.inr rfl⟩;rcases a with a|a
    ·exact .inl a
    exact .inr ⟨a.1,aT a.2 aF⟩
  have A:=Z (show fI (f.map RT.tb) p c.it=(f.map RT.tb,((0:Int),(0:Int))) by
   unfold fI;rw[<-L.out,if_neg (by rw[ag.out];simp),if_neg (show¬c.it.kind=1 from z)])
  have B:=Z (show Kp (i::(dm e l++(Value.slice k g m).ownBlock.toList)) j O from x.mono (λb a=>List.mem_cons_of_mem _ (jX (.inl a))));have d:decide (c.kind=1)=false:=by simp[z]
  go_wp2;refine⟨rfl,.tuple #[],results_none rfl _ _ _,?_⟩;exact⟨B,f,(0,0),A,⟨_,⟨⟨k,g,m⟩,P,u.symm,r⟩,λb a=>a⟩,.inl ⟨rfl,rfl⟩⟩
 subst s;have z:=Z (show fI (f.map RT.tb) p c.it=(f.map RT.tb,(ab.2,c.at_)) by
  unfold fI;rw[<-L.out,if_pos y];rfl)
 have A:=Z (show Kp (i::(dm e l++(Value.slice k g m).ownBlock.toList)) j O from x.mono (λb a=>List.mem_cons_of_mem _ (jX (.inl a))));go_wp2;exact⟨rfl,A,f,(ab.2,c.at_),z,⟨_,⟨⟨k,g,m⟩,P,u.symm,r⟩,λb a=>a⟩,.inr rfl⟩
def vp (c:af) (g i j:Nat) (k:Nat->Prop) (e:List Nat) (f:List Tb) (d:cI) (a:aI) (l:Int×Int) (b:af):Prop:=
 Kp e c b/\∃e:List RT,fI f d a=(e.map RT.tb,l)/\∃f,k0 b g i j f e (eo d a).1 a.at_/\∀a,f a->k a\/(c.heap.size<a/\a<b.heap.size)
theorem C0 (X a o p f:Nat) (d:RI) (g S:Nat->Prop) (j:aX) (e k:Nat) (n:List RT) (l:List (Int×Nat)) (u:cI) (s:Int) (c:af) (i:cK c X a o g [] pW [ma ⟨j,e,k⟩ n] true l u s) (y:n.length=e) (z:e<=1000)
 (A:J c p 154 #[aj X]) (B:J c f 95 d.cells.toArray) (t:p≠X/\p≠a/\¬g p) (v:f≠X/\f≠a/\¬g f) (C:df c S d) (w:∀b,S b->b<a) (D:d.names.length<=5001):
 Calls Tryz.prog 59 #[aj X,d.at_,.func (.func 60) #[] #[aj p,aj f]] c
  (rN (vp c X a o g (X::(dm a l++(Value.slice j e k).ownBlock.toList)) (n.map RT.tb) u d.it)):=by
 have E:X<c.heap.size:=i.bx.lt;have hBw:∀b,g b->b<c.heap.size:=λb hb=>(i.lt b hb).2;refine vo X d.at_ 60 #[aj p,aj f] (λ_ _=>by kernel_rfl) (U j e k) aa aa aa aa aa aa (.map (some a)) s c i.bx _ (X::(dm a l++(Value.slice j e k).ownBlock.toList)) ?_ ?_ ?_
 ·intro b hb
  rcases dd hb with m|m
  ·omega
  rcases cY m with m|m
  ·exact(i.na rfl).lt b m
  exact(b3 (i.own _ (List.mem_singleton.2 rfl)) b (jm m)).2
 ·rintro m m m ⟨q,r,s,x,⟨h,E,F,pZ⟩,hB'⟩ m G
  refine⟨m.old q (λb hb G=>absurd (aA hb) ae),r,s,x,⟨h,E,F,pZ.kp m ?_⟩,λb hb=>(hB' b hb).imp id (λh=>⟨h.1,aT h.2 m.size⟩)⟩;exact uT
 intro s E m F;have E:=i.at_ m E;have F:∀b,S b->b∉[X]:=λb hb hm=>by
  have:=w b hb;have:=i.hM;rw[aA hm]at*;omega
 refine(CP X a o p f d g S j e k n l u s E y z (m.blk A (by simp[t.1])) (m.blk B (by simp[v.1])) t v (C.keep m (λb hb f=>F b f hb)) w D).mono ?_;rintro f i ⟨f,s,q,t,⟨v,hF,hB'⟩,G⟩;refine⟨f,?_⟩;have x:vp c X a o g (X::(dm a l++(Value.slice j e k).ownBlock.toList)) (n.map RT.tb) u d.it q i:=
  ⟨(m.mono (λb hb=>by rw[aA hb];simp)).trans f,s,t,v,hF,λb hb=>(hB' b hb).imp id (λh=>⟨by have:=h.1;omega,h.2⟩)⟩
 rcases G with⟨r,H⟩|r
 ·exact .inl ⟨r,H▸x⟩
 exact .inr ⟨q.1,q.2,r,x⟩
def oK (h:Hd) (a:List Og):ej:=⟨136,2,h,a.flatMap Og.cells,λ_ _=>True⟩
def oL (h:Hd) (a:List Bk):ej:=⟨50,6,h,a.flatMap Bk.cells,λ_ _=>True⟩
def oM (h:Hd) (a:List ei):ej:=⟨55,4,h,a.flatMap ei.cells,λw b=>∀c∈a,fp w b c⟩
def oN (h:Hd) (a:List dR):ej:=⟨52,3,h,a.flatMap dR.cells,λ_ _=>True⟩
def k6 (h:Hd) (a:List cG):ej:=⟨64,10,h,a.flatMap cG.cells,λw b=>∀c∈a,eZ w b c⟩
def oO (h:Hd) (a:List eu):ej:=⟨107,9,h,a.flatMap eu.cells,λw b=>∀c∈a,oI w b c⟩
theorem vr (h:Hd) (a:List Og):(oK h a).bY:=⟨λ_ _ _ _ _=>trivial,λ_ _ _ _ _ _ _=>trivial⟩
theorem vt (h:Hd) (a:List Bk):(oL h a).bY:=⟨λ_ _ _ _ _=>trivial,λ_ _ _ _ _ _ _=>trivial⟩
theorem vu (h:Hd) (a:List dR):(oN h a).bY:=⟨λ_ _ _ _ _=>trivial,λ_ _ _ _ _ _ _=>trivial⟩
theorem vv (h:Hd) (b:List ei):(oM h b).bY:=⟨λw c e a f b d=>fp.mono w c e b (a b d) f,λw w' c e a f g b d=>fp.keep w w' c b e (a b d) f g⟩
theorem vw (h:Hd) (b:List cG):(k6 h b).bY:=⟨λw d b a e b c=>(a b c).mono e,λw w' d d a d e b c=>(a b c).keep d e⟩
theorem vx (h:Hd) (b:List eu):(oO h b).bY:=⟨λw d b a e b c=>dJ.mono (a b c) e,λw w' d d a d e b c=>dJ.keep (a b c) d e⟩
structure cc where
 h1:Hd
 h2:Hd
 h3:Hd
 h4:Hd
 h5:Hd
 h6:Hd
 os:List Og
 bs:List Bk
 ms:List ei
 ks:List dR
 rs:List cG
 qs:List eu
def cc.rows (x:cc):List ej:=[oK x.h1 x.os,oL x.h2 x.bs,oM x.h3 x.ms,oN x.h4 x.ks,k6 x.h5 x.rs,oO x.h6 x.qs]
structure cc.Fit (x:cc):Prop where
 e1:x.os.length=x.h1.n
 e2:x.bs.length=x.h2.n
 e3:x.ms.length=x.h3.n
 e4:x.ks.length=x.h4.n
 e5:x.rs.length=x.h5.n
 e6:x.qs.length=x.h6.n
def cc.su (x:cc) (tabs:List Tb):Su:=⟨tabs,x.os,x.bs,x.ms.map ei.mt,x.ks,x.rs.map cG.ru,x.qs.map eu.qy⟩
def ju (w:af) (X M base:Nat) (B:Nat->Prop) (h:Hd) (tabs:List Tb) (b:Su):Prop:=
 ∃(x:cc) (a:Int),x.Fit/\x.su tabs=b/\cK w X M base B [h.val] [] x.rows false [] [] a
def e7 (w:af) (X M base:Nat) (B:Nat->Prop) (h:Hd) (tabs:List Tb) (d:Su) (f:RO Su) (e:Ending) (w':af):Prop:=
 (∃b,Kp b w w'/\∀c∈b,c=X\/B c)/\∃b:Nat->Prop,(∀c,b c->B c\/Bw w.heap.size w'.heap.size c)/\
  match f with
  |.ok s'=>e=.returned (.tuple #[])/\ju w' X M base b h tabs s'
  |.bad er a=>e=.panicked [{v:=eY er a,recovered:=false}]/\ju w' X M base b h tabs d
section
variable {w w':af} {X M base:Nat} {B:Nat->Prop} {h:Hd} {tabs:List Tb} {x:cc} {a:Int} {e:Ending}
theorem e7.of {c:Type} {d:RO c} {f:c->Su} {i:c->World->Prop} {c:RO Su} (m:x.Fit) (n:cK w X M base B [h.val] [] x.rows false [] [] a) (o:c=d.bind λv=>.ok (f v)) (p:jh w d i e w')
 (q:∀v,i v w'->(∃k,Kp k w w'/\∀b∈k,b=X\/B b)/\ju w' X M base (λb=>B b\/Bw w.heap.size w'.heap.size b) h tabs (f v)):e7 w X M base B h tabs (x.su tabs) c e w':=by
 subst o;cases d with
 |ok v=>
  obtain⟨g,j⟩:=p;obtain⟨c,d⟩:=q v j;exact⟨c,_,λb c=>c,g,d⟩
 |bad s t=>
  obtain⟨r,j⟩:=p;exact⟨⟨[],Kp.of_same j,λb g=>by cases g⟩,B,λb g=>.inl g,r,x,a,m,rfl,n.kp (Kp.of_same (l:=[]) j) (λb g=>by cases g)⟩
theorem mX (f:cK w X M base B [h.val] [] x.rows false [] [] a) {i:Nat} {b:ej} (g:x.rows[i]?=some b) (c:Kp (X::b.own.toList) w w'):∃c,Kp c w w'/\∀d∈c,d=X\/B d:=
 ⟨_,c,λd j=>by
  rcases dd j with e|e
  ·exact .inl e
  exact .inr (f.eP b (List.mem_of_getElem? g) d (jm (v:=b.h.val) e))⟩
theorem C3 (b:x.Fit) {g:RI} (d:cK w X M base B [h.val] [] x.rows false [] [] g.at_) (j:x.os.length<=64):
 Calls Tryz.prog 114 #[aj X,.agg g.cells.toArray] w (e7 w X M base B h tabs (x.su tabs) (nD (x.su tabs) g.it)):=by
 refine(C2 X base g g.at_ h.val x.h2.val x.h3.val x.h4.val x.h5.val x.h6.val (.map (some M)) x.h1.a x.h1.n x.h1.c x.os w d.bx (d.own (oK x.h1 x.os) gh) b.e1 d.hX d.hb (by rw[<-b.e1];exact j)).mono ?_;intro e w' j;refine e7.of (f:=λk=>{x.su tabs with origins:=(x.su tabs).origins++[k]}) b d ?_ j ?_
 ·simp only[RO.gK,<-b.e1]
  rfl
 rintro j ⟨k,l,o,p,m,q⟩;refine⟨mX d (i:=0) rfl m,{x with h1:=⟨k,x.h1.n+1,l⟩,os:=x.os++[j]},g.at_,⟨by simp[b.e1],b.e2,b.e3,b.e4,b.e5,b.e6⟩,rfl,?_⟩;exact d.push (i:=0) (r':=oK ⟨k,x.h1.n+1,l⟩ (x.os++[j])) rfl m o p q (vr _ _) (λ_ _ _=>trivial)
theorem C4 (b:x.Fit) {j:RI} {d:List RT} (k:bI w h d) (g:cK w X M base B [h.val] [] x.rows false [] [] j.at_) (l:x.bs.length<=1000):
 Calls Tryz.prog 115 #[aj X,.agg j.cells.toArray] w (e7 w X M base B h (d.map RT.tb) (x.su (d.map RT.tb)) (mr (x.su (d.map RT.tb)) j.it)):=by
 refine(Cy X base j h d j.at_ x.h1.val x.h3.val x.h4.val x.h5.val x.h6.val (.map (some M)) x.h2.a x.h2.n x.h2.c x.bs w g.bx k (g.own (oL x.h2 x.bs) gh) b.e2 g.hX g.hb (by rw[<-b.e2];exact l)).mono ?_;intro e w' k;refine e7.of (f:=λl=>{x.su (d.map RT.tb)with blocks:=(x.su (d.map RT.tb)).blocks++[l]}) b g ?_ k ?_
 ·unfold mr rB
  simp only[RO.bind_assoc];rfl
 rintro d ⟨k,l,o,p,m,q⟩;refine⟨mX g (i:=1) rfl m,{x with h2:=⟨k,x.h2.n+1,l⟩,bs:=x.bs++[d]},j.at_,⟨b.e1,by simp[b.e2],b.e3,b.e4,b.e5,b.e6⟩,rfl,?_⟩;exact g.push (i:=1) (r':=oL ⟨k,x.h2.n+1,l⟩ (x.bs++[d])) rfl m o p q (vt _ _) (λ_ _ _=>trivial)
theorem C5 (b:x.Fit) {d:RI} {g:List RT} (o:bI w h g) (p:aF w 7 d.n4 cL.cells d.terms) (q:∀l∈d.terms,l.bY) (j:cK w X M base B [h.val] [] x.rows false [] [] d.at_) (m:x.ms.length<=1000):
 Calls Tryz.prog 116 #[aj X,.agg d.cells.toArray] w (e7 w X M base B h (g.map RT.tb) (x.su (g.map RT.tb)) (mu (x.su (g.map RT.tb)) d.it)):=by
 refine(CD X base d h g d.at_ x.h1.val x.h2.val x.h4.val x.h5.val x.h6.val (.map (some M)) x.h3.a x.h3.n x.h3.c x.ms w j.bx o p q (j.own (oM x.h3 x.ms) gh) b.e3 j.hX j.hb (by rw[<-b.e3];exact m)).mono ?_;intro e w' o;refine e7.of (f:=λk=>{x.su (g.map RT.tb)with kG:=(x.su (g.map RT.tb)).kG++[k]}) b j ?_ o ?_
 ·unfold mu rH
  simp only[RO.bind_assoc,RO.gK];rfl
 rintro g ⟨l,g,o,q,r,s,p,t,u⟩;refine⟨mX j (i:=2) rfl p,{x with h3:=⟨g,x.h3.n+1,o⟩,ms:=x.ms++[l]},d.at_,⟨b.e1,b.e2,by simp[b.e3],b.e4,b.e5,b.e6⟩,by simp[cc.su,q],?_⟩;refine j.push (i:=2) (r':=oM ⟨g,x.h3.n+1,o⟩ (x.ms++[l])) rfl p r s t (vv _ _) (λb v m y k=>?_);rcases cY k with k|k
 ·exact v y k
 rw[aA k];exact fp.mono _ _ _ _ u m
theorem C6 (b:x.Fit) {j:RI} {d:List RT} (k:bI w h d) (g:cK w X M base B [h.val] [] x.rows false [] [] j.at_) (l:x.ks.length<=1000):
 Calls Tryz.prog 117 #[aj X,.agg j.cells.toArray] w (e7 w X M base B h (d.map RT.tb) (x.su (d.map RT.tb)) (mv (x.su (d.map RT.tb)) j.it)):=by
 refine(AO X base j h d j.at_ x.h1.val x.h2.val x.h3.val x.h5.val x.h6.val (.map (some M)) x.h4.a x.h4.n x.h4.c x.ks w g.bx k (g.own (oN x.h4 x.ks) gh) b.e4 g.hX g.hb (by rw[<-b.e4];exact l)).mono ?_;intro e w' k;refine e7.of (f:=λl=>{x.su (d.map RT.tb)with keeps:=(x.su (d.map RT.tb)).keeps++[l]}) b g ?_ k ?_
 ·unfold mv re
  simp only[RO.bind_assoc,RO.gK];rfl
 rintro d ⟨k,l,o,p,m,q⟩;refine⟨mX g (i:=3) rfl m,{x with h4:=⟨k,x.h4.n+1,l⟩,ks:=x.ks++[d]},j.at_,⟨b.e1,b.e2,b.e3,by simp[b.e4],b.e5,b.e6⟩,rfl,?_⟩;exact g.push (i:=3) (r':=oN ⟨k,x.h4.n+1,l⟩ (x.ks++[d])) rfl m o p q (vu _ _) (λ_ _ _=>trivial)
theorem ju.rule (d:x.Fit) {b:Int} (f:cK w X M base B [h.val] [] x.rows false [] [] b) {v:Ru} (o:iu w w' X base x.h5.a x.h5.n x.h5.c x.rs v (λg=>#[h.val,x.h1.val,x.h2.val,x.h3.val,x.h4.val,g,x.h6.val,.map (some M),b])):
 (∃g,Kp g w w'/\∀b∈g,b=X\/B b)/\ju w' X M base (λb=>B b\/Bw w.heap.size w'.heap.size b) h tabs {x.su tabs with rules:=(x.su tabs).rules++[v]}:=by
 obtain⟨j,k,l,p,q,r,m,s,t⟩:=o;refine⟨mX f (i:=4) rfl m,{x with h5:=⟨k,x.h5.n+1,l⟩,rs:=x.rs++[j]},b,⟨d.e1,d.e2,d.e3,d.e4,by simp[d.e5],d.e6⟩,by simp[cc.su,p],?_⟩;refine f.push (i:=4) (r':=k6 ⟨k,x.h5.n+1,l⟩ (x.rs++[j])) rfl m q r s (vw _ _) (λb u y z e=>?_);rcases cY e with e|e
 ·exact u z e
 rw[aA e];exact eZ.mono t y
theorem C7 (i:x.Fit) {b:RI} {d:List RT} (j:bI w h d) (k:b4 w b.il b.names) (l:b.names.length<=5001) (g:cK w X M base B [h.val] [] x.rows false [] [] b.at_) (m:x.rs.length<=1000):
 Calls Tryz.prog 118 #[aj X,.agg b.cells.toArray] w (e7 w X M base B h (d.map RT.tb) (x.su (d.map RT.tb)) (pf (x.su (d.map RT.tb)) b.it)):=by
 refine(BB X base b h d x.h1.val x.h2.val x.h3.val x.h4.val x.h6.val (.map (some M)) x.h5.a x.h5.n x.h5.c x.rs w g.bx j k l (g.own (k6 x.h5 x.rs) gh) i.e5 g.hX g.hb (by rw[<-i.e5];exact m)).mono ?_;intro e w' b;exact e7.of (f:=λj=>{x.su (d.map RT.tb)with rules:=(x.su (d.map RT.tb)).rules++[j]}) i g rfl b (λb b=>ju.rule i g b)
theorem C8 (i:x.Fit) {b:RI} {d:List RT} (j:bI w h d) (k:b4 w b.il b.names) (l:b.names.length<=5001) (m:aF w 4 b.n5 du.cells b.fixed) (o:b.fixed.length<=5001) (g:cK w X M base B [h.val] [] x.rows false [] [] b.at_) (p:x.rs.length<=1000):
 Calls Tryz.prog 119 #[aj X,.agg b.cells.toArray] w (e7 w X M base B h (d.map RT.tb) (x.su (d.map RT.tb)) (mw (x.su (d.map RT.tb)) b.it)):=by
 refine(BF X base b h d x.h1.val x.h2.val x.h3.val x.h4.val x.h6.val (.map (some M)) x.h5.a x.h5.n x.h5.c x.rs w g.bx j k l m o (g.own (k6 x.h5 x.rs) gh) i.e5 g.hX g.hb (by rw[<-i.e5];exact p)).mono ?_;intro e w' b;refine e7.of (f:=λj=>{x.su (d.map RT.tb)with rules:=(x.su (d.map RT.tb)).rules++[j]}) i g ?_ b (λb b=>ju.rule i g b);unfold mw n7;simp only[RO.bind_assoc,RO.gK];rfl
theorem C9 (g:x.Fit) {i:RI} {b:List RT} (j:bI w h b) (d:cK w X M base B [h.val] [] x.rows false [] [] i.at_) (k:x.rs.length<=1000):
 Calls Tryz.prog 120 #[aj X,.agg i.cells.toArray] w (e7 w X M base B h (b.map RT.tb) (x.su (b.map RT.tb)) (mx (x.su (b.map RT.tb)) i.it)):=by
 refine(BA X base i h b x.h1.val x.h2.val x.h3.val x.h4.val x.h6.val (.map (some M)) x.h5.a x.h5.n x.h5.c x.rs w d.bx j (d.own (k6 x.h5 x.rs) gh) g.e5 d.hX d.hb (by rw[<-g.e5];exact k)).mono ?_;intro e w' i;refine e7.of (f:=λj=>{x.su (b.map RT.tb)with rules:=(x.su (b.map RT.tb)).rules++[j]}) g d ?_ i (λb b=>ju.rule g d b);unfold mx rj;simp only[RO.bind_assoc,RO.gK];rfl
theorem Da (i:x.Fit) {b:RI} {d:List RT} (j:bI w h d) (k:aF w 2 b.hvars Vr.cells b.vars) (l:aF w 14 b.hconds bB.cells b.conds) (g:cK w X M base B [h.val] [] x.rows false [] [] b.at_) (m:x.rs.length<=1000):
 Calls Tryz.prog 121 #[aj X,.agg b.cells.toArray] w (e7 w X M base B h (d.map RT.tb) (x.su (d.map RT.tb)) (my (x.su (d.map RT.tb)) b.it)):=by
 refine(BL X base b h d x.h1.val x.h2.val x.h3.val x.h4.val x.h6.val (.map (some M)) x.h5.a x.h5.n x.h5.c x.rs w g.bx j k l (g.own (k6 x.h5 x.rs) gh) i.e5 g.hX g.hb (by rw[<-i.e5];exact m)).mono ?_;intro e w' b;refine e7.of (f:=λj=>{x.su (d.map RT.tb)with rules:=(x.su (d.map RT.tb)).rules++[j]}) i g ?_ b (λb b=>ju.rule i g b);unfold my ro;simp only[RO.bind_assoc,RO.gK];rfl
end
section
variable {w w':af} {X M base:Nat} {B:Nat->Prop} {h:Hd} {x:cc}
theorem Db (f:x.Fit) {d:RI} {b:List RT} {k:Nat->Prop} (v:bI w h b) (y:gN X b) (z:kR (b.map RT.tb)) (A:dX w k d.e) (C:¬k X) (D:∀g,k g->g<w.heap.size) (E:d.e.ex.dh) (j:cK w X M base B [h.val] [] x.rows false [] [] d.at_) (o:x.qs.length<=1000):
 Calls Tryz.prog 122 #[aj X,.agg d.cells.toArray] w (e7 w X M base B h (b.map RT.tb) (x.su (b.map RT.tb)) (lE (x.su (b.map RT.tb)) d.it)):=by
 have F:mR [x.h1.val,x.h2.val,x.h3.val,x.h4.val,x.h5.val,.slice x.h6.a x.h6.n x.h6.c,.map (some M)]:=⟨rfl,λp l p m=>by
  subst m;simp[Hd.val]at l⟩
 refine(CJ X base d h b x.h1.val x.h2.val x.h3.val x.h4.val x.h5.val (.map (some M)) d.at_ x.h6.a x.h6.n x.h6.c x.qs w k j.bx F v y z A C D E (j.own (oO x.h6 x.qs) gh) f.e6 j.hX j.hb (by rw[<-f.e6];exact o)).mono ?_;intro v w' m;have v:lE (x.su (b.map RT.tb)) d.it=(l7 (b.map RT.tb) d.it).bind λq=>.ok {x.su (b.map RT.tb)with queries:=(x.su (b.map RT.tb)).queries++[q]}:=by
  unfold lE l7;simp only[RO.bind_assoc];rfl
 rw[v];cases hq:l7 (b.map RT.tb) d.it with
 |ok q=>
  rw[hq]at m;obtain⟨G,g,r,s,t,H,p,I,u,J,K⟩:=m;refine⟨mX j (i:=5) rfl u,_,λg p=>p,G,{x with h6:=⟨s,x.h6.n+1,t⟩,qs:=x.qs++[r]},g,⟨f.e1,f.e2,f.e3,f.e4,f.e5,by simp[f.e6]⟩,by simp[cc.su,H],?_⟩;refine j.push (i:=5) (r':=oO ⟨s,x.h6.n+1,t⟩ (x.qs++[r])) rfl u p I J (vx _ _) (λk L o N l=>?_);rcases cY l with l|l
  ·exact L N l
  rw[aA l];exact dJ.mono K o
 |bad s t=>
  rw[hq]at m;obtain⟨r,p,g,l⟩:=m;exact⟨⟨[X],p,λb b=>.inl (aA b)⟩,B,λg l=>.inl l,r,x,g,f,rfl,j.at_ p l⟩
end
theorem Dc (X d e f:Nat) (a:FuncId) (g:∀g w,(callFunc a g).run Tryz.prog w=.ok (.enter a g) w) (c:RI) (w:af) (j:J w d 162 #[.func (.func a) #[] #[]]) (k:J w e 154 #[aj X]) (l:J w f 95 c.cells.toArray)
 (g:Ending->World->Prop) (m:Calls Tryz.prog a #[aj X,.agg c.cells.toArray] w g) (n:∀b w',g b w'->b=.returned (.tuple #[])\/∃o,b=.panicked o):
 Calls Tryz.prog 64 #[aj d,aj e,aj f] w g:=by
 have p:=Z l;have q:=Z m;have r:=Z n;have a:ac w (ab d 0) (.func (.func a) #[] #[]):=J.cell j 0;have a:ac w (ab e 0) (aj X):=J.cell k 0;have s:(some 25:Option Nat)=some c.cells.toArray.size:=by simp[RI.len]
 clear l m n j k;go_enter Tryz.func64,Tryz.ntmps64
 go_wp2_with (first|(refine ir rfl 95 (.tmp 2) rfl f c.cells.toArray rfl 95 p.out _ Tryz.underlying95 rfl s ?_)|fail)
 refine q.out.mono ?_;intro b w' h;rcases r.out b w' h with i|⟨o,i⟩
 ·subst i
  go_wp2;exact⟨rfl,.tuple #[],results_none rfl _ _ _,h⟩
 subst i;go_wp2;exact⟨rfl,h⟩
structure mY (w:af) (X:Nat) (h:Hd) (ts:List RT) (S:Nat->Prop) (r:RI):Prop where
 ta:bI w h ts
 ko:gN X ts
 fa:kR (ts.map RT.tb)
 it:df w S r
 sx:¬S X
 sl:∀b,S b->b<w.heap.size
 few:r.e.ex.dh
 h5:r.names.length<=5001
 f5:r.fixed.length<=5001
def cc.Short (a:cc) (b:Nat):Prop:=a.os.length<=b/\a.bs.length<=1000/\a.ms.length<=1000/\a.ks.length<=1000/\a.rs.length<=1000/\a.qs.length<=1000
theorem Dd {k:af} {l n o:Nat} {p:Nat->Prop} {h:Hd} {d:cc} (g:d.Fit) {a:RI} {e:List RT} {m:Nat->Prop} (c:mY k l h e m a) (i:cK k l n o p [h.val] [] d.rows false [] [] a.at_) (j:d.Short 64) {q:ay} (f:gu a.kind=some q):
 ∃m,q=.func (.func m) #[] #[]/\(∀q k,(callFunc m q).run Tryz.prog k=.ok (.enter m q) k)/\
  Calls Tryz.prog m #[aj l,.agg a.cells.toArray] k (e7 k l n o p h (e.map RT.tb) (d.su (e.map RT.tb)) (db (d.su (e.map RT.tb)) a.it)):=by
 have k:2<=a.kind/\a.kind<=10:=by
  unfold gu at f;repeat' split at f
  all_goals first|omega|cases f
 have r:a.kind=2\/a.kind=3\/a.kind=4\/a.kind=5\/a.kind=6\/a.kind=7\/a.kind=8\/a.kind=9\/a.kind=10:=ae
 rcases r with b|b|b|b|b|b|b|b|b
 ·rw[b]at f
  refine⟨_,(Option.some.inj f).symm,λ_ _=>by kernel_rfl,?_⟩;rw[show db (d.su (e.map RT.tb)) a.it=nD (d.su (e.map RT.tb)) a.it by unfold db;rw[show a.it.kind=2 from b];rfl];exact C3 g i j.1
 ·rw[b]at f
  refine⟨_,(Option.some.inj f).symm,λ_ _=>by kernel_rfl,?_⟩;rw[show db (d.su (e.map RT.tb)) a.it=mr (d.su (e.map RT.tb)) a.it by unfold db;rw[show a.it.kind=3 from b];rfl];exact C4 g c.ta i j.2.1
 ·rw[b]at f
  refine⟨_,(Option.some.inj f).symm,λ_ _=>by kernel_rfl,?_⟩;rw[show db (d.su (e.map RT.tb)) a.it=mu (d.su (e.map RT.tb)) a.it by unfold db;rw[show a.it.kind=4 from b];rfl];exact C5 g c.ta c.it.lt c.it.ft i j.2.2.1
 ·rw[b]at f
  refine⟨_,(Option.some.inj f).symm,λ_ _=>by kernel_rfl,?_⟩;rw[show db (d.su (e.map RT.tb)) a.it=mv (d.su (e.map RT.tb)) a.it by unfold db;rw[show a.it.kind=5 from b];rfl];exact C6 g c.ta i j.2.2.2.1
 ·rw[b]at f
  refine⟨_,(Option.some.inj f).symm,λ_ _=>by kernel_rfl,?_⟩;rw[show db (d.su (e.map RT.tb)) a.it=pf (d.su (e.map RT.tb)) a.it by unfold db;rw[show a.it.kind=6 from b];rfl];exact C7 g c.ta c.it.ln c.h5 i j.2.2.2.2.1
 ·rw[b]at f
  refine⟨_,(Option.some.inj f).symm,λ_ _=>by kernel_rfl,?_⟩;rw[show db (d.su (e.map RT.tb)) a.it=mw (d.su (e.map RT.tb)) a.it by unfold db;rw[show a.it.kind=7 from b];rfl];exact C8 g c.ta c.it.ln c.h5 c.it.lf c.f5 i j.2.2.2.2.1
 ·rw[b]at f
  refine⟨_,(Option.some.inj f).symm,λ_ _=>by kernel_rfl,?_⟩;rw[show db (d.su (e.map RT.tb)) a.it=mx (d.su (e.map RT.tb)) a.it by unfold db;rw[show a.it.kind=8 from b];rfl];exact C9 g c.ta i j.2.2.2.2.1
 ·rw[b]at f
  refine⟨_,(Option.some.inj f).symm,λ_ _=>by kernel_rfl,?_⟩;rw[show db (d.su (e.map RT.tb)) a.it=my (d.su (e.map RT.tb)) a.it by unfold db;rw[show a.it.kind=9 from b];rfl];exact Da g c.ta c.it.lv c.it.ld i j.2.2.2.2.1
 rw[b]at f;refine⟨_,(Option.some.inj f).symm,λ_ _=>by kernel_rfl,?_⟩;rw[show db (d.su (e.map RT.tb)) a.it=lE (d.su (e.map RT.tb)) a.it by unfold db;rw[show a.it.kind=10 from b];rfl];exact Db g c.ta c.ko c.fa c.it.ex c.sx c.sl c.few i j.2.2.2.2.2
def iK (b:Su) (c:aI):Su×(Int×Int):=
 match db b c with
 |.ok s'=>(s',(0,0))
 |.bad e a=>(b,(e,a))
def rO (c:af) (a g i:Nat) (d:Nat->Prop) (h:Hd) (j:List Tb) (k:Su) (l:aI) (m:Int×Int) (b:af):Prop:=
 (∃e,Kp e c b/\∀f∈e,f=a\/d f)/\∃(e:Su) (f:Nat->Prop),iK k l=(e,m)/\ju b a g i f h j e/\∀a,f a->d a\/(c.heap.size<a/\a<b.heap.size)
theorem mY.iG {w d:af} {b:Nat} {h:Hd} {e:List RT} {S:Nat->Prop} {f:RI} (a:mY w b h e S f) (g:jp w b) (c:Kp [b] w d):mY d b h e S f:=
 ⟨a.ta.iG g a.ko c,a.ko,a.fa,a.it.keep c (λb b d=>a.sx (aA b▸d)),a.sx,λb d=>aT (a.sl b d) c.size,a.few,a.h5,a.f5⟩
theorem cK.g9 {w:af} {b a d:Nat} {e:Nat->Prop} {h:Hd} {x:cc} {c:Int} (f:cK w b a d e [h.val] [] x.rows false [] [] c):jp w b:=by
 have j:mR [x.h1.val,x.h2.val,x.h3.val,x.h4.val,x.h5.val,x.h6.val,.map (some a)]:=⟨rfl,λb g b i=>by
  subst i;simp[Hd.val]at g⟩
 exact gv.g9 (h:=h) (u:=[x.h1.val,x.h2.val,x.h3.val,x.h4.val,x.h5.val,x.h6.val,.map (some a)]) ⟨c,f.bx⟩ j
open Classical in
theorem De (X m o i p j:Nat) (d:RI) (f S:Nat->Prop) (h:Hd) (k:List RT) (c:cc) (t:Int) (v:ay) (a:af) (z:c.Fit) (l:cK a X m o f [h.val] [] c.rows false [] [] t) (A:mY a X h k S d) (B:c.Short 64) (hv:gu d.kind=some v)
 (C:J a i 162 #[v]) (D:J a p 154 #[aj X]) (E:J a j 95 d.cells.toArray) (F:i≠X) (G:p≠X) (H:j≠X):
 Calls Tryz.prog 59 #[aj X,d.at_,.func (.func 64) #[] #[aj i,aj p,aj j]] a
  (rN (rO a X m o f h (k.map RT.tb) (c.su (k.map RT.tb)) d.it)):=by
 have Q:X<a.heap.size:=l.bx.lt;have hBw:∀b,f b->b<a.heap.size:=λb hb=>(l.lt b hb).2;refine vo X d.at_ 64 #[aj i,aj p,aj j] (λ_ _=>by kernel_rfl) h.val c.h1.val c.h2.val c.h3.val c.h4.val c.h5.val c.h6.val (.map (some m)) t a l.bx _ (X::(List.range a.heap.size).filter (λb=>decide (f b))) ?_ ?_ ?_
 ·intro b hb
  rcases dd hb with e|e
  ·omega
  exact List.mem_range.1 (List.mem_filter.1 e).1
 ·rintro e e e ⟨⟨g,n,q⟩,r,s,t,⟨u,w,x,y,pZ⟩,hB'⟩ e I
  refine⟨⟨g,e.old n (λb hb I=>absurd (aA hb) ae),q⟩,r,s,t,⟨u,w,x,y,pZ.kp e ?_⟩,λb hb=>(hB' b hb).imp id (λh=>⟨h.1,aT h.2 e.size⟩)⟩;exact uT
 intro q t g Q;have m:cK q X m o f [h.val] [] c.rows false [] [] d.at_:=l.at_ g t;obtain⟨I,K,L,M⟩:=Dd z (A.iG l.g9 g) m B hv;subst K;refine(Dc X i p j I L d q (g.blk C (by simp[F])) (g.blk D (by simp[G])) (g.blk E (by simp[H])) _ M ?_).mono ?_
 ·rintro e e ⟨_,e,_,h2⟩
  cases hR:db (c.su (k.map RT.tb)) d.it with
  |ok n=>rw[hR]at h2;exact .inl h2.1
  |bad n r=>rw[hR]at h2;exact .inr ⟨_,h2.1⟩
 rintro e r ⟨⟨n,u,w⟩,s,hB',h2⟩;have N:Kp (X::(List.range a.heap.size).filter (λb=>decide (f b))) q r:=u.mono (λb hb=>by
  rcases w b hb with e|e
  ·rw[e];exact List.mem_cons_self ..
  exact List.mem_cons_of_mem _ (List.mem_filter.2 ⟨List.mem_range.2 (hBw b e),by simpa using e⟩))
 have x:∃n,Kp n a r/\∀b∈n,b=X\/f b:=⟨X::n,(g.mono (λb hb=>by rw[aA hb];simp)).trans (u.mono (λb hb=>List.mem_cons_of_mem _ hb)),λb hb=>by
  rcases dd hb with e|e
  ·exact .inl e
  exact w b e⟩
 have y:∀b,s b->f b\/(a.heap.size<b/\b<r.heap.size):=λb hb=>(hB' b hb).imp id (λh=>⟨by have:=h.1;omega,h.2⟩);refine⟨N,?_⟩;cases hR:db (c.su (k.map RT.tb)) d.it with
 |ok O=>
  rw[hR]at h2;exact .inl ⟨h2.1,x,O,s,by unfold iK;rw[hR],h2.2,y⟩
 |bad O P=>
  rw[hR]at h2;exact .inr ⟨O,P,h2.1,x,_,s,by unfold iK;rw[hR],h2.2,y⟩
theorem p0 (b:List Tb) (c:cI) (d:List (Int×Int)) (a:aI) (e:List aI):
 ep b c d (a::e)=ep (fI b c a).1 (eo c a).1 (d++[(fI b c a).2]) e:=by
 rw[ep];unfold fI;split
 ·rfl
 split
 ·cases fL b a<;>rfl
 rfl
def k7 (a:Su) (b:Int×Int) (c:aI):Su×(Int×Int):=if b.1=0 then(match gu c.kind with|none=>(a,b)|some _=>iK a c)else(a,b)
theorem Df {c:Su} {a:aI} (b:gu a.kind=none):db c a=.ok c:=by
 have a:¬(2<=a.kind/\a.kind<=10):=by
  unfold gu at b;repeat' split at b
  all_goals first|omega|cases b
 unfold db;rw[if_neg ae,if_neg ae,if_neg ae,if_neg ae,if_neg ae,if_neg ae,if_neg ae,if_neg ae,if_neg ae]
theorem vy (b:Su) (d:List (Int×Int)) (e:Int×Int) (a:aI) (f:List ((Int×Int)×aI)):
 eM b d ((e,a)::f)=eM (k7 b e a).1 (if(k7 b e a).2.1=0 then d else d++[(k7 b e a).2]) f:=by
 rw[eM];unfold k7;by_cases c:e.1=0
 ·rw[if_pos c,if_pos c]
  cases hs:gu a.kind with
  |none=>
   rw[Df hs];simp[c]
  |some i=>
   show _=eM (iK b a).1 (if(iK b a).2.1=0 then d else d++[(iK b a).2]) f;unfold iK;cases hp:db b a with
   |ok g=>simp
   |bad g j=>
    by_cases a:g=0
    ·simp[a]
    simp[a]
 rw[if_neg c,if_neg c];simp[c]
end Go.Proofs.YteamkimbmdgdbaaGreatDoor

import Derived.Test.YteamkimbmdgdbaaGreatDoorK18
set_option linter.unusedSimpArgs false
set_option linter.unusedVariables false
set_option maxHeartbeats 16000000
set_option maxRecDepth 100000
namespace Go.Proofs.YteamkimbmdgdbaaGreatDoor
open Go.Proofs.Tryz
open Go.RowKit
def iZ {b d:Type} (e c:ah) (g k:Nat) (l:aX) (m:Nat) (enc:b->List Value) (val:b->d) (At:World->(Nat->Prop)->b->Prop) (i:aT) (a j:Nat) (n:List b) (x:d) (o:Value->Array Value):Prop:=
 ∃(f:b) (b:aT) (d:Nat),val f=x/\aa c g 157 (o (O b (a+1) d))/\c.ownsRow k l m (O b (a+1) d) (a+1) ((n++[f]).flatMap enc)/\
  Kp (g::(Value.slice i a j).ownBlock.toList) e c/\((Value.slice b (a+1) d).ownBlock=(Value.slice i a j).ownBlock\/∃g,(Value.slice b (a+1) d).ownBlock=some g/\e.heap.size<=g)/\
  At c (λg=>Bw e.heap.size c.heap.size g/\some g≠(Value.slice b (a+1) d).ownBlock) f
theorem iZ.of {c o:Type} {w g d:ah} {i e:Nat} {j:aX} {m:Nat} {enc:c->List Value} {val:c->o} {At:World->(Nat->Prop)->c->Prop} {o:aT} {n q:Nat} {s:List c} {a:c} {x:bg} {t:Value->Array Value}
 (y:∀(w:ah) (S u:Nat->Prop) (a:c),At w S a->(∀b,S b->u b)->At w u a) (z:∀(w d:ah) (S:Nat->Prop) (a:c) (l:List Nat),At w S a->Kp l w d->(∀b∈l,¬S b)->At d S a)
 (k:Kp [] w g) (A:w.ownsRow e j m (O o n q) n x) (c:i<e) (c:e<=w.heap.size) (B:At g (Bw w.heap.size g.heap.size) a) (p:fL g d i e j m enc o n q s a t):iZ w d i e j m enc val At o n q s (val a) t:=by
 obtain⟨C,D,b,E,r,v⟩:=p;have hr:=b6 A;refine⟨a,C,D,rfl,b,E,(k.mono (λ_ h=>by cases h)).trans r,v.imp id (λ⟨a,h1,c⟩=>⟨a,h1,bL k.size c⟩),y _ _ _ _ (z _ _ _ _ _ B r ?_) ?_⟩
 ·exact sL
 intro b hS;have h1:=hS.1;have a:=hS.2;have a:=r.size;refine⟨⟨h1,by omega⟩,λf=>?_⟩;rcases v with h|⟨F,h,G⟩
 ·rw[h]at f
  have:=(hr b f.symm).2;omega
 rw[h]at f;injection f with f
 omega
structure dr where
 name:ByteArray
 table:Int
 at_:Int
 h:Hd
 terms:List Wg
def dr.cells (r:dr):List Value:=[.string r.name,.int .i64 r.table,.int .i64 r.at_,r.h.val]
def dr.mt (a:dr):Mt:=⟨a.name,a.table,a.at_,a.terms⟩
structure fi (w:ah) (S:Nat->Prop) (r:dr):Prop where
 l:aD w 7 r.h Wg.cells r.terms
 i:aV S r.h
theorem fi.mono (w:ah) (S S':Nat->Prop) (r:dr) (a:fi w S r) (c:∀b,S b->S' b):fi w S' r:=⟨a.l,a.i.mono c⟩
theorem fi.keep (w c:ah) (S:Nat->Prop) (d:dr) (l:List Nat) (b:fi w S d) (k:Kp l w c) (e:∀a∈l,¬S a):fi c S d:=⟨b.l.kp k (λa c d f=>e a f (b.i a c d)),b.i⟩
def s6 (b:List Tb) (a:Int) (x:aE):RO Mt:=
 (df b a x.table).bind λc=>RO.ap (aY x.terms.length 1 12) 3 a<|RO.ap (aY x.n 0 10000) 2 a<|
  (eR (co b c).attrs a [] x.terms).bind λa=>.ok ⟨x.name,c,x.n,a⟩
def FG (a:cL):Bool:=((mf a.num a.den&&(decide (0<=a.num)&&decide (a.num<=a.den)))&&aY a.gives 0 1000)&&(aY a.takes 0 1000&&(!decide (a.meas=5)||aY a.j2 0 999999999))
def kJ (b a:Int):Bool:=if b=1 then true else if b=5 then decide (a=2)||decide (a=3)else decide (a=1)
theorem FH {i:Type} (c:List At) (b:Int) (e:List Wg) (a:cL) (f:List cL) (d:List Wg->RO i):(eR c b e (a::f)).bind d=
 (cC b c a.attr).bind λg=>RO.ap (aY a.meas 1 5) 1 b<|RO.ap (FG a) 2 b<|RO.ap (kJ a.meas (cE c g).kind) 10 b<|(eR c b (e++[⟨g,a.meas,if a.meas=5 then a.j2 else 0,a.num,a.den,a.gives,a.takes⟩]) f).bind d:=by
 show((mg c b a).bind _).bind d=_;unfold mg;simp only[RO.bind_assoc,RO.gY];rfl
theorem Tryz.FI:(prog.info? 55).map (λa=>(a.zero,a.size,a.bytes))=some (some (.agg #[ai,J 0,J 0,ab]),4,56):=am
theorem Tryz.FJ:(prog.info? 59).map (λa=>(a.zero,a.size,a.bytes))=some (some (.agg #[J 0,J 0,J 0,J 0,J 0,J 0,J 0]),7,56):=am
theorem dr.len (k:dr):k.cells.length=4:=rfl
theorem Wg.len (k:Wg):k.cells.length=7:=rfl
theorem FK (m Y:Nat) (F:RI) (h:Hd) (s:List RT) (at_:Int) (a2 cu cv cw cx cy:aA) (H:aT) (r v:Nat) (aG:List dr) (f:ah) (aX:aa f m 157 #[h.val,a2,cu,O H r v,cv,cw,cx,cy,at_]) (aZ:bJ f h s) (lt:aD f 7 F.pf cL.cells F.terms) (cz:∀z∈F.terms,z.bW) (a0:f.ownsRow Y 55 4 (O H r v) r (aG.flatMap dr.cells)) (dN:aG.length=r) (cA:m<Y) (hb:Y<=f.heap.size) (dN:r<=1000):
 Calls prog 116 #[ak m,.agg F.cells.toArray] f λe w'=>jD f (s6 (s.map RT.tb) at_ F.it) (λx w'=>iZ f w' m Y 55 4 dr.cells dr.mt fi H r v aG x (λdN=>#[h.val,a2,cu,dN,cv,cw,cx,cy,at_])) e w':=by
 obtain⟨dO,dP,dQ,dS,dT⟩:=info_parts Tryz.FI;obtain⟨i0,hi0,nR,nS,nT⟩:=info_parts Tryz.FJ;obtain⟨a1,A,S⟩:=h;have a2:s.length=A:=aZ.1.1;have ad:=Z lt;have cB:=Z cz;have cD:=lt.1;have cF:=lt.2.1;clear lt cz;obtain⟨R,a2⟩:∃R,R=s6 (s.map RT.tb) at_ F.it:=⟨_,rfl⟩;rw[<-a2];have cG:=Z a2;clear a2;obtain⟨a3,k,a4,al,a5,⟨a6,a7,a8⟩,eI,⟨a9,bb,bg⟩,eJ,bh,j,bk,⟨an,bl,aI⟩,tl,bm,bp,⟨bq,br,bs⟩,eK,⟨bt,bv,bw⟩,eL,⟨bx,bz,bA⟩,eM,⟨bB,bC,⟨bE,bG,bH⟩,eN,⟨bK,bL,bM⟩,eO,⟨bN,bO,bP⟩,eP,bR,bS,bT,bV⟩⟩:=F;have cH:=Z (show R=(df (s.map RT.tb) at_ al).bind λc=>RO.ap (aY tl.length 1 12) 3 at_<|RO.ap (aY j 0 10000) 2 at_<|(eR (co (s.map RT.tb) c).attrs at_ [] tl).bind λl=>.ok (⟨k,c,j,l⟩:Mt)from cG);clear cG;have F:Hid (aD f 7 ⟨an,bl,aI⟩ cL.cells tl):=ad;clear ad;have ad:=F;clear F;have dU:Hid (∀z∈tl,z.bW):=cB;clear cB;have dV:tl.length=bl:=cD;have F:bl<=9223372036854775807:=cF;clear cD cF;subst dV;have cM:=aX.lt;have dW:=Z (Kp.refl [] f);have bZ:=Z aZ;have b0:=Z aX;have cN:=Z a0;have cP:=Z a0;show Calls prog 116 #[ak m,.agg #[a3,k,a4,al,a5,O a6 a7 a8,O a9 bb bg,bh,j,bk,O an tl.length aI,bm,bp,O bq br bs,O bt bv bw,O bx bz bA,bB,bC,O bE bG bH,O bK bL bM,O bN bO bP,bR,bS,bT,bV]] f _;clear aX aZ a0;go_enter func116,ntmps116
 go_upto_region 1 with(fail)
 obtain⟨cQ,F,cS,SN,aX⟩:=nb f 95 #[a3,k,a4,al,a5,O a6 a7 a8,O a9 bb bg,bh,j,bk,O an tl.length aI,bm,bp,O bq br bs,O bt bv bw,O bx bz bA,bB,bC,O bE bG bH,O bK bL bM,O bN bO bP,bR,bS,bT,bV];rw[F];clear F;have cT:=qk dW SN;have cU:=Z (bZ.same SN);have dX:=Z (aK SN cN);have aJ:=qb SN b0;have dY:=Z (ad.same SN);clear SN;have cV:ae cQ (ac m 0) (O a1 A S):=aa.cell aJ 0;have cW:=b4 aJ;have dZ:=aa.lt aJ;have d1:=bj cS;go_wp2_with fail
 refine dR cH.out (o5 m ⟨a1,A,S⟩ s al at_ cQ dZ cV cW cU.out) (fb cT) ?_;intro a b2 w2 cX T ao d;obtain⟨c,rfl,cY⟩:=nE cX;have b5:b2=.int .i64 (c:Int):=ao;subst b5;have b7:c<s.length:=by simpa using cY
 have ar:=Z (cT.trans d);have d2:=Z (cU.same (d.same));have O2:=Z (aK (d.same) dX);have cZ:=qo d aJ;have U:=qo d cS;have F:=Z (dY.same d.same);clear d;clear ao cX cY cV cW d1;go_upto_region 2 with(fail)
 have au:=b4 cZ;have d3:=b4 U;have d6:=nj U;have d7:=aa.lt U;have I:=Z (λn=>fI (tl.length:Int) 1 12 n);have b8:=Z (λn=>fI j 0 10000 n);obtain⟨aL,F⟩:∃aL,aL=aY (tl.length:Int) 1 12:=⟨_,rfl⟩;obtain⟨aN,aJ⟩:∃aN,aN=aY j 0 10000:=⟨_,rfl⟩;have aX:=Z (show R=RO.ap aL 3 at_ (RO.ap aN 2 at_ ((eR s[c].tb.attrs at_ [] tl).bind λl=>.ok (⟨k,c,j,l⟩:Mt))) by rw[T.out,nF s c b7,F,aJ]);clear T cH;have T:=aX;clear aX;rw[<-F]at I;rw[<-aJ]at b8;have c0:=Z F;clear F aJ;go_wp2_with fail
 refine(I.out w2).mono ?_;rintro e w' ⟨rfl,rfl⟩;cases aL
 case false=>
  go_wp2_with fail
  exact b3 ar.out (show R=RO.ap false _ at_ _ from T.out) au
 go_wp2_with fail
 refine bX ar.out (show R=RO.ap true _ at_ _ from T.out) au λca=>?_;have F:tl.length<=12:=by have h:=c0.out.symm;unfold aY at h;simp at h;omega
 clear T I c0;go_wp2_with fail
 refine(b8.out w2).mono ?_;rintro e w' ⟨rfl,rfl⟩;cases aN
 case false=>
  go_wp2_with fail
  exact b3 ar.out (show R=RO.ap false _ at_ _ from ca.out) au
 go_wp2_with fail
 refine bX ar.out (show R=RO.ap true _ at_ _ from ca.out) au λcb=>?_;clear ca b8 au;have d8:=aS U;have d7:=aa.lt U;go_upto_region 4 with(fail)
 go_upto_region 5 with(first|(refine wpList_store_row rfl 55 (.tmp 5) (.tmp 33) rfl w2.heap.size #[k,(c:Int),j,ab] rfl rfl 55 #[ai,J 0,J 0,ab] (aa.new w2 55 #[ai,J 0,J 0,ab]) am rfl bn ?_;rw[World.setRow_alloc_new])|fail)
 have T:=Z (Kp.refl [] w2);obtain⟨au,F,c1,SN,-⟩:=nb w2 55 #[k,(c:Int),j,ab];rw[F];clear F;have c2:=qk ar SN;have d9:=Z (d2.same SN);have ea:=qb SN cZ;have cd:=qb SN U;have c3:=qk T SN;clear SN;clear d3 d6 d8;have eb:=nj cd;obtain⟨b,n,c4,ec,ce,cg,ch⟩:=nD bZ.out c b7;have L:a1=some ⟨b,n,none⟩:=c4;have aO:=Z (bZ.2 _ (List.getElem_mem b7));have ci:=Z (λ(a:av) (q:ah) (o:ag f q)=>o6 m s[c] a at_ q (aR cM o.size) ((o.cell (p:=(ac m 8)) cM).trans (aa.cell b0 8)) (aO.same o));obtain⟨tq,c5⟩:∃tq,tq=s[c]:=⟨_,rfl⟩;rw[<-c5]at ce cg ch ci cb aO;obtain⟨c6,⟨az,M,cj⟩,w,⟨c7,c8,c9⟩,eQ⟩:=tq;have o:Hid (b<f.heap.size/\ae f (ac b (n+c*3)) c6/\ae f (ac b (n+c*3+1)) (O az M cj)/\ae f (ac b (n+c*3+2)) (O c7 c8 c9)):=Z ⟨ec,ce,cg,ch⟩;have db:Hid (∀(a:av) (q:ah),ag f q->Calls prog 187 #[ak m,.agg #[c6,O az M cj,O c7 c8 c9],a] q λe w'=>RP [] q (cC at_ (w.map RA.at_) a) h8 e w'):=ci;have ed:Hid (fq f ⟨az,M,cj⟩ w):=aO.1;obtain⟨t,hF⟩:∃t:List Wg->RO Mt,t=λl=>.ok (⟨k,c,j,l⟩:Mt):=⟨_,rfl⟩;have ee:=Z (λl=>congrFun hF l);obtain⟨q,N⟩:∃q,q=w.map RA.at_:=⟨_,rfl⟩;have ck:=Z N;have dc:=Z (show R=(eR q at_ [] tl).bind t by rw[hF,N];exact cb.out);rw[<-N]at db;clear ce cg ch ci cb c5 c4 aO hF N;have s:(c:Int)<A:=af
 have s:(0:Int)<=c:=af
 subst L;go_wp2_with fail
 go_loopg [37] (tl.length+1) (λs u wr=>∃(i:Nat) (l:List Wg) (Af:aT) (cf:Nat),u=.int .i64 i/\i<=tl.length/\tl.length-i<s/\l.length=i/\Hid (wr.ownsRow (w2.heap.size+1) 59 7 (O Af i cf) i (l.flatMap Wg.cells))/\Hid (aa wr w2.heap.size 55 #[k,(c:Int),j,O Af i cf])/\Hid (aa wr f.heap.size 95 #[a3,k,a4,al,a5,O a6 a7 a8,O a9 bb bg,bh,j,bk,O an tl.length aI,bm,bp,O bq br bs,O bt bv bw,O bx bz bA,bB,bC,O bE bG bH,O bK bL bM,O bN bO bP,bR,bS,bT,bV])/\Hid (Kp [] f wr)/\Hid (Kp [] w2 wr)/\Hid (R=(eR q at_ l (tl.drop i)).bind t))
 case atStart=>exact⟨0,[],none,0,rfl,by omega,by omega,rfl,Z ⟨rfl,.inl ⟨rfl,rfl⟩⟩,c1,cd,c2,c3,dc⟩
 obtain⟨i,l,Af,cf,rfl,eS,dd,dg,q2,P,ef,Q,eg,aP⟩:=hrel;have ga:=Z dd;have s7:=Z dg;clear dd dg c1 cd ea d9 c2 c3 dc eb;have eh:=Z (Kp.refl [] wr);have ei:=Z (aK Q.same cN);have ej:=Z (ad.same Q.same);have ek:=Z (ed.same Q.same);have aQ:=qo Q b0;have s:=Q.size;have s:=aa.lt P;by_cases hlt:i<tl.length
 case neg=>
  have s:¬(i:Int)<tl.length:=af
  have aV:=Z (show R=t l by rw[aP.out,List.drop_of_length_le af];rfl);clear aP;have X:=bj aQ;have s:=aa.lt aQ;have B:=ay P;have C:=aS P;have D:=bc P;have E:=bj P;have s:=aa.lt P;go_upto_region 24 with(fail)
  refine si 9 X B C D E λhS=>?_;refine cR ?_;refine jH ?_;have aW:(λw':World=>ae w' (ac m 3) (O H r v)/\ae w' (aq w2 0) k/\ae w' (aq w2 1) (c:Int)/\ae w' (aq w2 2) j/\ae w' (aq w2 3) (O Af i cf)) (wr.drew.alloc (.cells #[k,(c:Int),j,O Af i cf] 55)):=⟨bi X,bi B,bi C,bi D,bi E⟩;refine aM 7 (λK u=>?_);go_simp;refine u.out _ _ (λ_=>aW) ?_;refine aw ?_;have aC:=Z (aK ((ag.refl wr.drew).alloc (.cells #[k,(c:Int),j,O Af i cf] 55)) (aK ((ag.refl wr).drew) ei));have fZ:=Z (cJ wr.drew #[k,(c:Int),j,O Af i cf] 55 4 rfl);have aE:=Z (aQ.drew.alloc (.cells #[k,(c:Int),j,O Af i cf] 55));refine aM 8 (λK u=>?_);refine de (wr.drew.alloc (.cells #[k,(c:Int),j,O Af i cf] 55)) (.tmp 160) (.tmp 162) 32 rfl Y 55 dO _ 4 56 underlying32 dP dQ dS dT rfl ax (O H r v) r (aG.flatMap dr.cells) rfl aC.out (wr.heap.size+1) (some ⟨wr.heap.size,0,none⟩) 1 1 ((#[k,(c:Int),j,O Af i cf]:Array Value).toList) rfl fZ.out bn b9 af cK ?_;intro s s V hg N;obtain⟨aF,aU,rfl,fD⟩:=bu V;have hrow:=b6 cP;have s:some m≠(.slice H r v:aA).ownBlock:=λe=>by have:=hrow m e.symm;omega
  have W:=Z (aE.grown hg s);have s:=bj W;have F:=λi=>aa.frozen W i;have cl:=Z V;have y:=Z (fK (((Kp.refl [] wr).drew).alloc _) hg);have cn:=Z (show(Value.slice aF (r+1) aU).ownBlock=(.slice H r v:aA).ownBlock\/∃g,(Value.slice aF (r+1) aU).ownBlock=some g/\wr.heap.size<=g from N.imp id (λh=>⟨_,h,by simp[eu]⟩));clear V N fD aC fZ aE;refine u.out _ _ (λ_=>⟨s,bF y.out B,bF y.out C,bF y.out D,bF y.out E⟩) ?_;refine aw ?_;refine b1 ?_;refine ph ?_;refine dF 12 (λK u=>?_);go_simp;refine u _ _ ?_;refine aw ?_;refine bQ ?_;go_wp2_with fail
  refine bodyPost_ret (results_none rfl _ _ _) rfl ?_;rw[aV.out,ee.out l];have FL:=cI (h:=⟨Af,i,cf⟩) Wg.len s7 (by show i<=_;omega) q2;have f:fi wr (Bw f.heap.size wr.heap.size) (⟨k,c,j,⟨Af,i,cf⟩,l⟩:dr):=⟨FL,(λb f e=>by have h:=b6 q2.out b (by show(Value.slice Af i cf).ownBlock=_;have f:Af=some ⟨b,f,none⟩:=e;rw[f];rfl);exact⟨by omega,h.2⟩)⟩;exact⟨rfl,iZ.of (val:=dr.mt) fi.mono fi.keep Q.out cP.out cA hb f (fL.jC (enc:=dr.cells) (x:=(⟨k,c,j,⟨Af,i,cf⟩,l⟩:dr)) (ag.refl wr) W.out cl.out y.out cA rfl cn.out)⟩
 have f:(i:Int)<tl.length:=af
 obtain⟨B,of,j,f,y⟩:=ej.out.2.2 i hlt;have L:an=some ⟨B,of,none⟩:=j;obtain⟨z,f⟩:∃z,z=tl[i]:=⟨_,rfl⟩;have cl:=Z (show z.bW by rw[f];exact dU.out _ (List.getElem_mem hlt));rw[<-f]at y;have aU:=Z (show R=_ by rw[aP.out,List.drop_eq_getElem_cons hlt,FH,<-f]);clear f j aP;obtain⟨aC,dI,fR,da,dx,d4,d5⟩:=z;have el:ae wr (ac B (of+i*7)) aC:=by simpa using y 0 _ rfl
 have v1:ae wr (ac B (of+i*7+1)) dI:=y 1 _ rfl;have em:ae wr (ac B (of+i*7+2)) fR:=y 2 _ rfl;have eq:ae wr (ac B (of+i*7+3)) da:=y 3 _ rfl;have es:ae wr (ac B (of+i*7+4)) dx:=y 4 _ rfl;have et:ae wr (ac B (of+i*7+5)) d4:=y 5 _ rfl;have ew:ae wr (ac B (of+i*7+6)) d5:=y 6 _ rfl;have f:IntKind.i64.wrap ((i:Int)+1)=(i:Int)+1:=IntWalk.i64_in _ af;clear y;subst L;have dh:bY da:=cl.num;have di:bY dx:=cl.den;have kK:=Z (λf=>DL da dx f dh di);have dj:Hid (R=(cC at_ q aC).bind λv=>RO.ap (aY dI 1 5) 1 at_<|RO.ap (((mf da dx&&(decide (0<=da)&&decide (da<=dx)))&&aY d4 0 1000)&&(aY d5 0 1000&&(!decide (dI=5)||aY fR 0 999999999))) 2 at_<|RO.ap (kJ dI (cE q v).kind) 10 at_<|(eR q at_ (l++[⟨v,dI,if dI=5 then fR else 0,da,dx,d4,d5⟩]) (tl.drop (i+1))).bind t):=aU;clear aU dh di cl;have aU:=dj;clear dj;go_upto_region 8 with(first|(refine wpList_store_row rfl 260 (.tmp 7) (.tmp 40) rfl wr.heap.size #[aC,dI,fR,da,dx,d4,d5] rfl rfl 260 #[ai,J 0,J 0,J 0,J 0,J 0,J 0] (aa.new wr 260 #[ai,J 0,J 0,J 0,J 0,J 0,J 0]) am rfl bn ?_;rw[World.setRow_alloc_new])|fail)
 obtain⟨cn,f,dk,SN,-⟩:=nb wr 260 #[aC,dI,fR,da,dx,d4,d5];rw[f];clear f;have V:=qk Q SN;have dl:=qb SN aQ;have ex:=qb SN ef;have ey:=qb SN P;have ez:=Z (ek.same SN);have eA:=qk eg SN;have eB:=qk eh SN;clear SN;clear el v1 em eq es et ew;have dm:=(V.cell (p:=(ac b (n+c*3))) o.1 aj).trans o.2.1;have dn:=(V.cell (p:=(ac b (n+c*3+1))) o.1 aj).trans o.2.2.1;have dp:=(V.cell (p:=(ac b (n+c*3+2))) o.1 aj).trans o.2.2.2;have ds:ae cn (ac m 0) (O (some ⟨b,n,none⟩) A S):=aa.cell dl 0;have dt:=ay dk;refine si 14 ds dm dn dp dt λhS=>?_;refine dq ?_;refine eo ?_;refine tk 11 hS ?_;refine aM 12 (λK eC=>?_);go_simp;refine dR aU.out (db.out aC cn.drew V.out.drew.same) (fb (V.out.drew)) ?_;intro a b2 lI du C ao d;have d:=Z (((Kp.refl [] cn).drew).trans d);have b5:b2=.int .i64 a:=ao;subst b5;obtain⟨fc,eD,cp⟩:=qQ du;subst eD;have aV:fc<w.length:=by rw[ck.out]at cp;simpa using cp
 clear cp;have i7:=Z (V.trans d);have kL:=qo d dl;have nU:=qo d ex;have nV:=qo d ey;have i8:=qo d dk;have nW:=Z (ez.same d.same);have nX:=Z (eA.trans d);have nY:=Z (eB.trans d);clear d;try go_simp
 have dv:=(i7.cell (p:=(ac b (n+c*3))) o.1 aj).trans o.2.1;have dw:=(i7.cell (p:=(ac b (n+c*3+1))) o.1 aj).trans o.2.2.1;have dy:=(i7.cell (p:=(ac b (n+c*3+2))) o.1 aj).trans o.2.2.2;have dz:ae lI (ac m 0) (O (some ⟨b,n,none⟩) A S):=aa.cell kL 0;have dA:=ay i8;refine o1 eC ⟨dz,dv,dw,dy,dA⟩ λf=>?_;refine aw ?_;refine tk 13 f ?_;refine gS am ?_ _;clear hS f ds dm dn dp dt ao du;have I:=Z (λf=>fI dI 1 5 f);have lJ:=Z (λf=>fI d4 0 1000 f);have mH:=Z (λf=>fI d5 0 1000 f);have aE:=Z (λf=>fI fR 0 999999999 f);generalize aY dI 1 5=eE at I C;generalize aY d4 0 1000=cq at lJ C;generalize aY d5 0 1000=cr at mH C;generalize aY fR 0 999999999=dB at aE C;generalize mf da dx=cs at kK C;clear dz dv dw dy dA;have eF:=aS i8;have aW:=b4 kL;go_wp2_with fail
 refine(I.out lI).mono ?_;rintro e w' ⟨rfl,rfl⟩;cases eE
 case false=>
  go_wp2_with fail
  exact b3 i7.out (show R=RO.ap false _ at_ _ from C.out) aW
 go_wp2_with fail
 refine bX i7.out (show R=RO.ap true _ at_ _ from C.out) aW λgp=>?_;clear C I aW;obtain⟨RS,ct⟩:∃RS:RO Mt,RS=(RO.ap (kJ dI (cE q fc).kind) 10 at_<|(eR q at_ (l++[⟨(fc:Int),dI,if dI=5 then fR else 0,da,dx,d4,d5⟩]) (tl.drop (i+1))).bind t):=⟨_,rfl⟩;have D:=Z ct;have dC:=Z (show R=RO.ap (((cs&&(decide (0<=da)&&decide (da<=dx)))&&cq)&&(cr&&(!decide (dI=5)||dB))) 2 at_ RS by rw[ct];exact gp.out);clear gp ct;have gp:=dC;clear dC;have eF:=aS i8;have f:=bj i8;have f:=bo i8;have aW:=b4 kL;by_cases aF:dI=5
 case pos=>
  have dD:=True.intro;have dE:=True.intro;subst aF;clear dD dE;have dD:((5:Int)==5)=true:=rfl;have dE:decide ((5:Int)=5)=true:=rfl;have dG:Hid (RS=(RO.ap (kJ 5 (cE q fc).kind) 10 at_<|(eR q at_ (l++[⟨(fc:Int),5,fR,da,dx,d4,d5⟩]) (tl.drop (i+1))).bind t)):=D;clear D;have D:=dG;clear dG;cases cs
  case false=>
   exact nZ
  by_cases dH:0<=da
  case neg=>
   have f:=decide_eq_false dH;exact nZ
  have f:=decide_eq_true dH;by_cases dJ:da<=dx
  case neg=>
   have f:=decide_eq_false dJ;exact nZ
  have f:=decide_eq_true dJ;cases cq
  case false=>
   exact xB
  cases cr
  case false=>
   exact xC
  cases dB
  case false=>
   have g3:=Z (show R=RO.ap false 2 at_ RS by rw[gp.out];simp[*]);clear gp;go_wp2_with fail
   refine(kK.out lI).mono ?_;rintro e d0 ⟨rfl,bU⟩;have ep:=en i7 bU;have gq:=cO bU kL;have mI:=cO bU nU;have mJ:=cO bU nV;have cm:=cO bU i8;have kM:=Z (nW.same bU);have mK:=en nX bU;have mL:=en nY bU;have z23:=ep.size;clear bU;have mM:=aS cm;have mN:=bc cm;have mO:=bj cm;have mP:=bo cm;have mQ:=bI cm;have mR:=cc cm;have pC:=aa.lt cm;have fj:=b4 gq;go_wp2_with fail
   refine(lJ.out d0).mono ?_;rintro e w' ⟨rfl,rfl⟩;go_wp2_with fail
   refine(mH.out d0).mono ?_;rintro e w' ⟨rfl,rfl⟩;go_wp2_with fail
   refine(aE.out d0).mono ?_;rintro e w' ⟨rfl,rfl⟩;go_wp2_with fail
   exact b3 ep.out g3.out fj
  have g3:=Z (show R=RO.ap true 2 at_ RS by rw[gp.out];simp[*]);clear gp;go_wp2_with fail
  refine(kK.out lI).mono ?_;rintro e d0 ⟨rfl,bU⟩;have ep:=en i7 bU;have gq:=cO bU kL;have mI:=cO bU nU;have mJ:=cO bU nV;have cm:=cO bU i8;have kM:=Z (nW.same bU);have mK:=en nX bU;have mL:=en nY bU;have z23:=ep.size;clear bU;have mM:=aS cm;have mN:=bc cm;have mO:=bj cm;have mP:=bo cm;have mQ:=bI cm;have mR:=cc cm;have pC:=aa.lt cm;have fj:=b4 gq;go_wp2_with fail
  refine(lJ.out d0).mono ?_;rintro e w' ⟨rfl,rfl⟩;go_wp2_with fail
  refine(mH.out d0).mono ?_;rintro e w' ⟨rfl,rfl⟩;go_wp2_with fail
  refine(aE.out d0).mono ?_;rintro e w' ⟨rfl,rfl⟩;go_wp2_with fail
  refine bX ep.out g3.out fj λj=>?_;clear g3;clear kK lJ mH aE fj;have dK:=(ep.cell (p:=(ac b (n+c*3+1))) o.1 aj).trans o.2.2.1;obtain⟨ba,f,k,B,r,dL,s,v,y,z⟩:=iR kM.out fc aV;have L:az=some ⟨ba,f,none⟩:=k;have f:(fc:Int)<M:=by have:=kM.out.1.1;have f:w.length=M:=this;omega
  have f:(0:Int)<=fc:=af
  obtain⟨u,f⟩:∃u,u=w[fc].at_.kind:=⟨_,rfl⟩;rw[<-f]at dL;have dM:=Z (show R=RO.ap (kJ 5 u) 10 at_ ((eR q at_ (l++[⟨(fc:Int),5,fR,da,dx,d4,d5⟩]) (tl.drop (i+1))).bind t) by rw[j.out,D.out,ck.out,ki w fc aV,<-f]);clear j f r s v y z k;subst L;have eG:=dK;clear dK;have eH:ae d0 (ac m 0) (O (some ⟨b,n,none⟩) A S):=aa.cell gq 0;have fj:=b4 gq;go_upto_region 14 with(fail)
  clear eH eG dL;have W:=Z (show R=RO.ap (decide (u=2)||decide (u=3)) 10 at_ _ by rw[dM.out];rfl);clear dM;by_cases E:u=2
  case pos=>
   have f:(u==2)=true:=by simp[E]
   have jQ:=Z (show R=RO.ap true 10 at_ _ by rw[W.out,decide_eq_true E];rfl);clear W E;exact xD
  have f:(u==2)=false:=by simp[E]
  by_cases X:u=3
  case pos=>
   have f:(u==3)=true:=by simp[X]
   have jQ:=Z (show R=RO.ap true 10 at_ _ by rw[W.out,decide_eq_false E,decide_eq_true X];rfl);clear W X E;exact xD
  have f:(u==3)=false:=by simp[X]
  have jQ:=Z (show R=RO.ap false 10 at_ _ by rw[W.out,decide_eq_false E,decide_eq_false X];rfl);clear W X E;go_wp2_with fail
  exact b3 ep.out jQ.out fj
 have f:(dI==5)=false:=by simp[aF]
 have f:=decide_eq_false aF;have dD:=Z (show RS=(RO.ap (kJ dI (cE q fc).kind) 10 at_<|(eR q at_ (l++[⟨(fc:Int),dI,0,da,dx,d4,d5⟩]) (tl.drop (i+1))).bind t) by rw[D.out,if_neg aF]);clear D;have D:=dD;clear dD;cases cs
 case false=>
  exact nZ
 by_cases dE:0<=da
 case neg=>
  have f:=decide_eq_false dE;exact nZ
 have f:=decide_eq_true dE;by_cases dG:da<=dx
 case neg=>
  have f:=decide_eq_false dG;exact nZ
 have f:=decide_eq_true dG;cases cq
 case false=>
  exact xB
 cases cr
 case false=>
  exact xC
 have g3:=Z (show R=RO.ap true 2 at_ RS by rw[gp.out];simp[*]);clear gp;go_wp2_with fail
 refine(kK.out lI).mono ?_;rintro e d0 ⟨rfl,bU⟩;have ep:=en i7 bU;have gq:=cO bU kL;have mI:=cO bU nU;have mJ:=cO bU nV;have cm:=cO bU i8;have kM:=Z (nW.same bU);have mK:=en nX bU;have mL:=en nY bU;have z23:=ep.size;clear bU;have mM:=aS cm;have mN:=bc cm;have mO:=bj cm;have mP:=bo cm;have mQ:=bI cm;have mR:=cc cm;have pC:=aa.lt cm;have fj:=b4 gq;go_wp2_with fail
 refine(lJ.out d0).mono ?_;rintro e w' ⟨rfl,rfl⟩;go_wp2_with fail
 refine(mH.out d0).mono ?_;rintro e w' ⟨rfl,rfl⟩;go_wp2_with fail
 refine bX ep.out g3.out fj λf=>?_;clear g3;clear kK lJ mH aE fj;have dH:=(ep.cell (p:=(ac b (n+c*3+1))) o.1 aj).trans o.2.2.1;obtain⟨ba,c,j,y,k,dJ,o,r,s,v⟩:=iR kM.out fc aV;have L:az=some ⟨ba,c,none⟩:=j;have c:(fc:Int)<M:=by have:=kM.out.1.1;have c:w.length=M:=this;omega
 have c:(0:Int)<=fc:=af
 obtain⟨u,c⟩:∃u,u=w[fc].at_.kind:=⟨_,rfl⟩;rw[<-c]at dJ;have W:=Z (show R=RO.ap (kJ dI u) 10 at_ ((eR q at_ (l++[⟨(fc:Int),dI,0,da,dx,d4,d5⟩]) (tl.drop (i+1))).bind t) by rw[f.out,D.out,ck.out,ki w fc aV,<-c]);clear f c k o r s v j;subst L;have dK:=dH;clear dH;have dL:ae d0 (ac m 0) (O (some ⟨b,n,none⟩) A S):=aa.cell gq 0;have fj:=b4 gq;go_upto_region 14 with(fail)
 clear dL dK dJ;by_cases E:dI=1
 case pos=>
  have c:(dI==1)=true:=by simp[E]
  have q3:=Z (show R=(eR q at_ (l++[⟨(fc:Int),dI,0,da,dx,d4,d5⟩]) (tl.drop (i+1))).bind t by rw[W.out];unfold kJ;rw[if_pos E];rfl);clear W E;exact xE
 have c:(dI==1)=false:=by simp[E]
 have X:=Z (show R=RO.ap (decide (u=1)) 10 at_ _ by rw[W.out];unfold kJ;rw[if_neg E,if_neg aF]);clear W;by_cases d:u=1
 case pos=>
  have c:(u==1)=true:=by simp[d]
  have jQ:=Z (show R=RO.ap true 10 at_ _ by rw[X.out,decide_eq_true d]);clear X d;go_wp2_with fail
  refine bX ep.out jQ.out fj λq3=>?_;clear jQ;exact xE
 have c:(u==1)=false:=by simp[d]
 have jQ:=Z (show R=RO.ap false 10 at_ _ by rw[X.out,decide_eq_false d]);clear X d;go_wp2_with fail
 exact b3 ep.out jQ.out fj
end Go.Proofs.YteamkimbmdgdbaaGreatDoor

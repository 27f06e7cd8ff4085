import Derived.Test.YteamkimbmdgdbaaGreatDoorK18
set_option linter.unusedSimpArgs false
set_option linter.unusedVariables false
set_option maxHeartbeats 16000000
set_option maxRecDepth 100000
namespace Go.Proofs.YteamkimbmdgdbaaGreatDoor
open Go.Proofs.Tryz
open Go.RowKit
def iT {b d:Type} (e c:ah) (g k:Nat) (l:aX) (m:Nat) (enc:b->List Value) (val:b->d) (At:World->(Nat->Prop)->b->Prop) (i:aU) (a j:Nat) (n:List b) (x:d) (o:Value->Array Value):Prop:=
 ∃(f:b) (b:aU) (d:Nat),val f=x/\aa c g 157 (o (O b (a+1) d))/\c.ownsRow k l m (O b (a+1) d) (a+1) ((n++[f]).flatMap enc)/\
  Kp (g::(Value.slice i a j).ownBlock.toList) e c/\((Value.slice b (a+1) d).ownBlock=(Value.slice i a j).ownBlock\/∃g,(Value.slice b (a+1) d).ownBlock=some g/\e.heap.size<=g)/\
  At c (λg=>Bw e.heap.size c.heap.size g/\some g≠(Value.slice b (a+1) d).ownBlock) f
theorem iT.of {c o:Type} {w g d:ah} {i e:Nat} {j:aX} {m:Nat} {enc:c->List Value} {val:c->o} {At:World->(Nat->Prop)->c->Prop} {o:aU} {n q:Nat} {s:List c} {a:c} {x:aP} {t:Value->Array Value}
 (y:∀(w:ah) (S u:Nat->Prop) (a:c),At w S a->(∀b,S b->u b)->At w u a) (z:∀(w d:ah) (S:Nat->Prop) (a:c) (l:List Nat),At w S a->Kp l w d->(∀b∈l,¬S b)->At d S a)
 (k:Kp [] w g) (A:w.ownsRow e j m (O o n q) n x) (c:i<e) (c:e<=w.heap.size) (B:At g (Bw w.heap.size g.heap.size) a) (p:fP g d i e j m enc o n q s a t):iT w d i e j m enc val At o n q s (val a) t:=by
 obtain⟨C,D,b,E,r,v⟩:=p;have hr:=b2 A;refine⟨a,C,D,rfl,b,E,(k.mono (λ_ h=>by cases h)).trans r,v.imp id (λ⟨a,h1,c⟩=>⟨a,h1,bJ k.size c⟩),y _ _ _ _ (z _ _ _ _ _ B r ?_) ?_⟩
 ·exact sB
 intro b hS;have h1:=hS.1;have a:=hS.2;have a:=r.size;refine⟨⟨h1,by omega⟩,λf=>?_⟩;rcases v with h|⟨F,h,G⟩
 ·rw[h]at f
  have:=(hr b f.symm).2;omega
 rw[h]at f;injection f with f
 omega
structure dF where
 name:ByteArray
 table:Int
 at_:Int
 h:Hd
 terms:List Wg
def dF.cells (r:dF):List Value:=[.string r.name,.int .i64 r.table,.int .i64 r.at_,r.h.val]
def dF.mt (a:dF):Mt:=⟨a.name,a.table,a.at_,a.terms⟩
structure fh (w:ah) (S:Nat->Prop) (r:dF):Prop where
 l:aE w 7 r.h Wg.cells r.terms
 i:bc S r.h
theorem fh.mono (w:ah) (S S':Nat->Prop) (r:dF) (a:fh w S r) (c:∀b,S b->S' b):fh w S' r:=⟨a.l,a.i.mono c⟩
theorem fh.keep (w c:ah) (S:Nat->Prop) (d:dF) (l:List Nat) (b:fh w S d) (k:Kp l w c) (e:∀a∈l,¬S a):fh c S d:=⟨b.l.kp k (λa c d f=>e a f (b.i a c d)),b.i⟩
def sR (b:List Tb) (a:Int) (x:aB):RO Mt:=
 (d1 b a x.table).bind λc=>RO.ap (aY x.terms.length 1 12) 3 a<|RO.ap (aY x.n 0 10000) 2 a<|
  (fu (dB b c).attrs a [] x.terms).bind λa=>.ok ⟨x.name,c,x.n,a⟩
def Fw (a:ct):Bool:=((l9 a.num a.den&&(decide (0<=a.num)&&decide (a.num<=a.den)))&&aY a.gives 0 1000)&&(aY a.takes 0 1000&&(!decide (a.meas=5)||aY a.jW 0 999999999))
def kM (b a:Int):Bool:=if b=1 then true else if b=5 then decide (a=2)||decide (a=3)else decide (a=1)
theorem Fy {i:Type} (c:List At) (b:Int) (e:List Wg) (a:ct) (f:List ct) (d:List Wg->RO i):(fu c b e (a::f)).bind d=
 (cS b c a.attr).bind λg=>RO.ap (aY a.meas 1 5) 1 b<|RO.ap (Fw a) 2 b<|RO.ap (kM a.meas (cH c g).kind) 10 b<|(fu c b (e++[⟨g,a.meas,if a.meas=5 then a.jW else 0,a.num,a.den,a.gives,a.takes⟩]) f).bind d:=by
 show((oK c b a).bind _).bind d=_;unfold oK;simp only[RO.bind_assoc,RO.gW];rfl
theorem Tryz.Fz:(prog.info? 55).map (λa=>(a.zero,a.size,a.bytes))=some (some (.agg #[ai,J 0,J 0,ab]),4,56):=am
theorem Tryz.FA:(prog.info? 59).map (λa=>(a.zero,a.size,a.bytes))=some (some (.agg #[J 0,J 0,J 0,J 0,J 0,J 0,J 0]),7,56):=am
theorem dF.len (k:dF):k.cells.length=4:=rfl
theorem Wg.len (k:Wg):k.cells.length=7:=rfl
theorem FB (m Y:Nat) (F:RI) (h:Hd) (s:List RT) (at_:Int) (a3 cu cv cw cx cy:aA) (H:aU) (r v:Nat) (aG:List dF) (f:ah) (aX:aa f m 157 #[h.val,a3,cu,O H r v,cv,cw,cx,cy,at_]) (a0:bI f h s) (lt:aE f 7 F.o8 ct.cells F.terms) (cz:∀z∈F.terms,z.bo) (a1:f.ownsRow Y 55 4 (O H r v) r (aG.flatMap dF.cells)) (dL:aG.length=r) (cA:m<Y) (hb:Y<=f.heap.size) (dL:r<=1000):
 Calls prog 116 #[ak m,.agg F.cells.toArray] f λe w'=>jy f (sR (s.map RT.tb) at_ F.it) (λx w'=>iT f w' m Y 55 4 dF.cells dF.mt fh H r v aG x (λdL=>#[h.val,a3,cu,dL,cv,cw,cx,cy,at_])) e w':=by
 obtain⟨dM,dN,dO,dP,dR⟩:=info_parts Tryz.Fz;obtain⟨i0,hi0,nL,nM,nN⟩:=info_parts Tryz.FA;obtain⟨a2,A,S⟩:=h;have a3:s.length=A:=a0.1.1;have ad:=Z lt;have cB:=Z cz;have cC:=lt.1;have cD:=lt.2.1;clear lt cz;obtain⟨R,a3⟩:∃R,R=sR (s.map RT.tb) at_ F.it:=⟨_,rfl⟩;rw[<-a3];have cE:=Z a3;clear a3;obtain⟨a4,k,a5,al,a6,⟨a7,a8,a9⟩,eH,⟨bb,bc,bd⟩,eI,bh,j,bk,⟨an,bm,aH⟩,tl,bn,bp,⟨bq,br,bs⟩,eJ,⟨bt,bu,bx⟩,eK,⟨bz,bA,bB⟩,eM,⟨bC,bE,⟨bH,bJ,bK⟩,eN,⟨bL,bN,bO⟩,eO,⟨bP,bR,bS⟩,eP,bT,bU,bW,bX⟩⟩:=F;have cF:=Z (show R=(d1 (s.map RT.tb) at_ al).bind λc=>RO.ap (aY tl.length 1 12) 3 at_<|RO.ap (aY j 0 10000) 2 at_<|(fu (dB (s.map RT.tb) c).attrs at_ [] tl).bind λl=>.ok (⟨k,c,j,l⟩:Mt)from cE);clear cE;have F:Hid (aE f 7 ⟨an,bm,aH⟩ ct.cells tl):=ad;clear ad;have ad:=F;clear F;have dS:Hid (∀z∈tl,z.bo):=cB;clear cB;have dT:tl.length=bm:=cC;have F:bm<=9223372036854775807:=cD;clear cC cD;subst dT;have cG:=aX.lt;have dU:=Z (Kp.refl [] f);have bY:=Z a0;have b0:=Z aX;have cI:=Z a1;have cL:=Z a1;show Calls prog 116 #[ak m,.agg #[a4,k,a5,al,a6,O a7 a8 a9,O bb bc bd,bh,j,bk,O an tl.length aH,bn,bp,O bq br bs,O bt bu bx,O bz bA bB,bC,bE,O bH bJ bK,O bL bN bO,O bP bR bS,bT,bU,bW,bX]] f _;clear aX a0 a1;go_enter func116,ntmps116
 go_upto_region 1 with(fail)
 obtain⟨cM,F,cP,SN,aX⟩:=nb f 95 #[a4,k,a5,al,a6,O a7 a8 a9,O bb bc bd,bh,j,bk,O an tl.length aH,bn,bp,O bq br bs,O bt bu bx,O bz bA bB,bC,bE,O bH bJ bK,O bL bN bO,O bP bR bS,bT,bU,bW,bX];rw[F];clear F;have cQ:=qk dU SN;have cR:=Z (bY.same SN);have dV:=Z (aK SN cI);have aJ:=qb SN b0;have dW:=Z (ad.same SN);clear SN;have cT:ae cM (ac m 0) (O a2 A S):=aa.cell aJ 0;have cU:=b4 aJ;have dZ:=aa.lt aJ;have d0:=bi cP;go_wp2_with fail
 refine dQ cF.out (o1 m ⟨a2,A,S⟩ s al at_ cM dZ cT cU cR.out) (fb cQ) ?_;intro a b5 w2 cV T aq d;obtain⟨c,rfl,cW⟩:=ny cV;have b6:b5=.int .i64 (c:Int):=aq;subst b6;have b7:c<s.length:=by simpa using cW
 have ar:=Z (cQ.trans d);have d2:=Z (cR.same (d.same));have O2:=Z (aK (d.same) dV);have cX:=qo d aJ;have U:=qo d cP;have F:=Z (dW.same d.same);clear d;clear aq cV cW cT cU d0;go_upto_region 2 with(fail)
 have av:=b4 cX;have d3:=b4 U;have d6:=m5 U;have d7:=aa.lt U;have I:=Z (λn=>fM (tl.length:Int) 1 12 n);have b8:=Z (λn=>fM j 0 10000 n);obtain⟨aL,F⟩:∃aL,aL=aY (tl.length:Int) 1 12:=⟨_,rfl⟩;obtain⟨aN,aJ⟩:∃aN,aN=aY j 0 10000:=⟨_,rfl⟩;have aX:=Z (show R=RO.ap aL 3 at_ (RO.ap aN 2 at_ ((fu s[c].tb.attrs at_ [] tl).bind λl=>.ok (⟨k,c,j,l⟩:Mt))) by rw[T.out,nz s c b7,F,aJ]);clear T cF;have T:=aX;clear aX;rw[<-F]at I;rw[<-aJ]at b8;have cY:=Z F;clear F aJ;go_wp2_with fail
 refine(I.out w2).mono ?_;rintro e w' ⟨rfl,rfl⟩;cases aL
 case false=>
  go_wp2_with fail
  exact b1 ar.out (show R=RO.ap false _ at_ _ from T.out) av
 go_wp2_with fail
 refine bV ar.out (show R=RO.ap true _ at_ _ from T.out) av λb9=>?_;have F:tl.length<=12:=by have h:=cY.out.symm;unfold aY at h;simp at h;omega
 clear T I cY;go_wp2_with fail
 refine(b8.out w2).mono ?_;rintro e w' ⟨rfl,rfl⟩;cases aN
 case false=>
  go_wp2_with fail
  exact b1 ar.out (show R=RO.ap false _ at_ _ from b9.out) av
 go_wp2_with fail
 refine bV ar.out (show R=RO.ap true _ at_ _ from b9.out) av λca=>?_;clear b9 b8 av;have d8:=aS U;have d7:=aa.lt U;go_upto_region 4 with(fail)
 go_upto_region 5 with(first|(refine wpList_store_row rfl 55 (.tmp 5) (.tmp 33) rfl w2.heap.size #[k,(c:Int),j,ab] rfl rfl 55 #[ai,J 0,J 0,ab] (aa.new w2 55 #[ai,J 0,J 0,ab]) am rfl bw ?_;rw[World.setRow_alloc_new])|fail)
 have T:=Z (Kp.refl [] w2);obtain⟨av,F,cZ,SN,-⟩:=nb w2 55 #[k,(c:Int),j,ab];rw[F];clear F;have c0:=qk ar SN;have d9:=Z (d2.same SN);have ea:=qb SN cX;have cd:=qb SN U;have c1:=qk T SN;clear SN;clear d3 d6 d8;have eb:=m5 cd;obtain⟨b,n,c2,ec,ce,cg,ch⟩:=nx bY.out c b7;have L:a2=some ⟨b,n,none⟩:=c2;have aO:=Z (bY.2 _ (List.getElem_mem b7));have cj:=Z (λ(a:ax) (q:ah) (o:ag f q)=>o2 m s[c] a at_ q (aV cG o.size) ((o.cell (p:=(ac m 8)) cG).trans (aa.cell b0 8)) (aO.same o));obtain⟨tq,c3⟩:∃tq,tq=s[c]:=⟨_,rfl⟩;rw[<-c3]at ce cg ch cj ca aO;obtain⟨c4,⟨az,M,ck⟩,w,⟨c5,c6,c7⟩,eQ⟩:=tq;have o:Hid (b<f.heap.size/\ae f (ac b (n+c*3)) c4/\ae f (ac b (n+c*3+1)) (O az M ck)/\ae f (ac b (n+c*3+2)) (O c5 c6 c7)):=Z ⟨ec,ce,cg,ch⟩;have c8:Hid (∀(a:ax) (q:ah),ag f q->Calls prog 187 #[ak m,.agg #[c4,O az M ck,O c5 c6 c7],a] q λe w'=>RP [] q (cS at_ (w.map RA.at_) a) hP e w'):=cj;have ed:Hid (fp f ⟨az,M,ck⟩ w):=aO.1;obtain⟨t,hF⟩:∃t:List Wg->RO Mt,t=λl=>.ok (⟨k,c,j,l⟩:Mt):=⟨_,rfl⟩;have ee:=Z (λl=>congrFun hF l);obtain⟨q,N⟩:∃q,q=w.map RA.at_:=⟨_,rfl⟩;have cl:=Z N;have c9:=Z (show R=(fu q at_ [] tl).bind t by rw[hF,N];exact ca.out);rw[<-N]at c8;clear ce cg ch cj ca c3 c2 aO hF N;have s:(c:Int)<A:=af
 have s:(0:Int)<=c:=af
 subst L;go_wp2_with fail
 go_loopg [37] (tl.length+1) (λs u wr=>∃(i:Nat) (l:List Wg) (Af:aU) (cf:Nat),u=.int .i64 i/\i<=tl.length/\tl.length-i<s/\l.length=i/\Hid (wr.ownsRow (w2.heap.size+1) 59 7 (O Af i cf) i (l.flatMap Wg.cells))/\Hid (aa wr w2.heap.size 55 #[k,(c:Int),j,O Af i cf])/\Hid (aa wr f.heap.size 95 #[a4,k,a5,al,a6,O a7 a8 a9,O bb bc bd,bh,j,bk,O an tl.length aH,bn,bp,O bq br bs,O bt bu bx,O bz bA bB,bC,bE,O bH bJ bK,O bL bN bO,O bP bR bS,bT,bU,bW,bX])/\Hid (Kp [] f wr)/\Hid (Kp [] w2 wr)/\Hid (R=(fu q at_ l (tl.drop i)).bind t))
 case atStart=>exact⟨0,[],none,0,rfl,by omega,by omega,rfl,Z ⟨rfl,.inl ⟨rfl,rfl⟩⟩,cZ,cd,c0,c1,c9⟩
 obtain⟨i,l,Af,cf,rfl,eR,da,db,qU,P,ef,Q,eg,aP⟩:=hrel;have gi:=Z da;have sS:=Z db;clear da db cZ cd ea d9 c0 c1 c9 eb;have eh:=Z (Kp.refl [] wr);have ei:=Z (aK Q.same cI);have ej:=Z (ad.same Q.same);have ek:=Z (ed.same Q.same);have aQ:=qo Q b0;have s:=Q.size;have s:=aa.lt P;by_cases hlt:i<tl.length
 case neg=>
  have s:¬(i:Int)<tl.length:=af
  have aT:=Z (show R=t l by rw[aP.out,List.drop_of_length_le af];rfl);clear aP;have X:=bi aQ;have s:=aa.lt aQ;have B:=ay P;have C:=aS P;have D:=aZ P;have E:=bi P;have s:=aa.lt P;go_upto_region 24 with(fail)
  refine r7 9 X B C D E λhS=>?_;refine dX ?_;refine gV ?_;have aW:(λw':World=>ae w' (ac m 3) (O H r v)/\ae w' (ao w2 0) k/\ae w' (ao w2 1) (c:Int)/\ae w' (ao w2 2) j/\ae w' (ao w2 3) (O Af i cf)) (wr.drew.alloc (.cells #[k,(c:Int),j,O Af i cf] 55)):=⟨bj X,bj B,bj C,bj D,bj E⟩;refine aM 7 (λK u=>?_);go_simp;refine u.out _ _ (λ_=>aW) ?_;refine aw ?_;have aB:=Z (aK ((ag.refl wr.drew).alloc (.cells #[k,(c:Int),j,O Af i cf] 55)) (aK ((ag.refl wr).drew) ei));have ga:=Z (cO wr.drew #[k,(c:Int),j,O Af i cf] 55 4 rfl);have aD:=Z (aQ.drew.alloc (.cells #[k,(c:Int),j,O Af i cf] 55));refine aM 8 (λK u=>?_);refine di (wr.drew.alloc (.cells #[k,(c:Int),j,O Af i cf] 55)) (.tmp 160) (.tmp 162) 32 rfl Y 55 dM _ 4 56 underlying32 dN dO dP dR rfl au (O H r v) r (aG.flatMap dF.cells) rfl aB.out (wr.heap.size+1) (some ⟨wr.heap.size,0,none⟩) 1 1 ((#[k,(c:Int),j,O Af i cf]:Array Value).toList) rfl ga.out bw cc af cK ?_;intro s s V hg N;obtain⟨aF,aR,rfl,fE⟩:=bv V;have hrow:=b2 cL;have s:some m≠(.slice H r v:aA).ownBlock:=λe=>by have:=hrow m e.symm;omega
  have W:=Z (aD.grown hg s);have s:=bi W;have F:=λi=>aa.frozen W i;have cm:=Z V;have y:=Z (fO (((Kp.refl [] wr).drew).alloc _) hg);have cn:=Z (show(Value.slice aF (r+1) aR).ownBlock=(.slice H r v:aA).ownBlock\/∃g,(Value.slice aF (r+1) aR).ownBlock=some g/\wr.heap.size<=g from N.imp id (λh=>⟨_,h,by simp[eo]⟩));clear V N fE aB ga aD;refine u.out _ _ (λ_=>⟨s,bD y.out B,bD y.out C,bD y.out D,bD y.out E⟩) ?_;refine aw ?_;refine bZ ?_;refine o9 ?_;refine dt 12 (λK u=>?_);go_simp;refine u _ _ ?_;refine aw ?_;refine bM ?_;go_wp2_with fail
  refine bodyPost_ret (results_none rfl _ _ _) rfl ?_;rw[aT.out,ee.out l];have FL:=cJ (h:=⟨Af,i,cf⟩) Wg.len sS (by show i<=_;omega) qU;have f:fh wr (Bw f.heap.size wr.heap.size) (⟨k,c,j,⟨Af,i,cf⟩,l⟩:dF):=⟨FL,(λb f e=>by have h:=b2 qU.out b (by show(Value.slice Af i cf).ownBlock=_;have f:Af=some ⟨b,f,none⟩:=e;rw[f];rfl);exact⟨by omega,h.2⟩)⟩;exact⟨rfl,iT.of (val:=dF.mt) fh.mono fh.keep Q.out cL.out cA hb f (fP.jx (enc:=dF.cells) (x:=(⟨k,c,j,⟨Af,i,cf⟩,l⟩:dF)) (ag.refl wr) W.out cm.out y.out cA rfl cn.out)⟩
 have f:(i:Int)<tl.length:=af
 obtain⟨B,of,j,f,y⟩:=ej.out.2.2 i hlt;have L:an=some ⟨B,of,none⟩:=j;obtain⟨z,f⟩:∃z,z=tl[i]:=⟨_,rfl⟩;have cm:=Z (show z.bo by rw[f];exact dS.out _ (List.getElem_mem hlt));rw[<-f]at y;have aR:=Z (show R=_ by rw[aP.out,List.drop_eq_getElem_cons hlt,Fy,<-f]);clear f j aP;obtain⟨aB,dG,fV,dh,dx,d4,d5⟩:=z;have en:ae wr (ac B (of+i*7)) aB:=by simpa using y 0 _ rfl
 have v1:ae wr (ac B (of+i*7+1)) dG:=y 1 _ rfl;have ep:ae wr (ac B (of+i*7+2)) fV:=y 2 _ rfl;have eq:ae wr (ac B (of+i*7+3)) dh:=y 3 _ rfl;have es:ae wr (ac B (of+i*7+4)) dx:=y 4 _ rfl;have et:ae wr (ac B (of+i*7+5)) d4:=y 5 _ rfl;have eu:ae wr (ac B (of+i*7+6)) d5:=y 6 _ rfl;have f:IntKind.i64.wrap ((i:Int)+1)=(i:Int)+1:=IntWalk.i64_in _ af;clear y;subst L;have dc:cb dh:=cm.num;have dd:cb dx:=cm.den;have kN:=Z (λf=>DC dh dx f dc dd);have de:Hid (R=(cS at_ q aB).bind λv=>RO.ap (aY dG 1 5) 1 at_<|RO.ap (((l9 dh dx&&(decide (0<=dh)&&decide (dh<=dx)))&&aY d4 0 1000)&&(aY d5 0 1000&&(!decide (dG=5)||aY fV 0 999999999))) 2 at_<|RO.ap (kM dG (cH q v).kind) 10 at_<|(fu q at_ (l++[⟨v,dG,if dG=5 then fV else 0,dh,dx,d4,d5⟩]) (tl.drop (i+1))).bind t):=aR;clear aR dc dd cm;have aR:=de;clear de;go_upto_region 8 with(first|(refine wpList_store_row rfl 260 (.tmp 7) (.tmp 40) rfl wr.heap.size #[aB,dG,fV,dh,dx,d4,d5] rfl rfl 260 #[ai,J 0,J 0,J 0,J 0,J 0,J 0] (aa.new wr 260 #[ai,J 0,J 0,J 0,J 0,J 0,J 0]) am rfl bw ?_;rw[World.setRow_alloc_new])|fail)
 obtain⟨cn,f,df,SN,-⟩:=nb wr 260 #[aB,dG,fV,dh,dx,d4,d5];rw[f];clear f;have V:=qk Q SN;have dg:=qb SN aQ;have ev:=qb SN ef;have ew:=qb SN P;have ex:=Z (ek.same SN);have ey:=qk eg SN;have ez:=qk eh SN;clear SN;clear en v1 ep eq es et eu;have dj:=(V.cell (p:=(ac b (n+c*3))) o.1 aj).trans o.2.1;have dk:=(V.cell (p:=(ac b (n+c*3+1))) o.1 aj).trans o.2.2.1;have dl:=(V.cell (p:=(ac b (n+c*3+2))) o.1 aj).trans o.2.2.2;have dm:ae cn (ac m 0) (O (some ⟨b,n,none⟩) A S):=aa.cell dg 0;have dn:=ay df;refine r7 14 dm dj dk dl dn λhS=>?_;refine dv ?_;refine eA ?_;refine tk 11 hS ?_;refine aM 12 (λK eB=>?_);go_simp;refine dQ aR.out (c8.out aB cn.drew V.out.drew.same) (fb (V.out.drew)) ?_;intro a b5 lI dp C aq d;have d:=Z (((Kp.refl [] cn).drew).trans d);have b6:b5=.int .i64 a:=aq;subst b6;obtain⟨fc,eC,co⟩:=qH dp;subst eC;have aT:fc<w.length:=by rw[cl.out]at co;simpa using co
 clear co;have iU:=Z (V.trans d);have kO:=qo d dg;have nO:=qo d ev;have nP:=qo d ew;have iV:=qo d df;have nQ:=Z (ex.same d.same);have nR:=Z (ey.trans d);have nS:=Z (ez.trans d);clear d;try go_simp
 have dq:=(iU.cell (p:=(ac b (n+c*3))) o.1 aj).trans o.2.1;have dr:=(iU.cell (p:=(ac b (n+c*3+1))) o.1 aj).trans o.2.2.1;have ds:=(iU.cell (p:=(ac b (n+c*3+2))) o.1 aj).trans o.2.2.2;have du:ae lI (ac m 0) (O (some ⟨b,n,none⟩) A S):=aa.cell kO 0;have dw:=ay iV;refine oW eB ⟨du,dq,dr,ds,dw⟩ λf=>?_;refine aw ?_;refine tk 13 f ?_;refine gS am ?_ _;clear hS f dm dj dk dl dn aq dp;have I:=Z (λf=>fM dG 1 5 f);have lJ:=Z (λf=>fM d4 0 1000 f);have mB:=Z (λf=>fM d5 0 1000 f);have aD:=Z (λf=>fM fV 0 999999999 f);generalize aY dG 1 5=eD at I C;generalize aY d4 0 1000=cp at lJ C;generalize aY d5 0 1000=cq at mB C;generalize aY fV 0 999999999=dy at aD C;generalize l9 dh dx=cr at kN C;clear du dq dr ds dw;have eE:=aS iV;have aW:=b4 kO;go_wp2_with fail
 refine(I.out lI).mono ?_;rintro e w' ⟨rfl,rfl⟩;cases eD
 case false=>
  go_wp2_with fail
  exact b1 iU.out (show R=RO.ap false _ at_ _ from C.out) aW
 go_wp2_with fail
 refine bV iU.out (show R=RO.ap true _ at_ _ from C.out) aW λgv=>?_;clear C I aW;obtain⟨RS,cs⟩:∃RS:RO Mt,RS=(RO.ap (kM dG (cH q fc).kind) 10 at_<|(fu q at_ (l++[⟨(fc:Int),dG,if dG=5 then fV else 0,dh,dx,d4,d5⟩]) (tl.drop (i+1))).bind t):=⟨_,rfl⟩;have D:=Z cs;have dz:=Z (show R=RO.ap (((cr&&(decide (0<=dh)&&decide (dh<=dx)))&&cp)&&(cq&&(!decide (dG=5)||dy))) 2 at_ RS by rw[cs];exact gv.out);clear gv cs;have gv:=dz;clear dz;have eE:=aS iV;have f:=bi iV;have f:=bl iV;have aW:=b4 kO;by_cases aF:dG=5
 case pos=>
  have dA:=True.intro;have dC:=True.intro;subst aF;clear dA dC;have dA:((5:Int)==5)=true:=rfl;have dC:decide ((5:Int)=5)=true:=rfl;have dD:Hid (RS=(RO.ap (kM 5 (cH q fc).kind) 10 at_<|(fu q at_ (l++[⟨(fc:Int),5,fV,dh,dx,d4,d5⟩]) (tl.drop (i+1))).bind t)):=D;clear D;have D:=dD;clear dD;cases cr
  case false=>
   exact nT
  by_cases dE:0<=dh
  case neg=>
   have f:=decide_eq_false dE;exact nT
  have f:=decide_eq_true dE;by_cases dH:dh<=dx
  case neg=>
   have f:=decide_eq_false dH;exact nT
  have f:=decide_eq_true dH;cases cp
  case false=>
   exact xu
  cases cq
  case false=>
   exact xw
  cases dy
  case false=>
   have g1:=Z (show R=RO.ap false 2 at_ RS by rw[gv.out];simp[*]);clear gv;go_wp2_with fail
   refine(kN.out lI).mono ?_;rintro e dY ⟨rfl,bQ⟩;have em:=el iU bQ;have gw:=cN bQ kO;have mC:=cN bQ nO;have mD:=cN bQ nP;have ci:=cN bQ iV;have kP:=Z (nQ.same bQ);have mE:=el nR bQ;have mF:=el nS bQ;have z23:=em.size;clear bQ;have mG:=aS ci;have mH:=aZ ci;have mI:=bi ci;have mJ:=bl ci;have mK:=bF ci;have mL:=b3 ci;have pv:=aa.lt ci;have fi:=b4 gw;go_wp2_with fail
   refine(lJ.out dY).mono ?_;rintro e w' ⟨rfl,rfl⟩;go_wp2_with fail
   refine(mB.out dY).mono ?_;rintro e w' ⟨rfl,rfl⟩;go_wp2_with fail
   refine(aD.out dY).mono ?_;rintro e w' ⟨rfl,rfl⟩;go_wp2_with fail
   exact b1 em.out g1.out fi
  have g1:=Z (show R=RO.ap true 2 at_ RS by rw[gv.out];simp[*]);clear gv;go_wp2_with fail
  refine(kN.out lI).mono ?_;rintro e dY ⟨rfl,bQ⟩;have em:=el iU bQ;have gw:=cN bQ kO;have mC:=cN bQ nO;have mD:=cN bQ nP;have ci:=cN bQ iV;have kP:=Z (nQ.same bQ);have mE:=el nR bQ;have mF:=el nS bQ;have z23:=em.size;clear bQ;have mG:=aS ci;have mH:=aZ ci;have mI:=bi ci;have mJ:=bl ci;have mK:=bF ci;have mL:=b3 ci;have pv:=aa.lt ci;have fi:=b4 gw;go_wp2_with fail
  refine(lJ.out dY).mono ?_;rintro e w' ⟨rfl,rfl⟩;go_wp2_with fail
  refine(mB.out dY).mono ?_;rintro e w' ⟨rfl,rfl⟩;go_wp2_with fail
  refine(aD.out dY).mono ?_;rintro e w' ⟨rfl,rfl⟩;go_wp2_with fail
  refine bV em.out g1.out fi λj=>?_;clear g1;clear kN lJ mB aD fi;have dI:=(em.cell (p:=(ac b (n+c*3+1))) o.1 aj).trans o.2.2.1;obtain⟨ba,f,k,B,r,dJ,s,v,y,z⟩:=iJ kP.out fc aT;have L:az=some ⟨ba,f,none⟩:=k;have f:(fc:Int)<M:=by have:=kP.out.1.1;have f:w.length=M:=this;omega
  have f:(0:Int)<=fc:=af
  obtain⟨u,f⟩:∃u,u=w[fc].at_.kind:=⟨_,rfl⟩;rw[<-f]at dJ;have dK:=Z (show R=RO.ap (kM 5 u) 10 at_ ((fu q at_ (l++[⟨(fc:Int),5,fV,dh,dx,d4,d5⟩]) (tl.drop (i+1))).bind t) by rw[j.out,D.out,cl.out,ku w fc aT,<-f]);clear j f r s v y z k;subst L;have eF:=dI;clear dI;have eG:ae dY (ac m 0) (O (some ⟨b,n,none⟩) A S):=aa.cell gw 0;have fi:=b4 gw;go_upto_region 14 with(fail)
  clear eG eF dJ;have W:=Z (show R=RO.ap (decide (u=2)||decide (u=3)) 10 at_ _ by rw[dK.out];rfl);clear dK;by_cases E:u=2
  case pos=>
   have f:(u==2)=true:=by simp[E]
   have jJ:=Z (show R=RO.ap true 10 at_ _ by rw[W.out,decide_eq_true E];rfl);clear W E;exact xx
  have f:(u==2)=false:=by simp[E]
  by_cases X:u=3
  case pos=>
   have f:(u==3)=true:=by simp[X]
   have jJ:=Z (show R=RO.ap true 10 at_ _ by rw[W.out,decide_eq_false E,decide_eq_true X];rfl);clear W X E;exact xx
  have f:(u==3)=false:=by simp[X]
  have jJ:=Z (show R=RO.ap false 10 at_ _ by rw[W.out,decide_eq_false E,decide_eq_false X];rfl);clear W X E;go_wp2_with fail
  exact b1 em.out jJ.out fi
 have f:(dG==5)=false:=by simp[aF]
 have f:=decide_eq_false aF;have dA:=Z (show RS=(RO.ap (kM dG (cH q fc).kind) 10 at_<|(fu q at_ (l++[⟨(fc:Int),dG,0,dh,dx,d4,d5⟩]) (tl.drop (i+1))).bind t) by rw[D.out,if_neg aF]);clear D;have D:=dA;clear dA;cases cr
 case false=>
  exact nT
 by_cases dC:0<=dh
 case neg=>
  have f:=decide_eq_false dC;exact nT
 have f:=decide_eq_true dC;by_cases dD:dh<=dx
 case neg=>
  have f:=decide_eq_false dD;exact nT
 have f:=decide_eq_true dD;cases cp
 case false=>
  exact xu
 cases cq
 case false=>
  exact xw
 have g1:=Z (show R=RO.ap true 2 at_ RS by rw[gv.out];simp[*]);clear gv;go_wp2_with fail
 refine(kN.out lI).mono ?_;rintro e dY ⟨rfl,bQ⟩;have em:=el iU bQ;have gw:=cN bQ kO;have mC:=cN bQ nO;have mD:=cN bQ nP;have ci:=cN bQ iV;have kP:=Z (nQ.same bQ);have mE:=el nR bQ;have mF:=el nS bQ;have z23:=em.size;clear bQ;have mG:=aS ci;have mH:=aZ ci;have mI:=bi ci;have mJ:=bl ci;have mK:=bF ci;have mL:=b3 ci;have pv:=aa.lt ci;have fi:=b4 gw;go_wp2_with fail
 refine(lJ.out dY).mono ?_;rintro e w' ⟨rfl,rfl⟩;go_wp2_with fail
 refine(mB.out dY).mono ?_;rintro e w' ⟨rfl,rfl⟩;go_wp2_with fail
 refine bV em.out g1.out fi λf=>?_;clear g1;clear kN lJ mB aD fi;have dE:=(em.cell (p:=(ac b (n+c*3+1))) o.1 aj).trans o.2.2.1;obtain⟨ba,c,j,y,k,dH,o,r,s,v⟩:=iJ kP.out fc aT;have L:az=some ⟨ba,c,none⟩:=j;have c:(fc:Int)<M:=by have:=kP.out.1.1;have c:w.length=M:=this;omega
 have c:(0:Int)<=fc:=af
 obtain⟨u,c⟩:∃u,u=w[fc].at_.kind:=⟨_,rfl⟩;rw[<-c]at dH;have W:=Z (show R=RO.ap (kM dG u) 10 at_ ((fu q at_ (l++[⟨(fc:Int),dG,0,dh,dx,d4,d5⟩]) (tl.drop (i+1))).bind t) by rw[f.out,D.out,cl.out,ku w fc aT,<-c]);clear f c k o r s v j;subst L;have dI:=dE;clear dE;have dJ:ae dY (ac m 0) (O (some ⟨b,n,none⟩) A S):=aa.cell gw 0;have fi:=b4 gw;go_upto_region 14 with(fail)
 clear dJ dI dH;by_cases E:dG=1
 case pos=>
  have c:(dG==1)=true:=by simp[E]
  have qV:=Z (show R=(fu q at_ (l++[⟨(fc:Int),dG,0,dh,dx,d4,d5⟩]) (tl.drop (i+1))).bind t by rw[W.out];unfold kM;rw[if_pos E];rfl);clear W E;exact xy
 have c:(dG==1)=false:=by simp[E]
 have X:=Z (show R=RO.ap (decide (u=1)) 10 at_ _ by rw[W.out];unfold kM;rw[if_neg E,if_neg aF]);clear W;by_cases d:u=1
 case pos=>
  have c:(u==1)=true:=by simp[d]
  have jJ:=Z (show R=RO.ap true 10 at_ _ by rw[X.out,decide_eq_true d]);clear X d;go_wp2_with fail
  refine bV em.out jJ.out fi λqV=>?_;clear jJ;exact xy
 have c:(u==1)=false:=by simp[d]
 have jJ:=Z (show R=RO.ap false 10 at_ _ by rw[X.out,decide_eq_false d]);clear X d;go_wp2_with fail
 exact b1 em.out jJ.out fi
end Go.Proofs.YteamkimbmdgdbaaGreatDoor

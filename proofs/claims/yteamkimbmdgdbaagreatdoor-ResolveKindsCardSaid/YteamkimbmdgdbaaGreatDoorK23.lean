import Derived.Test.YteamkimbmdgdbaaGreatDoorK17
set_option linter.unusedSimpArgs false
set_option linter.unusedVariables false
set_option maxHeartbeats 16000000
set_option maxRecDepth 100000
namespace Go.Proofs.YteamkimbmdgdbaaGreatDoor
open Go.RowKit
def iI {b d:Type} (e c:af) (g k:Nat) (l:bb) (m:Nat) (enc:b->List Value) (val:b->d) (At:World->(Nat->Prop)->b->Prop) (i:aX) (a j:Nat) (n:List b) (x:d) (o:Value->Array Value):Prop:=
 ∃(f:b) (b:aX) (d:Nat),val f=x/\J c g 157 (o (U b (a+1) d))/\c.ownsRow k l m (U b (a+1) d) (a+1) ((n++[f]).flatMap enc)/\
  Kp (g::(Value.slice i a j).ownBlock.toList) e c/\((Value.slice b (a+1) d).ownBlock=(Value.slice i a j).ownBlock\/∃g,(Value.slice b (a+1) d).ownBlock=some g/\e.heap.size<=g)/\
  At c (λg=>Bw e.heap.size c.heap.size g/\some g≠(Value.slice b (a+1) d).ownBlock) f
theorem iI.of {c o:Type} {w g d:af} {i e:Nat} {j:bb} {m:Nat} {enc:c->List Value} {val:c->o} {At:World->(Nat->Prop)->c->Prop} {o:aX} {n q:Nat} {s:List c} {a:c} {x:bg} {t:Value->Array Value}
 (y:∀(w:af) (S u:Nat->Prop) (a:c),At w S a->(∀b,S b->u b)->At w u a) (z:∀(w d:af) (S:Nat->Prop) (a:c) (l:List Nat),At w S a->Kp l w d->(∀b∈l,¬S b)->At d S a)
 (k:Kp [] w g) (A:w.ownsRow e j m (U o n q) n x) (c:i<e) (c:e<=w.heap.size) (B:At g (Bw w.heap.size g.heap.size) a) (p:fo g d i e j m enc o n q s a t):iI w d i e j m enc val At o n q s (val a) t:=by
 obtain⟨C,D,b,E,r,v⟩:=p;have hr:=b3 A;refine⟨a,C,D,rfl,b,E,(k.mono (λ_ h=>by cases h)).trans r,v.imp id (λ⟨a,h1,c⟩=>⟨a,h1,bR k.size c⟩),y _ _ _ _ (z _ _ _ _ _ B r ?_) ?_⟩
 ·exact tT
 intro b hS;have h1:=hS.1;have a:=hS.2;have a:=r.size;refine⟨⟨h1,by omega⟩,λf=>?_⟩;rcases v with h|⟨F,h,G⟩
 ·rw[h]at f
  have:=(hr b f.symm).2;omega
 rw[h]at f;injection f with f
 omega
structure ei where
 name:ByteArray
 table:Int
 at_:Int
 h:Hd
 terms:List Wg
def ei.cells (r:ei):List Value:=[.string r.name,.int .i64 r.table,.int .i64 r.at_,r.h.val]
def ei.mt (a:ei):Mt:=⟨a.name,a.table,a.at_,a.terms⟩
structure fp (w:af) (S:Nat->Prop) (r:ei):Prop where
 l:aF w 7 r.h Wg.cells r.terms
 i:aS S r.h
theorem fp.mono (w:af) (S S':Nat->Prop) (r:ei) (a:fp w S r) (c:∀b,S b->S' b):fp w S' r:=⟨a.l,a.i.mono c⟩
theorem fp.keep (w c:af) (S:Nat->Prop) (d:ei) (l:List Nat) (b:fp w S d) (k:Kp l w c) (e:∀a∈l,¬S a):fp c S d:=⟨b.l.kp k (λa c d f=>e a f (b.i a c d)),b.i⟩
def rH (b:List Tb) (a:Int) (x:aI):RO Mt:=
 (dS b a x.table).bind λc=>RO.ap (aZ x.terms.length 1 12) 3 a<|RO.ap (aZ x.n 0 10000) 2 a<|
  (fe (dw b c).attrs a [] x.terms).bind λa=>.ok ⟨x.name,c,x.n,a⟩
def Cz (a:cL):Bool:=((lC a.num a.den&&(decide (0<=a.num)&&decide (a.num<=a.den)))&&aZ a.gives 0 1000)&&(aZ a.takes 0 1000&&(!decide (a.meas=5)||aZ a.jE 0 999999999))
def kh (b a:Int):Bool:=if b=1 then true else if b=5 then decide (a=2)||decide (a=3)else decide (a=1)
theorem CA {i:Type} (c:List At) (b:Int) (e:List Wg) (a:cL) (f:List cL) (d:List Wg->RO i):(fe c b e (a::f)).bind d=
 (cO b c a.attr).bind λg=>RO.ap (aZ a.meas 1 5) 1 b<|RO.ap (Cz a) 2 b<|RO.ap (kh a.meas (cE c g).kind) 10 b<|(fe c b (e++[⟨g,a.meas,if a.meas=5 then a.jE else 0,a.num,a.den,a.gives,a.takes⟩]) f).bind d:=by
 show((pe c b a).bind _).bind d=_;unfold pe;simp only[RO.bind_assoc,RO.gK];rfl
theorem Tryz.CB:(Tryz.prog.info? 55).map (λa=>(a.zero,a.size,a.bytes))=some (some (.agg #[ah,O 0,O 0,aa]),4,56):=ak
theorem Tryz.CC:(Tryz.prog.info? 59).map (λa=>(a.zero,a.size,a.bytes))=some (some (.agg #[O 0,O 0,O 0,O 0,O 0,O 0,O 0]),7,56):=ak
theorem ei.len (k:ei):k.cells.length=4:=rfl
theorem Wg.len (k:Wg):k.cells.length=7:=rfl
theorem CD (m ad:Nat) (F:RI) (h:Hd) (s:List RT) (at_:Int) (a4 cw cx cy cA cD:ay) (H:aX) (r v:Nat) (aI:List ei) (f:af) (a0:J f m 157 #[h.val,a4,cw,U H r v,cx,cy,cA,cD,at_]) (a1:bI f h s) (lt:aF f 7 F.n4 cL.cells F.terms) (cG:∀z∈F.terms,z.bY) (a2:f.ownsRow ad 55 4 (U H r v) r (aI.flatMap ei.cells)) (dP:aI.length=r) (cH:m<ad) (hb:ad<=f.heap.size) (dP:r<=1000):
 Calls Tryz.prog 116 #[aj m,.agg F.cells.toArray] f λe w'=>jh f (rH (s.map RT.tb) at_ F.it) (λx w'=>iI f w' m ad 55 4 ei.cells ei.mt fp H r v aI x (λdP=>#[h.val,a4,cw,dP,cx,cy,cA,cD,at_])) e w':=by
 obtain⟨dQ,dR,dT,dU,dV⟩:=info_parts Tryz.CB;obtain⟨i0,hi0,rD,rE,rF⟩:=info_parts Tryz.CC;obtain⟨a3,A,S⟩:=h;have a4:s.length=A:=a1.1.1;have al:=Z lt;have cI:=Z cG;have cK:=lt.1;have cM:=lt.2.1;clear lt cG;obtain⟨R,a4⟩:∃R,R=rH (s.map RT.tb) at_ F.it:=⟨_,rfl⟩;rw[<-a4];have cN:=Z a4;clear a4;obtain⟨a5,k,a6,an,a7,⟨a8,a9,bb⟩,eH,⟨bf,bg,bk⟩,eI,bm,j,bp,⟨ao,bq,aJ⟩,tl,br,bs,⟨bt,bu,bx⟩,eJ,⟨bz,bA,bB⟩,eK,⟨bD,bE,bF⟩,eM,⟨bH,bK,⟨bL,bM,bO⟩,eN,⟨bP,bR,bS⟩,eO,⟨bT,bU,bW⟩,eP,bX,bZ,b0,b4⟩⟩:=F;have cP:=Z (show R=(dS (s.map RT.tb) at_ an).bind λc=>RO.ap (aZ tl.length 1 12) 3 at_<|RO.ap (aZ j 0 10000) 2 at_<|(fe (dw (s.map RT.tb) c).attrs at_ [] tl).bind λl=>.ok (⟨k,c,j,l⟩:Mt)from cN);clear cN;have F:Hid (aF f 7 ⟨ao,bq,aJ⟩ cL.cells tl):=al;clear al;have al:=F;clear F;have dW:Hid (∀z∈tl,z.bY):=cI;clear cI;have dX:tl.length=bq:=cK;have F:bq<=9223372036854775807:=cM;clear cK cM;subst dX;have cQ:=a0.lt;have dY:=Z (Kp.refl [] f);have b5:=Z a1;have b6:=Z a0;have cR:=Z a2;have cS:=Z a2;show Calls Tryz.prog 116 #[aj m,.agg #[a5,k,a6,an,a7,U a8 a9 bb,U bf bg bk,bm,j,bp,U ao tl.length aJ,br,bs,U bt bu bx,U bz bA bB,U bD bE bF,bH,bK,U bL bM bO,U bP bR bS,U bT bU bW,bX,bZ,b0,b4]] f _;clear a0 a1 a2;go_enter Tryz.func116,Tryz.ntmps116
 go_upto_region 1 with(fail)
 obtain⟨cT,F,cU,SN,a0⟩:=nb f 95 #[a5,k,a6,an,a7,U a8 a9 bb,U bf bg bk,bm,j,bp,U ao tl.length aJ,br,bs,U bt bu bx,U bz bA bB,U bD bE bF,bH,bK,U bL bM bO,U bP bR bS,U bT bU bW,bX,bZ,b0,b4];rw[F];clear F;have cV:=qk dY SN;have cX:=Z (b5.same SN);have dZ:=Z (aH SN cR);have aM:=qb SN b6;have d0:=Z (al.same SN);clear SN;have cY:ac cT (ab m 0) (U a3 A S):=J.cell aM 0;have cZ:=bN aM;have d1:=J.lt aM;have d2:=bj cU;go_wp2_with fail
 refine dC cP.out (nU m ⟨a3,A,S⟩ s an at_ cT d1 cY cZ cX.out) (eL cV) ?_;intro a b7 w2 c0 T aq d;obtain⟨c,rfl,c1⟩:=mM c0;have b9:b7=.int .i64 (c:Int):=aq;subst b9;have ca:c<s.length:=by simpa using c1
 have ar:=Z (cV.trans d);have d4:=Z (cX.same (d.same));have O2:=Z (aH (d.same) dZ);have c2:=qo d aM;have V:=qo d cU;have F:=Z (d0.same d.same);clear d;clear aq c0 c1 cY cZ d2;go_upto_region 2 with(fail)
 have ax:=bN c2;have d7:=bN V;have d8:=ml V;have d9:=J.lt V;have I:=Z (λn=>fj (tl.length:Int) 1 12 n);have cb:=Z (λn=>fj j 0 10000 n);obtain⟨aN,F⟩:∃aN,aN=aZ (tl.length:Int) 1 12:=⟨_,rfl⟩;obtain⟨aO,aM⟩:∃aO,aO=aZ j 0 10000:=⟨_,rfl⟩;have a0:=Z (show R=RO.ap aN 3 at_ (RO.ap aO 2 at_ ((fe s[c].tb.attrs at_ [] tl).bind λl=>.ok (⟨k,c,j,l⟩:Mt))) by rw[T.out,lR s c ca,F,aM]);clear T cP;have T:=a0;clear a0;rw[<-F]at I;rw[<-aM]at cb;have c3:=Z F;clear F aM;go_wp2_with fail
 refine(I.out w2).mono ?_;rintro e w' ⟨rfl,rfl⟩;cases aN
 case false=>
  go_wp2_with fail
  exact bv ar.out (show R=RO.ap false _ at_ _ from T.out) ax
 go_wp2_with fail
 refine bJ ar.out (show R=RO.ap true _ at_ _ from T.out) ax λcc=>?_;have F:tl.length<=12:=by have h:=c3.out.symm;unfold aZ at h;simp at h;omega
 clear T I c3;go_wp2_with fail
 refine(cb.out w2).mono ?_;rintro e w' ⟨rfl,rfl⟩;cases aO
 case false=>
  go_wp2_with fail
  exact bv ar.out (show R=RO.ap false _ at_ _ from cc.out) ax
 go_wp2_with fail
 refine bJ ar.out (show R=RO.ap true _ at_ _ from cc.out) ax λce=>?_;clear cc cb ax;have ea:=aY V;have d9:=J.lt V;go_upto_region 4 with(fail)
 go_upto_region 5 with(first|(refine wpList_store_row rfl 55 (.tmp 5) (.tmp 33) rfl w2.heap.size #[k,(c:Int),j,aa] rfl rfl 55 #[ah,O 0,O 0,aa] (J.new w2 55 #[ah,O 0,O 0,aa]) ak rfl bl ?_;rw[World.setRow_alloc_new])|fail)
 have T:=Z (Kp.refl [] w2);obtain⟨ax,F,c4,SN,-⟩:=nb w2 55 #[k,(c:Int),j,aa];rw[F];clear F;have c5:=qk ar SN;have eb:=Z (d4.same SN);have ec:=qb SN c2;have cg:=qb SN V;have c6:=qk T SN;clear SN;clear d7 d8 ea;have ed:=ml cg;obtain⟨b,n,c8,ee,ch,ci,cj⟩:=lQ b5.out c ca;have L:a3=some ⟨b,n,none⟩:=c8;have aP:=Z (b5.2 _ (List.getElem_mem ca));have ck:=Z (λ(a:aw) (q:af) (o:ag f q)=>nV m s[c] a at_ q (aT cQ o.size) ((o.cell (p:=(ab m 8)) cQ).trans (J.cell b6 8)) (aP.same o));obtain⟨tq,c9⟩:∃tq,tq=s[c]:=⟨_,rfl⟩;rw[<-c9]at ch ci cj ck ce aP;obtain⟨da,⟨aB,M,cl⟩,w,⟨db,dc,dd⟩,eQ⟩:=tq;have o:Hid (b<f.heap.size/\ac f (ab b (n+c*3)) da/\ac f (ab b (n+c*3+1)) (U aB M cl)/\ac f (ab b (n+c*3+2)) (U db dc dd)):=Z ⟨ee,ch,ci,cj⟩;have de:Hid (∀(a:aw) (q:af),ag f q->Calls Tryz.prog 187 #[aj m,.agg #[da,U aB M cl,U db dc dd],a] q λe w'=>RP [] q (cO at_ (w.map RA.at_) a) g7 e w'):=ck;have ef:Hid (fu f ⟨aB,M,cl⟩ w):=aP.1;obtain⟨t,hF⟩:∃t:List Wg->RO Mt,t=λl=>.ok (⟨k,c,j,l⟩:Mt):=⟨_,rfl⟩;have eg:=Z (λl=>congrFun hF l);obtain⟨q,N⟩:∃q,q=w.map RA.at_:=⟨_,rfl⟩;have cn:=Z N;have df:=Z (show R=(fe q at_ [] tl).bind t by rw[hF,N];exact ce.out);rw[<-N]at de;clear ch ci cj ck ce c9 c8 aP hF N;have s:(c:Int)<A:=ae
 have s:(0:Int)<=c:=ae
 subst L;go_wp2_with fail
 go_loopg [37] (tl.length+1) (λs u wr=>∃(i:Nat) (l:List Wg) (Af:aX) (cf:Nat),u=.int .i64 i/\i<=tl.length/\tl.length-i<s/\l.length=i/\Hid (wr.ownsRow (w2.heap.size+1) 59 7 (U Af i cf) i (l.flatMap Wg.cells))/\Hid (J wr w2.heap.size 55 #[k,(c:Int),j,U Af i cf])/\Hid (J wr f.heap.size 95 #[a5,k,a6,an,a7,U a8 a9 bb,U bf bg bk,bm,j,bp,U ao tl.length aJ,br,bs,U bt bu bx,U bz bA bB,U bD bE bF,bH,bK,U bL bM bO,U bP bR bS,U bT bU bW,bX,bZ,b0,b4])/\Hid (Kp [] f wr)/\Hid (Kp [] w2 wr)/\Hid (R=(fe q at_ l (tl.drop i)).bind t))
 case atStart=>exact⟨0,[],none,0,rfl,by omega,by omega,rfl,Z ⟨rfl,.inl ⟨rfl,rfl⟩⟩,c4,cg,c5,c6,df⟩
 obtain⟨i,l,Af,cf,rfl,eR,dh,di,Gy,P,ej,Q,ek,aQ⟩:=hrel;have Gk:=Z dh;have GE:=Z di;clear dh di c4 cg ec eb c5 c6 df ed;have el:=Z (Kp.refl [] wr);have em:=Z (aH Q.same cR);have en:=Z (al.same Q.same);have eo:=Z (ef.same Q.same);have aR:=qo Q b6;have s:=Q.size;have s:=J.lt P;by_cases hlt:i<tl.length
 case neg=>
  have s:¬(i:Int)<tl.length:=ae
  have aU:=Z (show R=t l by rw[aQ.out,List.drop_of_length_le ae];rfl);clear aQ;have Y:=bj aR;have s:=J.lt aR;have B:=az P;have C:=aY P;have D:=bh P;have E:=bj P;have s:=J.lt P;go_upto_region 24 with(fail)
  refine qU 9 Y B C D E λhS=>?_;refine cJ ?_;refine jl ?_;have aW:(λw':World=>ac w' (ab m 3) (U H r v)/\ac w' (am w2 0) k/\ac w' (am w2 1) (c:Int)/\ac w' (am w2 2) j/\ac w' (am w2 3) (U Af i cf)) (wr.drew.alloc (.cells #[k,(c:Int),j,U Af i cf] 55)):=⟨bi Y,bi B,bi C,bi D,bi E⟩;refine aK 7 (λK u=>?_);go_simp;refine u.out _ _ (λ_=>aW) ?_;refine av ?_;have aC:=Z (aH ((ag.refl wr.drew).alloc (.cells #[k,(c:Int),j,U Af i cf] 55)) (aH ((ag.refl wr).drew) em));have kX:=Z (cC wr.drew #[k,(c:Int),j,U Af i cf] 55 4 rfl);have aD:=Z (aR.drew.alloc (.cells #[k,(c:Int),j,U Af i cf] 55));refine aK 8 (λK u=>?_);refine c7 (wr.drew.alloc (.cells #[k,(c:Int),j,U Af i cf] 55)) (.tmp 160) (.tmp 162) 32 rfl ad 55 dQ _ 4 56 Tryz.underlying32 dR dT dU dV rfl au (U H r v) r (aI.flatMap ei.cells) rfl aC.out (wr.heap.size+1) (some ⟨wr.heap.size,0,none⟩) 1 1 ((#[k,(c:Int),j,U Af i cf]:Array Value).toList) rfl kX.out bl b1 ae cB ?_;intro s s W hg N;obtain⟨aG,aS,rfl,gs⟩:=bo W;have hrow:=b3 cS;have s:some m≠(.slice H r v:ay).ownBlock:=λe=>by have:=hrow m e.symm;omega
  have X:=Z (aD.grown hg s);have s:=bj X;have F:=λi=>J.frozen X i;have cp:=Z W;have y:=Z (fm (((Kp.refl [] wr).drew).alloc _) hg);have cq:=Z (show(Value.slice aG (r+1) aS).ownBlock=(.slice H r v:ay).ownBlock\/∃g,(Value.slice aG (r+1) aS).ownBlock=some g/\wr.heap.size<=g from N.imp id (λh=>⟨_,h,by simp[d5]⟩));clear W N gs aC kX aD;refine u.out _ _ (λ_=>⟨s,bw y.out B,bw y.out C,bw y.out D,bw y.out E⟩) ?_;refine av ?_;refine b2 ?_;refine n6 ?_;refine dp 12 (λK u=>?_);go_simp;refine u _ _ ?_;refine av ?_;refine bV ?_;go_wp2_with fail
  refine bodyPost_ret (results_none rfl _ _ _) rfl ?_;rw[aU.out,eg.out l];have r:=cF (h:=⟨Af,i,cf⟩) Wg.len GE (by show i<=_;omega) Gy;have f:fp wr (Bw f.heap.size wr.heap.size) (⟨k,c,j,⟨Af,i,cf⟩,l⟩:ei):=⟨r,(λb f e=>by have h:=b3 Gy.out b (by show(Value.slice Af i cf).ownBlock=_;have f:Af=some ⟨b,f,none⟩:=e;rw[f];rfl);exact⟨by omega,h.2⟩)⟩;exact⟨rfl,iI.of (val:=ei.mt) fp.mono fp.keep Q.out cS.out cH hb f (fo.jg (enc:=ei.cells) (x:=(⟨k,c,j,⟨Af,i,cf⟩,l⟩:ei)) (ag.refl wr) X.out cp.out y.out cH rfl cq.out)⟩
 have f:(i:Int)<tl.length:=ae
 obtain⟨B,of,j,f,y⟩:=en.out.2.2 i hlt;have L:ao=some ⟨B,of,none⟩:=j;obtain⟨z,f⟩:∃z,z=tl[i]:=⟨_,rfl⟩;have cp:=Z (show z.bY by rw[f];exact dW.out _ (List.getElem_mem hlt));rw[<-f]at y;have aS:=Z (show R=_ by rw[aQ.out,List.drop_eq_getElem_cons hlt,CA,<-f]);clear f j aQ;obtain⟨aC,Gg,Gj,Ge,Gf,Gh,Gi⟩:=z;have ep:ac wr (ab B (of+i*7)) aC:=by simpa using y 0 _ rfl
 have v1:ac wr (ab B (of+i*7+1)) Gg:=y 1 _ rfl;have eq:ac wr (ab B (of+i*7+2)) Gj:=y 2 _ rfl;have es:ac wr (ab B (of+i*7+3)) Ge:=y 3 _ rfl;have et:ac wr (ab B (of+i*7+4)) Gf:=y 4 _ rfl;have eu:ac wr (ab B (of+i*7+5)) Gh:=y 5 _ rfl;have ev:ac wr (ab B (of+i*7+6)) Gi:=y 6 _ rfl;have f:IntKind.i64.wrap ((i:Int)+1)=(i:Int)+1:=IntWalk.i64_in _ ae;clear y;subst L;have dj:b8 Ge:=cp.num;have dk:b8 Gf:=cp.den;have fZ:=Z (λf=>AG Ge Gf f dj dk);have dl:Hid (R=(cO at_ q aC).bind λv=>RO.ap (aZ Gg 1 5) 1 at_<|RO.ap (((lC Ge Gf&&(decide (0<=Ge)&&decide (Ge<=Gf)))&&aZ Gh 0 1000)&&(aZ Gi 0 1000&&(!decide (Gg=5)||aZ Gj 0 999999999))) 2 at_<|RO.ap (kh Gg (cE q v).kind) 10 at_<|(fe q at_ (l++[⟨v,Gg,if Gg=5 then Gj else 0,Ge,Gf,Gh,Gi⟩]) (tl.drop (i+1))).bind t):=aS;clear aS dj dk cp;have aS:=dl;clear dl;go_upto_region 8 with(first|(refine wpList_store_row rfl 260 (.tmp 7) (.tmp 40) rfl wr.heap.size #[aC,Gg,Gj,Ge,Gf,Gh,Gi] rfl rfl 260 #[ah,O 0,O 0,O 0,O 0,O 0,O 0] (J.new wr 260 #[ah,O 0,O 0,O 0,O 0,O 0,O 0]) ak rfl bl ?_;rw[World.setRow_alloc_new])|fail)
 obtain⟨cq,f,dm,SN,-⟩:=nb wr 260 #[aC,Gg,Gj,Ge,Gf,Gh,Gi];rw[f];clear f;have W:=qk Q SN;have dn:=qb SN aR;have ew:=qb SN ej;have ex:=qb SN P;have ey:=Z (eo.same SN);have ez:=qk ek SN;have eA:=qk el SN;clear SN;clear ep v1 eq es et eu ev;have dq:=(W.cell (p:=(ab b (n+c*3))) o.1 ai).trans o.2.1;have dr:=(W.cell (p:=(ab b (n+c*3+1))) o.1 ai).trans o.2.2.1;have ds:=(W.cell (p:=(ab b (n+c*3+2))) o.1 ai).trans o.2.2.2;have dt:ac cq (ab m 0) (U (some ⟨b,n,none⟩) A S):=J.cell dn 0;have du:=az dm;refine qU 14 dt dq dr ds du λhS=>?_;refine dg ?_;refine eh ?_;refine tk 11 hS ?_;refine aK 12 (λK eB=>?_);go_simp;refine dC aS.out (de.out aC cq.drew W.out.drew.same) (eL (W.out.drew)) ?_;intro a b7 gx dv C aq d;have d:=Z (((Kp.refl [] cq).drew).trans d);have b9:b7=.int .i64 a:=aq;subst b9;obtain⟨fc,eC,cr⟩:=pH dv;subst eC;have aU:fc<w.length:=by rw[cn.out]at cr;simpa using cr
 clear cr;have fG:=Z (W.trans d);have f0:=qo d dn;have hz:=qo d ew;have hC:=qo d ex;have fH:=qo d dm;have hD:=Z (ey.same d.same);have hE:=Z (ez.trans d);have hG:=Z (eA.trans d);clear d;try go_simp
 have dx:=(fG.cell (p:=(ab b (n+c*3))) o.1 ai).trans o.2.1;have dy:=(fG.cell (p:=(ab b (n+c*3+1))) o.1 ai).trans o.2.2.1;have dz:=(fG.cell (p:=(ab b (n+c*3+2))) o.1 ai).trans o.2.2.2;have dA:ac gx (ab m 0) (U (some ⟨b,n,none⟩) A S):=J.cell f0 0;have dB:=az fH;refine nP eB ⟨dA,dx,dy,dz,dB⟩ λf=>?_;refine av ?_;refine tk 13 f ?_;refine gH ak ?_ _;clear hS f dt dq dr ds du aq dv;have I:=Z (λf=>fj Gg 1 5 f);have Gp:=Z (λf=>fj Gh 0 1000 f);have Gq:=Z (λf=>fj Gi 0 1000 f);have aD:=Z (λf=>fj Gj 0 999999999 f);generalize aZ Gg 1 5=eD at I C;generalize aZ Gh 0 1000=cs at Gp C;generalize aZ Gi 0 1000=ct at Gq C;generalize aZ Gj 0 999999999=dD at aD C;generalize lC Ge Gf=cu at fZ C;clear dA dx dy dz dB;have eE:=aY fH;have aW:=bN f0;go_wp2_with fail
 refine(I.out gx).mono ?_;rintro e w' ⟨rfl,rfl⟩;cases eD
 case false=>
  go_wp2_with fail
  exact bv fG.out (show R=RO.ap false _ at_ _ from C.out) aW
 go_wp2_with fail
 refine bJ fG.out (show R=RO.ap true _ at_ _ from C.out) aW λdN=>?_;clear C I aW;obtain⟨RS,cv⟩:∃RS:RO Mt,RS=(RO.ap (kh Gg (cE q fc).kind) 10 at_<|(fe q at_ (l++[⟨(fc:Int),Gg,if Gg=5 then Gj else 0,Ge,Gf,Gh,Gi⟩]) (tl.drop (i+1))).bind t):=⟨_,rfl⟩;have D:=Z cv;have dE:=Z (show R=RO.ap (((cu&&(decide (0<=Ge)&&decide (Ge<=Gf)))&&cs)&&(ct&&(!decide (Gg=5)||dD))) 2 at_ RS by rw[cv];exact dN.out);clear dN cv;have dN:=dE;clear dE;have eE:=aY fH;have f:=bj fH;have f:=bn fH;have aW:=bN f0;by_cases aG:Gg=5
 case pos=>
  have dF:=True.intro;have dG:=True.intro;subst aG;clear dF dG;have dF:((5:Int)==5)=true:=rfl;have dG:decide ((5:Int)=5)=true:=rfl;have dH:Hid (RS=(RO.ap (kh 5 (cE q fc).kind) 10 at_<|(fe q at_ (l++[⟨(fc:Int),5,Gj,Ge,Gf,Gh,Gi⟩]) (tl.drop (i+1))).bind t)):=D;clear D;have D:=dH;clear dH;cases cu
  case false=>
   exact j0
  by_cases dI:0<=Ge
  case neg=>
   have f:=decide_eq_false dI;exact j0
  have f:=decide_eq_true dI;by_cases dJ:Ge<=Gf
  case neg=>
   have f:=decide_eq_false dJ;exact j0
  have f:=decide_eq_true dJ;cases cs
  case false=>
   exact qY
  cases ct
  case false=>
   exact nN
  cases dD
  case false=>
   have d3:=Z (show R=RO.ap false 2 at_ RS by rw[dN.out];simp[*]);clear dN;go_wp2_with fail
   refine(fZ.out gx).mono ?_;rintro e cm ⟨rfl,aL⟩;have co:=cz fG aL;have dO:=bG aL f0;have f4:=bG aL hz;have f6:=bG aL hC;have aV:=bG aL fH;have f7:=Z (hD.same aL);have f8:=cz hE aL;have ga:=cz hG aL;have z23:=co.size;clear aL;have gb:=aY aV;have gc:=bh aV;have gd:=bj aV;have ge:=bn aV;have gf:=bQ aV;have gg:=cd aV;have iJ:=J.lt aV;have cW:=bN dO;go_wp2_with fail
   refine(Gp.out cm).mono ?_;rintro e w' ⟨rfl,rfl⟩;go_wp2_with fail
   refine(Gq.out cm).mono ?_;rintro e w' ⟨rfl,rfl⟩;go_wp2_with fail
   refine(aD.out cm).mono ?_;rintro e w' ⟨rfl,rfl⟩;go_wp2_with fail
   exact bv co.out d3.out cW
  have d3:=Z (show R=RO.ap true 2 at_ RS by rw[dN.out];simp[*]);clear dN;go_wp2_with fail
  refine(fZ.out gx).mono ?_;rintro e cm ⟨rfl,aL⟩;have co:=cz fG aL;have dO:=bG aL f0;have f4:=bG aL hz;have f6:=bG aL hC;have aV:=bG aL fH;have f7:=Z (hD.same aL);have f8:=cz hE aL;have ga:=cz hG aL;have z23:=co.size;clear aL;have gb:=aY aV;have gc:=bh aV;have gd:=bj aV;have ge:=bn aV;have gf:=bQ aV;have gg:=cd aV;have iJ:=J.lt aV;have cW:=bN dO;go_wp2_with fail
  refine(Gp.out cm).mono ?_;rintro e w' ⟨rfl,rfl⟩;go_wp2_with fail
  refine(Gq.out cm).mono ?_;rintro e w' ⟨rfl,rfl⟩;go_wp2_with fail
  refine(aD.out cm).mono ?_;rintro e w' ⟨rfl,rfl⟩;go_wp2_with fail
  refine bJ co.out d3.out cW λj=>?_;clear d3;clear fZ Gp Gq aD cW;have dK:=(co.cell (p:=(ab b (n+c*3+1))) o.1 ai).trans o.2.2.1;obtain⟨ba,f,k,B,r,dL,s,v,y,z⟩:=iq f7.out fc aU;have L:aB=some ⟨ba,f,none⟩:=k;have f:(fc:Int)<M:=by have:=f7.out.1.1;have f:w.length=M:=this;omega
  have f:(0:Int)<=fc:=ae
  obtain⟨u,f⟩:∃u,u=w[fc].at_.kind:=⟨_,rfl⟩;rw[<-f]at dL;have dM:=Z (show R=RO.ap (kh 5 u) 10 at_ ((fe q at_ (l++[⟨(fc:Int),5,Gj,Ge,Gf,Gh,Gi⟩]) (tl.drop (i+1))).bind t) by rw[j.out,D.out,cn.out,jY w fc aU,<-f]);clear j f r s v y z k;subst L;have eF:=dK;clear dK;have eG:ac cm (ab m 0) (U (some ⟨b,n,none⟩) A S):=J.cell dO 0;have cW:=bN dO;go_upto_region 14 with(fail)
  clear eG eF dL;have X:=Z (show R=RO.ap (decide (u=2)||decide (u=3)) 10 at_ _ by rw[dM.out];rfl);clear dM;by_cases E:u=2
  case pos=>
   have f:(u==2)=true:=by simp[E]
   have Gm:=Z (show R=RO.ap true 10 at_ _ by rw[X.out,decide_eq_true E];rfl);clear X E;exact rm
  have f:(u==2)=false:=by simp[E]
  by_cases Y:u=3
  case pos=>
   have f:(u==3)=true:=by simp[Y]
   have Gm:=Z (show R=RO.ap true 10 at_ _ by rw[X.out,decide_eq_false E,decide_eq_true Y];rfl);clear X Y E;exact rm
  have f:(u==3)=false:=by simp[Y]
  have Gm:=Z (show R=RO.ap false 10 at_ _ by rw[X.out,decide_eq_false E,decide_eq_false Y];rfl);clear X Y E;go_wp2_with fail
  exact bv co.out Gm.out cW
 have f:(Gg==5)=false:=by simp[aG]
 have f:=decide_eq_false aG;have dF:=Z (show RS=(RO.ap (kh Gg (cE q fc).kind) 10 at_<|(fe q at_ (l++[⟨(fc:Int),Gg,0,Ge,Gf,Gh,Gi⟩]) (tl.drop (i+1))).bind t) by rw[D.out,if_neg aG]);clear D;have D:=dF;clear dF;cases cu
 case false=>
  exact j0
 by_cases dG:0<=Ge
 case neg=>
  have f:=decide_eq_false dG;exact j0
 have f:=decide_eq_true dG;by_cases dH:Ge<=Gf
 case neg=>
  have f:=decide_eq_false dH;exact j0
 have f:=decide_eq_true dH;cases cs
 case false=>
  exact qY
 cases ct
 case false=>
  exact nN
 have d3:=Z (show R=RO.ap true 2 at_ RS by rw[dN.out];simp[*]);clear dN;go_wp2_with fail
 refine(fZ.out gx).mono ?_;rintro e cm ⟨rfl,aL⟩;have co:=cz fG aL;have dO:=bG aL f0;have f4:=bG aL hz;have f6:=bG aL hC;have aV:=bG aL fH;have f7:=Z (hD.same aL);have f8:=cz hE aL;have ga:=cz hG aL;have z23:=co.size;clear aL;have gb:=aY aV;have gc:=bh aV;have gd:=bj aV;have ge:=bn aV;have gf:=bQ aV;have gg:=cd aV;have iJ:=J.lt aV;have cW:=bN dO;go_wp2_with fail
 refine(Gp.out cm).mono ?_;rintro e w' ⟨rfl,rfl⟩;go_wp2_with fail
 refine(Gq.out cm).mono ?_;rintro e w' ⟨rfl,rfl⟩;go_wp2_with fail
 refine bJ co.out d3.out cW λf=>?_;clear d3;clear fZ Gp Gq aD cW;have dI:=(co.cell (p:=(ab b (n+c*3+1))) o.1 ai).trans o.2.2.1;obtain⟨ba,c,j,y,k,dJ,o,r,s,v⟩:=iq f7.out fc aU;have L:aB=some ⟨ba,c,none⟩:=j;have c:(fc:Int)<M:=by have:=f7.out.1.1;have c:w.length=M:=this;omega
 have c:(0:Int)<=fc:=ae
 obtain⟨u,c⟩:∃u,u=w[fc].at_.kind:=⟨_,rfl⟩;rw[<-c]at dJ;have X:=Z (show R=RO.ap (kh Gg u) 10 at_ ((fe q at_ (l++[⟨(fc:Int),Gg,0,Ge,Gf,Gh,Gi⟩]) (tl.drop (i+1))).bind t) by rw[f.out,D.out,cn.out,jY w fc aU,<-c]);clear f c k o r s v j;subst L;have dK:=dI;clear dI;have dL:ac cm (ab m 0) (U (some ⟨b,n,none⟩) A S):=J.cell dO 0;have cW:=bN dO;go_upto_region 14 with(fail)
 clear dL dK dJ;by_cases E:Gg=1
 case pos=>
  have c:(Gg==1)=true:=by simp[E]
  have Gz:=Z (show R=(fe q at_ (l++[⟨(fc:Int),Gg,0,Ge,Gf,Gh,Gi⟩]) (tl.drop (i+1))).bind t by rw[X.out];unfold kh;rw[if_pos E];rfl);clear X E;exact oP
 have c:(Gg==1)=false:=by simp[E]
 have Y:=Z (show R=RO.ap (decide (u=1)) 10 at_ _ by rw[X.out];unfold kh;rw[if_neg E,if_neg aG]);clear X;by_cases d:u=1
 case pos=>
  have c:(u==1)=true:=by simp[d]
  have Gm:=Z (show R=RO.ap true 10 at_ _ by rw[Y.out,decide_eq_true d]);clear Y d;go_wp2_with fail
  refine bJ co.out Gm.out cW λGz=>?_;clear Gm;exact oP
 have c:(u==1)=false:=by simp[d]
 have Gm:=Z (show R=RO.ap false 10 at_ _ by rw[Y.out,decide_eq_false d]);clear Y d;go_wp2_with fail
 exact bv co.out Gm.out cW
end Go.Proofs.YteamkimbmdgdbaaGreatDoor

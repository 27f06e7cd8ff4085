import Derived.Test.YteamkimbmdgdbaaGreatDoorK18
set_option linter.unusedSimpArgs false
set_option linter.unusedVariables false
set_option maxHeartbeats 16000000
set_option maxRecDepth 100000
namespace Go.Proofs.YteamkimbmdgdbaaGreatDoor
open Go.RowKit
def iI {b d:Type} (e c:af) (g k:Nat) (l:bb) (m:Nat) (enc:b->List Value) (val:b->d) (At:World->(Nat->Prop)->b->Prop) (i:aX) (a j:Nat) (n:List b) (x:d) (o:Value->Array Value):Prop:=
 ∃(f:b) (b:aX) (d:Nat),val f=x/\J c g 157 (o (U b (a+1) d))/\c.ownsRow k l m (U b (a+1) d) (a+1) ((n++[f]).flatMap enc)/\
  Kp (g::(Value.slice i a j).ownBlock.toList) e c/\((Value.slice b (a+1) d).ownBlock=(Value.slice i a j).ownBlock\/∃g,(Value.slice b (a+1) d).ownBlock=some g/\e.heap.size<=g)/\
  At c (λg=>Bw e.heap.size c.heap.size g/\some g≠(Value.slice b (a+1) d).ownBlock) f
theorem iI.of {c a:Type} {w g e:af} {i f:Nat} {j:bb} {m:Nat} {enc:c->List Value} {val:c->a} {At:World->(Nat->Prop)->c->Prop} {o:aX} {n q:Nat} {s:List c} {a:c} {x:bg} {t:Value->Array Value}
 (y:∀(w:af) (S u:Nat->Prop) (a:c),At w S a->(∀b,S b->u b)->At w u a) (z:∀(w e:af) (S:Nat->Prop) (a:c) (l:List Nat),At w S a->Kp l w e->(∀b∈l,¬S b)->At e S a)
 (k:Kp [] w g) (c:w.ownsRow f j m (U o n q) n x) (u:i<f) (u:f<=w.heap.size) (A:At g (Bw w.heap.size g.heap.size) a) (p:fo g e i f j m enc o n q s a t):iI w e i f j m enc val At o n q s (val a) t:=by
 obtain⟨e,f,b,g,r,v⟩:=p;have hr:=b3 c;refine⟨a,e,f,rfl,b,g,(k.mono (λ_ h=>by cases h)).trans r,v.imp id (λ⟨a,h1,c⟩=>⟨a,h1,bR k.size c⟩),y _ _ _ _ (z _ _ _ _ _ A r ?_) ?_⟩
 ·exact tT
 intro b hS;have h1:=hS.1;have a:=hS.2;have a:=r.size;refine⟨⟨h1,by omega⟩,λd=>?_⟩;rcases v with h|⟨B,h,C⟩
 ·rw[h]at d
  have:=(hr b d.symm).2;omega
 rw[h]at d;injection d with d
 omega
structure ei where
 name:ByteArray
 table:Int
 at_:Int
 h:Hd
 terms:List Wg
def ei.cells (r:ei):List Value:=[.string r.name,.int .i64 r.table,.int .i64 r.at_,r.h.val]
def ei.mt (a:ei):Mt:=⟨a.name,a.table,a.at_,a.terms⟩
structure fp (w:af) (S:Nat->Prop) (r:ei):Prop where
 l:aF w 7 r.h Wg.cells r.terms
 i:aS S r.h
theorem fp.mono (w:af) (S S':Nat->Prop) (r:ei) (a:fp w S r) (c:∀b,S b->S' b):fp w S' r:=⟨a.l,a.i.mono c⟩
theorem fp.keep (w c:af) (S:Nat->Prop) (d:ei) (l:List Nat) (b:fp w S d) (k:Kp l w c) (e:∀a∈l,¬S a):fp c S d:=⟨b.l.kp k (λa c d f=>e a f (b.i a c d)),b.i⟩
def rH (b:List Tb) (a:Int) (x:aI):RO Mt:=
 (dS b a x.table).bind λc=>RO.ap (aZ x.terms.length 1 12) 3 a<|RO.ap (aZ x.n 0 10000) 2 a<|
  (fe (dw b c).attrs a [] x.terms).bind λa=>.ok ⟨x.name,c,x.n,a⟩
def Cz (a:cL):Bool:=((lC a.num a.den&&(decide (0<=a.num)&&decide (a.num<=a.den)))&&aZ a.gives 0 1000)&&(aZ a.takes 0 1000&&(!decide (a.meas=5)||aZ a.jE 0 999999999))
def kh (b a:Int):Bool:=if b=1 then true else if b=5 then decide (a=2)||decide (a=3)else decide (a=1)
theorem CA {g:Type} (c:List At) (b:Int) (e:List Wg) (a:cL) (f:List cL) (d:List Wg->RO g):(fe c b e (a::f)).bind d=
 (cO b c a.attr).bind λg=>RO.ap (aZ a.meas 1 5) 1 b<|RO.ap (Cz a) 2 b<|RO.ap (kh a.meas (cE c g).kind) 10 b<|(fe c b (e++[⟨g,a.meas,if a.meas=5 then a.jE else 0,a.num,a.den,a.gives,a.takes⟩]) f).bind d:=by
 show((pe c b a).bind _).bind d=_;unfold pe;simp only[RO.bind_assoc,RO.gK];rfl
theorem Tryz.CB:(Tryz.prog.info? 55).map (λa=>(a.zero,a.size,a.bytes))=some (some (.agg #[ah,O 0,O 0,aa]),4,56):=ak
theorem Tryz.CC:(Tryz.prog.info? 59).map (λa=>(a.zero,a.size,a.bytes))=some (some (.agg #[O 0,O 0,O 0,O 0,O 0,O 0,O 0]),7,56):=ak
theorem ei.len (k:ei):k.cells.length=4:=rfl
theorem Wg.len (k:Wg):k.cells.length=7:=rfl
theorem CD (m V:Nat) (D:RI) (h:Hd) (s:List RT) (at_:Int) (a1 ck cl cn cp cq:ay) (E:aX) (r v:Nat) (aB:List ei) (f:af) (aS:J f m 157 #[h.val,a1,ck,U E r v,cl,cn,cp,cq,at_]) (aU:bI f h s) (lt:aF f 7 D.n4 cL.cells D.terms) (cr:∀y∈D.terms,y.bY) (aW:f.ownsRow V 55 4 (U E r v) r (aB.flatMap ei.cells)) (df:aB.length=r) (cs:m<V) (hb:V<=f.heap.size) (df:r<=1000):
 Calls Tryz.prog 116 #[aj m,.agg D.cells.toArray] f λe w'=>jh f (rH (s.map RT.tb) at_ D.it) (λx w'=>iI f w' m V 55 4 ei.cells ei.mt fp E r v aB x (λdf=>#[h.val,a1,ck,df,cl,cn,cp,cq,at_])) e w':=by
 obtain⟨dh,di,dj,dk,dl⟩:=info_parts Tryz.CB;obtain⟨i0,hi0,rD,rE,rF⟩:=info_parts Tryz.CC;obtain⟨a0,z,P⟩:=h;have a1:s.length=z:=aU.1.1;have W:=Z lt;have ck:=Z cr;have cl:=lt.1;have cn:=lt.2.1;clear lt cr;obtain⟨R,a1⟩:∃R,R=rH (s.map RT.tb) at_ D.it:=⟨_,rfl⟩;rw[<-a1];have cp:=Z a1;clear a1;obtain⟨a2,k,a3,X,a4,⟨a5,a6,a7⟩,a1,⟨a8,a9,bb⟩,cq,bf,j,bg,⟨Y,D,aC⟩,tl,bk,bm,⟨bp,bq,br⟩,cr,⟨bs,bt,bu⟩,df,⟨bx,bz,bA⟩,d9,⟨bB,bD,⟨bE,bF,bH⟩,ea,⟨bK,bL,bM⟩,eb,⟨bO,bP,bR⟩,ec,bS,bT,bU,bW⟩⟩:=D;have ct:=Z (show R=(dS (s.map RT.tb) at_ X).bind λc=>RO.ap (aZ tl.length 1 12) 3 at_<|RO.ap (aZ j 0 10000) 2 at_<|(fe (dw (s.map RT.tb) c).attrs at_ [] tl).bind λl=>.ok (⟨k,c,j,l⟩:Mt)from cp);clear cp;have a1:Hid (aF f 7 ⟨Y,D,aC⟩ cL.cells tl):=W;clear W;have W:=a1;clear a1;have dm:Hid (∀y∈tl,y.bY):=ck;clear ck;have dn:tl.length=D:=cl;have D:D<=9223372036854775807:=cn;clear cl cn;subst dn;have cu:=aS.lt;have dq:=Z (Kp.refl [] f);have bX:=Z aU;have bZ:=Z aS;have cv:=Z aW;have cw:=Z aW;show Calls Tryz.prog 116 #[aj m,.agg #[a2,k,a3,X,a4,U a5 a6 a7,U a8 a9 bb,bf,j,bg,U Y tl.length aC,bk,bm,U bp bq br,U bs bt bu,U bx bz bA,bB,bD,U bE bF bH,U bK bL bM,U bO bP bR,bS,bT,bU,bW]] f _;clear aS aU aW;go_enter Tryz.func116,Tryz.ntmps116
 go_upto_region 1 with(fail)
 obtain⟨cx,D,cy,SN,aS⟩:=nb f 95 #[a2,k,a3,X,a4,U a5 a6 a7,U a8 a9 bb,bf,j,bg,U Y tl.length aC,bk,bm,U bp bq br,U bs bt bu,U bx bz bA,bB,bD,U bE bF bH,U bK bL bM,U bO bP bR,bS,bT,bU,bW];rw[D];clear D;have cA:=qk dq SN;have cD:=Z (bX.same SN);have dr:=Z (aH SN cv);have aD:=qb SN bZ;have ds:=Z (W.same SN);clear SN;have cG:ac cx (ab m 0) (U a0 z P):=J.cell aD 0;have cH:=bN aD;have dt:=J.lt aD;have du:=bj cy;go_wp2_with fail
 refine dC ct.out (nU m ⟨a0,z,P⟩ s X at_ cx dt cG cH cD.out) (eL cA) ?_;intro a b0 w2 cI Q ad d;obtain⟨c,rfl,cK⟩:=mM cI;have b4:b0=.int .i64 (c:Int):=ad;subst b4;have b5:c<s.length:=by simpa using cK
 have al:=Z (cA.trans d);have dv:=Z (cD.same (d.same));have O2:=Z (aH (d.same) dr);have cM:=qo d aD;have S:=qo d cy;have D:=Z (ds.same d.same);clear d;clear ad cI cK cG cH du;go_upto_region 2 with(fail)
 have an:=bN cM;have dx:=bN S;have dy:=ml S;have dz:=J.lt S;have F:=Z (λn=>fj (tl.length:Int) 1 12 n);have b6:=Z (λn=>fj j 0 10000 n);obtain⟨aG,D⟩:∃aG,aG=aZ (tl.length:Int) 1 12:=⟨_,rfl⟩;obtain⟨aI,aD⟩:∃aI,aI=aZ j 0 10000:=⟨_,rfl⟩;have aS:=Z (show R=RO.ap aG 3 at_ (RO.ap aI 2 at_ ((fe s[c].tb.attrs at_ [] tl).bind λl=>.ok (⟨k,c,j,l⟩:Mt))) by rw[Q.out,lR s c b5,D,aD]);clear Q ct;have Q:=aS;clear aS;rw[<-D]at F;rw[<-aD]at b6;have cN:=Z D;clear D aD;go_wp2_with fail
 refine(F.out w2).mono ?_;rintro e w' ⟨rfl,rfl⟩;cases aG
 case false=>
  go_wp2_with fail
  exact bv al.out (show R=RO.ap false _ at_ _ from Q.out) an
 go_wp2_with fail
 refine bJ al.out (show R=RO.ap true _ at_ _ from Q.out) an λb7=>?_;have D:tl.length<=12:=by have h:=cN.out.symm;unfold aZ at h;simp at h;omega
 clear Q F cN;go_wp2_with fail
 refine(b6.out w2).mono ?_;rintro e w' ⟨rfl,rfl⟩;cases aI
 case false=>
  go_wp2_with fail
  exact bv al.out (show R=RO.ap false _ at_ _ from b7.out) an
 go_wp2_with fail
 refine bJ al.out (show R=RO.ap true _ at_ _ from b7.out) an λb9=>?_;clear b7 b6 an;have dA:=aY S;have dz:=J.lt S;go_upto_region 4 with(fail)
 go_upto_region 5 with(first|(refine wpList_store_row rfl 55 (.tmp 5) (.tmp 33) rfl w2.heap.size #[k,(c:Int),j,aa] rfl rfl 55 #[ah,O 0,O 0,aa] (J.new w2 55 #[ah,O 0,O 0,aa]) ak rfl bl ?_;rw[World.setRow_alloc_new])|fail)
 have Q:=Z (Kp.refl [] w2);obtain⟨an,D,cP,SN,-⟩:=nb w2 55 #[k,(c:Int),j,aa];rw[D];clear D;have cQ:=qk al SN;have dB:=Z (dv.same SN);have dD:=qb SN cM;have ca:=qb SN S;have cR:=qk Q SN;clear SN;clear dx dy dA;have dE:=ml ca;obtain⟨b,n,aD,a1,Q,S,al⟩:=lQ bX.out c b5;have H:a0=some ⟨b,n,none⟩:=aD;have D:=Z (bX.2 _ (List.getElem_mem b5));have an:=Z (λ(a:aw) (q:af) (o:ag f q)=>nV m s[c] a at_ q (aT cu o.size) ((o.cell (p:=(ab m 8)) cu).trans (J.cell bZ 8)) (D.same o));obtain⟨tq,aG⟩:∃tq,tq=s[c]:=⟨_,rfl⟩;rw[<-aG]at Q S al an b9 D;obtain⟨aI,⟨ao,I,s⟩,w,⟨aS,aU,aW⟩,a0⟩:=tq;have o:Hid (b<f.heap.size/\ac f (ab b (n+c*3)) aI/\ac f (ab b (n+c*3+1)) (U ao I s)/\ac f (ab b (n+c*3+2)) (U aS aU aW)):=Z ⟨a1,Q,S,al⟩;have cS:Hid (∀(a:aw) (q:af),ag f q->Calls Tryz.prog 187 #[aj m,.agg #[aI,U ao I s,U aS aU aW],a] q λe w'=>RP [] q (cO at_ (w.map RA.at_) a) g7 e w'):=an;have dF:Hid (fu f ⟨ao,I,s⟩ w):=D.1;obtain⟨t,hF⟩:∃t:List Wg->RO Mt,t=λl=>.ok (⟨k,c,j,l⟩:Mt):=⟨_,rfl⟩;have dG:=Z (λl=>congrFun hF l);obtain⟨q,L⟩:∃q,q=w.map RA.at_:=⟨_,rfl⟩;have cb:=Z L;have cT:=Z (show R=(fe q at_ [] tl).bind t by rw[hF,L];exact b9.out);rw[<-L]at cS;clear Q S al an b9 aG aD D hF L;have s:(c:Int)<z:=ae
 have s:(0:Int)<=c:=ae
 subst H;go_wp2_with fail
 go_loopg [37] (tl.length+1) (λs u wr=>∃(i:Nat) (l:List Wg) (Af:aX) (cf:Nat),u=.int .i64 i/\i<=tl.length/\tl.length-i<s/\l.length=i/\Hid (wr.ownsRow (w2.heap.size+1) 59 7 (U Af i cf) i (l.flatMap Wg.cells))/\Hid (J wr w2.heap.size 55 #[k,(c:Int),j,U Af i cf])/\Hid (J wr f.heap.size 95 #[a2,k,a3,X,a4,U a5 a6 a7,U a8 a9 bb,bf,j,bg,U Y tl.length aC,bk,bm,U bp bq br,U bs bt bu,U bx bz bA,bB,bD,U bE bF bH,U bK bL bM,U bO bP bR,bS,bT,bU,bW])/\Hid (Kp [] f wr)/\Hid (Kp [] w2 wr)/\Hid (R=(fe q at_ l (tl.drop i)).bind t))
 case atStart=>exact⟨0,[],none,0,rfl,by omega,by omega,rfl,Z ⟨rfl,.inl ⟨rfl,rfl⟩⟩,cP,ca,cQ,cR,cT⟩
 obtain⟨i,l,Af,cf,rfl,ed,cU,cV,Gy,M,dH,N,dI,aJ⟩:=hrel;have Gk:=Z cU;have GE:=Z cV;clear cU cV cP ca dD dB cQ cR cT dE;have dJ:=Z (Kp.refl [] wr);have dK:=Z (aH N.same cv);have dL:=Z (W.same N.same);have dM:=Z (dF.same N.same);have aM:=qo N bZ;have s:=N.size;have s:=J.lt M;by_cases hlt:i<tl.length
 case neg=>
  have s:¬(i:Int)<tl.length:=ae
  have cc:=Z (show R=t l by rw[aJ.out,List.drop_of_length_le ae];rfl);clear aJ;have aN:=bj aM;have s:=J.lt aM;have A:=az M;have B:=aY M;have T:=bh M;have aq:=bj M;have s:=J.lt M;go_upto_region 24 with(fail)
  refine qU 9 aN A B T aq λhS=>?_;refine cJ ?_;refine jl ?_;have ce:(λw':World=>ac w' (ab m 3) (U E r v)/\ac w' (am w2 0) k/\ac w' (am w2 1) (c:Int)/\ac w' (am w2 2) j/\ac w' (am w2 3) (U Af i cf)) (wr.drew.alloc (.cells #[k,(c:Int),j,U Af i cf] 55)):=⟨bi aN,bi A,bi B,bi T,bi aq⟩;refine aK 7 (λK C=>?_);go_simp;refine C.out _ _ (λ_=>ce) ?_;refine av ?_;have aO:=Z (aH ((ag.refl wr.drew).alloc (.cells #[k,(c:Int),j,U Af i cf] 55)) (aH ((ag.refl wr).drew) dK));have kX:=Z (cC wr.drew #[k,(c:Int),j,U Af i cf] 55 4 rfl);have aP:=Z (aM.drew.alloc (.cells #[k,(c:Int),j,U Af i cf] 55));refine aK 8 (λK C=>?_);refine c7 (wr.drew.alloc (.cells #[k,(c:Int),j,U Af i cf] 55)) (.tmp 160) (.tmp 162) 32 rfl V 55 dh _ 4 56 Tryz.underlying32 di dj dk dl rfl au (U E r v) r (aB.flatMap ei.cells) rfl aO.out (wr.heap.size+1) (some ⟨wr.heap.size,0,none⟩) 1 1 ((#[k,(c:Int),j,U Af i cf]:Array Value).toList) rfl kX.out bl b1 ae cB ?_;intro s s ar hg L;obtain⟨aQ,aR,rfl,gs⟩:=bo ar;have hrow:=b3 cw;have s:some m≠(.slice E r v:ay).ownBlock:=λe=>by have:=hrow m e.symm;omega
  have ax:=Z (aP.grown hg s);have s:=bj ax;have D:=λi=>J.frozen ax i;have cg:=Z ar;have u:=Z (fm (((Kp.refl [] wr).drew).alloc _) hg);have ch:=Z (show(Value.slice aQ (r+1) aR).ownBlock=(.slice E r v:ay).ownBlock\/∃g,(Value.slice aQ (r+1) aR).ownBlock=some g/\wr.heap.size<=g from L.imp id (λh=>⟨_,h,by simp[d5]⟩));clear ar L gs aO kX aP;refine C.out _ _ (λ_=>⟨s,bw u.out A,bw u.out B,bw u.out T,bw u.out aq⟩) ?_;refine av ?_;refine b2 ?_;refine n6 ?_;refine dp 12 (λK C=>?_);go_simp;refine C _ _ ?_;refine av ?_;refine bV ?_;go_wp2_with fail
  refine bodyPost_ret (results_none rfl _ _ _) rfl ?_;rw[cc.out,dG.out l];have r:=cF (h:=⟨Af,i,cf⟩) Wg.len GE (by show i<=_;omega) Gy;have f:fp wr (Bw f.heap.size wr.heap.size) (⟨k,c,j,⟨Af,i,cf⟩,l⟩:ei):=⟨r,(λb f e=>by have h:=b3 Gy.out b (by show(Value.slice Af i cf).ownBlock=_;have f:Af=some ⟨b,f,none⟩:=e;rw[f];rfl);exact⟨by omega,h.2⟩)⟩;exact⟨rfl,iI.of (val:=ei.mt) fp.mono fp.keep N.out cw.out cs hb f (fo.jg (enc:=ei.cells) (x:=(⟨k,c,j,⟨Af,i,cf⟩,l⟩:ei)) (ag.refl wr) ax.out cg.out u.out cs rfl ch.out)⟩
 have f:(i:Int)<tl.length:=ae
 obtain⟨j,of,r,k,f⟩:=dL.out.2.2 i hlt;have H:Y=some ⟨j,of,none⟩:=r;obtain⟨y,k⟩:∃y,y=tl[i]:=⟨_,rfl⟩;have cc:=Z (show y.bY by rw[k];exact dm.out _ (List.getElem_mem hlt));rw[<-k]at f;have aN:=Z (show R=_ by rw[aJ.out,List.drop_eq_getElem_cons hlt,CA,<-k]);clear k r aJ;obtain⟨aq,Gg,Gj,Ge,Gf,Gh,Gi⟩:=y;have dP:ac wr (ab j (of+i*7)) aq:=by simpa using f 0 _ rfl
 have v1:ac wr (ab j (of+i*7+1)) Gg:=f 1 _ rfl;have dQ:ac wr (ab j (of+i*7+2)) Gj:=f 2 _ rfl;have dR:ac wr (ab j (of+i*7+3)) Ge:=f 3 _ rfl;have dT:ac wr (ab j (of+i*7+4)) Gf:=f 4 _ rfl;have dU:ac wr (ab j (of+i*7+5)) Gh:=f 5 _ rfl;have dV:ac wr (ab j (of+i*7+6)) Gi:=f 6 _ rfl;have j:IntKind.i64.wrap ((i:Int)+1)=(i:Int)+1:=IntWalk.i64_in _ ae;clear f;subst H;have f:b8 Ge:=cc.num;have j:b8 Gf:=cc.den;have fZ:=Z (λk=>AG Ge Gf k f j);have k:Hid (R=(cO at_ q aq).bind λv=>RO.ap (aZ Gg 1 5) 1 at_<|RO.ap (((lC Ge Gf&&(decide (0<=Ge)&&decide (Ge<=Gf)))&&aZ Gh 0 1000)&&(aZ Gi 0 1000&&(!decide (Gg=5)||aZ Gj 0 999999999))) 2 at_<|RO.ap (kh Gg (cE q v).kind) 10 at_<|(fe q at_ (l++[⟨v,Gg,if Gg=5 then Gj else 0,Ge,Gf,Gh,Gi⟩]) (tl.drop (i+1))).bind t):=aN;clear aN f j cc;have aN:=k;clear k;go_upto_region 8 with(first|(refine wpList_store_row rfl 260 (.tmp 7) (.tmp 40) rfl wr.heap.size #[aq,Gg,Gj,Ge,Gf,Gh,Gi] rfl rfl 260 #[ah,O 0,O 0,O 0,O 0,O 0,O 0] (J.new wr 260 #[ah,O 0,O 0,O 0,O 0,O 0,O 0]) ak rfl bl ?_;rw[World.setRow_alloc_new])|fail)
 obtain⟨ce,f,cX,SN,-⟩:=nb wr 260 #[aq,Gg,Gj,Ge,Gf,Gh,Gi];rw[f];clear f;have T:=qk N SN;have cY:=qb SN aM;have dW:=qb SN dH;have dX:=qb SN M;have dY:=Z (dM.same SN);have dZ:=qk dI SN;have d0:=qk dJ SN;clear SN;clear dP v1 dQ dR dT dU dV;have cZ:=(T.cell (p:=(ab b (n+c*3))) o.1 ai).trans o.2.1;have c0:=(T.cell (p:=(ab b (n+c*3+1))) o.1 ai).trans o.2.2.1;have c1:=(T.cell (p:=(ab b (n+c*3+2))) o.1 ai).trans o.2.2.2;have c2:ac ce (ab m 0) (U (some ⟨b,n,none⟩) z P):=J.cell cY 0;have c3:=az cX;refine qU 14 c2 cZ c0 c1 c3 λhS=>?_;refine dg ?_;refine eh ?_;refine tk 11 hS ?_;refine aK 12 (λK C=>?_);go_simp;refine dC aN.out (cS.out aq ce.drew T.out.drew.same) (eL (T.out.drew)) ?_;intro a b0 gx c4 A ad d;have d:=Z (((Kp.refl [] ce).drew).trans d);have b4:b0=.int .i64 a:=ad;subst b4;obtain⟨fc,d1,cg⟩:=pH c4;subst d1;have aO:fc<w.length:=by rw[cb.out]at cg;simpa using cg
 clear cg;have fG:=Z (T.trans d);have f0:=qo d cY;have hz:=qo d dW;have hC:=qo d dX;have fH:=qo d cX;have hD:=Z (dY.same d.same);have hE:=Z (dZ.trans d);have hG:=Z (d0.trans d);clear d;try go_simp
 have c5:=(fG.cell (p:=(ab b (n+c*3))) o.1 ai).trans o.2.1;have c6:=(fG.cell (p:=(ab b (n+c*3+1))) o.1 ai).trans o.2.2.1;have c8:=(fG.cell (p:=(ab b (n+c*3+2))) o.1 ai).trans o.2.2.2;have c9:ac gx (ab m 0) (U (some ⟨b,n,none⟩) z P):=J.cell f0 0;have da:=az fH;refine nP C ⟨c9,c5,c6,c8,da⟩ λf=>?_;refine av ?_;refine tk 13 f ?_;refine gH ak ?_ _;clear hS f c2 cZ c0 c1 c3 ad c4;have F:=Z (λf=>fj Gg 1 5 f);have Gp:=Z (λf=>fj Gh 0 1000 f);have Gq:=Z (λf=>fj Gi 0 1000 f);have ar:=Z (λf=>fj Gj 0 999999999 f);generalize aZ Gg 1 5=d2 at F A;generalize aZ Gh 0 1000=ch at Gp A;generalize aZ Gi 0 1000=ci at Gq A;generalize aZ Gj 0 999999999=db at ar A;generalize lC Ge Gf=cj at fZ A;clear c9 c5 c6 c8 da;have d4:=aY fH;have aP:=bN f0;go_wp2_with fail
 refine(F.out gx).mono ?_;rintro e w' ⟨rfl,rfl⟩;cases d2
 case false=>
  go_wp2_with fail
  exact bv fG.out (show R=RO.ap false _ at_ _ from A.out) aP
 go_wp2_with fail
 refine bJ fG.out (show R=RO.ap true _ at_ _ from A.out) aP λdN=>?_;clear A F aP;obtain⟨RS,f⟩:∃RS:RO Mt,RS=(RO.ap (kh Gg (cE q fc).kind) 10 at_<|(fe q at_ (l++[⟨(fc:Int),Gg,if Gg=5 then Gj else 0,Ge,Gf,Gh,Gi⟩]) (tl.drop (i+1))).bind t):=⟨_,rfl⟩;have B:=Z f;have j:=Z (show R=RO.ap (((cj&&(decide (0<=Ge)&&decide (Ge<=Gf)))&&ch)&&(ci&&(!decide (Gg=5)||db))) 2 at_ RS by rw[f];exact dN.out);clear dN f;have dN:=j;clear j;have d4:=aY fH;have f:=bj fH;have f:=bn fH;have aP:=bN f0;by_cases ax:Gg=5
 case pos=>
  have aQ:=True.intro;have aR:=True.intro;subst ax;clear aQ aR;have aQ:((5:Int)==5)=true:=rfl;have aR:decide ((5:Int)=5)=true:=rfl;have f:Hid (RS=(RO.ap (kh 5 (cE q fc).kind) 10 at_<|(fe q at_ (l++[⟨(fc:Int),5,Gj,Ge,Gf,Gh,Gi⟩]) (tl.drop (i+1))).bind t)):=B;clear B;have B:=f;clear f;cases cj
  case false=>
   exact j0
  by_cases f:0<=Ge
  case neg=>
   have j:=decide_eq_false f;exact j0
  have f:=decide_eq_true f;by_cases f:Ge<=Gf
  case neg=>
   have j:=decide_eq_false f;exact j0
  have f:=decide_eq_true f;cases ch
  case false=>
   exact qY
  cases ci
  case false=>
   exact nN
  cases db
  case false=>
   have d3:=Z (show R=RO.ap false 2 at_ RS by rw[dN.out];simp[*]);clear dN;go_wp2_with fail
   refine(fZ.out gx).mono ?_;rintro e cm ⟨rfl,aL⟩;have co:=cz fG aL;have dO:=bG aL f0;have f4:=bG aL hz;have f6:=bG aL hC;have aV:=bG aL fH;have f7:=Z (hD.same aL);have f8:=cz hE aL;have ga:=cz hG aL;have z23:=co.size;clear aL;have gb:=aY aV;have gc:=bh aV;have gd:=bj aV;have ge:=bn aV;have gf:=bQ aV;have gg:=cd aV;have iJ:=J.lt aV;have cW:=bN dO;go_wp2_with fail
   refine(Gp.out cm).mono ?_;rintro e w' ⟨rfl,rfl⟩;go_wp2_with fail
   refine(Gq.out cm).mono ?_;rintro e w' ⟨rfl,rfl⟩;go_wp2_with fail
   refine(ar.out cm).mono ?_;rintro e w' ⟨rfl,rfl⟩;go_wp2_with fail
   exact bv co.out d3.out cW
  have d3:=Z (show R=RO.ap true 2 at_ RS by rw[dN.out];simp[*]);clear dN;go_wp2_with fail
  refine(fZ.out gx).mono ?_;rintro e cm ⟨rfl,aL⟩;have co:=cz fG aL;have dO:=bG aL f0;have f4:=bG aL hz;have f6:=bG aL hC;have aV:=bG aL fH;have f7:=Z (hD.same aL);have f8:=cz hE aL;have ga:=cz hG aL;have z23:=co.size;clear aL;have gb:=aY aV;have gc:=bh aV;have gd:=bj aV;have ge:=bn aV;have gf:=bQ aV;have gg:=cd aV;have iJ:=J.lt aV;have cW:=bN dO;go_wp2_with fail
  refine(Gp.out cm).mono ?_;rintro e w' ⟨rfl,rfl⟩;go_wp2_with fail
  refine(Gq.out cm).mono ?_;rintro e w' ⟨rfl,rfl⟩;go_wp2_with fail
  refine(ar.out cm).mono ?_;rintro e w' ⟨rfl,rfl⟩;go_wp2_with fail
  refine bJ co.out d3.out cW λj=>?_;clear d3;clear fZ Gp Gq ar cW;have dc:=(co.cell (p:=(ab b (n+c*3+1))) o.1 ai).trans o.2.2.1;obtain⟨ba,f,k,D,r,dd,s,v,y,A⟩:=iq f7.out fc aO;have H:ao=some ⟨ba,f,none⟩:=k;have f:(fc:Int)<I:=by have:=f7.out.1.1;have f:w.length=I:=this;omega
  have f:(0:Int)<=fc:=ae
  obtain⟨u,f⟩:∃u,u=w[fc].at_.kind:=⟨_,rfl⟩;rw[<-f]at dd;have de:=Z (show R=RO.ap (kh 5 u) 10 at_ ((fe q at_ (l++[⟨(fc:Int),5,Gj,Ge,Gf,Gh,Gi⟩]) (tl.drop (i+1))).bind t) by rw[j.out,B.out,cb.out,jY w fc aO,<-f]);clear j f r s v y A k;subst H;have d7:=dc;clear dc;have d8:ac cm (ab m 0) (U (some ⟨b,n,none⟩) z P):=J.cell dO 0;have cW:=bN dO;go_upto_region 14 with(fail)
  clear d8 d7 dd;have j:=Z (show R=RO.ap (decide (u=2)||decide (u=3)) 10 at_ _ by rw[de.out];rfl);clear de;by_cases f:u=2
  case pos=>
   have k:(u==2)=true:=by simp[f]
   have Gm:=Z (show R=RO.ap true 10 at_ _ by rw[j.out,decide_eq_true f];rfl);clear j f;exact rm
  have k:(u==2)=false:=by simp[f]
  by_cases k:u=3
  case pos=>
   have r:(u==3)=true:=by simp[k]
   have Gm:=Z (show R=RO.ap true 10 at_ _ by rw[j.out,decide_eq_false f,decide_eq_true k];rfl);clear j k f;exact rm
  have r:(u==3)=false:=by simp[k]
  have Gm:=Z (show R=RO.ap false 10 at_ _ by rw[j.out,decide_eq_false f,decide_eq_false k];rfl);clear j k f;go_wp2_with fail
  exact bv co.out Gm.out cW
 have f:(Gg==5)=false:=by simp[ax]
 have f:=decide_eq_false ax;have f:=Z (show RS=(RO.ap (kh Gg (cE q fc).kind) 10 at_<|(fe q at_ (l++[⟨(fc:Int),Gg,0,Ge,Gf,Gh,Gi⟩]) (tl.drop (i+1))).bind t) by rw[B.out,if_neg ax]);clear B;have B:=f;clear f;cases cj
 case false=>
  exact j0
 by_cases f:0<=Ge
 case neg=>
  have j:=decide_eq_false f;exact j0
 have f:=decide_eq_true f;by_cases f:Ge<=Gf
 case neg=>
  have j:=decide_eq_false f;exact j0
 have f:=decide_eq_true f;cases ch
 case false=>
  exact qY
 cases ci
 case false=>
  exact nN
 have d3:=Z (show R=RO.ap true 2 at_ RS by rw[dN.out];simp[*]);clear dN;go_wp2_with fail
 refine(fZ.out gx).mono ?_;rintro e cm ⟨rfl,aL⟩;have co:=cz fG aL;have dO:=bG aL f0;have f4:=bG aL hz;have f6:=bG aL hC;have aV:=bG aL fH;have f7:=Z (hD.same aL);have f8:=cz hE aL;have ga:=cz hG aL;have z23:=co.size;clear aL;have gb:=aY aV;have gc:=bh aV;have gd:=bj aV;have ge:=bn aV;have gf:=bQ aV;have gg:=cd aV;have iJ:=J.lt aV;have cW:=bN dO;go_wp2_with fail
 refine(Gp.out cm).mono ?_;rintro e w' ⟨rfl,rfl⟩;go_wp2_with fail
 refine(Gq.out cm).mono ?_;rintro e w' ⟨rfl,rfl⟩;go_wp2_with fail
 refine bJ co.out d3.out cW λf=>?_;clear d3;clear fZ Gp Gq ar cW;have dc:=(co.cell (p:=(ab b (n+c*3+1))) o.1 ai).trans o.2.2.1;obtain⟨ba,c,j,y,k,dd,o,r,s,v⟩:=iq f7.out fc aO;have H:ao=some ⟨ba,c,none⟩:=j;have c:(fc:Int)<I:=by have:=f7.out.1.1;have c:w.length=I:=this;omega
 have c:(0:Int)<=fc:=ae
 obtain⟨u,c⟩:∃u,u=w[fc].at_.kind:=⟨_,rfl⟩;rw[<-c]at dd;have aQ:=Z (show R=RO.ap (kh Gg u) 10 at_ ((fe q at_ (l++[⟨(fc:Int),Gg,0,Ge,Gf,Gh,Gi⟩]) (tl.drop (i+1))).bind t) by rw[f.out,B.out,cb.out,jY w fc aO,<-c]);clear f c k o r s v j;subst H;have de:=dc;clear dc;have d7:ac cm (ab m 0) (U (some ⟨b,n,none⟩) z P):=J.cell dO 0;have cW:=bN dO;go_upto_region 14 with(fail)
 clear d7 de dd;by_cases c:Gg=1
 case pos=>
  have f:(Gg==1)=true:=by simp[c]
  have Gz:=Z (show R=(fe q at_ (l++[⟨(fc:Int),Gg,0,Ge,Gf,Gh,Gi⟩]) (tl.drop (i+1))).bind t by rw[aQ.out];unfold kh;rw[if_pos c];rfl);clear aQ c;exact oP
 have f:(Gg==1)=false:=by simp[c]
 have aR:=Z (show R=RO.ap (decide (u=1)) 10 at_ _ by rw[aQ.out];unfold kh;rw[if_neg c,if_neg ax]);clear aQ;by_cases d:u=1
 case pos=>
  have c:(u==1)=true:=by simp[d]
  have Gm:=Z (show R=RO.ap true 10 at_ _ by rw[aR.out,decide_eq_true d]);clear aR d;go_wp2_with fail
  refine bJ co.out Gm.out cW λGz=>?_;clear Gm;exact oP
 have c:(u==1)=false:=by simp[d]
 have Gm:=Z (show R=RO.ap false 10 at_ _ by rw[aR.out,decide_eq_false d]);clear aR d;go_wp2_with fail
 exact bv co.out Gm.out cW
end Go.Proofs.YteamkimbmdgdbaaGreatDoor

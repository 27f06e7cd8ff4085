import Derived.Test.YteamkimbmdgdbaaGreatDoorK16
set_option linter.unusedSimpArgs false
set_option linter.unusedVariables false
set_option maxHeartbeats 16000000
set_option maxRecDepth 100000
namespace Go.Proofs.YteamkimbmdgdbaaGreatDoor
open Go.RowKit
theorem Ch (b:List Tb) (c:aw) (d:List bB) (f:bm) (g i:aw) (j a:Int) (ks:List Pl):cy b 6 c d f g i j a ks=RO.ap (decide (ks.length=2)) 1 a (RO.ap (fh (bF ks 0) (bF ks 1)) 10 a (.ok (.mk 6 0 ks [] [] 0 0 (bF ks 0)))):=by
 have h:decide (ef 6=some ks.length)=decide (ks.length=2):=by
  have:ef 6=some 2:=rfl;exact ri
 unfold cy;rw[h];rfl
theorem Ci (A d t:Nat) (h:Hd) (M:List RT) (N:aw) (aL B:Hd) (b:List aB) (X:Hd) (Y:List bB) (ad:Hd) (ah:bm) (P C:aw) (Q at_:Int) (c:af) (aP:aG C)
 (ak:J c d 105 #[O 6,O 0,B.val,aa,aa,O 0,O 0,aa]) (j:iC c A d t h M B b X Y ad ah at_):
 Calls Tryz.prog 201 #[aj A,.agg #[O 6,N,aL.val,X.val,ad.val,P,C,Q,at_],aj d] c
  λe w'=>RP [d] c (cy (M.map RT.tb) 6 N Y ah P C Q at_ (aB.aN b)) (iE d t) e w':=by
 obtain⟨aY,D,aZ⟩:=h;obtain⟨aM,aP,S⟩:=B;obtain⟨a0,a1,a2⟩:=aL;obtain⟨a3,a4,a5⟩:=X;obtain⟨a6,a7,a8⟩:=ad;have u:=Z j;have a9:b.length=aP:=j.lk.1;have X:aP<=9223372036854775807:=j.lk.2.1;have X:M.length=D:=(j.ta c (Kp.refl _ c)).1.1;have X:D<=9223372036854775807:=(j.ta c (Kp.refl _ c)).1.2.1;subst a9;have X:=j.hX;have ad:=j.xp;have ad:=j.j3;have ad:=j.lw;have ad:=ak.lt;have ba:=Z ak;obtain⟨R,M⟩:=aq (cy (M.map RT.tb) 6 N Y ah P C Q at_ (aB.aN b));rw[<-M];have Y:(aB.aN b).length=b.length:=by rw[aB.iB,List.length_map]
 have E0:=Z (show R=RO.ap (decide (b.length=2)) 1 at_ (RO.ap (fh (bF (aB.aN b) 0) (bF (aB.aN b) 1)) 10 at_ (.ok (.mk 6 0 (aB.aN b) [] [] 0 0 (bF (aB.aN b) 0)))) by rw[M,Ch,Y]);clear M j ak Y;have j:c.heap.size<=c.heap.size:=Nat.le_refl _;have bb:=Z (Kp.refl [d] c);have al:=Z (λ(f:af) (g:Kp [d] c f)=>u.lk.kp g (λf g e D=>by have f:=(u.out.ik f g e).1;have f:=aA D;omega));have j:=Z (λ(f:af) (g:Kp [d] c f)=>show ac f (ab A 0) (U aY D aZ)from(g.cell X aC).trans u.c0);have kS:=Z (λ(f:af) (g:Kp [d] c f)=>show ac f (ab A 8) at_ from(g.cell X aC).trans u.c8);have j:=aW X;have j:=aW ad;have j:∀(j:Fn) (first cap:aO) (c:af),(Instr.makeFunc j first cap).run Tryz.prog c=.ok (.func j first cap) c:=λ_ _ _ _=>rfl;have bf:=@run_makeMap Tryz.prog;show Calls Tryz.prog 201 #[aj A,.agg #[O 6,N,U a0 a1 a2,U a3 a4 a5,U a6 a7 a8,P,C,Q,at_],aj d] c _;go_enter Tryz.func201,Tryz.ntmps201
 go_upto_region 1 with(fail)
 obtain⟨C,j,D,SN,A⟩:=nb c 154 _;rw[j];clear j;have j:=qk bb SN;have M:=qb SN ba;have C:=j.size;clear SN;obtain⟨f,C,bg,SN,N⟩:=nc A 93 _;rw[C];clear C;have aQ:=qk j SN;have bh:=qb SN M;have bi:=qb SN D;have j:=aQ.size;clear SN;have j:c.heap.size+1<f.heap.size:=ae
 clear A N;have bj:=j4 f;have bk:=j5 f;have bl:=j6 f;have bn:=j7 f;have bo:=j8 f;have bp:=j9 f;have bq:=ka f;have br:=kc f;go_upto_region 2 with(fail)
 clear bj bk bl bn bo bp bq br bf;have M3:=Z (kd f);have SN:=Z (show ag f (f.alloc (.map (km 8) 8))from(ag.refl f).alloc _);obtain⟨x,f⟩:=aq (f.alloc (.map (km 8) 8));rw[<-f]at M3 SN⊢;clear f;have K3:=qk aQ SN;have an:=qb SN bh;have ao:=qb SN bi;have ar:=qb SN bg;have f:=K3.size;have bs:=kO M3 (k:=6) (n:=2) rfl;clear SN M3;have bt:=az ar;have f:=J.lt ar;go_upto_region 3 with(fail)
 clear bs bt;have eF:=az ao;have f:=J.lt ao;have eG:ac x (ab d 2) (U aM b.length S):=J.cell an 2;have f:=J.lt an;have eH:=kS x K3;have f:c.heap.size<x.heap.size:=ae
 have f:d<x.heap.size:=ae
 by_cases hN:b.length=2
 case neg=>
  have f:(((2:Nat):Int)==(b.length:Int))=false:=aC
  have f:((2:Int)==(b.length:Int))=false:=aC
  exact lF
 have bu:(((2:Nat):Int)==(b.length:Int))=true:=aC
 have bw:((2:Int)==(b.length:Int))=true:=aC
 have E1:=Z (show R=RO.ap true 1 at_ (RO.ap (fh (bF (aB.aN b) 0) (bF (aB.aN b) 1)) 10 at_ (.ok (.mk 6 0 (aB.aN b) [] [] 0 0 (bF (aB.aN b) 0)))) by rw[E0.out,decide_eq_true hN]);clear E0;refine dB 12 eF eG λhS=>?_;refine dg ?_;refine eh ?_;refine aK 11 (λK hK=>?_);go_simp;refine bJ K3.drew E1 eH λaR=>?_;try go_simp
 refine hK _ _ (λ_=>hS) ?_;refine av ?_;refine b2 ?_;refine bV ?_;clear hS bu bw eF eG eH E1;have SN:=Z ((ag.refl x).drew);obtain⟨E,f⟩:=aq x.drew;rw[<-f]at SN⊢;clear f;have aT:=qk K3 SN;have bx:=qb SN an;have bz:=qb SN ao;have aU:=qb SN ar;have f:=aT.size;clear SN;go_upto_region 5 with(fail)
 obtain⟨v,f,F,SN,-⟩:=nb E 79 #[aa];rw[f];clear f;have au:=qk aT SN;have ax:=qb SN bx;have bA:=qb SN bz;have bC:=qb SN aU;have f:=au.size;clear SN;have f:=J.lt F;have f:d<v.heap.size:=ae
 have f:=J.lt aU;have f:0<b.length:=ae
 obtain⟨m,o,y,j,T⟩:=jo (al v au) 0 f;have G:=Z (u.sub _ (List.getElem_mem f)).res;have f:=jn b 0 f;obtain⟨A,C⟩:=aq (b[0]);rw[<-C]at T G f;obtain⟨⟨q,j,r⟩,x⟩:∃ay,ay=A.ha:=⟨_,rfl⟩;obtain⟨i,A⟩:=aq A.attrs;rw[<-x]at T;rw[<-x,<-A]at G;rw[<-A]at f;have aV:=Z (show R=_ by rw[aR.out,f]);clear aR C x A;have aX:ac v (ab m (o+0*8+7)) (U q j r):=T;have bD:ac v (ab m (o+7)) (U q j r):=by simpa using aX
 have bE:aM=some ⟨m,o,none⟩:=y;have f:(0:Int)<b.length:=ae
 have bG:i.length=j:=G.a.1.1;subst bG;clear T y;subst bE;have bH:ac v (ab d 2) (U (some ⟨m,o,none⟩) b.length S):=J.cell ax 2;have f:=J.lt ax;have bI:=az F;have f:=J.lt F;have bK:=λH=>J.frozen F H;go_upto_region 7 with(fail)
 have j:=Z (jB F (U q i.length r));have f:=Z (Kp.aE (p:=(am E 0)) (l:=[E.heap.size]) ai (Kp.refl [E.heap.size] v) (U q i.length r));obtain⟨w6,v⟩:=aq (v.setCell (am E 0) (U q i.length r));rw[<-v]at j f⊢;clear v;have v:=f;have K6:=Z (f.old au (λg g s=>absurd s (by rw[aA g];omega)));have gw:=qo f ax;have kT:=qo f bA;have kU:=qo f bC;have v:=K6.size;have v:=f;have kV:=j;clear j f;clear bK bH bI bD aX;have bL:=Z (λ(f:af) (g:Kp [d] c f)=>G.keep g (λf f hS=>by have g:=hS.1;have f:=aA f;omega));have aD:1<b.length:=by omega
 obtain⟨f,j,y,v,V⟩:=jo (al w6 K6) 1 aD;injection y with y
 injection y with oE oF
 subst oE oF;have W:=Z (u.sub _ (List.getElem_mem aD)).res;have j:=jn b 1 aD;obtain⟨x,y⟩:=aq (b[1]);rw[<-y]at V W j;obtain⟨⟨I,f,L⟩,v⟩:∃ay,ay=x.ha:=⟨_,rfl⟩;obtain⟨z,x⟩:=aq x.attrs;rw[<-v]at V;rw[<-v,<-x]at W;rw[<-x]at j;have E4:=Z (show R=_ by rw[aV.out,j]);clear aV y v x;have aH:ac w6 (ab m (o+1*8+7)) (U I f L):=V;have bM:ac w6 (ab m (o+15)) (U I f L):=by simpa using aH
 have bN:ac w6 (ab m (o+8+7)) (U I f L):=by simpa using aH
 have j:(1:Int)<b.length:=ae
 have bO:z.length=f:=W.a.1.1;subst bO;clear V;have bP:ac w6 (ab d 2) (U (some ⟨m,o,none⟩) b.length S):=J.cell gw 2;have bQ:=J.lt gw;go_upto_region 9 with(fail)
 clear bP bM aH bN;have j:=Z (λ(f:af) (g:Kp [d] c f)=>W.keep g (λf f hS=>by have g:=hS.1;have f:=aA f;omega));have mT:=az kT;have f:=J.lt kT;have mU:=az kV;have f:=J.lt kV;have bR:=az kU;have f:=J.lt kU;have bS:=b7 gw;have bQ:=J.lt gw;have bT:=λH=>J.frozen gw H;have bU:=kS w6 K6;have kW:Hid (Rt 275 #[U q i.length r,U I z.length L,.func (.func 276) #[] #[]] w6 (.bool (fh (i.map RA.at_) (z.map RA.at_)))):=Z (λg f=>t8 ⟨q,i.length,r⟩ ⟨I,z.length,L⟩ i z g ((bL w6 K6).a.same f) ((j w6 K6).a.same f));go_upto_region 41 with(fail)
 obtain⟨bW,f⟩:=aq (fh (i.map RA.at_) (z.map RA.at_));rw[<-f]at kW E4;clear f bR;cases bW
 case false=>
  exact rn
 refine dB 5 mT mU λhS=>?_;refine cJ ?_;refine aK 3 (λK hK=>?_);go_simp;refine(kW w6.drew ((ag.refl w6).drew)).mono ?_;rintro e w7 ⟨rfl,s1⟩;have SN:=Z (((ag.refl w6).drew).trans s1);clear s1;have K7:=qk K6 SN;have jr:=qb SN gw;have js:=qb SN kT;have pU:=qb SN kU;have jt:=qb SN kV;have z7:=K7.size;clear SN;try go_simp
 have lY:=az js;have uY:=J.lt js;have lZ:=az jt;have uZ:=J.lt jt;refine hK _ _ (λ_=>⟨lY,lZ⟩) ?_;refine av ?_;refine aK 4 (λK hK=>?_);go_simp;refine bJ K7 E4 ((kS w7 K7)) λbX=>?_;try go_simp
 refine hK _ _ (λ_=>⟨lY,lZ⟩) ?_;refine av ?_;refine b2 ?_;refine bV ?_;clear hS kW mT mU bS bT bU E4;have f:=b7 jr;have f:=J.lt jr;have f:=λH=>J.frozen jr H;go_wp2_with fail
 obtain⟨aI,j,bY,f⟩:=qV jr (U q i.length r);rw[j];clear j;have w:=Z (K7.trans f);have j:=qo f js;have j:=qo f pU;have j:=qo f jt;have j:=w.size;have f:=f;have b0:∀g∈[d],¬Bw t c.heap.size g:=λg s hS=>by have bZ:=hS.1;have b1:=aA s;omega
 have b3:∀g,Bw t c.heap.size g->Bw t aI.heap.size g:=λg s=>⟨s.1,by have:=s.2;have:=w.out.size;omega⟩;go_wp2;first|go_end0|refine bodyPost_ret (results_none rfl _ _ _) rfl ?_
 rw[bX.out];have f:=w.size;have d:∀g∈[d],¬Bw t c.heap.size g:=λg s hS=>by have bZ:=hS.1;have b1:=aA s;omega
 have c:∀g,Bw t c.heap.size g->Bw t aI.heap.size g:=λg s=>⟨s.1,by have:=s.2;omega⟩;refine⟨w,_,rfl,rfl,(aB.mk 6 (0) ⟨(some ⟨m,o,none⟩),b.length,S⟩ b aJ [] aJ [] (0) (0) ⟨q,i.length,r⟩ i),kg,bY,.mk (al aI w) (u.ik.mono c) (λb B=>((u.sub b B).keep w d).mono c) (aF.none_ _ 12 _) (aS.none_ _ _ _) (aF.none_ _ 1 _) (aS.none_ _ _ _) ((G.keep w b0).mono b3)⟩
theorem Cj (c:List Tb) (d:aw) (f:List bB) (g:bm) (b cN:aw) (i a:Int) (ks:List Pl):cy c 7 d f g b cN i a ks=RO.ap (decide (ks.length=1)) 1 a ((ee a (bF ks 0) b).bind λb=>RO.ap (bD cN) 1 a<|RO.ap (decide (ed (bF ks 0) cN<0)||decide (ed (bF ks 0) cN=b)) 9 a<|.ok (.mk 7 0 ks [] [] b 0 ((bF ks 0).modify b.toNat λa=>{a with name:=cN}))):=by
 have h:decide (ef 7=some ks.length)=decide (ks.length=1):=by
  have:ef 7=some 1:=rfl;exact tL
 unfold cy;rw[h];rfl
theorem Ck (y i F:Nat) (h:Hd) (al:List RT) (an:aw) (bs m:Hd) (c:List aB) (aR:Hd) (aT:List bB) (aU:Hd) (aV:bm) (u j:aw) (ao at_:Int) (d:af) (bt:aG j)
 (aX:J d i 105 #[O 7,O 0,m.val,aa,aa,O 0,O 0,aa]) (a:iC d y i F h al m c aR aT aU aV at_):
 Calls Tryz.prog 201 #[aj y,.agg #[O 7,an,bs.val,aR.val,aU.val,u,j,ao,at_],aj i] d
  λe w'=>RP [i] d (cy (al.map RT.tb) 7 an aT aV u j ao at_ (aB.aN c)) (iE i F) e w':=by
 obtain⟨b0,N,b1⟩:=h;obtain⟨bu,bw,aY⟩:=m;obtain⟨b3,b4,b5⟩:=bs;obtain⟨b6,b8,b9⟩:=aR;obtain⟨ca,cb,cc⟩:=aU;have z:=Z a;have ce:c.length=bw:=a.lk.1;have aR:bw<=9223372036854775807:=a.lk.2.1;have aR:al.length=N:=(a.ta d (Kp.refl _ d)).1.1;have aR:N<=9223372036854775807:=(a.ta d (Kp.refl _ d)).1.2.1;subst ce;have aR:=a.hX;have aU:=a.xp;have aU:=a.j3;have aU:=a.lw;have aU:=aX.lt;have cf:=Z aX;obtain⟨R,al⟩:=aq (cy (al.map RT.tb) 7 an aT aV u j ao at_ (aB.aN c));rw[<-al];have aT:(aB.aN c).length=c.length:=by rw[aB.iB,List.length_map]
 have E0:=Z (show R=RO.ap (decide (c.length=1)) 1 at_ ((ee at_ (bF (aB.aN c) 0) u).bind λb=>RO.ap (bD j) 1 at_<|RO.ap (decide (ed (bF (aB.aN c) 0) j<0)||decide (ed (bF (aB.aN c) 0) j=b)) 9 at_<|.ok (.mk 7 0 (aB.aN c) [] [] b 0 ((bF (aB.aN c) 0).modify b.toNat λa=>{a with name:=j}))) by rw[al,Cj,aT]);clear al a aX aT;have al:d.heap.size<=d.heap.size:=Nat.le_refl _;have cg:=Z (Kp.refl [i] d);have bx:=Z (λ(b:af) (f:Kp [i] d b)=>z.lk.kp f (λb f e N=>by have b:=(z.out.ik b f e).1;have b:=aA N;omega));have N:=Z (λ(b:af) (f:Kp [i] d b)=>show ac b (ab y 0) (U b0 N b1)from(f.cell aR aC).trans z.c0);have A:=Z (λ(b:af) (f:Kp [i] d b)=>show ac b (ab y 8) at_ from(f.cell aR aC).trans z.c8);have N:=aW aR;have N:=aW aU;have N:∀(N:Fn) (first cap:aO) (d:af),(Instr.makeFunc N first cap).run Tryz.prog d=.ok (.func N first cap) d:=λ_ _ _ _=>rfl;have ch:=@run_makeMap Tryz.prog;show Calls Tryz.prog 201 #[aj y,.agg #[O 7,an,U b3 b4 b5,U b6 b8 b9,U ca cb cc,u,j,ao,at_],aj i] d _;go_enter Tryz.func201,Tryz.ntmps201
 go_upto_region 1 with(fail)
 obtain⟨an,N,ao,b,al⟩:=nb d 154 _;rw[N];clear N;have N:=qk cg b;have aR:=qb b cf;have an:=N.size;clear b;obtain⟨q,an,ci,b,aT⟩:=nc al 93 _;rw[an];clear an;have bz:=qk N b;have cj:=qb b aR;have ck:=qb b ao;have N:=bz.size;clear b;have N:d.heap.size+1<q.heap.size:=ae
 clear al aT;have cl:=j4 q;have cm:=j5 q;have cn:=j6 q;have co:=j7 q;have cp:=j8 q;have cq:=j9 q;have cr:=ka q;have cs:=kc q;go_upto_region 2 with(fail)
 clear cl cm cn co cp cq cr cs ch;have M3:=Z (kd q);have b:=Z (show ag q (q.alloc (.map (km 8) 8))from(ag.refl q).alloc _);obtain⟨G,q⟩:=aq (q.alloc (.map (km 8) 8));rw[<-q]at M3 b⊢;clear q;have K3:=qk bz b;have aZ:=qb b cj;have a0:=qb b ck;have a1:=qb b ci;have q:=K3.size;have ct:=kO M3 (k:=7) (n:=1) rfl;clear b M3;have cu:=az a1;have q:=J.lt a1;go_upto_region 3 with(fail)
 clear ct cu;have eF:=az a0;have q:=J.lt a0;have eG:ac G (ab i 2) (U bu c.length aY):=J.cell aZ 2;have q:=J.lt aZ;have eH:=A G K3;have q:d.heap.size<G.heap.size:=ae
 have q:i<G.heap.size:=ae
 by_cases hN:c.length=1
 case neg=>
  have f:(((1:Nat):Int)==(c.length:Int))=false:=aC
  have f:((1:Int)==(c.length:Int))=false:=aC
  exact lF
 have cv:(((1:Nat):Int)==(c.length:Int))=true:=aC
 have cw:((1:Int)==(c.length:Int))=true:=aC
 have E1:=Z (show R=RO.ap true 1 at_ ((ee at_ (bF (aB.aN c) 0) u).bind λf=>RO.ap (bD j) 1 at_<|RO.ap (decide (ed (bF (aB.aN c) 0) j<0)||decide (ed (bF (aB.aN c) 0) j=f)) 9 at_<|.ok (.mk 7 0 (aB.aN c) [] [] f 0 ((bF (aB.aN c) 0).modify f.toNat λa=>{a with name:=j}))) by rw[E0.out,decide_eq_true hN]);clear E0;refine dB 12 eF eG λhS=>?_;refine dg ?_;refine eh ?_;refine aK 11 (λK hK=>?_);go_simp;refine bJ K3.drew E1 eH λbA=>?_;try go_simp
 refine hK _ _ (λ_=>hS) ?_;refine av ?_;refine b2 ?_;refine bV ?_;clear hS cv cw eF eG eH E1;have b:=Z ((ag.refl G).drew);obtain⟨P,q⟩:=aq G.drew;rw[<-q]at b⊢;clear q;have bE:=qk K3 b;have cx:=qb b aZ;have cz:=qb b a0;have bG:=qb b a1;have q:=bE.size;clear b;go_upto_region 5 with(fail)
 obtain⟨B,q,Q,b,-⟩:=nb P 79 #[aa];rw[q];clear q;have a2:=qk bE b;have a3:=qb b cx;have cA:=qb b cz;have cB:=qb b bG;have q:=a2.size;clear b;have q:=J.lt Q;have q:i<B.heap.size:=ae
 have q:=J.lt bG;have q:0<c.length:=ae
 obtain⟨S,T,bH,G,ar⟩:=jo (bx B a2) 0 q;have C:=Z (z.sub _ (List.getElem_mem q)).res;have q:=jn c 0 q;obtain⟨al,an⟩:=aq (c[0]);rw[<-an]at ar C q;obtain⟨⟨r,G,s⟩,N⟩:∃G,G=al.ha:=⟨_,rfl⟩;obtain⟨f,al⟩:=aq al.attrs;rw[<-N]at ar;rw[<-N,<-al]at C;rw[<-al]at q;have cC:=Z (show R=_ by rw[bA.out,q]);clear bA an N al;have bI:ac B (ab S (T+0*8+7)) (U r G s):=ar;have cD:ac B (ab S (T+7)) (U r G s):=by simpa using bI
 have cE:bu=some ⟨S,T,none⟩:=bH;have q:(0:Int)<c.length:=ae
 have cF:f.length=G:=C.a.1.1;subst cF;clear ar bH;subst cE;have cG:ac B (ab i 2) (U (some ⟨S,T,none⟩) c.length aY):=J.cell a3 2;have q:=J.lt a3;have cH:=az Q;have q:=J.lt Q;have cI:=λv=>J.frozen Q v;go_upto_region 7 with(fail)
 have D:=Z (jB Q (U r f.length s));have g:=Z (Kp.aE (p:=(am P 0)) (l:=[P.heap.size]) ai (Kp.refl [P.heap.size] B) (U r f.length s));obtain⟨V,q⟩:=aq (B.setCell (am P 0) (U r f.length s));rw[<-q]at D g⊢;clear q;have q:=g;have K6:=Z (g.old a2 (λo o q=>absurd q (by rw[aA o];omega)));have a4:=qo g a3;have a5:=qo g cA;have au:=qo g cB;have q:=K6.size;have q:=g;have a6:=D;clear D g;clear cI cG cH cD bI;have a7:=Z (λ(o:af) (q:Kp [i] d o)=>C.keep q (λo o hS=>by have q:=hS.1;have o:=aA o;omega));have cK:=az a5;have q:=J.lt a5;have cL:=az a6;have q:=J.lt a6;have cM:=az au;have cN:=bQ au;have q:=J.lt au;have cO:=bQ a4;have q:=J.lt a4;have bK:=Z bt;clear bt;have bL:=A V K6;go_upto_region 44 with(fail)
 have bM:Hid (Calls Tryz.prog 272 #[aj y,U r f.length s,u] V λe w'=>RP [] V (ee at_ (f.map RA.at_) u) g7 e w'):=Z (pv y ⟨r,f.length,s⟩ f u at_ V ae bL (a7 V K6).a);go_wp2_with fail
 refine dC cC bM ?ah ?ak
 case ah=>
  exact GV
 intro a q u bN ax bO H;have cP:q=.int .i64 a:=bO;subst cP;obtain⟨o,cQ,bP⟩:=pN bN;subst cQ;have bR:o<f.length:=by simpa using bP
 clear bP bO bN;have bS:=qm K6 H;have ay:=qo H a4;have cR:=qo H a5;have cS:=qo H au;have cT:=qo H a6;have q:=bS.size;clear H;have cU:=bQ ay;have q:=J.lt ay;have cV:=λv=>J.frozen ay v;clear cM cN cO cL cK bL bM;go_upto_region 45 with(fail)
 obtain⟨W,u,cW,q⟩:=yU ay (o:Int);rw[u];clear u;have I:=Z (bS.trans q);have a8:=qo q cR;have a9:=qo q cS;have cX:=qo q cT;have u:=I.size;have q:=q;clear cU cV;have ba:=az a8;have q:=J.lt a8;have bb:=cd a9;have q:=J.lt a9;obtain⟨cY,q⟩:=aq (bD j);have aD:=Z (pu j W.drew bK);rw[<-q]at aD ax;clear q;cases cY
 case false=>
  refine dB 5 ba bb λhS=>?_;refine cJ ?_;refine dV 3 (λK hK=>?_);go_simp;refine(aD).mono ?_;rintro e w' ⟨rfl,rfl⟩;try go_simp
  refine hK _ _ (λ_=>hS) ?_;refine av ?_;refine aK 4 (λK hK=>?_);go_simp;exact bv I.drew ax (A W I)
 refine dB 5 ba bb λhS=>?_;refine cJ ?_;refine dV 3 (λK hK=>?_);go_simp;refine(aD).mono ?_;rintro e w' ⟨rfl,rfl⟩;try go_simp
 refine hK _ _ (λ_=>hS) ?_;refine av ?_;refine aK 4 (λK hK=>?_);go_simp;refine bJ I.drew ax (A W I) λE=>?_;try go_simp
 refine hK _ _ (λ_=>hS) ?_;refine av ?_;refine b2 ?_;refine bV ?_;clear hS aD ba bb ax;have b:=Z ((ag.refl W).drew);obtain⟨q,u⟩:=aq W.drew;rw[<-u]at b⊢;clear u;have bf:=qk I b;have cZ:=qb b cW;have c1:=qb b a8;have bg:=qb b a9;have bh:=qb b cX;have u:=bf.size;clear b;have c2:=az bh;have u:=J.lt bh;have c3:=cd bg;have u:=J.lt bg;have bi:Hid (Calls Tryz.prog 274 #[U r f.length s,j] q λe w'=>e=.returned (O (ed (f.map RA.at_) j))/\ag q w'):=Z (q1 ⟨r,f.length,s⟩ f j q (a7 q bf).a);obtain⟨L,q⟩:=aq (ed (f.map RA.at_) j);rw[<-q]at bi E;clear q;go_wp2_with fail
 refine(bi).mono ?_;rintro e M ⟨rfl,b⟩;have w:=qk bf b;have bj:=qb b cZ;have bk:=qb b c1;have c4:=qb b bg;have c5:=qb b bh;have q:=w.size;clear b;clear bi c2 c3;go_upto_region 47 with(fail)
 have X:=az bk;have q:=J.lt bk;have Y:=bQ bj;have q:=J.lt bj;obtain⟨q,x⟩:=aq ((decide (L<0)||decide (L=(o:Int))));rw[<-x]at E;have q:i<M.heap.size:=ae
 by_cases m:L<0
 case' pos=>
  have t:=decide_eq_true m;rw[t,Bool.true_or]at x;subst x;clear m;refine dB 12 X Y λhS=>?_;refine cJ ?_;refine tk 3 hS ?_;refine sk 4 hS ?_;refine sk 5 hS ?_;refine rq ?_;refine aK 11 (λK hK=>?_);go_simp;refine bJ w.drew E (A M w) λaQ=>?_;try go_simp
  refine hK _ _ (λ_=>hS) ?_;refine av ?_;refine b2 ?_;refine bV ?_;clear hS t X Y E
 case' neg=>
  have t:=decide_eq_false m;rw[t,Bool.false_or]at x;clear m;by_cases m:L=(o:Int)
  case' neg=>
   have q:(L==(o:Int))=false:=by simp[m]
   rw[decide_eq_false m]at x;subst x;clear m;refine dB 12 X Y λhS=>?_;refine dg ?_;refine eh ?_;refine aK 11 (λK hK=>?_);go_simp;exact bv w.drew E (A M w)
  have ad:(L==(o:Int))=true:=by simp[m]
  rw[decide_eq_true m]at x;subst x;clear m;refine dB 12 X Y λhS=>?_;refine dg ?_;refine eh ?_;refine aK 11 (λK hK=>?_);go_simp;refine bJ w.drew E (A M w) λaQ=>?_;try go_simp
  refine hK _ _ (λ_=>hS) ?_;refine av ?_;refine b2 ?_;refine bV ?_;clear hS t ad X Y E
 all_goals
  have b:=Z ((ag.refl M).drew);obtain⟨q,u⟩:=aq M.drew;rw[<-u]at b⊢;clear u;have bl:=qk w b;have aI:=qb b bj;have c6:=qb b bk;have c7:=qb b c4;have bn:=qb b c5;have u:=bl.size;clear b;have c9:=az bn;have u:=J.lt bn;have da:=b7 aI;have u:=J.lt aI;have db:=λv=>J.frozen aI v;have bT:=Z (uR ⟨r,f.length,s⟩ f q (a7 q bl).a C.l);go_wp2_with fail
  refine(bT).mono ?_;rintro e bo ⟨q,aL,rfl,b,bU⟩;have bW:=qk bl b;have aM:=qb b aI;have dc:=qb b c6;have dd:=qb b c7;have de:=qb b bn;have q:=bW.size;clear b;have df:=b7 aM;have b:=J.lt aM;clear c9 da db bT;have dh:=λv=>J.frozen aM v;obtain⟨t,b,di,q,_,_,_,_,_⟩:=fE bU ae;subst di;have b:=J.lt ‹J bo t _ _›;go_upto_region 49 with(fail)
  have D:=Z (gp aM (U (some ⟨t,0,none⟩) f.length aL));have g:=Z (Kp.aE (p:=(ab i 7)) (l:=[i]) ai (Kp.refl [i] bo) (U (some ⟨t,0,none⟩) f.length aL));obtain⟨s,b⟩:=aq (bo.setCell (ab i 7) (U (some ⟨t,0,none⟩) f.length aL));rw[<-b]at D g⊢;clear b;have b:=g;have u:=Z (bW.trans g);have A:=qo g dc;have r:=qo g dd;have B:=qo g de;have b:=u.size;have b:=g;have q:=D;clear D g;have D:=Z (bC bU b (λb b=>by have:=aA b;omega));clear df dh;have w:=bQ q;have x:=b7 q;have b:=J.lt q;have y:=cd r;have b:=J.lt r;have b:(o:Int)<f.length:=by omega
  have b:(0:Int)<=o:=ae
  have b:=Z ((ag.refl s).drew);refine gr 10 w x y λhS=>?_;refine dg ?_;refine tk 9 hS ?_;obtain⟨bp,s⟩:=aq s.drew;rw[<-s]at b hS⊢;clear s;have bX:=qk u b;have dj:=qb b q;have q:=qb b A;have q:=qb b r;have q:=qb b B;have q:=bX.size;have bq:=Z (aH b D);clear b hS w x y;obtain⟨b,q,ad,r,bY,_,_,_,_⟩:=fE bq ae;injection ad with ad
  injection ad with ad
  subst ad;have dk:ac bp (ab t (o*6)) (.string f[o].at_.name):=ke RA.eE bq rfl o bR 0 ae;have dl:=λv=>J.frozen bY v;have b:=J.lt bY;refine b2 ?_;refine tq 10 ?_;refine tq 11 ?_;refine dp 12 (λK hK=>?_);go_simp;refine hK _ _ ?_;refine av ?_;refine bV ?_;obtain⟨bZ,r,q,b⟩:=B0 bq rfl C.l C.bare bR bK;have g:=Z (Kp.aE (p:=(ab t (o*6))) (l:=[t]) ai (Kp.refl [t] bp) j);obtain⟨br,j⟩:=aq (bp.setCell (ab t (o*6)) j);rw[<-j]at b g⊢;clear j dk dl;have dm:=qo g dj;have aP:=Z (g.old bX (λj j r=>absurd r (by rw[aA j];omega)));have dn:=Z (b.mono (S':=Bw F br.heap.size) (λj j=>⟨by have:=j.1;omega,j.2⟩));clear g b;have dq:=Z (show R=.ok (.mk 7 0 (aB.aN c) [] [] (o:Int) 0 (bZ.map RA.at_)) by rw[aQ.out,q,Int.toNat_natCast]);clear aQ q;go_wp2;first|go_end0|refine bodyPost_ret (results_none rfl _ _ _) rfl ?_
  rw[dq.out];have b:=aP.size;have i:∀b∈[i],¬Bw F d.heap.size b:=λb g hS=>by have j:=hS.1;have j:=aA g;omega
  have b:∀b,Bw F d.heap.size b->Bw F br.heap.size b:=λb g=>⟨g.1,by have:=g.2;omega⟩;refine⟨aP,_,rfl,rfl,(aB.mk 7 (0) ⟨(some ⟨S,T,none⟩),c.length,aY⟩ c aJ [] aJ [] o (0) ⟨some ⟨t,0,none⟩,f.length,aL⟩ bZ),kg,dm,.mk (bx br aP) (z.ik.mono b) (λc m=>((z.sub c m).keep aP i).mono b) (aF.none_ _ 12 _) (aS.none_ _ _ _) (aF.none_ _ 1 _) (aS.none_ _ _ _) dn⟩
end Go.Proofs.YteamkimbmdgdbaaGreatDoor

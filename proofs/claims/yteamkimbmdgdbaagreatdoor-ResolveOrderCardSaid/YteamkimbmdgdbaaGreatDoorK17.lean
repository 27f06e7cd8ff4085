import Derived.Test.YteamkimbmdgdbaaGreatDoorK16
set_option linter.unusedSimpArgs false
set_option linter.unusedVariables false
set_option maxHeartbeats 16000000
set_option maxRecDepth 100000
namespace Go.Proofs.YteamkimbmdgdbaaGreatDoor
open Go.Proofs.Tryz
open Go.RowKit
theorem Fd (b:List Tb) (c:ax) (d:List bm) (f:bk) (g i:ax) (j a:Int) (ks:List Pl):cy b 6 c d f g i j a ks=RO.ap (decide (ks.length=2)) 1 a (RO.ap (d9 (bH ks 0) (bH ks 1)) 10 a (.ok (.mk 6 0 ks [] [] 0 0 (bH ks 0)))):=by
 have h:decide (ey 6=some ks.length)=decide (ks.length=2):=by
  have:ey 6=some 2:=rfl;exact sM
 unfold cy;rw[h];rfl
theorem Fe (A d t:Nat) (h:Hd) (M:List RT) (N:ax) (aH B:Hd) (b:List aD) (W:Hd) (X:List bm) (Y:Hd) (ad:bk) (P C:ax) (Q at_:Int) (c:ah) (b4:aJ C)
 (ai:aa c d 105 #[J 6,J 0,B.val,ab,ab,J 0,J 0,ab]) (j:iP c A d t h M B b W X Y ad at_):
 Calls prog 201 #[ak A,.agg #[J 6,N,aH.val,W.val,Y.val,P,C,Q,at_],ak d] c
  λe w'=>RP [d] c (cy (M.map RT.tb) 6 N X ad P C Q at_ (aD.aO b)) (iQ d t) e w':=by
 obtain⟨aW,D,aX⟩:=h;obtain⟨aK,aN,S⟩:=B;obtain⟨aY,aZ,a0⟩:=aH;obtain⟨a1,a2,a3⟩:=W;obtain⟨a4,a5,a6⟩:=Y;have u:=Z j;have a7:b.length=aN:=j.lk.1;have W:aN<=9223372036854775807:=j.lk.2.1;have W:M.length=D:=(j.ta c (Kp.refl _ c)).1.1;have W:D<=9223372036854775807:=(j.ta c (Kp.refl _ c)).1.2.1;subst a7;have W:=j.hX;have Y:=j.xp;have Y:=j.kz;have Y:=j.lw;have Y:=ai.lt;have a8:=Z ai;obtain⟨R,M⟩:=av (cy (M.map RT.tb) 6 N X ad P C Q at_ (aD.aO b));rw[<-M];have X:(aD.aO b).length=b.length:=by rw[aD.gY,List.length_map]
 have E0:=Z (show R=RO.ap (decide (b.length=2)) 1 at_ (RO.ap (d9 (bH (aD.aO b) 0) (bH (aD.aO b) 1)) 10 at_ (.ok (.mk 6 0 (aD.aO b) [] [] 0 0 (bH (aD.aO b) 0)))) by rw[M,Fd,X]);clear M j ai X;have j:c.heap.size<=c.heap.size:=Nat.le_refl _;have a9:=Z (Kp.refl [d] c);have al:=Z (λ(f:ah) (g:Kp [d] c f)=>u.lk.kp g (λf g e D=>by have f:=(u.out.ik f g e).1;have f:=aC D;omega));have j:=Z (λ(f:ah) (g:Kp [d] c f)=>show ae f (ac A 0) (O aW D aX)from(g.cell W aF).trans u.c0);have lC:=Z (λ(f:ah) (g:Kp [d] c f)=>show ae f (ac A 8) at_ from(g.cell W aF).trans u.c8);have j:=bb W;have j:=bb Y;have j:∀(j:Fn) (first cap:aQ) (c:ah),(Instr.makeFunc j first cap).run prog c=.ok (.func j first cap) c:=λ_ _ _ _=>rfl;have ba:=@run_makeMap prog;show Calls prog 201 #[ak A,.agg #[J 6,N,O aY aZ a0,O a1 a2 a3,O a4 a5 a6,P,C,Q,at_],ak d] c _;go_enter func201,ntmps201
 go_upto_region 1 with(fail)
 obtain⟨C,j,D,SN,A⟩:=nb c 154 _;rw[j];clear j;have j:=qk a9 SN;have M:=qb SN a8;have C:=j.size;clear SN;obtain⟨f,C,bd,SN,N⟩:=nc A 93 _;rw[C];clear C;have aP:=qk j SN;have bh:=qb SN M;have bi:=qb SN D;have j:=aP.size;clear SN;have j:c.heap.size+1<f.heap.size:=af
 clear A N;have bj:=kA f;have bl:=kB f;have bn:=kC f;have bo:=kD f;have bp:=kE f;have bq:=kF f;have br:=kG f;have bs:=kH f;go_upto_region 2 with(fail)
 clear bj bl bn bo bp bq br bs ba;have M3:=Z (kI f);have SN:=Z (show ag f (f.alloc (.map (km 8) 8))from(ag.refl f).alloc _);obtain⟨x,f⟩:=av (f.alloc (.map (km 8) 8));rw[<-f]at M3 SN⊢;clear f;have K3:=qk aP SN;have am:=qb SN bh;have an:=qb SN bi;have aq:=qb SN bd;have f:=K3.size;have bt:=lx M3 (k:=6) (n:=2) rfl;clear SN M3;have bu:=ay aq;have f:=aa.lt aq;go_upto_region 3 with(fail)
 clear bt bu;have eW:=ay an;have f:=aa.lt an;have eX:ae x (ac d 2) (O aK b.length S):=aa.cell am 2;have f:=aa.lt am;have dw:=lC x K3;have f:c.heap.size<x.heap.size:=af
 have f:d<x.heap.size:=af
 by_cases hN:b.length=2
 case neg=>
  have f:(((2:Nat):Int)==(b.length:Int))=false:=aF
  have f:((2:Int)==(b.length:Int))=false:=aF
  exact pn
 have bv:(((2:Nat):Int)==(b.length:Int))=true:=aF
 have bw:((2:Int)==(b.length:Int))=true:=aF
 have E1:=Z (show R=RO.ap true 1 at_ (RO.ap (d9 (bH (aD.aO b) 0) (bH (aD.aO b) 1)) 10 at_ (.ok (.mk 6 0 (aD.aO b) [] [] 0 0 (bH (aD.aO b) 0)))) by rw[E0.out,decide_eq_true hN]);clear E0;refine dP 12 eW eX λhS=>?_;refine dv ?_;refine eA ?_;refine aM 11 (λK hK=>?_);go_simp;refine bV K3.drew E1 dw λaR=>?_;try go_simp
 refine hK _ _ (λ_=>hS) ?_;refine aw ?_;refine bZ ?_;refine bM ?_;clear hS bv bw eW eX dw E1;have SN:=Z ((ag.refl x).drew);obtain⟨E,f⟩:=av x.drew;rw[<-f]at SN⊢;clear f;have aS:=qk K3 SN;have bx:=qb SN am;have bz:=qb SN an;have aT:=qb SN aq;have f:=aS.size;clear SN;go_upto_region 5 with(fail)
 obtain⟨v,f,F,SN,-⟩:=nb E 79 #[ab];rw[f];clear f;have ar:=qk aS SN;have au:=qb SN bx;have bA:=qb SN bz;have bB:=qb SN aT;have f:=ar.size;clear SN;have f:=aa.lt F;have f:d<v.heap.size:=af
 have f:=aa.lt aT;have f:0<b.length:=af
 obtain⟨m,o,y,j,T⟩:=jD (al v ar) 0 f;have G:=Z (u.sub _ (List.getElem_mem f)).res;have f:=jC b 0 f;obtain⟨A,C⟩:=av (b[0]);rw[<-C]at T G f;obtain⟨⟨q,j,r⟩,x⟩:∃az,az=A.ha:=⟨_,rfl⟩;obtain⟨i,A⟩:=av A.attrs;rw[<-x]at T;rw[<-x,<-A]at G;rw[<-A]at f;have aU:=Z (show R=_ by rw[aR.out,f]);clear aR C x A;have aV:ae v (ac m (o+0*8+7)) (O q j r):=T;have bC:ae v (ac m (o+7)) (O q j r):=by simpa using aV
 have bD:aK=some ⟨m,o,none⟩:=y;have f:(0:Int)<b.length:=af
 have bE:i.length=j:=G.a.1.1;subst bE;clear T y;subst bD;have bF:ae v (ac d 2) (O (some ⟨m,o,none⟩) b.length S):=aa.cell au 2;have f:=aa.lt au;have bG:=ay F;have f:=aa.lt F;have bI:=λH=>aa.frozen F H;go_upto_region 7 with(fail)
 have j:=Z (jf F (O q i.length r));have f:=Z (Kp.aI (p:=(ao E 0)) (l:=[E.heap.size]) aj (Kp.refl [E.heap.size] v) (O q i.length r));obtain⟨w6,v⟩:=av (v.setCell (ao E 0) (O q i.length r));rw[<-v]at j f⊢;clear v;have v:=f;have K6:=Z (f.old ar (λg g s=>absurd s (by rw[aC g];omega)));have gK:=qo f au;have lD:=qo f bA;have lE:=qo f bB;have v:=K6.size;have v:=f;have lF:=j;clear j f;clear bI bF bG bC aV;have bJ:=Z (λ(f:ah) (g:Kp [d] c f)=>G.keep g (λf f hS=>by have g:=hS.1;have f:=aC f;omega));have aA:1<b.length:=by omega
 obtain⟨f,j,y,v,U⟩:=jD (al w6 K6) 1 aA;injection y with y
 injection y with po pp
 subst po pp;have V:=Z (u.sub _ (List.getElem_mem aA)).res;have j:=jC b 1 aA;obtain⟨x,y⟩:=av (b[1]);rw[<-y]at U V j;obtain⟨⟨I,f,L⟩,v⟩:∃az,az=x.ha:=⟨_,rfl⟩;obtain⟨z,x⟩:=av x.attrs;rw[<-v]at U;rw[<-v,<-x]at V;rw[<-x]at j;have E4:=Z (show R=_ by rw[aU.out,j]);clear aU y v x;have aB:ae w6 (ac m (o+1*8+7)) (O I f L):=U;have bK:ae w6 (ac m (o+15)) (O I f L):=by simpa using aB
 have bL:ae w6 (ac m (o+8+7)) (O I f L):=by simpa using aB
 have j:(1:Int)<b.length:=af
 have bN:z.length=f:=V.a.1.1;subst bN;clear U;have bO:ae w6 (ac d 2) (O (some ⟨m,o,none⟩) b.length S):=aa.cell gK 2;have bP:=aa.lt gK;go_upto_region 9 with(fail)
 clear bO bK aB bL;have j:=Z (λ(f:ah) (g:Kp [d] c f)=>V.keep g (λf f hS=>by have g:=hS.1;have f:=aC f;omega));have nI:=ay lD;have f:=aa.lt lD;have nJ:=ay lF;have f:=aa.lt lF;have bQ:=ay lE;have f:=aa.lt lE;have bR:=b7 gK;have bP:=aa.lt gK;have bS:=λH=>aa.frozen gK H;have bT:=lC w6 K6;have lG:Hid (Rt 275 #[O q i.length r,O I z.length L,.func (.func 276) #[] #[]] w6 (.bool (d9 (i.map RA.at_) (z.map RA.at_)))):=Z (λg f=>wi ⟨q,i.length,r⟩ ⟨I,z.length,L⟩ i z g ((bJ w6 K6).a.same f) ((j w6 K6).a.same f));go_upto_region 41 with(fail)
 obtain⟨bU,f⟩:=av (d9 (i.map RA.at_) (z.map RA.at_));rw[<-f]at lG E4;clear f bQ;cases bU
 case false=>
  exact xl
 refine dP 5 nI nJ λhS=>?_;refine hT ?_;refine aM 3 (λK hK=>?_);go_simp;refine(lG w6.drew ((ag.refl w6).drew)).mono ?_;rintro e w7 ⟨rfl,s1⟩;have SN:=Z (((ag.refl w6).drew).trans s1);clear s1;have K7:=qk K6 SN;have jG:=qb SN gK;have jH:=qb SN lD;have qT:=qb SN lE;have jI:=qb SN lF;have z7:=K7.size;clear SN;try go_simp
 have my:=ay jH;have xm:=aa.lt jH;have mz:=ay jI;have xo:=aa.lt jI;refine hK _ _ (λ_=>⟨my,mz⟩) ?_;refine aw ?_;refine aM 4 (λK hK=>?_);go_simp;refine bV K7 E4 ((lC w7 K7)) λbW=>?_;try go_simp
 refine hK _ _ (λ_=>⟨my,mz⟩) ?_;refine aw ?_;refine bZ ?_;refine bM ?_;clear hS lG nI nJ bR bS bT E4;have f:=b7 jG;have f:=aa.lt jG;have f:=λH=>aa.frozen jG H;go_wp2_with fail
 obtain⟨aG,j,bX,f⟩:=r8 jG (O q i.length r);rw[j];clear j;have w:=Z (K7.trans f);have j:=qo f jH;have j:=qo f qT;have j:=qo f jI;have j:=w.size;have f:=f;have b0:∀g∈[d],¬Bw t c.heap.size g:=λg s hS=>by have bY:=hS.1;have b2:=aC s;omega
 have b3:∀g,Bw t c.heap.size g->Bw t aG.heap.size g:=λg s=>⟨s.1,by have:=s.2;have:=w.out.size;omega⟩;go_wp2;first|go_end0|refine bodyPost_ret (results_none rfl _ _ _) rfl ?_
 rw[bW.out];have f:=w.size;have d:∀g∈[d],¬Bw t c.heap.size g:=λg s hS=>by have bY:=hS.1;have b2:=aC s;omega
 have c:∀g,Bw t c.heap.size g->Bw t aG.heap.size g:=λg s=>⟨s.1,by have:=s.2;omega⟩;refine⟨w,_,rfl,rfl,(aD.mk 6 (0) ⟨(some ⟨m,o,none⟩),b.length,S⟩ b aL [] aL [] (0) (0) ⟨q,i.length,r⟩ i),kL,bX,.mk (al aG w) (u.ik.mono c) (λb B=>((u.sub b B).keep w d).mono c) (aE.none_ _ 12 _) (bc.none_ _ _ _) (aE.none_ _ 1 _) (bc.none_ _ _ _) ((G.keep w b0).mono b3)⟩
theorem Ff (d:List Tb) (f:ax) (g:List bm) (i:bk) (c cU:ax) (j a:Int) (ks:List Pl):cy d 7 f g i c cU j a ks=RO.ap (decide (ks.length=1)) 1 a ((ek a (bH ks 0) c).bind λb=>RO.ap (bC cU) 1 a<|RO.ap (decide (ew (bH ks 0) cU<0)||decide (ew (bH ks 0) cU=b)) 9 a<|.ok (.mk 7 0 ks [] [] b 0 ((bH ks 0).modify b.toNat λa=>{a with name:=cU}))):=by
 have h:decide (ey 7=some ks.length)=decide (ks.length=1):=by
  have:ey 7=some 1:=rfl;exact qR
 unfold cy;rw[h];rfl
theorem Fg (y i F:Nat) (h:Hd) (ad:List RT) (ai:ax) (bv m:Hd) (c:List aD) (aR:Hd) (aS:List bm) (aT:Hd) (aU:bk) (u j:ax) (al at_:Int) (d:ah) (bw:aJ j)
 (aV:aa d i 105 #[J 7,J 0,m.val,ab,ab,J 0,J 0,ab]) (a:iP d y i F h ad m c aR aS aT aU at_):
 Calls prog 201 #[ak y,.agg #[J 7,ai,bv.val,aR.val,aT.val,u,j,al,at_],ak i] d
  λe w'=>RP [i] d (cy (ad.map RT.tb) 7 ai aS aU u j al at_ (aD.aO c)) (iQ i F) e w':=by
 obtain⟨b5,N,b6⟩:=h;obtain⟨bx,bz,aW⟩:=m;obtain⟨b8,b9,ca⟩:=bv;obtain⟨cb,cc,cd⟩:=aR;obtain⟨ce,cf,cg⟩:=aT;have z:=Z a;have ch:c.length=bz:=a.lk.1;have aR:bz<=9223372036854775807:=a.lk.2.1;have aR:ad.length=N:=(a.ta d (Kp.refl _ d)).1.1;have aR:N<=9223372036854775807:=(a.ta d (Kp.refl _ d)).1.2.1;subst ch;have aX:=a.hX;have aR:=a.xp;have aR:=a.kz;have aR:=a.lw;have ci:=aV.lt;have cj:=Z aV;obtain⟨R,aY⟩:=av (cy (ad.map RT.tb) 7 ai aS aU u j al at_ (aD.aO c));rw[<-aY];have bA:(aD.aO c).length=c.length:=by rw[aD.gY,List.length_map]
 have E0:=Z (show R=RO.ap (decide (c.length=1)) 1 at_ ((ek at_ (bH (aD.aO c) 0) u).bind λb=>RO.ap (bC j) 1 at_<|RO.ap (decide (ew (bH (aD.aO c) 0) j<0)||decide (ew (bH (aD.aO c) 0) j=b)) 9 at_<|.ok (.mk 7 0 (aD.aO c) [] [] b 0 ((bH (aD.aO c) 0).modify b.toNat λa=>{a with name:=j}))) by rw[aY,Ff,bA]);clear aY a aV bA;have ad:d.heap.size<=d.heap.size:=Nat.le_refl _;have ck:=Z (Kp.refl [i] d);have bB:=Z (λ(b:ah) (f:Kp [i] d b)=>z.lk.kp f (λb f e N=>by have b:=(z.out.ik b f e).1;have b:=aC N;omega));have N:=Z (λ(b:ah) (f:Kp [i] d b)=>show ae b (ac y 0) (O b5 N b6)from(f.cell aX aF).trans z.c0);have A:=Z (λ(b:ah) (f:Kp [i] d b)=>show ae b (ac y 8) at_ from(f.cell aX aF).trans z.c8);have N:=bb aX;have N:=bb ci;have N:∀(N:Fn) (first cap:aQ) (d:ah),(Instr.makeFunc N first cap).run prog d=.ok (.func N first cap) d:=λ_ _ _ _=>rfl;have cl:=@run_makeMap prog;show Calls prog 201 #[ak y,.agg #[J 7,ai,O b8 b9 ca,O cb cc cd,O ce cf cg,u,j,al,at_],ak i] d _;go_enter func201,ntmps201
 go_upto_region 1 with(fail)
 obtain⟨ai,N,al,b,ad⟩:=nb d 154 _;rw[N];clear N;have N:=qk ck b;have aR:=qb b cj;have ai:=N.size;clear b;obtain⟨q,ai,cm,b,aS⟩:=nc ad 93 _;rw[ai];clear ai;have bD:=qk N b;have cn:=qb b aR;have co:=qb b al;have N:=bD.size;clear b;have N:d.heap.size+1<q.heap.size:=af
 clear ad aS;have cp:=kA q;have cq:=kB q;have cr:=kC q;have cs:=kD q;have ct:=kE q;have cu:=kF q;have cv:=kG q;have cw:=kH q;go_upto_region 2 with(fail)
 clear cp cq cr cs ct cu cv cw cl;have M3:=Z (kI q);have b:=Z (show ag q (q.alloc (.map (km 8) 8))from(ag.refl q).alloc _);obtain⟨G,q⟩:=av (q.alloc (.map (km 8) 8));rw[<-q]at M3 b⊢;clear q;have K3:=qk bD b;have aZ:=qb b cn;have a0:=qb b co;have a1:=qb b cm;have q:=K3.size;have cx:=lx M3 (k:=7) (n:=1) rfl;clear b M3;have cz:=ay a1;have q:=aa.lt a1;go_upto_region 3 with(fail)
 clear cx cz;have eW:=ay a0;have q:=aa.lt a0;have eX:ae G (ac i 2) (O bx c.length aW):=aa.cell aZ 2;have q:=aa.lt aZ;have dw:=A G K3;have q:d.heap.size<G.heap.size:=af
 have q:i<G.heap.size:=af
 by_cases hN:c.length=1
 case neg=>
  have f:(((1:Nat):Int)==(c.length:Int))=false:=aF
  have f:((1:Int)==(c.length:Int))=false:=aF
  exact pn
 have cA:(((1:Nat):Int)==(c.length:Int))=true:=aF
 have cB:((1:Int)==(c.length:Int))=true:=aF
 have E1:=Z (show R=RO.ap true 1 at_ ((ek at_ (bH (aD.aO c) 0) u).bind λf=>RO.ap (bC j) 1 at_<|RO.ap (decide (ew (bH (aD.aO c) 0) j<0)||decide (ew (bH (aD.aO c) 0) j=f)) 9 at_<|.ok (.mk 7 0 (aD.aO c) [] [] f 0 ((bH (aD.aO c) 0).modify f.toNat λa=>{a with name:=j}))) by rw[E0.out,decide_eq_true hN]);clear E0;refine dP 12 eW eX λhS=>?_;refine dv ?_;refine eA ?_;refine aM 11 (λK hK=>?_);go_simp;refine bV K3.drew E1 dw λbE=>?_;try go_simp
 refine hK _ _ (λ_=>hS) ?_;refine aw ?_;refine bZ ?_;refine bM ?_;clear hS cA cB eW eX dw E1;have b:=Z ((ag.refl G).drew);obtain⟨P,q⟩:=av G.drew;rw[<-q]at b⊢;clear q;have bI:=qk K3 b;have cC:=qb b aZ;have cD:=qb b a0;have bJ:=qb b a1;have q:=bI.size;clear b;go_upto_region 5 with(fail)
 obtain⟨B,q,Q,b,-⟩:=nb P 79 #[ab];rw[q];clear q;have a2:=qk bI b;have a3:=qb b cC;have cE:=qb b cD;have cF:=qb b bJ;have q:=a2.size;clear b;have q:=aa.lt Q;have q:i<B.heap.size:=af
 have q:=aa.lt bJ;have q:0<c.length:=af
 obtain⟨S,T,bK,G,am⟩:=jD (bB B a2) 0 q;have C:=Z (z.sub _ (List.getElem_mem q)).res;have q:=jC c 0 q;obtain⟨ad,ai⟩:=av (c[0]);rw[<-ai]at am C q;obtain⟨⟨r,G,s⟩,N⟩:∃G,G=ad.ha:=⟨_,rfl⟩;obtain⟨f,ad⟩:=av ad.attrs;rw[<-N]at am;rw[<-N,<-ad]at C;rw[<-ad]at q;have cG:=Z (show R=_ by rw[bE.out,q]);clear bE ai N ad;have bL:ae B (ac S (T+0*8+7)) (O r G s):=am;have cH:ae B (ac S (T+7)) (O r G s):=by simpa using bL
 have cI:bx=some ⟨S,T,none⟩:=bK;have q:(0:Int)<c.length:=af
 have cJ:f.length=G:=C.a.1.1;subst cJ;clear am bK;subst cI;have cK:ae B (ac i 2) (O (some ⟨S,T,none⟩) c.length aW):=aa.cell a3 2;have q:=aa.lt a3;have cL:=ay Q;have q:=aa.lt Q;have cM:=λv=>aa.frozen Q v;go_upto_region 7 with(fail)
 have D:=Z (jf Q (O r f.length s));have g:=Z (Kp.aI (p:=(ao P 0)) (l:=[P.heap.size]) aj (Kp.refl [P.heap.size] B) (O r f.length s));obtain⟨U,q⟩:=av (B.setCell (ao P 0) (O r f.length s));rw[<-q]at D g⊢;clear q;have q:=g;have K6:=Z (g.old a2 (λo o q=>absurd q (by rw[aC o];omega)));have a4:=qo g a3;have a5:=qo g cE;have an:=qo g cF;have q:=K6.size;have q:=g;have a6:=D;clear D g;clear cM cK cL cH bL;have a7:=Z (λ(o:ah) (q:Kp [i] d o)=>C.keep q (λo o hS=>by have q:=hS.1;have o:=aC o;omega));have cN:=ay a5;have q:=aa.lt a5;have cO:=ay a6;have q:=aa.lt a6;have cP:=ay an;have cQ:=bF an;have q:=aa.lt an;have cR:=bF a4;have q:=aa.lt a4;have bN:=Z bw;clear bw;have bO:=A U K6;go_upto_region 44 with(fail)
 have bP:Hid (Calls prog 272 #[ak y,O r f.length s,u] U λe w'=>RP [] U (ek at_ (f.map RA.at_) u) hP e w'):=Z (qu y ⟨r,f.length,s⟩ f u at_ U af bO (a7 U K6).a);go_wp2_with fail
 refine dQ cG bP ?au ?aA
 case au=>
  exact xj
 intro a q u bQ aq bR H;have cS:q=.int .i64 a:=bR;subst cS;obtain⟨o,cT,bS⟩:=qM bQ;subst cT;have bT:o<f.length:=by simpa using bS
 clear bS bR bQ;have bU:=qm K6 H;have ar:=qo H a4;have cU:=qo H a5;have cV:=qo H an;have cW:=qo H a6;have q:=bU.size;clear H;have cX:=bF ar;have q:=aa.lt ar;have cY:=λv=>aa.frozen ar v;clear cP cQ cR cO cN bO bP;go_upto_region 45 with(fail)
 obtain⟨V,u,cZ,q⟩:=BZ ar (o:Int);rw[u];clear u;have I:=Z (bU.trans q);have a8:=qo q cU;have a9:=qo q cV;have c1:=qo q cW;have u:=I.size;have q:=q;clear cX cY;have ba:=ay a8;have q:=aa.lt a8;have bd:=b3 a9;have q:=aa.lt a9;obtain⟨c2,q⟩:=av (bC j);have az:=Z (qt j V.drew bN);rw[<-q]at az aq;clear q;cases c2
 case false=>
  refine dP 5 ba bd λhS=>?_;refine hT ?_;refine eb 3 (λK hK=>?_);go_simp;refine(az).mono ?_;rintro e w' ⟨rfl,rfl⟩;try go_simp
  refine hK _ _ (λ_=>hS) ?_;refine aw ?_;refine aM 4 (λK hK=>?_);go_simp;exact b1 I.drew aq (A V I)
 refine dP 5 ba bd λhS=>?_;refine hT ?_;refine eb 3 (λK hK=>?_);go_simp;refine(az).mono ?_;rintro e w' ⟨rfl,rfl⟩;try go_simp
 refine hK _ _ (λ_=>hS) ?_;refine aw ?_;refine aM 4 (λK hK=>?_);go_simp;refine bV I.drew aq (A V I) λE=>?_;try go_simp
 refine hK _ _ (λ_=>hS) ?_;refine aw ?_;refine bZ ?_;refine bM ?_;clear hS az ba bd aq;have b:=Z ((ag.refl V).drew);obtain⟨q,u⟩:=av V.drew;rw[<-u]at b⊢;clear u;have bh:=qk I b;have c3:=qb b cZ;have c4:=qb b a8;have bi:=qb b a9;have bj:=qb b c1;have u:=bh.size;clear b;have c5:=ay bj;have u:=aa.lt bj;have c6:=b3 bi;have u:=aa.lt bi;have bl:Hid (Calls prog 274 #[O r f.length s,j] q λe w'=>e=.returned (J (ew (f.map RA.at_) j))/\ag q w'):=Z (se ⟨r,f.length,s⟩ f j q (a7 q bh).a);obtain⟨L,q⟩:=av (ew (f.map RA.at_) j);rw[<-q]at bl E;clear q;go_wp2_with fail
 refine(bl).mono ?_;rintro e M ⟨rfl,b⟩;have w:=qk bh b;have bn:=qb b c3;have bo:=qb b c4;have c7:=qb b bi;have c9:=qb b bj;have q:=w.size;clear b;clear bl c5 c6;go_upto_region 47 with(fail)
 have W:=ay bo;have q:=aa.lt bo;have X:=bF bn;have q:=aa.lt bn;obtain⟨ds,x⟩:=av ((decide (L<0)||decide (L=(o:Int))));rw[<-x]at E;have q:i<M.heap.size:=af
 by_cases m:L<0
 case' pos=>
  have t:=decide_eq_true m;rw[t,Bool.true_or]at x;subst x;clear m;refine dP 12 W X λhS=>?_;refine dX ?_;refine sk 4 hS ?_;refine sk 5 hS ?_;refine sG ?_;refine aM 11 (λK hK=>?_);go_simp;refine bV w.drew E (A M w) λaP=>?_;try go_simp
  refine hK _ _ (λ_=>hS) ?_;refine aw ?_;refine bZ ?_;refine bM ?_;clear hS t W X E
 case' neg=>
  have t:=decide_eq_false m;rw[t,Bool.false_or]at x;clear m;by_cases m:L=(o:Int)
  case' neg=>
   have q:(L==(o:Int))=false:=by simp[m]
   rw[decide_eq_false m]at x;subst x;clear m;refine dP 12 W X λhS=>?_;refine dv ?_;refine eA ?_;refine aM 11 (λK hK=>?_);go_simp;exact b1 w.drew E (A M w)
  have Y:(L==(o:Int))=true:=by simp[m]
  rw[decide_eq_true m]at x;subst x;clear m;refine dP 12 W X λhS=>?_;refine dv ?_;refine eA ?_;refine aM 11 (λK hK=>?_);go_simp;refine bV w.drew E (A M w) λaP=>?_;try go_simp
  refine hK _ _ (λ_=>hS) ?_;refine aw ?_;refine bZ ?_;refine bM ?_;clear hS t Y W X E
 all_goals
  have b:=Z ((ag.refl M).drew);obtain⟨q,u⟩:=av M.drew;rw[<-u]at b⊢;clear u;have bp:=qk w b;have aB:=qb b bn;have da:=qb b bo;have db:=qb b c7;have bq:=qb b c9;have u:=bp.size;clear b;have dc:=ay bq;have u:=aa.lt bq;have dd:=b7 aB;have u:=aa.lt aB;have de:=λv=>aa.frozen aB v;have bW:=Z (xe ⟨r,f.length,s⟩ f q (a7 q bp).a C.l);go_wp2_with fail
  refine(bW).mono ?_;rintro e br ⟨q,aG,rfl,b,bX⟩;have bY:=qk bp b;have aH:=qb b aB;have df:=qb b da;have dg:=qb b db;have dh:=qb b bq;have q:=bY.size;clear b;have di:=b7 aH;have b:=aa.lt aH;clear dc dd de bW;have dj:=λv=>aa.frozen aH v;obtain⟨t,b,dk,q,_,_,_,_,_⟩:=f7 bX af;subst dk;have b:=aa.lt ‹aa br t _ _›;go_upto_region 49 with(fail)
  have D:=Z (gE aH (O (some ⟨t,0,none⟩) f.length aG));have g:=Z (Kp.aI (p:=(ac i 7)) (l:=[i]) aj (Kp.refl [i] br) (O (some ⟨t,0,none⟩) f.length aG));obtain⟨s,b⟩:=av (br.setCell (ac i 7) (O (some ⟨t,0,none⟩) f.length aG));rw[<-b]at D g⊢;clear b;have b:=g;have u:=Z (bY.trans g);have A:=qo g df;have r:=qo g dg;have B:=qo g dh;have b:=u.size;have b:=g;have q:=D;clear D g;have D:=Z (bG bX b (λb b=>by have:=aC b;omega));clear di dj;have w:=bF q;have x:=b7 q;have b:=aa.lt q;have y:=b3 r;have b:=aa.lt r;have b:(o:Int)<f.length:=by omega
  have b:(0:Int)<=o:=af
  have b:=Z ((ag.refl s).drew);refine gH 10 w x y λhS=>?_;refine dv ?_;refine tk 9 hS ?_;obtain⟨bs,s⟩:=av s.drew;rw[<-s]at b hS⊢;clear s;have b0:=qk u b;have dl:=qb b q;have q:=qb b A;have q:=qb b r;have q:=qb b B;have q:=b0.size;have bt:=Z (aK b D);clear b hS w x y;obtain⟨b,q,Y,r,b2,_,_,_,_⟩:=f7 bt af;injection Y with Y
  injection Y with Y
  subst Y;have dm:ae bs (ac t (o*6)) (.string f[o].at_.name):=kJ RA.eV bt rfl o bT 0 af;have dn:=λv=>aa.frozen b2 v;have b:=aa.lt b2;refine bZ ?_;refine tq 10 ?_;refine tq 11 ?_;refine dt 12 (λK hK=>?_);go_simp;refine hK _ _ ?_;refine aw ?_;refine bM ?_;obtain⟨b4,r,q,b⟩:=ER bt rfl C.l C.bare bT bN;have g:=Z (Kp.aI (p:=(ac t (o*6))) (l:=[t]) aj (Kp.refl [t] bs) j);obtain⟨bu,j⟩:=av (bs.setCell (ac t (o*6)) j);rw[<-j]at b g⊢;clear j dm dn;have dp:=qo g dl;have aN:=Z (g.old b0 (λj j r=>absurd r (by rw[aC j];omega)));have dq:=Z (b.mono (S':=Bw F bu.heap.size) (λj j=>⟨by have:=j.1;omega,j.2⟩));clear g b;have dr:=Z (show R=.ok (.mk 7 0 (aD.aO c) [] [] (o:Int) 0 (b4.map RA.at_)) by rw[aP.out,q,Int.toNat_natCast]);clear aP q;go_wp2;first|go_end0|refine bodyPost_ret (results_none rfl _ _ _) rfl ?_
  rw[dr.out];have b:=aN.size;have i:∀b∈[i],¬Bw F d.heap.size b:=λb g hS=>by have j:=hS.1;have j:=aC g;omega
  have b:∀b,Bw F d.heap.size b->Bw F bu.heap.size b:=λb g=>⟨g.1,by have:=g.2;omega⟩;refine⟨aN,_,rfl,rfl,(aD.mk 7 (0) ⟨(some ⟨S,T,none⟩),c.length,aW⟩ c aL [] aL [] o (0) ⟨some ⟨t,0,none⟩,f.length,aG⟩ b4),kL,dp,.mk (bB bu aN) (z.ik.mono b) (λc m=>((z.sub c m).keep aN i).mono b) (aE.none_ _ 12 _) (bc.none_ _ _ _) (aE.none_ _ 1 _) (bc.none_ _ _ _) dq⟩
end Go.Proofs.YteamkimbmdgdbaaGreatDoor

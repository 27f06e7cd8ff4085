import Derived.Test.YteamkimbmdgdbaaGreatDoorK16
set_option linter.unusedSimpArgs false
set_option linter.unusedVariables false
set_option maxHeartbeats 16000000
set_option maxRecDepth 100000
namespace Go.Proofs.YteamkimbmdgdbaaGreatDoor
open Go.Proofs.Tryz
open Go.RowKit
theorem Fm (b:List Tb) (c:av) (d:List bv) (f:bk) (g i:av) (j a:Int) (ks:List Pl):cq b 6 c d f g i j a ks=RO.ap (decide (ks.length=2)) 1 a (RO.ap (eb (bG ks 0) (bG ks 1)) 10 a (.ok (.mk 6 0 ks [] [] 0 0 (bG ks 0)))):=by
 have h:decide (eF 6=some ks.length)=decide (ks.length=2):=by
  have:eF 6=some 2:=rfl;exact sZ
 unfold cq;rw[h];rfl
theorem Fo (A d t:Nat) (h:Hd) (M:List RT) (N:av) (aI B:Hd) (b:List aC) (W:Hd) (X:List bv) (Y:Hd) (ad:bk) (P C:av) (Q at_:Int) (c:ah) (b4:aJ C)
 (ai:aa c d 105 #[J 6,J 0,B.val,ab,ab,J 0,J 0,ab]) (j:iV c A d t h M B b W X Y ad at_):
 Calls prog 201 #[ak A,.agg #[J 6,N,aI.val,W.val,Y.val,P,C,Q,at_],ak d] c
  λe w'=>RP [d] c (cq (M.map RT.tb) 6 N X ad P C Q at_ (aC.aO b)) (iW d t) e w':=by
 obtain⟨aX,D,aY⟩:=h;obtain⟨aK,aN,S⟩:=B;obtain⟨a0,a1,a2⟩:=aI;obtain⟨a3,a4,a5⟩:=W;obtain⟨a6,a7,a8⟩:=Y;have u:=Z j;have a9:b.length=aN:=j.lk.1;have W:aN<=9223372036854775807:=j.lk.2.1;have W:M.length=D:=(j.ta c (Kp.refl _ c)).1.1;have W:D<=9223372036854775807:=(j.ta c (Kp.refl _ c)).1.2.1;subst a9;have W:=j.hX;have Y:=j.xp;have Y:=j.kv;have Y:=j.lw;have Y:=ai.lt;have ba:=Z ai;obtain⟨R,M⟩:=au (cq (M.map RT.tb) 6 N X ad P C Q at_ (aC.aO b));rw[<-M];have X:(aC.aO b).length=b.length:=by rw[aC.g0,List.length_map]
 have E0:=Z (show R=RO.ap (decide (b.length=2)) 1 at_ (RO.ap (eb (bG (aC.aO b) 0) (bG (aC.aO b) 1)) 10 at_ (.ok (.mk 6 0 (aC.aO b) [] [] 0 0 (bG (aC.aO b) 0)))) by rw[M,Fm,X]);clear M j ai X;have j:c.heap.size<=c.heap.size:=Nat.le_refl _;have bb:=Z (Kp.refl [d] c);have al:=Z (λ(f:ah) (g:Kp [d] c f)=>u.lk.kp g (λf g e D=>by have f:=(u.out.ik f g e).1;have f:=aB D;omega));have j:=Z (λ(f:ah) (g:Kp [d] c f)=>show ae f (ac A 0) (O aX D aY)from(g.cell W aF).trans u.c0);have lC:=Z (λ(f:ah) (g:Kp [d] c f)=>show ae f (ac A 8) at_ from(g.cell W aF).trans u.c8);have j:=aZ W;have j:=aZ Y;have j:∀(j:Fn) (first cap:aQ) (c:ah),(Instr.makeFunc j first cap).run prog c=.ok (.func j first cap) c:=λ_ _ _ _=>rfl;have bc:=@run_makeMap prog;show Calls prog 201 #[ak A,.agg #[J 6,N,O a0 a1 a2,O a3 a4 a5,O a6 a7 a8,P,C,Q,at_],ak d] c _;go_enter func201,ntmps201
 go_upto_region 1 with(fail)
 obtain⟨C,j,D,SN,A⟩:=nb c 154 _;rw[j];clear j;have j:=qk bb SN;have M:=qb SN ba;have C:=j.size;clear SN;obtain⟨f,C,bg,SN,N⟩:=nc A 93 _;rw[C];clear C;have aP:=qk j SN;have bh:=qb SN M;have bi:=qb SN D;have j:=aP.size;clear SN;have j:c.heap.size+1<f.heap.size:=af
 clear A N;have bj:=kw f;have bl:=kx f;have bm:=ky f;have bn:=kz f;have bo:=kA f;have bp:=kB f;have bq:=kC f;have br:=kD f;go_upto_region 2 with(fail)
 clear bj bl bm bn bo bp bq br bc;have M3:=Z (kE f);have SN:=Z (show ag f (f.alloc (.map (km 8) 8))from(ag.refl f).alloc _);obtain⟨x,f⟩:=au (f.alloc (.map (km 8) 8));rw[<-f]at M3 SN⊢;clear f;have K3:=qk aP SN;have am:=qb SN bh;have an:=qb SN bi;have ao:=qb SN bg;have f:=K3.size;have bs:=ly M3 (k:=6) (n:=2) rfl;clear SN M3;have bt:=ay ao;have f:=aa.lt ao;go_upto_region 3 with(fail)
 clear bs bt;have eX:=ay an;have f:=aa.lt an;have eY:ae x (ac d 2) (O aK b.length S):=aa.cell am 2;have f:=aa.lt am;have dw:=lC x K3;have f:c.heap.size<x.heap.size:=af
 have f:d<x.heap.size:=af
 by_cases hN:b.length=2
 case neg=>
  have f:(((2:Nat):Int)==(b.length:Int))=false:=aF
  have f:((2:Int)==(b.length:Int))=false:=aF
  exact px
 have bu:(((2:Nat):Int)==(b.length:Int))=true:=aF
 have bw:((2:Int)==(b.length:Int))=true:=aF
 have E1:=Z (show R=RO.ap true 1 at_ (RO.ap (eb (bG (aC.aO b) 0) (bG (aC.aO b) 1)) 10 at_ (.ok (.mk 6 0 (aC.aO b) [] [] 0 0 (bG (aC.aO b) 0)))) by rw[E0.out,decide_eq_true hN]);clear E0;refine dQ 12 eX eY λhS=>?_;refine dq ?_;refine eo ?_;refine aM 11 (λK hK=>?_);go_simp;refine bX K3.drew E1 dw λaR=>?_;try go_simp
 refine hK _ _ (λ_=>hS) ?_;refine aw ?_;refine b1 ?_;refine bQ ?_;clear hS bu bw eX eY dw E1;have SN:=Z ((ag.refl x).drew);obtain⟨E,f⟩:=au x.drew;rw[<-f]at SN⊢;clear f;have aS:=qk K3 SN;have bx:=qb SN am;have bz:=qb SN an;have aT:=qb SN ao;have f:=aS.size;clear SN;go_upto_region 5 with(fail)
 obtain⟨v,f,F,SN,-⟩:=nb E 79 #[ab];rw[f];clear f;have ar:=qk aS SN;have ax:=qb SN bx;have bA:=qb SN bz;have bB:=qb SN aT;have f:=ar.size;clear SN;have f:=aa.lt F;have f:d<v.heap.size:=af
 have f:=aa.lt aT;have f:0<b.length:=af
 obtain⟨m,o,y,j,T⟩:=jK (al v ar) 0 f;have G:=Z (u.sub _ (List.getElem_mem f)).res;have f:=jJ b 0 f;obtain⟨A,C⟩:=au (b[0]);rw[<-C]at T G f;obtain⟨⟨q,j,r⟩,x⟩:∃az,az=A.ha:=⟨_,rfl⟩;obtain⟨i,A⟩:=au A.attrs;rw[<-x]at T;rw[<-x,<-A]at G;rw[<-A]at f;have aU:=Z (show R=_ by rw[aR.out,f]);clear aR C x A;have aW:ae v (ac m (o+0*8+7)) (O q j r):=T;have bC:ae v (ac m (o+7)) (O q j r):=by simpa using aW
 have bD:aK=some ⟨m,o,none⟩:=y;have f:(0:Int)<b.length:=af
 have bE:i.length=j:=G.a.1.1;subst bE;clear T y;subst bD;have bF:ae v (ac d 2) (O (some ⟨m,o,none⟩) b.length S):=aa.cell ax 2;have f:=aa.lt ax;have bH:=ay F;have f:=aa.lt F;have bI:=λH=>aa.frozen F H;go_upto_region 7 with(fail)
 have j:=Z (iA F (O q i.length r));have f:=Z (Kp.aH (p:=(aq E 0)) (l:=[E.heap.size]) aj (Kp.refl [E.heap.size] v) (O q i.length r));obtain⟨w6,v⟩:=au (v.setCell (aq E 0) (O q i.length r));rw[<-v]at j f⊢;clear v;have v:=f;have K6:=Z (f.old ar (λg g s=>absurd s (by rw[aB g];omega)));have gI:=qo f ax;have lD:=qo f bA;have lE:=qo f bB;have v:=K6.size;have v:=f;have lF:=j;clear j f;clear bI bF bH bC aW;have bJ:=Z (λ(f:ah) (g:Kp [d] c f)=>G.keep g (λf f hS=>by have g:=hS.1;have f:=aB f;omega));have aA:1<b.length:=by omega
 obtain⟨f,j,y,v,U⟩:=jK (al w6 K6) 1 aA;injection y with y
 injection y with py pz
 subst py pz;have V:=Z (u.sub _ (List.getElem_mem aA)).res;have j:=jJ b 1 aA;obtain⟨x,y⟩:=au (b[1]);rw[<-y]at U V j;obtain⟨⟨I,f,L⟩,v⟩:∃az,az=x.ha:=⟨_,rfl⟩;obtain⟨z,x⟩:=au x.attrs;rw[<-v]at U;rw[<-v,<-x]at V;rw[<-x]at j;have E4:=Z (show R=_ by rw[aU.out,j]);clear aU y v x;have aE:ae w6 (ac m (o+1*8+7)) (O I f L):=U;have bK:ae w6 (ac m (o+15)) (O I f L):=by simpa using aE
 have bL:ae w6 (ac m (o+8+7)) (O I f L):=by simpa using aE
 have j:(1:Int)<b.length:=af
 have bM:z.length=f:=V.a.1.1;subst bM;clear U;have bN:ae w6 (ac d 2) (O (some ⟨m,o,none⟩) b.length S):=aa.cell gI 2;have bO:=aa.lt gI;go_upto_region 9 with(fail)
 clear bN bK aE bL;have j:=Z (λ(f:ah) (g:Kp [d] c f)=>V.keep g (λf f hS=>by have g:=hS.1;have f:=aB f;omega));have nO:=ay lD;have f:=aa.lt lD;have nP:=ay lF;have f:=aa.lt lF;have bP:=ay lE;have f:=aa.lt lE;have bR:=b7 gI;have bO:=aa.lt gI;have bS:=λH=>aa.frozen gI H;have bT:=lC w6 K6;have lG:Hid (Rt 275 #[O q i.length r,O I z.length L,.func (.func 276) #[] #[]] w6 (.bool (eb (i.map RA.at_) (z.map RA.at_)))):=Z (λg f=>wt ⟨q,i.length,r⟩ ⟨I,z.length,L⟩ i z g ((bJ w6 K6).a.same f) ((j w6 K6).a.same f));go_upto_region 41 with(fail)
 obtain⟨bU,f⟩:=au (eb (i.map RA.at_) (z.map RA.at_));rw[<-f]at lG E4;clear f bP;cases bU
 case false=>
  exact xu
 refine dQ 5 nO nP λhS=>?_;refine cR ?_;refine aM 3 (λK hK=>?_);go_simp;refine(lG w6.drew ((ag.refl w6).drew)).mono ?_;rintro e w7 ⟨rfl,s1⟩;have SN:=Z (((ag.refl w6).drew).trans s1);clear s1;have K7:=qk K6 SN;have jN:=qb SN gI;have jO:=qb SN lD;have q1:=qb SN lE;have jP:=qb SN lF;have z7:=K7.size;clear SN;try go_simp
 have mE:=ay jO;have xw:=aa.lt jO;have mF:=ay jP;have xx:=aa.lt jP;refine hK _ _ (λ_=>⟨mE,mF⟩) ?_;refine aw ?_;refine aM 4 (λK hK=>?_);go_simp;refine bX K7 E4 ((lC w7 K7)) λbV=>?_;try go_simp
 refine hK _ _ (λ_=>⟨mE,mF⟩) ?_;refine aw ?_;refine b1 ?_;refine bQ ?_;clear hS lG nO nP bR bS bT E4;have f:=b7 jN;have f:=aa.lt jN;have f:=λH=>aa.frozen jN H;go_wp2_with fail
 obtain⟨aG,j,bW,f⟩:=sj jN (O q i.length r);rw[j];clear j;have w:=Z (K7.trans f);have j:=qo f jO;have j:=qo f q1;have j:=qo f jP;have j:=w.size;have f:=f;have bZ:∀g∈[d],¬Bw t c.heap.size g:=λg s hS=>by have bY:=hS.1;have b0:=aB s;omega
 have b2:∀g,Bw t c.heap.size g->Bw t aG.heap.size g:=λg s=>⟨s.1,by have:=s.2;have:=w.out.size;omega⟩;go_wp2;first|go_end0|refine bodyPost_ret (results_none rfl _ _ _) rfl ?_
 rw[bV.out];have f:=w.size;have d:∀g∈[d],¬Bw t c.heap.size g:=λg s hS=>by have bY:=hS.1;have b0:=aB s;omega
 have c:∀g,Bw t c.heap.size g->Bw t aG.heap.size g:=λg s=>⟨s.1,by have:=s.2;omega⟩;refine⟨w,_,rfl,rfl,(aC.mk 6 (0) ⟨(some ⟨m,o,none⟩),b.length,S⟩ b aL [] aL [] (0) (0) ⟨q,i.length,r⟩ i),kI,bW,.mk (al aG w) (u.ik.mono c) (λb B=>((u.sub b B).keep w d).mono c) (aD.none_ _ 12 _) (aV.none_ _ _ _) (aD.none_ _ 1 _) (aV.none_ _ _ _) ((G.keep w bZ).mono b2)⟩
theorem Fp (d:List Tb) (f:av) (g:List bv) (i:bk) (c cN:av) (j a:Int) (ks:List Pl):cq d 7 f g i c cN j a ks=RO.ap (decide (ks.length=1)) 1 a ((em a (bG ks 0) c).bind λb=>RO.ap (bz cN) 1 a<|RO.ap (decide (eE (bG ks 0) cN<0)||decide (eE (bG ks 0) cN=b)) 9 a<|.ok (.mk 7 0 ks [] [] b 0 ((bG ks 0).modify b.toNat λa=>{a with name:=cN}))):=by
 have h:decide (eF 7=some ks.length)=decide (ks.length=1):=by
  have:eF 7=some 1:=rfl;exact qZ
 unfold cq;rw[h];rfl
theorem Fq (y i F:Nat) (h:Hd) (ad:List RT) (ai:av) (bu m:Hd) (c:List aC) (aR:Hd) (aS:List bv) (aT:Hd) (aU:bk) (u j:av) (al at_:Int) (d:ah) (bw:aJ j)
 (aW:aa d i 105 #[J 7,J 0,m.val,ab,ab,J 0,J 0,ab]) (a:iV d y i F h ad m c aR aS aT aU at_):
 Calls prog 201 #[ak y,.agg #[J 7,ai,bu.val,aR.val,aT.val,u,j,al,at_],ak i] d
  λe w'=>RP [i] d (cq (ad.map RT.tb) 7 ai aS aU u j al at_ (aC.aO c)) (iW i F) e w':=by
 obtain⟨b4,N,b5⟩:=h;obtain⟨bx,bA,aX⟩:=m;obtain⟨b6,b8,b9⟩:=bu;obtain⟨ca,cb,cd⟩:=aR;obtain⟨ce,cf,cg⟩:=aT;have z:=Z a;have ch:c.length=bA:=a.lk.1;have aR:bA<=9223372036854775807:=a.lk.2.1;have aR:ad.length=N:=(a.ta d (Kp.refl _ d)).1.1;have aR:N<=9223372036854775807:=(a.ta d (Kp.refl _ d)).1.2.1;subst ch;have aY:=a.hX;have aR:=a.xp;have aR:=a.kv;have aR:=a.lw;have ci:=aW.lt;have cj:=Z aW;obtain⟨R,a0⟩:=au (cq (ad.map RT.tb) 7 ai aS aU u j al at_ (aC.aO c));rw[<-a0];have bB:(aC.aO c).length=c.length:=by rw[aC.g0,List.length_map]
 have E0:=Z (show R=RO.ap (decide (c.length=1)) 1 at_ ((em at_ (bG (aC.aO c) 0) u).bind λb=>RO.ap (bz j) 1 at_<|RO.ap (decide (eE (bG (aC.aO c) 0) j<0)||decide (eE (bG (aC.aO c) 0) j=b)) 9 at_<|.ok (.mk 7 0 (aC.aO c) [] [] b 0 ((bG (aC.aO c) 0).modify b.toNat λa=>{a with name:=j}))) by rw[a0,Fp,bB]);clear a0 a aW bB;have ad:d.heap.size<=d.heap.size:=Nat.le_refl _;have ck:=Z (Kp.refl [i] d);have bC:=Z (λ(b:ah) (f:Kp [i] d b)=>z.lk.kp f (λb f e N=>by have b:=(z.out.ik b f e).1;have b:=aB N;omega));have N:=Z (λ(b:ah) (f:Kp [i] d b)=>show ae b (ac y 0) (O b4 N b5)from(f.cell aY aF).trans z.c0);have A:=Z (λ(b:ah) (f:Kp [i] d b)=>show ae b (ac y 8) at_ from(f.cell aY aF).trans z.c8);have N:=aZ aY;have N:=aZ ci;have N:∀(N:Fn) (first cap:aQ) (d:ah),(Instr.makeFunc N first cap).run prog d=.ok (.func N first cap) d:=λ_ _ _ _=>rfl;have cl:=@run_makeMap prog;show Calls prog 201 #[ak y,.agg #[J 7,ai,O b6 b8 b9,O ca cb cd,O ce cf cg,u,j,al,at_],ak i] d _;go_enter func201,ntmps201
 go_upto_region 1 with(fail)
 obtain⟨ai,N,al,b,ad⟩:=nb d 154 _;rw[N];clear N;have N:=qk ck b;have aR:=qb b cj;have ai:=N.size;clear b;obtain⟨q,ai,cm,b,aS⟩:=nc ad 93 _;rw[ai];clear ai;have bE:=qk N b;have cn:=qb b aR;have co:=qb b al;have N:=bE.size;clear b;have N:d.heap.size+1<q.heap.size:=af
 clear ad aS;have cp:=kw q;have cr:=kx q;have cs:=ky q;have ct:=kz q;have cu:=kA q;have cv:=kB q;have cw:=kC q;have cx:=kD q;go_upto_region 2 with(fail)
 clear cp cr cs ct cu cv cw cx cl;have M3:=Z (kE q);have b:=Z (show ag q (q.alloc (.map (km 8) 8))from(ag.refl q).alloc _);obtain⟨G,q⟩:=au (q.alloc (.map (km 8) 8));rw[<-q]at M3 b⊢;clear q;have K3:=qk bE b;have a1:=qb b cn;have a2:=qb b co;have a3:=qb b cm;have q:=K3.size;have cy:=ly M3 (k:=7) (n:=1) rfl;clear b M3;have cz:=ay a3;have q:=aa.lt a3;go_upto_region 3 with(fail)
 clear cy cz;have eX:=ay a2;have q:=aa.lt a2;have eY:ae G (ac i 2) (O bx c.length aX):=aa.cell a1 2;have q:=aa.lt a1;have dw:=A G K3;have q:d.heap.size<G.heap.size:=af
 have q:i<G.heap.size:=af
 by_cases hN:c.length=1
 case neg=>
  have f:(((1:Nat):Int)==(c.length:Int))=false:=aF
  have f:((1:Int)==(c.length:Int))=false:=aF
  exact px
 have cA:(((1:Nat):Int)==(c.length:Int))=true:=aF
 have cB:((1:Int)==(c.length:Int))=true:=aF
 have E1:=Z (show R=RO.ap true 1 at_ ((em at_ (bG (aC.aO c) 0) u).bind λf=>RO.ap (bz j) 1 at_<|RO.ap (decide (eE (bG (aC.aO c) 0) j<0)||decide (eE (bG (aC.aO c) 0) j=f)) 9 at_<|.ok (.mk 7 0 (aC.aO c) [] [] f 0 ((bG (aC.aO c) 0).modify f.toNat λa=>{a with name:=j}))) by rw[E0.out,decide_eq_true hN]);clear E0;refine dQ 12 eX eY λhS=>?_;refine dq ?_;refine eo ?_;refine aM 11 (λK hK=>?_);go_simp;refine bX K3.drew E1 dw λbF=>?_;try go_simp
 refine hK _ _ (λ_=>hS) ?_;refine aw ?_;refine b1 ?_;refine bQ ?_;clear hS cA cB eX eY dw E1;have b:=Z ((ag.refl G).drew);obtain⟨P,q⟩:=au G.drew;rw[<-q]at b⊢;clear q;have bH:=qk K3 b;have cC:=qb b a1;have cD:=qb b a2;have bJ:=qb b a3;have q:=bH.size;clear b;go_upto_region 5 with(fail)
 obtain⟨B,q,Q,b,-⟩:=nb P 79 #[ab];rw[q];clear q;have a4:=qk bH b;have a5:=qb b cC;have cE:=qb b cD;have cF:=qb b bJ;have q:=a4.size;clear b;have q:=aa.lt Q;have q:i<B.heap.size:=af
 have q:=aa.lt bJ;have q:0<c.length:=af
 obtain⟨S,T,bK,G,am⟩:=jK (bC B a4) 0 q;have C:=Z (z.sub _ (List.getElem_mem q)).res;have q:=jJ c 0 q;obtain⟨ad,ai⟩:=au (c[0]);rw[<-ai]at am C q;obtain⟨⟨r,G,s⟩,N⟩:∃G,G=ad.ha:=⟨_,rfl⟩;obtain⟨f,ad⟩:=au ad.attrs;rw[<-N]at am;rw[<-N,<-ad]at C;rw[<-ad]at q;have cG:=Z (show R=_ by rw[bF.out,q]);clear bF ai N ad;have bL:ae B (ac S (T+0*8+7)) (O r G s):=am;have cH:ae B (ac S (T+7)) (O r G s):=by simpa using bL
 have cI:bx=some ⟨S,T,none⟩:=bK;have q:(0:Int)<c.length:=af
 have cJ:f.length=G:=C.a.1.1;subst cJ;clear am bK;subst cI;have cK:ae B (ac i 2) (O (some ⟨S,T,none⟩) c.length aX):=aa.cell a5 2;have q:=aa.lt a5;have cL:=ay Q;have q:=aa.lt Q;have cM:=λv=>aa.frozen Q v;go_upto_region 7 with(fail)
 have D:=Z (iA Q (O r f.length s));have g:=Z (Kp.aH (p:=(aq P 0)) (l:=[P.heap.size]) aj (Kp.refl [P.heap.size] B) (O r f.length s));obtain⟨U,q⟩:=au (B.setCell (aq P 0) (O r f.length s));rw[<-q]at D g⊢;clear q;have q:=g;have K6:=Z (g.old a4 (λo o q=>absurd q (by rw[aB o];omega)));have a6:=qo g a5;have a7:=qo g cE;have an:=qo g cF;have q:=K6.size;have q:=g;have a8:=D;clear D g;clear cM cK cL cH bL;have a9:=Z (λ(o:ah) (q:Kp [i] d o)=>C.keep q (λo o hS=>by have q:=hS.1;have o:=aB o;omega));have cN:=ay a7;have q:=aa.lt a7;have cO:=ay a8;have q:=aa.lt a8;have cP:=ay an;have cQ:=bI an;have q:=aa.lt an;have cS:=bI a6;have q:=aa.lt a6;have bM:=Z bw;clear bw;have bN:=A U K6;go_upto_region 44 with(fail)
 have bO:Hid (Calls prog 272 #[ak y,O r f.length s,u] U λe w'=>RP [] U (em at_ (f.map RA.at_) u) h8 e w'):=Z (qE y ⟨r,f.length,s⟩ f u at_ U af bN (a9 U K6).a);go_wp2_with fail
 refine dR cG bO ?aA ?aG
 case aA=>
  exact xt
 intro a q u bP ao bR H;have cT:q=.int .i64 a:=bR;subst cT;obtain⟨o,cU,bS⟩:=qV bP;subst cU;have bT:o<f.length:=by simpa using bS
 clear bS bR bP;have bU:=qm K6 H;have ar:=qo H a6;have cV:=qo H a7;have cW:=qo H an;have cX:=qo H a8;have q:=bU.size;clear H;have cY:=bI ar;have q:=aa.lt ar;have cZ:=λv=>aa.frozen ar v;clear cP cQ cS cO cN bN bO;go_upto_region 45 with(fail)
 obtain⟨V,u,c1,q⟩:=B9 ar (o:Int);rw[u];clear u;have I:=Z (bU.trans q);have ba:=qo q cV;have bb:=qo q cW;have c2:=qo q cX;have u:=I.size;have q:=q;clear cY cZ;have bc:=ay ba;have q:=aa.lt ba;have bg:=cc bb;have q:=aa.lt bb;obtain⟨c3,q⟩:=au (bz j);have ax:=Z (qD j V.drew bM);rw[<-q]at ax ao;clear q;cases c3
 case false=>
  refine dQ 5 bc bg λhS=>?_;refine cR ?_;refine ef 3 (λK hK=>?_);go_simp;refine(ax).mono ?_;rintro e w' ⟨rfl,rfl⟩;try go_simp
  refine hK _ _ (λ_=>hS) ?_;refine aw ?_;refine aM 4 (λK hK=>?_);go_simp;exact b3 I.drew ao (A V I)
 refine dQ 5 bc bg λhS=>?_;refine cR ?_;refine ef 3 (λK hK=>?_);go_simp;refine(ax).mono ?_;rintro e w' ⟨rfl,rfl⟩;try go_simp
 refine hK _ _ (λ_=>hS) ?_;refine aw ?_;refine aM 4 (λK hK=>?_);go_simp;refine bX I.drew ao (A V I) λE=>?_;try go_simp
 refine hK _ _ (λ_=>hS) ?_;refine aw ?_;refine b1 ?_;refine bQ ?_;clear hS ax bc bg ao;have b:=Z ((ag.refl V).drew);obtain⟨q,u⟩:=au V.drew;rw[<-u]at b⊢;clear u;have bh:=qk I b;have c4:=qb b c1;have c5:=qb b ba;have bi:=qb b bb;have bj:=qb b c2;have u:=bh.size;clear b;have c6:=ay bj;have u:=aa.lt bj;have c7:=cc bi;have u:=aa.lt bi;have bl:Hid (Calls prog 274 #[O r f.length s,j] q λe w'=>e=.returned (J (eE (f.map RA.at_) j))/\ag q w'):=Z (sv ⟨r,f.length,s⟩ f j q (a9 q bh).a);obtain⟨L,q⟩:=au (eE (f.map RA.at_) j);rw[<-q]at bl E;clear q;go_wp2_with fail
 refine(bl).mono ?_;rintro e M ⟨rfl,b⟩;have w:=qk bh b;have bm:=qb b c4;have bn:=qb b c5;have c9:=qb b bi;have da:=qb b bj;have q:=w.size;clear b;clear bl c6 c7;go_upto_region 47 with(fail)
 have W:=ay bn;have q:=aa.lt bn;have X:=bI bm;have q:=aa.lt bm;obtain⟨du,x⟩:=au ((decide (L<0)||decide (L=(o:Int))));rw[<-x]at E;have q:i<M.heap.size:=af
 by_cases m:L<0
 case' pos=>
  have t:=decide_eq_true m;rw[t,Bool.true_or]at x;subst x;clear m;refine dQ 12 W X λhS=>?_;refine cR ?_;refine tk 3 hS ?_;refine sk 4 hS ?_;refine sk 5 hS ?_;refine sR ?_;refine aM 11 (λK hK=>?_);go_simp;refine bX w.drew E (A M w) λaP=>?_;try go_simp
  refine hK _ _ (λ_=>hS) ?_;refine aw ?_;refine b1 ?_;refine bQ ?_;clear hS t W X E
 case' neg=>
  have t:=decide_eq_false m;rw[t,Bool.false_or]at x;clear m;by_cases m:L=(o:Int)
  case' neg=>
   have q:(L==(o:Int))=false:=by simp[m]
   rw[decide_eq_false m]at x;subst x;clear m;refine dQ 12 W X λhS=>?_;refine dq ?_;refine eo ?_;refine aM 11 (λK hK=>?_);go_simp;exact b3 w.drew E (A M w)
  have Y:(L==(o:Int))=true:=by simp[m]
  rw[decide_eq_true m]at x;subst x;clear m;refine dQ 12 W X λhS=>?_;refine dq ?_;refine eo ?_;refine aM 11 (λK hK=>?_);go_simp;refine bX w.drew E (A M w) λaP=>?_;try go_simp
  refine hK _ _ (λ_=>hS) ?_;refine aw ?_;refine b1 ?_;refine bQ ?_;clear hS t Y W X E
 all_goals
  have b:=Z ((ag.refl M).drew);obtain⟨q,u⟩:=au M.drew;rw[<-u]at b⊢;clear u;have bo:=qk w b;have az:=qb b bm;have db:=qb b bn;have dc:=qb b c9;have bp:=qb b da;have u:=bo.size;clear b;have dd:=ay bp;have u:=aa.lt bp;have de:=b7 az;have u:=aa.lt az;have df:=λv=>aa.frozen az v;have bV:=Z (xl ⟨r,f.length,s⟩ f q (a9 q bo).a C.l);go_wp2_with fail
  refine(bV).mono ?_;rintro e bq ⟨q,aE,rfl,b,bW⟩;have bY:=qk bo b;have aI:=qb b az;have dg:=qb b db;have dh:=qb b dc;have di:=qb b bp;have q:=bY.size;clear b;have dj:=b7 aI;have b:=aa.lt aI;clear dd de df bV;have dk:=λv=>aa.frozen aI v;obtain⟨t,b,dl,q,_,_,_,_,_⟩:=fX bW af;subst dl;have b:=aa.lt ‹aa bq t _ _›;go_upto_region 49 with(fail)
  have D:=Z (gy aI (O (some ⟨t,0,none⟩) f.length aE));have g:=Z (Kp.aH (p:=(ac i 7)) (l:=[i]) aj (Kp.refl [i] bq) (O (some ⟨t,0,none⟩) f.length aE));obtain⟨s,b⟩:=au (bq.setCell (ac i 7) (O (some ⟨t,0,none⟩) f.length aE));rw[<-b]at D g⊢;clear b;have b:=g;have u:=Z (bY.trans g);have A:=qo g dg;have r:=qo g dh;have B:=qo g di;have b:=u.size;have b:=g;have q:=D;clear D g;have D:=Z (bD bW b (λb b=>by have:=aB b;omega));clear dj dk;have w:=bI q;have x:=b7 q;have b:=aa.lt q;have y:=cc r;have b:=aa.lt r;have b:(o:Int)<f.length:=by omega
  have b:(0:Int)<=o:=af
  have b:=Z ((ag.refl s).drew);refine gD 10 w x y λhS=>?_;refine dq ?_;refine tk 9 hS ?_;obtain⟨br,s⟩:=au s.drew;rw[<-s]at b hS⊢;clear s;have bZ:=qk u b;have dm:=qb b q;have q:=qb b A;have q:=qb b r;have q:=qb b B;have q:=bZ.size;have bs:=Z (aK b D);clear b hS w x y;obtain⟨b,q,Y,r,b0,_,_,_,_⟩:=fX bs af;injection Y with Y
  injection Y with Y
  subst Y;have dn:ae br (ac t (o*6)) (.string f[o].at_.name):=kF RA.eW bs rfl o bT 0 af;have dp:=λv=>aa.frozen b0 v;have b:=aa.lt b0;refine b1 ?_;refine tq 10 ?_;refine tq 11 ?_;refine dF 12 (λK hK=>?_);go_simp;refine hK _ _ ?_;refine aw ?_;refine bQ ?_;obtain⟨b2,r,q,b⟩:=E2 bs rfl C.l C.bare bT bM;have g:=Z (Kp.aH (p:=(ac t (o*6))) (l:=[t]) aj (Kp.refl [t] br) j);obtain⟨bt,j⟩:=au (br.setCell (ac t (o*6)) j);rw[<-j]at b g⊢;clear j dn dp;have dr:=qo g dm;have aN:=Z (g.old bZ (λj j r=>absurd r (by rw[aB j];omega)));have ds:=Z (b.mono (S':=Bw F bt.heap.size) (λj j=>⟨by have:=j.1;omega,j.2⟩));clear g b;have dt:=Z (show R=.ok (.mk 7 0 (aC.aO c) [] [] (o:Int) 0 (b2.map RA.at_)) by rw[aP.out,q,Int.toNat_natCast]);clear aP q;go_wp2;first|go_end0|refine bodyPost_ret (results_none rfl _ _ _) rfl ?_
  rw[dt.out];have b:=aN.size;have i:∀b∈[i],¬Bw F d.heap.size b:=λb g hS=>by have j:=hS.1;have j:=aB g;omega
  have b:∀b,Bw F d.heap.size b->Bw F bt.heap.size b:=λb g=>⟨g.1,by have:=g.2;omega⟩;refine⟨aN,_,rfl,rfl,(aC.mk 7 (0) ⟨(some ⟨S,T,none⟩),c.length,aX⟩ c aL [] aL [] o (0) ⟨some ⟨t,0,none⟩,f.length,aE⟩ b2),kI,dr,.mk (bC bt aN) (z.ik.mono b) (λc m=>((z.sub c m).keep aN i).mono b) (aD.none_ _ 12 _) (aV.none_ _ _ _) (aD.none_ _ 1 _) (aV.none_ _ _ _) ds⟩
section
variable {α:Type}
def oh (b c:List α) (d:Nat):Prop:=∀a,a<d->b[a]?=c[a]?
theorem Jj (a b:List α):oh a b 0:=λa a=>absurd a (Nat.not_lt_zero _)
theorem Jk {b c:List α} {a:Nat} (e:a<b.length) (f:a<c.length) (h:oh b c a) (g:b[a]=c[a]):oh b c (a+1):=λd b=>by
 by_cases i:d=a
 ·subst i;rw[List.getElem?_eq_getElem e,List.getElem?_eq_getElem f,g]
 exact h d af
theorem Jl [DecidableEq α] {a b:List α} (c:a.length=b.length) (h:oh a b a.length):decide (a=b)=true:=by
 apply decide_eq_true;apply List.ext_getElem?;intro b;by_cases c:b<a.length
 ·exact h b c
 rw[List.getElem?_eq_none af,List.getElem?_eq_none af]
theorem Jm [DecidableEq α] {b c:List α} {a:Nat} (e:a<b.length) (e:a<c.length) (d:b[a]≠c[a]):decide (b=c)=false:=by
 apply decide_eq_false;rintro rfl;exact d rfl
theorem Jn [DecidableEq α] {a b:List α} (h:a.length≠b.length):decide (a=b)=false:=by
 apply decide_eq_false;rintro rfl;exact h rfl
end
theorem zR (g i:Hd) (a b:List Int) (d:ah) (o:cX d g a) (p:cX d i b):
 Calls prog 34 #[g.val,i.val] d λu v=>u=.returned (.bool (decide (a=b)))/\ag d v:=by
 have L1:aD d 1 g cu a:=o;have L2:aD d 1 i cu b:=p;clear o p;obtain⟨w,x,y⟩:=g;obtain⟨z,A,B⟩:=i;show Calls prog 34 #[O w x y,O z A B] d _;have C:=L1.1;have D:=L2.1;have g:=L1.2.1;have g:=L2.2.1;subst C D;have E:=Z L1;have F:=Z L2;clear L1 L2;by_cases j:a.length=b.length
 case neg=>
  have e:((a.length:Int) !=(b.length:Int))=true:=aF
  have c:=Z j;clear j;go_enter func34,ntmps34
  go_wp2;go_ret;exact⟨cn (Jn c).symm,ag.refl _⟩
 have g:((a.length:Int) !=(b.length:Int))=false:=aF
 have q:=Z j;clear j;go_enter func34,ntmps34
 go_wp2;go_loopw [5] (λe wr=>∃c:Nat,c<=a.length/\e=.int .i64 c/\Hid (ag d wr)/\Hid (oh a b c)) (λc _=>a.length-(intOf c).toNat)
 case atStart=>exact⟨0,Nat.zero_le _,rfl,ag.refl d,Jj _ _⟩
 obtain⟨c,J,rfl,f,r⟩:=hrel;by_cases m:c<a.length
 ·have n:c<b.length:=omg q
  obtain⟨g,i,G,j,d⟩:=(E.same f).2.2 c m;obtain⟨i,j,H,o,g⟩:=(F.same f).2.2 c n;obtain⟨k,i⟩:=au (a[c]);obtain⟨l,j⟩:=au (b[c]);rw[<-i]at d;rw[<-j]at g;have s:=Z i;have t:=Z j;have o:=d 0 k rfl;have p:=g 0 l rfl;simp only[Nat.mul_one,Nat.add_zero]at o p;clear d g i j;subst G H;have d:(c:Int)<(a.length:Int):=af
  have d:(c:Int)<(b.length:Int):=af
  by_cases e:k=l
  ·have d:(k !=l)=false:=by simp;exact e
   have I:=Z e;clear e;go_wp2_with fail
   go_quiet (fail)
   go_wp2;go_roundw
   case rel=>exact⟨c+1,by omega,by go_num,(f.out.drewN _),Jk m n r.out (by rw[<-s.out,<-t.out];exact I.out)⟩
   simp[intOf];omega
  have d:(k !=l)=true:=by simp;exact e
  have I:=Z e;clear e;go_wp2_with fail
  go_quiet (fail)
  go_wp2;go_ret;exact⟨cn (Jm m n (by rw[<-s.out,<-t.out];exact I.out)).symm,f.drewN _⟩
 have c:c=a.length:=af
 have e:Hid (oh a b a.length):=by rw[<-c];exact r.out
 clear c;go_wp2;go_ret;exact⟨cn (Jl q e).symm,f⟩
end Go.Proofs.YteamkimbmdgdbaaGreatDoor

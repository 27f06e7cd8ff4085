import Derived.Test.YteamkimbmdgdbaaGreatDoorK16
set_option linter.unusedSimpArgs false
set_option linter.unusedVariables false
set_option maxHeartbeats 16000000
set_option maxRecDepth 100000
namespace Go.Proofs.YteamkimbmdgdbaaGreatDoor
open Go.Proofs.Tryz
open Go.RowKit
theorem E3 (c:List Tb) (d:ax) (f:List bm) (b:bk) (g i:ax) (j a:Int) (ks:List Pl):cy c 3 d f b g i j a ks=RO.ap (decide (ks.length=1)) 1 a ((fL a (bH ks 0) [] [] b).bind λp=>.ok (.mk 3 0 ks [] p.1 0 0 p.2)):=by
 have h:decide (ey 3=some ks.length)=decide (ks.length=1):=by
  have:ey 3=some 1:=rfl;exact qR
 unfold cy;rw[h];rfl
theorem E8 (t g A:Nat) (h:Hd) (V:List RT) (W:ax) (aZ D:Hd) (d:List aD) (al:Hd) (am:List bm) (an:Hd) (u:bk) (X E:ax) (Y at_:Int) (f:ah) (cu:aJ E)
 (aq:aa f g 105 #[J 3,J 0,D.val,ab,ab,J 0,J 0,ab]) (a:iP f t g A h V D d al am an u at_):
 Calls prog 201 #[ak t,.agg #[J 3,W,aZ.val,al.val,an.val,X,E,Y,at_],ak g] f
  λe w'=>RP [g] f (cy (V.map RT.tb) 3 W am u X E Y at_ (aD.aO d)) (iQ g A) e w':=by
 obtain⟨bq,v,br⟩:=h;obtain⟨a0,a1,ar⟩:=D;obtain⟨bs,bt,bu⟩:=aZ;obtain⟨bv,bw,bx⟩:=al;obtain⟨az,aB,aG⟩:=an;have o:=Z a;have bz:d.length=a1:=a.lk.1;have al:a1<=9223372036854775807:=a.lk.2.1;have al:V.length=v:=(a.ta f (Kp.refl _ f)).1.1;have al:v<=9223372036854775807:=(a.ta f (Kp.refl _ f)).1.2.1;subst bz;have al:=a.hX;have an:=a.xp;have an:=a.kz;have an:=a.lw;have an:=aq.lt;have bA:=Z aq;obtain⟨R,V⟩:=av (cy (V.map RT.tb) 3 W am u X E Y at_ (aD.aO d));rw[<-V];have am:(aD.aO d).length=d.length:=by rw[aD.gY,List.length_map]
 have E0:=Z (show R=RO.ap (decide (d.length=1)) 1 at_ ((fL at_ (bH (aD.aO d) 0) [] [] u).bind λc=>.ok (.mk 3 0 (aD.aO d) [] c.1 0 0 c.2)) by rw[V,E3,am]);clear V a aq am;have V:f.heap.size<=f.heap.size:=Nat.le_refl _;have bB:=Z (Kp.refl [g] f);have a2:=Z (λ(c:ah) (i:Kp [g] f c)=>o.lk.kp i (λc i e v=>by have c:=(o.out.ik c i e).1;have c:=aC v;omega));have V:=Z (λ(c:ah) (i:Kp [g] f c)=>show ae c (ac t 0) (O bq v br)from(i.cell al aF).trans o.c0);have a3:=Z (λ(c:ah) (i:Kp [g] f c)=>show ae c (ac t 8) at_ from(i.cell al aF).trans o.c8);have V:=bb al;have V:=bb an;have V:∀(V:Fn) (first cap:aQ) (f:ah),(Instr.makeFunc V first cap).run prog f=.ok (.func V first cap) f:=λ_ _ _ _=>rfl;have bC:=@run_makeMap prog;show Calls prog 201 #[ak t,.agg #[J 3,W,O bs bt bu,O bv bw bx,O az aB aG,X,E,Y,at_],ak g] f _;go_enter func201,ntmps201
 go_upto_region 1 with(fail)
 obtain⟨W,E,X,c,V⟩:=nb f 154 _;rw[E];clear E;have E:=qk bB c;have Y:=qb c bA;have W:=E.size;clear c;obtain⟨m,W,bD,c,al⟩:=nc V 93 _;rw[W];clear W;have a4:=qk E c;have bE:=qb c Y;have bF:=qb c X;have E:=a4.size;clear c;have E:f.heap.size+1<m.heap.size:=af
 clear V al;have bG:=kA m;have bI:=kB m;have bJ:=kC m;have bK:=kD m;have bL:=kE m;have bN:=kF m;have bO:=kG m;have bP:=kH m;go_upto_region 2 with(fail)
 clear bG bI bJ bK bL bN bO bP bC;have M3:=Z (kI m);have c:=Z (show ag m (m.alloc (.map (km 8) 8))from(ag.refl m).alloc _);obtain⟨B,m⟩:=av (m.alloc (.map (km 8) 8));rw[<-m]at M3 c⊢;clear m;have K3:=qk a4 c;have aH:=qb c bE;have aK:=qb c bF;have aN:=qb c bD;have m:=K3.size;have bQ:=lx M3 (k:=3) (n:=1) rfl;clear c M3;have bR:=ay aN;have m:=aa.lt aN;go_upto_region 3 with(fail)
 clear bQ bR;have eW:=ay aK;have m:=aa.lt aK;have eX:ae B (ac g 2) (O a0 d.length ar):=aa.cell aH 2;have m:=aa.lt aH;have dw:=a3 B K3;have m:f.heap.size<B.heap.size:=af
 have m:g<B.heap.size:=af
 by_cases hN:d.length=1
 case neg=>
  have i:(((1:Nat):Int)==(d.length:Int))=false:=aF
  have i:((1:Int)==(d.length:Int))=false:=aF
  exact pn
 have bS:(((1:Nat):Int)==(d.length:Int))=true:=aF
 have bT:((1:Int)==(d.length:Int))=true:=aF
 have E1:=Z (show R=RO.ap true 1 at_ ((fL at_ (bH (aD.aO d) 0) [] [] u).bind λi=>.ok (.mk 3 0 (aD.aO d) [] i.1 0 0 i.2)) by rw[E0.out,decide_eq_true hN]);clear E0;refine dP 12 eW eX λhS=>?_;refine dv ?_;refine eA ?_;refine aM 11 (λK hK=>?_);go_simp;refine bV K3.drew E1 dw λa5=>?_;try go_simp
 refine hK _ _ (λ_=>hS) ?_;refine aw ?_;refine bZ ?_;refine bM ?_;clear hS bS bT eW eX dw E1;have c:=Z ((ag.refl B).drew);obtain⟨F,m⟩:=av B.drew;rw[<-m]at c⊢;clear m;have a6:=qk K3 c;have bU:=qb c aH;have bW:=qb c aK;have a7:=qb c aN;have m:=a6.size;clear c;go_upto_region 5 with(fail)
 obtain⟨w,m,G,c,-⟩:=nb F 79 #[ab];rw[m];clear m;have aP:=qk a6 c;have aR:=qb c bU;have bX:=qb c bW;have bY:=qb c a7;have m:=aP.size;clear c;have c:=aa.lt G;have c:g<w.heap.size:=af
 have c:=aa.lt a7;have c:0<d.length:=af
 obtain⟨H,I,a8,m,ad⟩:=jD (a2 w aP) 0 c;have L:=Z (o.sub _ (List.getElem_mem c)).res;have c:=jC d 0 c;obtain⟨E,V⟩:=av (d[0]);rw[<-V]at ad L c;obtain⟨⟨x,m,y⟩,B⟩:∃m,m=E.ha:=⟨_,rfl⟩;obtain⟨s,E⟩:=av E.attrs;rw[<-B]at ad;rw[<-B,<-E]at L;rw[<-E]at c;have b0:=Z (show R=_ by rw[a5.out,c]);clear a5 V B E;have a9:ae w (ac H (I+0*8+7)) (O x m y):=ad;have b2:ae w (ac H (I+7)) (O x m y):=by simpa using a9
 have b3:a0=some ⟨H,I,none⟩:=a8;have c:(0:Int)<d.length:=af
 have b4:s.length=m:=L.a.1.1;subst b4;clear ad a8;subst b3;have b5:ae w (ac g 2) (O (some ⟨H,I,none⟩) d.length ar):=aa.cell aR 2;have c:=aa.lt aR;have b6:=ay G;have c:=aa.lt G;have b8:=λM=>aa.frozen G M;go_upto_region 7 with(fail)
 have z:=Z (jf G (O x s.length y));have i:=Z (Kp.aI (p:=(ao F 0)) (l:=[F.heap.size]) aj (Kp.refl [F.heap.size] w) (O x s.length y));obtain⟨q,c⟩:=av (w.setCell (ao F 0) (O x s.length y));rw[<-c]at z i⊢;clear c;have c:=i;have K6:=Z (i.old aP (λc c j=>absurd j (by rw[aC c];omega)));have N:=qo i aR;have aS:=qo i bX;have ai:=qo i bY;have c:=K6.size;have c:=i;have aT:=z;clear z i;clear b8 b5 b6 b2 a9;have b9:=Z (λ(c:ah) (j:Kp [g] f c)=>L.keep j (λc c hS=>by have j:=hS.1;have c:=aC c;omega));have ca:=ay aS;have c:=aa.lt aS;have cb:=ay aT;have c:=aa.lt aT;have c:=ay ai;have cc:=bl ai;have c:=aa.lt ai;have cd:=bl N;have ce:=b7 N;have c:=aa.lt N;have cf:=λM=>aa.frozen N M;have ba:=a3 q K6;go_upto_region 27 with(fail)
 have bd:Hid (Calls prog 273 #[ak t,O x s.length y,O az aB aG] q λe w'=>RP [] q (fL at_ (s.map RA.at_) [] [] u) (sH q.heap.size) e w'):=Z (wS t ⟨x,s.length,y⟩ s ⟨az,aB,aG⟩ u at_ q af ba (b9 q K6).a L.b (o.ln q K6) o.l5);go_wp2_with fail
 refine dQ b0 bd ?au ?aA
 case au=>
  exact xj
 intro a cg bh c ch ci C;obtain⟨cj,cv⟩:=a;obtain⟨⟨aU,aV,aW⟩,⟨P,Q,S⟩,ck,bi,cl,bj,cw,cx,rfl,cm,cz,cA⟩:=ci;have cn:cg=.tuple #[O aU aV aW,O P Q S]:=bi;clear bi;subst cn;have bn:=qm K6 C;have T:=qo C N;have co:=qo C aS;have cp:=qo C ai;have cq:=qo C aT;have c:=bn.size;clear C;have c:=bl T;have c:=b7 T;have c:=aa.lt T;have c:=λM=>aa.frozen T M;clear ca cb cc cd ce cf ba bd;go_wp2_with fail
 obtain⟨m,s,t,c⟩:=vH T (O aU aV aW);rw[s];clear s;have s:=Z (bn.trans c);have u:=qo c co;have w:=qo c cp;have x:=qo c cq;have y:=s.size;have y:=c;have z:=Z (gE t (O P Q S));have i:=Z (Kp.aI (p:=(ac g 7)) (l:=[g]) aj (Kp.refl [g] m) (O P Q S));obtain⟨aX,c⟩:=av (m.setCell (ac g 7) (O P Q S));rw[<-c]at z i⊢;clear c;have c:=i;have U:=Z (s.trans i);have c:=qo i u;have c:=qo i w;have c:=qo i x;have c:=U.size;have c:=i;have cr:=z;clear z i;have aY:=Z (y.trans c);have bo:∀j∈[g],¬Bw q.heap.size bh.heap.size j:=λj r hS=>by have cs:=hS.1;have ct:=aC r;omega
 have bp:∀j,Bw q.heap.size bh.heap.size j->Bw A aX.heap.size j:=λj r=>⟨by have:=r.1;omega,by have:=r.2;have:=aY.out.size;omega⟩;go_wp2;first|go_end0|refine bodyPost_ret (results_none rfl _ _ _) rfl ?_
 rw[ch.out];have c:=U.size;have g:∀j∈[g],¬Bw A f.heap.size j:=λj r hS=>by have cs:=hS.1;have ct:=aC r;omega
 have c:∀j,Bw A f.heap.size j->Bw A aX.heap.size j:=λj r=>⟨r.1,by have:=r.2;omega⟩;refine⟨U,_,rfl,rfl,(aD.mk 3 (0) ⟨(some ⟨H,I,none⟩),d.length,ar⟩ d aL [] ⟨aU,aV,aW⟩ cj (0) (0) ⟨P,Q,S⟩ ck),kL,cr,.mk (a2 aX U) (o.ik.mono c) (λd D=>((o.sub d D).keep U g).mono c) (aE.none_ _ 12 _) (bc.none_ _ _ _) (cl.kp aY (λj c e v=>bo j v (bj j c e))) (bj.mono bp) ((cm.keep aY bo).mono bp)⟩
theorem Fb (b:List Tb) (c:ax) (d:List bm) (f:bk) (g i:ax) (j a:Int) (ks:List Pl):cy b 5 c d f g i j a ks=RO.ap (decide (ks.length=2)) 1 a (RO.ap (d9 (bH ks 0) (bH ks 1)) 10 a (.ok (.mk 5 0 ks [] [] 0 0 (bH ks 0)))):=by
 have h:decide (ey 5=some ks.length)=decide (ks.length=2):=by
  have:ey 5=some 2:=rfl;exact sM
 unfold cy;rw[h];rfl
theorem Fc (A d t:Nat) (h:Hd) (M:List RT) (N:ax) (aH B:Hd) (b:List aD) (W:Hd) (X:List bm) (Y:Hd) (ad:bk) (P C:ax) (Q at_:Int) (c:ah) (b4:aJ C)
 (ai:aa c d 105 #[J 5,J 0,B.val,ab,ab,J 0,J 0,ab]) (j:iP c A d t h M B b W X Y ad at_):
 Calls prog 201 #[ak A,.agg #[J 5,N,aH.val,W.val,Y.val,P,C,Q,at_],ak d] c
  λe w'=>RP [d] c (cy (M.map RT.tb) 5 N X ad P C Q at_ (aD.aO b)) (iQ d t) e w':=by
 obtain⟨aW,D,aX⟩:=h;obtain⟨aK,aN,S⟩:=B;obtain⟨aY,aZ,a0⟩:=aH;obtain⟨a1,a2,a3⟩:=W;obtain⟨a4,a5,a6⟩:=Y;have u:=Z j;have a7:b.length=aN:=j.lk.1;have W:aN<=9223372036854775807:=j.lk.2.1;have W:M.length=D:=(j.ta c (Kp.refl _ c)).1.1;have W:D<=9223372036854775807:=(j.ta c (Kp.refl _ c)).1.2.1;subst a7;have W:=j.hX;have Y:=j.xp;have Y:=j.kz;have Y:=j.lw;have Y:=ai.lt;have a8:=Z ai;obtain⟨R,M⟩:=av (cy (M.map RT.tb) 5 N X ad P C Q at_ (aD.aO b));rw[<-M];have X:(aD.aO b).length=b.length:=by rw[aD.gY,List.length_map]
 have E0:=Z (show R=RO.ap (decide (b.length=2)) 1 at_ (RO.ap (d9 (bH (aD.aO b) 0) (bH (aD.aO b) 1)) 10 at_ (.ok (.mk 5 0 (aD.aO b) [] [] 0 0 (bH (aD.aO b) 0)))) by rw[M,Fb,X]);clear M j ai X;have j:c.heap.size<=c.heap.size:=Nat.le_refl _;have a9:=Z (Kp.refl [d] c);have al:=Z (λ(f:ah) (g:Kp [d] c f)=>u.lk.kp g (λf g e D=>by have f:=(u.out.ik f g e).1;have f:=aC D;omega));have j:=Z (λ(f:ah) (g:Kp [d] c f)=>show ae f (ac A 0) (O aW D aX)from(g.cell W aF).trans u.c0);have lC:=Z (λ(f:ah) (g:Kp [d] c f)=>show ae f (ac A 8) at_ from(g.cell W aF).trans u.c8);have j:=bb W;have j:=bb Y;have j:∀(j:Fn) (first cap:aQ) (c:ah),(Instr.makeFunc j first cap).run prog c=.ok (.func j first cap) c:=λ_ _ _ _=>rfl;have ba:=@run_makeMap prog;show Calls prog 201 #[ak A,.agg #[J 5,N,O aY aZ a0,O a1 a2 a3,O a4 a5 a6,P,C,Q,at_],ak d] c _;go_enter func201,ntmps201
 go_upto_region 1 with(fail)
 obtain⟨C,j,D,SN,A⟩:=nb c 154 _;rw[j];clear j;have j:=qk a9 SN;have M:=qb SN a8;have C:=j.size;clear SN;obtain⟨f,C,bd,SN,N⟩:=nc A 93 _;rw[C];clear C;have aP:=qk j SN;have bh:=qb SN M;have bi:=qb SN D;have j:=aP.size;clear SN;have j:c.heap.size+1<f.heap.size:=af
 clear A N;have bj:=kA f;have bl:=kB f;have bn:=kC f;have bo:=kD f;have bp:=kE f;have bq:=kF f;have br:=kG f;have bs:=kH f;go_upto_region 2 with(fail)
 clear bj bl bn bo bp bq br bs ba;have M3:=Z (kI f);have SN:=Z (show ag f (f.alloc (.map (km 8) 8))from(ag.refl f).alloc _);obtain⟨x,f⟩:=av (f.alloc (.map (km 8) 8));rw[<-f]at M3 SN⊢;clear f;have K3:=qk aP SN;have am:=qb SN bh;have an:=qb SN bi;have aq:=qb SN bd;have f:=K3.size;have bt:=lx M3 (k:=5) (n:=2) rfl;clear SN M3;have bu:=ay aq;have f:=aa.lt aq;go_upto_region 3 with(fail)
 clear bt bu;have eW:=ay an;have f:=aa.lt an;have eX:ae x (ac d 2) (O aK b.length S):=aa.cell am 2;have f:=aa.lt am;have dw:=lC x K3;have f:c.heap.size<x.heap.size:=af
 have f:d<x.heap.size:=af
 by_cases hN:b.length=2
 case neg=>
  have f:(((2:Nat):Int)==(b.length:Int))=false:=aF
  have f:((2:Int)==(b.length:Int))=false:=aF
  exact pn
 have bv:(((2:Nat):Int)==(b.length:Int))=true:=aF
 have bw:((2:Int)==(b.length:Int))=true:=aF
 have E1:=Z (show R=RO.ap true 1 at_ (RO.ap (d9 (bH (aD.aO b) 0) (bH (aD.aO b) 1)) 10 at_ (.ok (.mk 5 0 (aD.aO b) [] [] 0 0 (bH (aD.aO b) 0)))) by rw[E0.out,decide_eq_true hN]);clear E0;refine dP 12 eW eX λhS=>?_;refine dv ?_;refine eA ?_;refine aM 11 (λK hK=>?_);go_simp;refine bV K3.drew E1 dw λaR=>?_;try go_simp
 refine hK _ _ (λ_=>hS) ?_;refine aw ?_;refine bZ ?_;refine bM ?_;clear hS bv bw eW eX dw E1;have SN:=Z ((ag.refl x).drew);obtain⟨E,f⟩:=av x.drew;rw[<-f]at SN⊢;clear f;have aS:=qk K3 SN;have bx:=qb SN am;have bz:=qb SN an;have aT:=qb SN aq;have f:=aS.size;clear SN;go_upto_region 5 with(fail)
 obtain⟨v,f,F,SN,-⟩:=nb E 79 #[ab];rw[f];clear f;have ar:=qk aS SN;have au:=qb SN bx;have bA:=qb SN bz;have bB:=qb SN aT;have f:=ar.size;clear SN;have f:=aa.lt F;have f:d<v.heap.size:=af
 have f:=aa.lt aT;have f:0<b.length:=af
 obtain⟨m,o,y,j,T⟩:=jD (al v ar) 0 f;have G:=Z (u.sub _ (List.getElem_mem f)).res;have f:=jC b 0 f;obtain⟨A,C⟩:=av (b[0]);rw[<-C]at T G f;obtain⟨⟨q,j,r⟩,x⟩:∃az,az=A.ha:=⟨_,rfl⟩;obtain⟨i,A⟩:=av A.attrs;rw[<-x]at T;rw[<-x,<-A]at G;rw[<-A]at f;have aU:=Z (show R=_ by rw[aR.out,f]);clear aR C x A;have aV:ae v (ac m (o+0*8+7)) (O q j r):=T;have bC:ae v (ac m (o+7)) (O q j r):=by simpa using aV
 have bD:aK=some ⟨m,o,none⟩:=y;have f:(0:Int)<b.length:=af
 have bE:i.length=j:=G.a.1.1;subst bE;clear T y;subst bD;have bF:ae v (ac d 2) (O (some ⟨m,o,none⟩) b.length S):=aa.cell au 2;have f:=aa.lt au;have bG:=ay F;have f:=aa.lt F;have bI:=λH=>aa.frozen F H;go_upto_region 7 with(fail)
 have j:=Z (jf F (O q i.length r));have f:=Z (Kp.aI (p:=(ao E 0)) (l:=[E.heap.size]) aj (Kp.refl [E.heap.size] v) (O q i.length r));obtain⟨w6,v⟩:=av (v.setCell (ao E 0) (O q i.length r));rw[<-v]at j f⊢;clear v;have v:=f;have K6:=Z (f.old ar (λg g s=>absurd s (by rw[aC g];omega)));have gK:=qo f au;have lD:=qo f bA;have lE:=qo f bB;have v:=K6.size;have v:=f;have lF:=j;clear j f;clear bI bF bG bC aV;have bJ:=Z (λ(f:ah) (g:Kp [d] c f)=>G.keep g (λf f hS=>by have g:=hS.1;have f:=aC f;omega));have aA:1<b.length:=by omega
 obtain⟨f,j,y,v,U⟩:=jD (al w6 K6) 1 aA;injection y with y
 injection y with po pp
 subst po pp;have V:=Z (u.sub _ (List.getElem_mem aA)).res;have j:=jC b 1 aA;obtain⟨x,y⟩:=av (b[1]);rw[<-y]at U V j;obtain⟨⟨I,f,L⟩,v⟩:∃az,az=x.ha:=⟨_,rfl⟩;obtain⟨z,x⟩:=av x.attrs;rw[<-v]at U;rw[<-v,<-x]at V;rw[<-x]at j;have E4:=Z (show R=_ by rw[aU.out,j]);clear aU y v x;have aB:ae w6 (ac m (o+1*8+7)) (O I f L):=U;have bK:ae w6 (ac m (o+15)) (O I f L):=by simpa using aB
 have bL:ae w6 (ac m (o+8+7)) (O I f L):=by simpa using aB
 have j:(1:Int)<b.length:=af
 have bN:z.length=f:=V.a.1.1;subst bN;clear U;have bO:ae w6 (ac d 2) (O (some ⟨m,o,none⟩) b.length S):=aa.cell gK 2;have bP:=aa.lt gK;go_upto_region 9 with(fail)
 clear bO bK aB bL;have j:=Z (λ(f:ah) (g:Kp [d] c f)=>V.keep g (λf f hS=>by have g:=hS.1;have f:=aC f;omega));have nI:=ay lD;have f:=aa.lt lD;have nJ:=ay lF;have f:=aa.lt lF;have bQ:=ay lE;have f:=aa.lt lE;have bR:=b7 gK;have bP:=aa.lt gK;have bS:=λH=>aa.frozen gK H;have bT:=lC w6 K6;have lG:Hid (Rt 275 #[O q i.length r,O I z.length L,.func (.func 276) #[] #[]] w6 (.bool (d9 (i.map RA.at_) (z.map RA.at_)))):=Z (λg f=>wi ⟨q,i.length,r⟩ ⟨I,z.length,L⟩ i z g ((bJ w6 K6).a.same f) ((j w6 K6).a.same f));go_upto_region 41 with(fail)
 obtain⟨bU,f⟩:=av (d9 (i.map RA.at_) (z.map RA.at_));rw[<-f]at lG E4;clear f bQ;cases bU
 case false=>
  exact xl
 refine dP 5 nI nJ λhS=>?_;refine hT ?_;refine aM 3 (λK hK=>?_);go_simp;refine(lG w6.drew ((ag.refl w6).drew)).mono ?_;rintro e w7 ⟨rfl,s1⟩;have SN:=Z (((ag.refl w6).drew).trans s1);clear s1;have K7:=qk K6 SN;have jG:=qb SN gK;have jH:=qb SN lD;have qT:=qb SN lE;have jI:=qb SN lF;have z7:=K7.size;clear SN;try go_simp
 have my:=ay jH;have xm:=aa.lt jH;have mz:=ay jI;have xo:=aa.lt jI;refine hK _ _ (λ_=>⟨my,mz⟩) ?_;refine aw ?_;refine aM 4 (λK hK=>?_);go_simp;refine bV K7 E4 ((lC w7 K7)) λbW=>?_;try go_simp
 refine hK _ _ (λ_=>⟨my,mz⟩) ?_;refine aw ?_;refine bZ ?_;refine bM ?_;clear hS lG nI nJ bR bS bT E4;have f:=b7 jG;have f:=aa.lt jG;have f:=λH=>aa.frozen jG H;go_wp2_with fail
 obtain⟨aG,j,bX,f⟩:=r8 jG (O q i.length r);rw[j];clear j;have w:=Z (K7.trans f);have j:=qo f jH;have j:=qo f qT;have j:=qo f jI;have j:=w.size;have f:=f;have b0:∀g∈[d],¬Bw t c.heap.size g:=λg s hS=>by have bY:=hS.1;have b2:=aC s;omega
 have b3:∀g,Bw t c.heap.size g->Bw t aG.heap.size g:=λg s=>⟨s.1,by have:=s.2;have:=w.out.size;omega⟩;go_wp2;first|go_end0|refine bodyPost_ret (results_none rfl _ _ _) rfl ?_
 rw[bW.out];have f:=w.size;have d:∀g∈[d],¬Bw t c.heap.size g:=λg s hS=>by have bY:=hS.1;have b2:=aC s;omega
 have c:∀g,Bw t c.heap.size g->Bw t aG.heap.size g:=λg s=>⟨s.1,by have:=s.2;omega⟩;refine⟨w,_,rfl,rfl,(aD.mk 5 (0) ⟨(some ⟨m,o,none⟩),b.length,S⟩ b aL [] aL [] (0) (0) ⟨q,i.length,r⟩ i),kL,bX,.mk (al aG w) (u.ik.mono c) (λb B=>((u.sub b B).keep w d).mono c) (aE.none_ _ 12 _) (bc.none_ _ _ _) (aE.none_ _ 1 _) (bc.none_ _ _ _) ((G.keep w b0).mono b3)⟩
theorem FP (a:bR) (b:Nat):du [] a b=.bad 7:=rfl
theorem xE (c a:bR) (b:Nat):du (34::c) a b=if 200<a.length then .bad 3 else .tok 3 a 0 (b+2):=by
 rw[du.eq_def];exact if_pos rfl
theorem FQ (a b:bR) (c:Nat):du (10::a) b c=.bad 5:=by
 rw[du.eq_def];exact(if_neg au).trans (if_pos rfl)
theorem FR (a:bR) (b:Nat):du [92] a b=.bad 7:=by
 rw[du.eq_def];exact(if_neg au).trans ((if_neg au).trans (if_pos rfl))
theorem qY (a:UInt8) (b c:bR) (d:Nat):du (92::a::b) c d=if a=34 then du b (c++[34]) (d+2)else if a=92 then du b (c++[92]) (d+2)else if a=110 then du b (c++[10]) (d+2)else .bad 5:=by
 rw[du.eq_def];exact(if_neg au).trans ((if_neg au).trans (if_pos rfl))
theorem FT (a:UInt8) (b c:bR) (d:Nat) (e:a≠34) (f:a≠10) (g:a≠92):du (a::b) c d=du b (c++[a]) (d+1):=by
 rw[du.eq_def];exact(if_neg e).trans ((if_neg f).trans (if_neg g))
def lL (a:UInt8):List Value:=[.int .u8 (a.toNat:Int)]
theorem lL.len (a:UInt8):(lL a).length=1:=rfl
def qZ (b:Nat) (c:aU) (a d:Nat) (e:bR) (f:ah):Prop:=f.ownsRow b 5 1 (O c a d) a (e.flatMap lL)
theorem Tryz.FU:(prog.info? 5).map (λa=>(a.zero,a.size,a.bytes))=some (some (.int .u8 0),1,1):=am
theorem qZ.string {m n b:Nat} {f:aU} {l:bR} {a:ah} (o:qZ m f n b l a) (d:l.length=n) (m:n<=9223372036854775807):(convert 252 9 (O f n b)).run prog a=.ok (.string (ee l)) a:=by
 have j:=cJ (h:=⟨f,n,b⟩) lL.len d m o;cases l with
 |nil=>
  simp at d;subst d;rcases o.2 with⟨c,_⟩|⟨e,g,i,c,_⟩
  ·injection c with e1 e2 e3
   subst e1;exact run_convert_bytes_nil a 252 5 underlying252 underlying5 _ _ _ underlying9
  injection c with e1 e2 e3
  subst e1;exact run_convert_bytes_back a 252 9 5 _ b [] underlying252 underlying5 underlying9 (λc c=>by simp at c)
 |cons k l=>
  obtain⟨g,i,c,_,_⟩:=j.2.2 0 aj;have p:=c;subst p;subst d;refine run_convert_bytes_back a 252 9 5 ⟨g,i,none⟩ b (k::l) underlying252 underlying5 underlying9 (λe a=>?_);obtain⟨a,b,c,_,q⟩:=j.2.2 e a;injection c with c
  injection c with e1 e2
  subst e1 e2;have:=q 0 (.int .u8 ((k::l)[e].toNat:Int)) rfl;rw[show((⟨g,i,none⟩:Addr).add e)=⟨g,i+e,none⟩ by unfold Addr.add;split<;>simp_all];simpa using this
theorem FV (B:Nat) (d:ax) (a:Nat) (f:ah) (az:d.size<=20000) (az:a<d.size) (ab:eS f B d a):
 Calls prog 83 #[ak B] f λe i=>lq a f (js ((ba d).drop a)) e i:=by
 have ac:=Z ab;have ad:=ab.lt;obtain⟨H,I,L,M,N⟩:=info_parts Tryz.FU;have A:=Z (show Kp [] f (f.alloc (.cells #[J 0,ai,J 0,J 0] 188))from(Kp.refl [] f).alloc _);have P:=Z (show eS (f.alloc _) B d a from aa.below ac A.same ad);have Q:=Z (aa.new f 188 #[J 0,ai,J 0,J 0]);have an:=ll d a az;have C:Hid (js ((ba d).drop a)=if d[a]=34 then du ((ba d).drop (a+1)) [] 0 else .none):=Z (by rw[an];rfl);have R:((d[a].toNat:Int)==34)=decide (d[a]=34):=lm d[a] 34 af;generalize js ((ba d).drop a)=j at C⊢;have az:(a:Int)<d.size:=by omega
 have az:(a:Int)+1<=d.size:=af
 have az:IntKind.i64.wrap ((a:Int)+1)=(a:Int)+1:=IntWalk.i64_in _ af;have az:((a:Int)+1).toNat=a+1:=af
 have S:=P.at_.text;have c1:=P.at_.off;clear an ab;by_cases w:d[a]=34
 case neg=>
  have m:((d[a].toNat:Int)==34)=false:=by rw[R];exact decide_eq_false w
  have g:=Z (show j=.none by rw[C.out,if_neg w]);clear R w C;go_enter func83,ntmps83
  go_wp2_with fail
  go_quiet (fail)
  have c:=Z (A.drewN nq);have b:=Z (Q.drewN nq);generalize (f.alloc (.cells #[J 0,ai,J 0,J 0] 188)).drewN nq=n at c b⊢;clear S c1 P A Q;have m:=ay b;have m:=aS b;have m:=aZ b;have m:=bi b;have b:=λm=>aa.frozen b m;go_wp2;refine bodyPost_ret (v:=.tuple #[iE 0 [] 0 0,J 0]) ?_ rfl ?_
  ·simp[results,results83,go_sem, *]
   rfl
  rw[g.out];refine⟨?_,0,[],0,rfl⟩;repeat (refine ag.setCell ?_ (Nat.le_refl _) _)
  exact c.same
 have ab:((d[a].toNat:Int)==34)=true:=by rw[R];exact decide_eq_true w
 have aA:((d[a].toNat:Int) !=34)=false:=by rw[bne,ab];rfl
 have T:=Z (show j=du ((ba d).drop (a+1)) [] 0 by rw[C.out,if_pos w]);clear R w C;obtain⟨c,w⟩:=av (d.extract (a+1) d.size);have C:ba c=(ba d).drop (a+1):=by
  rw[w,show d.extract (a+1) d.size=d.extract (a+1) (a+1+(d.size-(a+1))) by rw[show a+1+(d.size-(a+1))=d.size by omega],o0 d (a+1) _ af,m3,List.take_of_length_le (by rw[gr];omega)]
 have R:c.size=d.size-(a+1):=by rw[<-eZ,C,gr]
 replace T:=Z (show j=du ((ba c).drop 0) [] 0 by rw[T.out,<-C];rfl);have R:=Z w;clear C w;have aB:=R.symm;go_enter func83,ntmps83
 go_wp2_with fail
 go_quiet (fail)
 have U:=Z (A.drewN nq);have ae:=Z (Q.drewN nq);generalize (f.alloc (.cells #[J 0,ai,J 0,J 0] 188)).drewN nq=ao at U ae⊢;try rw[aA]
 have aj:=Z (show eS ao B d a from aa.below ac U.same ad);clear S c1 P A Q;have S:=aj.at_.text;have c1:=aj.at_.off;go_wp2_with fail
 go_quiet (fail)
 have al:=Z (U.drewN nq);have V:=Z (ae.drewN nq);generalize ao.drewN nq=w3 at al V⊢;clear S c1 aj U ae;try rw[aB]
 have aC:f.heap.size+1<=w3.heap.size:=V.lt;go_wp2;go_loopg [4,6] (c.size+1) (λo p q wr=>∃(b:Nat) (out:bR) (m:aU) (g n:Nat),p=.slice m g n/\q=.int .i64 b/\b<=c.size/\c.size-b<o/\out.length=g/\g<=b/\Hid (qZ (f.heap.size+1) m g n out wr)/\Hid (aa wr f.heap.size 188 #[J 0,ai,J 0,J 0])/\Hid (Kp [] f wr)/\f.heap.size+1<=wr.heap.size/\Hid (j=du ((ba c).drop b) out b))
 case atStart=>exact⟨0,[],none,0,0,rfl,rfl,by omega,by omega,rfl,by omega,Z ⟨rfl,.inl ⟨rfl,rfl⟩⟩,V,al,aC,T⟩
 obtain⟨b,out,p,g,q,rfl,rfl,aM,ap,aq,aN,D,m,K,aO,E⟩:=hrel;clear V al T;have d:=Z (show eS wr B d a from aa.below ac K.same ad);have c1:=d.at_.off;have u:=Z aq;have r:=Z ap;clear ap aq;by_cases aD:b<c.size
 case neg=>
  have d:¬(b:Int)<c.size:=af
  have E':=Z (show j=.bad 7 by rw[E.out];rw[List.drop_of_length_le qn];rfl);exact xF
 have d:(b:Int)<c.size:=af
 have n:=Z (ll c b aD);have x:((c[b].toNat:Int)==34)=decide (c[b]=34):=lm c[b] 34 af;have y:((c[b].toNat:Int)==10)=decide (c[b]=10):=lm c[b] 10 af;have z:((c[b].toNat:Int)==92)=decide (c[b]=92):=lm c[b] 92 af;have d:IntKind.i64.wrap ((b:Int)+1)=(b:Int)+1:=IntWalk.i64_in _ af;have d:IntKind.i64.wrap ((b:Int)+2)=(b:Int)+2:=IntWalk.i64_in _ af;by_cases F:c[b]=34
 case pos=>
  have s:((c[b].toNat:Int)==34)=true:=by rw[x];exact decide_eq_true F
  clear x y z;by_cases o:200<g
  case pos=>
   have d:(200:Int)<g:=af
   have E':=Z (show j=.bad 3 by rw[E.out];rw[n.out,F,xE,if_pos (by rw[u.out];exact o)]);clear E;go_wp2_with (go_at_call 86;refine(kf B 3 a _ c1).mono ?_;rintro e w3 ⟨rfl,rfl⟩)
   refine⟨rfl,?_⟩;rw[E'.out];exact⟨K.same,rfl⟩
  have d:¬(200:Int)<g:=af
  have E':=Z (show j=.tok 3 out 0 (b+2) by rw[E.out,n.out,F,xE,if_neg (by rw[u.out];exact o)]);clear E;have d:=qZ.string D u af;have d:=ay m;have s:=aS m;have d:=aZ m;have d:=bi m;have d:=λb=>aa.frozen m b;go_wp2;refine bodyPost_ret (v:=.tuple #[iE 3 out 0 0,J (b+2:Nat)]) ?_ rfl ?_
  ·simp[results,results83,go_sem, *]
   rfl
  rw[E'.out];refine⟨?_,rfl⟩;repeat (refine ag.setCell ?_ (Nat.le_refl _) _)
  exact K.same
 have d:((c[b].toNat:Int)==34)=false:=by rw[x];exact decide_eq_false F
 by_cases W:c[b]=10
 case pos=>
  have d:((c[b].toNat:Int)==10)=true:=by rw[y];exact decide_eq_true W
  clear x y z;have E':=Z (show j=.bad 5 by rw[E.out];rw[n.out,W,FQ]);clear E;go_wp2_with (go_at_call 86;refine(kf B 5 a _ c1).mono ?_;rintro e w3 ⟨rfl,rfl⟩)
  refine⟨rfl,?_⟩;rw[E'.out];exact⟨K.same,rfl⟩
 have d:((c[b].toNat:Int)==10)=false:=by rw[y];exact decide_eq_false W
 by_cases s:c[b]=92
 case neg=>
  have d:((c[b].toNat:Int)==92)=false:=by rw[z];exact decide_eq_false s
  clear x y z;have o:=Z (aK ((ag.refl wr).alloc (.cells #[.int .u8 (c[b].toNat:Int)] 5)) D);have X:=Z (cO wr #[.int .u8 (c[b].toNat:Int)] 5 1 rfl);have E':=Z (show j=du ((ba c).drop (b+1)) (out++[c[b]]) (b+1) by rw[E.out];rw[n.out];exact FT _ _ _ _ F W s);clear E;go_wp2_with (first|(at_builtin;refine eL _ rfl (.tmp 83) (.tmp 85) 252 rfl (f.heap.size+1) 5 H _ 1 1 underlying252 I L M N rfl au (O p g q) g (out.flatMap lL) rfl o.out (wr.heap.size+1) (some ⟨wr.heap.size,0,none⟩) 1 1 (#[.int .u8 (c[b].toNat:Int)]:Array Value).toList rfl X.out bw cc af aF ?_;intro d t d w A;have k:=Z d;have l:=Z w;clear d w A))
  obtain⟨Y,am,rfl,aE⟩:=bv k;have w:∀d,(Value.slice p g q).ownBlock=some d->f.heap.size+1<=d:=λd hg=>by
   obtain⟨_,_,_,ho⟩:=bv o;exact f0
  have ar:=Z ((K.alloc _).grown l (λd hg=>.inr (by have:=w d hg;omega)));have G:=Z (aa.grown (m.alloc _) l (λe=>by have:=w _ e.symm;omega));have aw:f.heap.size+1<=t.heap.size:=G.lt;go_wp2;go_roundg (c.size-b)
  case measure=>have:=r.out;omega
  exact⟨b+1,out++[c[b]],Y,g+1,am,rfl,by go_num,by omega,omg r,by rw[List.length_append,u.out];rfl,by omega,Z (by show World.ownsRow _ _ _ _ _ _ _;rw[List.flatMap_append];exact k.out),G,ar,aw,E'⟩
 have d:((c[b].toNat:Int)==92)=true:=by rw[z];exact decide_eq_true s
 clear x y z;by_cases aE:b+1<c.size
 case neg=>
  have d:((b:Int)+1==c.size)=true:=aF
  have E':=Z (show j=.bad 7 by rw[E.out];rw[n.out,s,List.drop_of_length_le qn,FR]);exact xF
 have d:((b:Int)+1==c.size)=false:=aF
 have d:(b:Int)+1<c.size:=af
 have d:(0:Int)<=(b:Int)+1:=af
 have d:((b:Int)+1).toNat=b+1:=af
 have d:IntKind.i64.wrap ((b:Int)+1+1)=(b:Int)+1+1:=IntWalk.i64_in _ af;have X:=Z (ll c (b+1) aE);have o:=Z (λd=>Tryz.strings_IndexByte ⟨#[34,92,110]⟩ (c[b+1].toNat:Int) d);have d:Lib.indexByte (⟨#[34,92,110]⟩:ByteArray).data.toList (c[b+1].toNat:Int).toNat.toUInt8=Lib.indexByte [34,92,110] c[b+1]:=by
  rw[show(c[b+1].toNat:Int).toNat.toUInt8=c[b+1] by simp]
 rw[d]at o;clear d;by_cases G:c[b+1]=34
 case pos=>
  replace o:Hid (∀d,Calls prog 158 #[.string ⟨#[34,92,110]⟩,.int .u8 34] d λe i=>e=.returned (J 0)/\i=d):=Z (λd=>Tryz.strings_IndexByte ⟨#[34,92,110]⟩ 34 d);have Y:=Z (aK ((ag.refl wr).alloc (.cells #[.int .u8 (((⟨#[34,92,10]⟩:ByteArray)[0]'au).toNat:Int)] 5)) D);have ar:=Z (cO wr #[.int .u8 (((⟨#[34,92,10]⟩:ByteArray)[0]'au).toNat:Int)] 5 1 rfl);have E':=Z (show j=du ((ba c).drop (b+2)) (out++[34]) (b+2) by rw[E.out];rw[n.out,s,X.out,qY,if_pos G]);clear E;go_wp2_with (first|(go_at_call 158;refine(o.out _).mono ?_;rintro e i ⟨rfl,am⟩;rw[am];clear am i)|(at_builtin;refine eL _ rfl (.tmp 83) (.tmp 85) 252 rfl (f.heap.size+1) 5 H _ 1 1 underlying252 I L M N rfl au (O p g q) g (out.flatMap lL) rfl Y.out (wr.heap.size+1) (some ⟨wr.heap.size,0,none⟩) 1 1 (#[.int .u8 (((⟨#[34,92,10]⟩:ByteArray)[0]'au).toNat:Int)]:Array Value).toList rfl ar.out bw cc af aF ?_;intro d t d w x;have k:=Z d;have l:=Z w;clear d w x))
  obtain⟨aw,aG,rfl,aJ⟩:=bv k;have w:∀d,(Value.slice p g q).ownBlock=some d->f.heap.size+1<=d:=λd hg=>by
   obtain⟨_,_,_,ho⟩:=bv Y;exact f0
  have aH:=Z ((K.alloc _).grown l (λd hg=>.inr (by have:=w d hg;omega)));have am:=Z (aa.grown (m.alloc _) l (λe=>by have:=w _ e.symm;omega));have aI:f.heap.size+1<=t.heap.size:=am.lt;go_wp2;go_roundg (c.size-b)
  case measure=>have:=r.out;omega
  exact⟨b+2,out++[34],aw,g+1,aG,rfl,by go_num,by omega,omg r,by rw[List.length_append,u.out];rfl,by omega,Z (by show World.ownsRow _ _ _ _ _ _ _;rw[List.flatMap_append];exact k.out),am,aH,aI,E'⟩
 by_cases Y:c[b+1]=92
 case pos=>
  replace o:Hid (∀d,Calls prog 158 #[.string ⟨#[34,92,110]⟩,.int .u8 92] d λe i=>e=.returned (J 1)/\i=d):=Z (λd=>Tryz.strings_IndexByte ⟨#[34,92,110]⟩ 92 d);have am:=Z (aK ((ag.refl wr).alloc (.cells #[.int .u8 (((⟨#[34,92,10]⟩:ByteArray)[1]'au).toNat:Int)] 5)) D);have aw:=Z (cO wr #[.int .u8 (((⟨#[34,92,10]⟩:ByteArray)[1]'au).toNat:Int)] 5 1 rfl);have E':=Z (show j=du ((ba c).drop (b+2)) (out++[92]) (b+2) by rw[E.out];rw[n.out,s,X.out,qY,if_neg G,if_pos Y]);clear E;go_wp2_with (first|(go_at_call 158;refine(o.out _).mono ?_;rintro e i ⟨rfl,ar⟩;rw[ar];clear ar i)|(at_builtin;refine eL _ rfl (.tmp 83) (.tmp 85) 252 rfl (f.heap.size+1) 5 H _ 1 1 underlying252 I L M N rfl au (O p g q) g (out.flatMap lL) rfl am.out (wr.heap.size+1) (some ⟨wr.heap.size,0,none⟩) 1 1 (#[.int .u8 (((⟨#[34,92,10]⟩:ByteArray)[1]'au).toNat:Int)]:Array Value).toList rfl aw.out bw cc af aF ?_;intro d t d w x;have k:=Z d;have l:=Z w;clear d w x))
  obtain⟨aG,aH,rfl,aL⟩:=bv k;have w:∀d,(Value.slice p g q).ownBlock=some d->f.heap.size+1<=d:=λd hg=>by
   obtain⟨_,_,_,ho⟩:=bv am;exact f0
  have aI:=Z ((K.alloc _).grown l (λd hg=>.inr (by have:=w d hg;omega)));have ar:=Z (aa.grown (m.alloc _) l (λe=>by have:=w _ e.symm;omega));have aJ:f.heap.size+1<=t.heap.size:=ar.lt;go_wp2;go_roundg (c.size-b)
  case measure=>have:=r.out;omega
  exact⟨b+2,out++[92],aG,g+1,aH,rfl,by go_num,by omega,omg r,by rw[List.length_append,u.out];rfl,by omega,Z (by show World.ownsRow _ _ _ _ _ _ _;rw[List.flatMap_append];exact k.out),ar,aI,aJ,E'⟩
 by_cases am:c[b+1]=110
 case pos=>
  replace o:Hid (∀d,Calls prog 158 #[.string ⟨#[34,92,110]⟩,.int .u8 110] d λe i=>e=.returned (J 2)/\i=d):=Z (λd=>Tryz.strings_IndexByte ⟨#[34,92,110]⟩ 110 d);have ar:=Z (aK ((ag.refl wr).alloc (.cells #[.int .u8 (((⟨#[34,92,10]⟩:ByteArray)[2]'au).toNat:Int)] 5)) D);have aG:=Z (cO wr #[.int .u8 (((⟨#[34,92,10]⟩:ByteArray)[2]'au).toNat:Int)] 5 1 rfl);have E':=Z (show j=du ((ba c).drop (b+2)) (out++[10]) (b+2) by rw[E.out];rw[n.out,s,X.out,qY,if_neg G,if_neg Y,if_pos am]);clear E;go_wp2_with (first|(go_at_call 158;refine(o.out _).mono ?_;rintro e i ⟨rfl,aw⟩;rw[aw];clear aw i)|(at_builtin;refine eL _ rfl (.tmp 83) (.tmp 85) 252 rfl (f.heap.size+1) 5 H _ 1 1 underlying252 I L M N rfl au (O p g q) g (out.flatMap lL) rfl ar.out (wr.heap.size+1) (some ⟨wr.heap.size,0,none⟩) 1 1 (#[.int .u8 (((⟨#[34,92,10]⟩:ByteArray)[2]'au).toNat:Int)]:Array Value).toList rfl aG.out bw cc af aF ?_;intro d t d w x;have k:=Z d;have l:=Z w;clear d w x))
  obtain⟨aH,aI,rfl,aP⟩:=bv k;have p:∀d,(Value.slice p g q).ownBlock=some d->f.heap.size+1<=d:=λd hg=>by
   obtain⟨_,_,_,ho⟩:=bv ar;exact f0
  have aJ:=Z ((K.alloc _).grown l (λd hg=>.inr (by have:=p d hg;omega)));have aw:=Z (aa.grown (m.alloc _) l (λe=>by have:=p _ e.symm;omega));have aL:f.heap.size+1<=t.heap.size:=aw.lt;go_wp2;go_roundg (c.size-b)
  case measure=>have:=r.out;omega
  exact⟨b+2,out++[10],aH,g+1,aI,rfl,by go_num,by omega,omg r,by rw[List.length_append,u.out];rfl,by omega,Z (by show World.ownsRow _ _ _ _ _ _ _;rw[List.flatMap_append];exact k.out),aw,aJ,aL,E'⟩
 have d:Lib.indexByte [34,92,110] c[b+1]= -1:=by
  have f:((34:UInt8)==c[b+1])=false:=by simpa using λe=>G e.symm
  have g:((92:UInt8)==c[b+1])=false:=by simpa using λe=>Y e.symm
  have b:((110:UInt8)==c[b+1])=false:=by simpa using λe=>am e.symm
  simp[Lib.indexByte,f,g,b]
 rw[d]at o;have E':=Z (show j=.bad 5 by rw[E.out,n.out,s,X.out,qY,if_neg G,if_neg Y,if_neg am]);clear E;go_wp2_with (first|(go_at_call 158;refine(o.out _).mono ?_;rintro e i ⟨rfl,ar⟩;rw[ar];clear ar i)|(go_at_call 86;refine(kf B 5 a _ c1).mono ?_;rintro e w3 ⟨rfl,rfl⟩))
 refine⟨rfl,?_⟩;rw[E'.out];exact⟨K.same,rfl⟩
theorem sX {d:Program} {e:Code} {c:Exit->Act->World->Prop} {a:Act} {b:ah} (h:∀f:Exit->Act->World->Prop,Hid (∀g a b,c g a b->f g a b)->e.wp d f a b):e.wp d c a b:=
 h c (Z λ_ _ _ h=>h)
theorem FW (a b c:Nat) (j k m:aA) (er at_:Int) (n:List PanicEntry) (d:ah) (e:aa d a 121 #[j]) (f:aa d b 76 #[k]) (g:aa d c 3 #[m]) (q:a≠b) (r:a≠c) (s:b≠c):
 CallsD prog 80 #[ak a,ak b,ak c] (.panicking ({v:=oZ er at_,recovered:=false}::n)) d λu w i=>
  u=.returned (.tuple #[])/\w=.panicking ({v:=oZ er at_,recovered:=true}::n)/\aa i a 121 #[ab]/\aa i b 76 #[er]/\aa i c 3 #[at_]/\Kp [a,b,c] d i:=by
 have i:∀(i:ah) (n:aA),(Instr.typeAssert (.iface 178 n) 20 178 true).run prog i=.ok (.tuple #[n,.bool true]) i:=λ_ _=>by kernel_rfl
 have n:=λi=>aa.frozen e i;have n:=λi=>aa.frozen f i;have i:=λi=>aa.frozen g i;have i:ae d (ac a 0) j:=aa.cell e 0;have i:ae d (ac b 0) k:=aa.cell f 0;have i:ae d (ac c 0) m:=aa.cell g 0;have i:=e.lt;have j:=f.lt;have k:=g.lt;have m:=bb i;have m:=bb j;have m:=bb k;have i:=Nat.ne_of_gt i;have i:=Nat.ne_of_gt j;have i:=Nat.ne_of_gt k;have i:=q.symm;have i:=r.symm;have i:=s.symm;have x:=Z e;have y:=Z f;have z:=Z g;clear e f g;refine callsD_of_wpS func80 rfl λe e o=>?_;rw[ntmps80];show Code.wpS _ _ _ {tmps:=#[ak a,ak b,ak c,undef,undef,undef,undef,undef,undef,undef,undef,undef,undef,undef,undef,undef,undef,undef,undef,undef,undef],defers:=[]} _ _;apply wpS_seq;apply wpS_region;simp[wpOpsS,go_sem,recoverD,o,Exit.thenS,oZ];apply wpS_seq;apply wpS_region;simp[wpOpsS,go_sem,Exit.thenS];refine wpS_cond (t:=true) nU ?_;simp only[if_true];refine wpS_of_wp ?_;refine sX ?_;intro e e;have A:=Z e;clear o e;go_wp2_with fail
 go_region
 refine A.out.out _ _ _ ?_;have e:=Z (aa.far (aa.far (x.out.aR 0 ab) (p:=(ac b 0)) aG er) (p:=(ac c 0)) aG at_);have f:=Z (aa.far ((aa.far y.out (p:=(ac a 0)) aG ab).aR 0 er) (p:=(ac c 0)) aG at_);have g:=Z ((aa.far (aa.far z.out (p:=(ac a 0)) aG ab) (p:=(ac b 0)) aG er).aR 0 at_);have a:=Z (Kp.aI (p:=(ac c 0)) (l:=[a,b,c]) aj (Kp.aI (p:=(ac b 0)) aj (Kp.aI (p:=(ac a 0)) aj (Kp.refl [a,b,c] d) ab) er) at_);simp[bodyPostS,results,results80];exact⟨(e.out.alloc _).drew,(f.out.alloc _).drew,(g.out.alloc _).drew,(a.out.alloc _).drew⟩
theorem FX (a b c:Nat) (d:ah):
 CallsD prog 80 #[ak a,ak b,ak c] .returning d λe f g=>e=.returned (.tuple #[])/\f=.returning/\g=d:=by
 refine callsD_of_wpS func80 rfl λi d j=>?_;rw[ntmps80];show Code.wpS _ _ _ {tmps:=#[ak a,ak b,ak c,undef,undef,undef,undef,undef,undef,undef,undef,undef,undef,undef,undef,undef,undef,undef,undef,undef,undef],defers:=[]} _ _;apply wpS_seq;apply wpS_region;simp[wpOpsS,go_sem,recoverD,j,Exit.thenS];apply wpS_seq;apply wpS_region;simp[wpOpsS,go_sem,Exit.thenS];refine wpS_cond (t:=false) nU ?_;simp only[Bool.false_eq_true,if_false];refine wpS_of_wp (wp_skip ?_);cases i;simp_all [bodyPostS,results,results80]
theorem FY (a:Nat) (d f:aA) (er at_:Int) (c:List PanicEntry) (b:ah) (h:aa b a 97 #[d,f]):
 CallsD prog 106 #[ak a] (.panicking ({v:=fD er at_,recovered:=false}::c)) b λf g d=>
  f=.returned (.tuple #[])/\g=.panicking ({v:=fD er at_,recovered:=true}::c)/\aa d a 97 #[er,at_]/\Kp [a] b d:=by
 have c:∀(c:ah) (d:aA),(Instr.typeAssert (.iface 97 d) 20 97 true).run prog c=.ok (.tuple #[d,.bool true]) c:=λ_ _=>by kernel_rfl
 have c:=λc=>aa.frozen h c;have c:=ay h;have c:=aS h;have c:=h.lt;have i:=Z h;clear h;refine callsD_of_wpS func106 rfl λc c e=>?_;rw[ntmps106];show Code.wpS _ _ _ {tmps:=#[ak a,undef,undef,undef,undef,undef,undef,undef,undef,undef,undef,undef,undef,undef],defers:=[]} _ _;apply wpS_seq;apply wpS_region;simp[wpOpsS,go_sem,recoverD,e,Exit.thenS,fD];apply wpS_seq;apply wpS_region;simp[wpOpsS,go_sem,Exit.thenS];refine wpS_cond (t:=true) nU ?_;simp only[if_true];refine wpS_of_wp ?_;refine sX ?_;intro c c;have j:=Z c;clear e c;go_wp2_with fail
 refine j _ _ _ ?_;have c:=Z ((i.aR 0 er).aR 1 at_);have a:=Z (Kp.aI (p:=(ac a 1)) (l:=[a]) aj (Kp.aI (p:=(ac a 0)) aj (Kp.refl [a] b) er) at_);simp[bodyPostS,results,results106];exact⟨c,a⟩
theorem FZ (a:Nat) (b:ah):
 CallsD prog 106 #[ak a] .returning b λc d e=>c=.returned (.tuple #[])/\d=.returning/\e=b:=by
 refine callsD_of_wpS func106 rfl λf b g=>?_;rw[ntmps106];show Code.wpS _ _ _ {tmps:=#[ak a,undef,undef,undef,undef,undef,undef,undef,undef,undef,undef,undef,undef,undef],defers:=[]} _ _;apply wpS_seq;apply wpS_region;simp[wpOpsS,go_sem,recoverD,g,Exit.thenS];apply wpS_seq;apply wpS_region;simp[wpOpsS,go_sem,Exit.thenS];refine wpS_cond (t:=false) nU ?_;simp only[Bool.false_eq_true,if_false];refine wpS_of_wp (wp_skip ?_);cases f;simp_all [bodyPostS,results,results106]
def sY (b:Int×Int->World->Prop) (c:Ending) (d:ah):Prop:=∃a:Int×Int,c=.returned (.agg #[a.1,a.2])/\b a d
theorem xG (d:Nat) (g:Int) (n:FuncId) (r:aQ) (c:∀args b,(callFunc n args).run prog b=.ok (.enter n args) b) (u0 u1 u2 u3 u4 u5 u6 u7 u8:aA) (b:ah) (i:aa b d 157 #[u0,u1,u2,u3,u4,u5,u6,u7,u8]) (j:Int×Int->World->Prop) (l:List Nat) (B:∀c∈l,c<b.heap.size)
 (s:∀p c o,j p c->Kp [b.heap.size] c o->b.heap.size<c.heap.size->j p o)
 (t:∀c,aa c d 157 #[u0,u1,u2,u3,u4,u5,u6,u7,g]->Kp [d] b c->b.heap.size<c.heap.size->Calls prog n r c λk o=>Kp l c o/\((k=.returned (.tuple #[])/\j (0,0) o)\/∃er a,k=.panicked [{v:=fD er a,recovered:=false}]/\j (er,a) o)):
 Calls prog 59 #[ak d,g,.func (.func n) #[] r] b (sY j):=by
 have c:∀(c:Fn) (first cap:aQ) (b:ah),(Instr.makeFunc c first cap).run prog b=.ok (.func c first cap) b:=λ_ _ _ _=>rfl;have u:=Z s;have c:=i.lt;have c:=bb c;have c:=c.symm;have w:=Z (show aa ((b.setCell (ac d 8) g).alloc (.cells #[J 0,J 0] 97)) b.heap.size 97 #[J 0,J 0] by simpa using aa.new (b.setCell (ac d 8) g) 97 #[J 0,J 0]);have x:=Z ((i.aR 8 g).alloc (.cells #[J 0,J 0] 97));have C:=λq=>aa.frozen i q;have D:=b4 i;have y:=Z (t ((b.setCell (ac d 8) g).alloc _) x ((Kp.aI aj (Kp.refl [d] b) _).alloc _) aj);clear i t s;go_enter_defers func59,ntmps59
 go_wp2_with fail
 refine y.mono ?_;rintro k z ⟨c,h⟩;have e:=Z (c.blk w (λc=>by have:=B _ c;omega));clear y x C D;rcases h with⟨rfl,m⟩|⟨er,a,rfl,m⟩
 ·have E:=Z m
  have c:=λq=>aa.frozen e q;have c:=ay e;have c:=aS e;have A:=Z ((e.aR 0 (J 0)).aR 1 (J 0));have F:=Z (Kp.aI (p:=(ao b 1)) (l:=[b.heap.size]) aj (Kp.aI (p:=(ao b 0)) aj (Kp.refl [b.heap.size] z) (J 0)) (J 0));clear m w;go_wp2;refine leaves_cons (f:=106) (args:=#[ak b.heap.size]) aj kQ ?_;refine(FZ b.heap.size _).mono ?_;rintro k c c ⟨rfl,rfl,rfl⟩;have e0:=aa.cell A 0;have G:=aa.cell A 1;refine⟨.agg _,?_,(0,0),rfl,u _ _ _ E F e.lt⟩;simp[results,results59,go_sem,e0,G]
 have E:=Z m;clear m;go_wp2;refine leaves_cons (f:=106) (args:=#[ak b.heap.size]) aj kQ ?_;refine(FY b.heap.size _ _ er a [] z e).mono ?_;rintro k b b ⟨rfl,rfl,A,F⟩;have e0:=aa.cell A 0;have G:=aa.cell A 1;refine⟨.agg _,?_,(er,a),rfl,u _ _ _ E F e.lt⟩;simp[results,results59,go_sem,e0,G]
theorem Tryz.F2:(prog.info? 136).map (λa=>(a.zero,a.size,a.bytes))=some (some (.agg #[ai,J 0]),2,24):=am
theorem F3 (g r:Nat) (c:RI) (f:Int) (u0 u2 u3 u4 u5 u6 u7:aA) (j:aU) (a k:Nat) (az:List Og) (w:ah) (p:aa w g 157 #[u0,O j a k,u2,u3,u4,u5,u6,u7,f]) (aP:w.ownsRow r 136 2 (O j a k) a (az.flatMap Og.cells)) (aE:az.length=a) (a3:g<r) (aE:r<=w.heap.size) (aE:a<=64):
 Calls prog 114 #[ak g,.agg c.cells.toArray] w λm w'=>jy w (RO.ap (decide (a<64)) 3 f (RO.ap (aY c.n 0 100) 2 f (.ok (⟨c.name,c.n⟩:Og))))
  (λaE w'=>fP w w' g r 136 2 Og.cells j a k az aE (λh=>#[u0,h,u2,u3,u4,u5,u6,u7,f])) m w':=by
 obtain⟨a4,a5,a6,a7,a8⟩:=info_parts Tryz.F2;have a9:=Z (rfl:RO.ap (decide (a<64)) 3 f (RO.ap (aY c.n 0 100) 2 f (.ok (⟨c.name,c.n⟩:Og)))=RO.ap (decide (a<64)) 3 f (RO.ap (aY c.n 0 100) 2 f (.ok (⟨c.name,c.n⟩:Og))));obtain⟨aD,aE⟩:∃aD,aD=RO.ap (decide (a<64)) 3 f (RO.ap (aY c.n 0 100) 2 f (.ok (⟨c.name,c.n⟩:Og))):=⟨_,rfl⟩;rw[<-aE];have o:=Z aE;clear aE a9;obtain⟨s,d,t,u,v,⟨x,y,z⟩,bm,⟨A,B,C⟩,bn,D,b,E,⟨F,G,H⟩,bo,I,J,⟨K,L,M⟩,bp,⟨N,P,Q⟩,bq,⟨R,T,U⟩,br,⟨V,W,⟨X,Y,ab⟩,bs,⟨ad,ai,aj⟩,bt,⟨al,am,an⟩,bu,aq,ar,av,ax⟩⟩:=c;replace o:Hid (aD=RO.ap (decide (a<64)) 3 f (RO.ap (aY b 0 100) 2 f (.ok (⟨d,b⟩:Og)))):=o;have aF:=Z (λc=>fM b 0 100 c);generalize aY b 0 100=ba at o aF;have bc:=Z p;have aQ:=Z aP;have c:=p.lt;have aG:=Z (aa.new w 95 #[s,d,t,u,v,O x y z,O A B C,D,b,E,O F G H,I,J,O K L M,O N P Q,O R T U,V,W,O X Y ab,O ad ai aj,O al am an,aq,ar,av,ax]);have aB:=Z (p.alloc (.cells #[s,d,t,u,v,O x y z,O A B C,D,b,E,O F G H,I,J,O K L M,O N P Q,O R T U,V,W,O X Y ab,O ad ai aj,O al am an,aq,ar,av,ax] 95));have i:=Z ((ag.refl w).alloc (.cells #[s,d,t,u,v,O x y z,O A B C,D,b,E,O F G H,I,J,O K L M,O N P Q,O R T U,V,W,O X Y ab,O ad ai aj,O al am an,aq,ar,av,ax] 95));have aC:=aS p;have q:=b4 p;have c:=bb c;show Calls prog 114 #[ak g,.agg #[s,d,t,u,v,O x y z,O A B C,D,b,E,O F G H,I,J,O K L M,O N P Q,O R T U,V,W,O X Y ab,O ad ai aj,O al am an,aq,ar,av,ax]] w _;clear p aP;go_enter func114,ntmps114
 go_upto_region 1 with(fail)
 obtain⟨e,c⟩:∃e,e=w.alloc (.cells #[s,d,t,u,v,O x y z,O A B C,D,b,E,O F G H,I,J,O K L M,O N P Q,O R T U,V,W,O X Y ab,O ad ai aj,O al am an,aq,ar,av,ax] 95):=⟨_,rfl⟩;rw[<-c]at aG aB i⊢;have f:w.heap.size<e.heap.size:=by rw[c];simp
 have bd:=Z (aK i aQ);clear c aC q bc;have aC:=aS aB;have q:=b4 aB;have aH:=aS aG;have aI:=b4 aG;by_cases aR:a<64
 case neg=>
  have c:¬(a:Int)<64:=af
  have c:=decide_eq_false c;rw[decide_eq_false aR]at o;go_wp2_with fail
  refine fN (w:=w) (l:=[]) (Kp.of_same i.out) o.out q ?_ (λ_ h=>by cases h);intro ay _;go_wp2;refine⟨rfl,?_⟩;rw[ay.out];exact⟨rfl,i.out⟩
 have c:(a:Int)<64:=af
 have c:=decide_eq_true c;rw[decide_eq_true aR]at o;go_wp2_with fail
 refine fN (w:=w) (l:=[]) (Kp.of_same i.out) o.out q (λ_ h=>by cases h) ?_;intro aJ _;clear o;go_wp2_with fail
 refine(aF.out e).mono ?_;rintro m w' ⟨rfl,rfl⟩;cases ba
 case false=>
  go_wp2_with fail
  refine fN (w:=w) (l:=[]) (Kp.of_same i.out) aJ.out q ?_ (λ_ h=>by cases h);intro ay _;go_wp2;refine⟨rfl,?_⟩;rw[ay.out];exact⟨rfl,i.out⟩
 go_wp2_with fail
 refine fN (w:=w) (l:=[]) (Kp.of_same i.out) aJ.out q (λ_ h=>by cases h) ?_;intro bh _;clear aJ aF;go_upto_region 3 with(fail)
 refine eI 13 (S:=(λw'=>ae w' (ac g 1) (O j a k)/\ae w' (ao w 1) d/\ae w' (ao w 8) b)) ⟨aC,aH,aI⟩ (λhS=>?_);refine dv ?_;refine eA ?_;have bi:(λw':World=>ae w' (ac g 1) (O j a k)/\ae w' (ao w 1) d/\ae w' (ao w 8) b) (e.drew.alloc (.cells #[d,b] 136)):=⟨(World.cell?_alloc_lt _ _ _ cK).trans aC,(World.cell?_alloc_lt _ _ _ cK).trans aH,(World.cell?_alloc_lt _ _ _ cK).trans aI⟩;refine aM 11 (λaT ay=>?_);go_simp;refine ay.out _ _ (λ_=>bi) ?_;refine aw ?_;have aV:=Z (aK ((ag.refl e.drew).alloc (.cells #[d,b] 136)) (aK ((ag.refl e).drew) bd));have aW:=Z (cO e.drew #[d,b] 136 2 rfl);have aX:=Z (aB.drew.alloc (.cells #[d,b] 136));refine aM 12 (λaT ay=>?_);refine di (e.drew.alloc (.cells #[d,b] 136)) (.tmp 23) (.tmp 29) 30 rfl r 136 a4 _ 2 24 underlying30 a5 a6 a7 a8 rfl au (O j a k) a (az.flatMap Og.cells) rfl aV.out (e.heap.size+1) (some ⟨e.heap.size,0,none⟩) 1 1 ((#[d,b]:Array Value).toList) rfl aW.out bw cc af cK ?_;intro b b aL aZ a0;obtain⟨a1,a2,rfl,bj⟩:=bv aL;have b:=b2 aQ;have c:some g≠(.slice j a k:aA).ownBlock:=λm=>by have:=b g m.symm;omega
 have aN:=Z (aX.grown aZ c);have d:=aS aN;have c:=λc=>aa.frozen aN c;have bk:=Z aL;have aO:=Z (fO (((Kp.refl [] e).drew).alloc _) aZ);have bl:=Z (show(Value.slice a1 (a+1) a2).ownBlock=(.slice j a k:aA).ownBlock\/∃c,(Value.slice a1 (a+1) a2).ownBlock=some c/\e.heap.size<=c from a0.imp id (λh=>⟨_,h,by simp[eo]⟩));clear aL a0 bj aV aW aX;refine ay.out _ _ (λ_=>⟨d,cX aO.out (by show w.heap.size<_;omega) (λm=>by have h:=b _ m.symm;dsimp only at h;omega) aH,cX aO.out (by show w.heap.size<_;omega) (λm=>by have h:=b _ m.symm;dsimp only at h;omega) aI⟩) ?_;refine aw ?_;refine bZ ?_;refine tq 13 ?_;refine tq 14 ?_;refine tq 15 ?_;refine dt 16 (λaT ay=>?_);go_simp;refine ay _ _ ?_;refine aw ?_;refine bM ?_;go_wp2_with fail
 refine bodyPost_ret (results_none rfl _ _ _) rfl ?_;rw[bh.out];exact⟨rfl,fP.jx i.out aN.out bk.out aO.out a3 rfl bl.out⟩
theorem GT {d i l g:ah} {a:List RA} {b:Nat} {f:ax} {o:Int} {e:bk} {p:V} {h:Hd} {m n j:aA} {k:Nat} (r:b<a.length) (s:(⟨⟨f,o,e,p⟩,h⟩:RA)=a[b])
 (t:Below d.heap.size d i) (o:d.heap.size<=i.heap.size) (u:∀c,m.ownBlock=some c->d.heap.size<=c) (p:i.grownBy l m.ownBlock) (i:∀c,n.ownBlock=some c->d.heap.size<=c)
 (m:g.ownsRow d.heap.size 9 1 j ((en (a.take b)).length+1+k) ((en (a.take b)).map .string++[.string f]++e.map .string)) (v:l.grownBy g n.ownBlock) (l:e.length=k)
 (w:gN a[b].at_=true) (x:∀c (q:c<a.length),c<b->gN a[c].at_=true):yd d a (b+1) j g:=by
 refine⟨Below.grown (Below.grown t p o u) v (bJ o p.size) i,?_,?_⟩
 ·rw[GQ a b r,<-s]
  have i:((en (a.take b)++[f]++e).map Value.string)=(en (a.take b)).map .string++[.string f]++e.map .string:=aj
  have k:(en (a.take b)++[f]++e).length=(en (a.take b)).length+1+k:=by simp[l];omega
  show g.ownsRow d.heap.size _ 1 j ((en (a.take b)++[f]++e).length) ((en (a.take b)++[f]++e).map Value.string);rw[i,k];exact m
 intro c q a;by_cases y:c=b
 ·subst y;exact w
 exact x c q af
theorem GU (n:RT) (e:ah) (a:fq e n) (am:∀r∈n.ra,r.at_.was.length<=1000000) (P:bC n.name=true) (Q:¬n.ra.length=0) (aZ:¬12<n.ra.length) (R:¬n.key.length=0):
 Calls prog 40 #[n.val] e λf an=>f=.returned (.bool (hE n.tb))/\ag e an:=by
 obtain⟨ap,aq,ar,aw,ax⟩:=info_parts Tryz.GP;have ay:=a.1.1.1;have az:=a.2.1.1;have a0:=a.2.1.2.1;have aA:=Z (λb=>p3 n.name b a.2.2);rw[P]at aA;have a1:=Z (nZ n.tb);have S:=Z (λ(b:ah) (c:ag e b)=>a.1.same c);have a2:=Z (λ(b:ah) (c:ag e b)=>a.2.1.same c);have T:=Z am;have a3:=Z P;clear a am P;obtain⟨B,⟨C,a4,D⟩,b,⟨E,a5,F⟩,d⟩:=n;generalize y:RT.tb ⟨B,⟨C,a4,D⟩,b,⟨E,a5,F⟩,d⟩=k at a1⊢;have n:=Z y;have s:Hid (k.attrs=b.map RA.at_):=by rw[<-y];rfl
 have aB:Hid (k.key=d):=by rw[<-y];rfl
 have a6:Hid (k.name=B):=by rw[<-y];rfl
 clear y;simp only at ay az Q aZ R a0;subst ay az;have n:((b.length:Int)==0)=false:=by simpa using Q
 have n:((d.length:Int)==0)=false:=by simpa using R
 show Calls prog 40 #[.agg #[B,O C b.length D,O E d.length F]] e _;go_enter func40,ntmps40
 go_wp2_with (go_at_call 72;refine(aA.out _).mono ?_;rintro f an ⟨rfl,rfl⟩)
 obtain⟨g,n⟩:=av (e.alloc (.cells #[B,O C b.length D,O E d.length F] 81));rw[<-n];have y:ag e g:=by rw[n];exact(ag.refl _).alloc _
 have B:g.heap.size=e.heap.size+1:=by rw[n];simp
 have a7:ae g (ao e 1) (O C b.length D):=by rw[n];simp
 have a8:ae g (ao e 2) (O E d.length F):=by rw[n];simp
 have U:=Z y;clear n y;go_loopw [3,33] (λi j wr=>∃c:Nat,c<=b.length/\j=.int .i64 c/\Hid (yd g b c i wr)) (λ_ c _=>b.length-(intOf c).toNat)
 case atStart=>exact⟨0,Nat.zero_le _,rfl,ag.refl _,⟨rfl,.inl ⟨rfl,rfl⟩⟩,λc _ c=>absurd c (Nat.not_lt_zero _)⟩
 obtain⟨c,V,rfl,p⟩:=hrel;by_cases m:c<b.length
 ·have z:Hid (ag e wr):=U.out.trans p.out.1
  obtain⟨n,B,y,C,i⟩:=(S wr z).1.2.2 c m;have aN:=y;obtain⟨K,W,X⟩:=(S e (ag.refl _)).2 b[c] (List.getElem_mem m);have Y:=T b[c] (List.getElem_mem m);obtain⟨aO,n⟩:=av (b[c]);rw[<-n]at i K W X Y;have aa:=Z n;clear n y;subst aN;obtain⟨⟨G,t,ab,⟨u,w,x⟩⟩,⟨H,j,I⟩⟩:=aO;have n:=i 0 G rfl;have y:=i 1 t rfl;have y:=i 2 (O H j I) rfl;have y:=i 3 u rfl;have y:=i 4 w rfl;have y:=i 5 x rfl;simp only[Nat.add_zero]at n;have ac:=Z K;have aC:Hid (∀n,Calls prog 73 #[t,.agg #[u,w,x]] n λf y=>f=.returned (.bool (ij t ⟨u,w,x⟩))/\ag n y):=λn=>uL t ⟨u,w,x⟩ n;have A:Hid (gN b[c].at_=(k0 t&&ij t ⟨u,w,x⟩)):=by rw[<-aa.out];rfl
  generalize ij t ⟨u,w,x⟩=aD at aC A;clear i K W X;go_upto_region 9 with(go_at_call 73;refine(aC.out _).mono ?_;rintro f l ⟨rfl,J⟩;have o:=Z J;have q:=J.cells;have ad:=J.size;clear J)
  ·go_ret
   exact⟨cj (s9 s c m (by rw[A.out];cases aD<;>simp_all [k0]<;>omega)).symm,(z.alloc _).trans o⟩
  ·have i:ag wr l:=((ag.refl wr).alloc _).trans o.out
   have J:=Z (aK i p.2.1);have n:u3.ownBlock≠some wr.heap.size:=λf=>by have:=p.out.2.1.lt _ f;omega
   have t:ae l (ao wr 0) G:=(q _ _ aj).trans aj;have aP:ae l (ao wr 2) (O H j I):=(q _ _ aj).trans aj;have aE:wr.heap.size<l.heap.size:=by simp at ad;omega
   have t:=p.1.size;have aQ:=Z (A5 ac.1);have aG:Hid (ab.length=j):=ac.1.1;have u:j<=1000000:=by rw[<-aG.out];exact Y
   have aR:=Z n;have u:(en (b.take c)).length<=12000012:=by
    have:=yb (rs:=b.take c) (λr u=>T.out r (List.mem_of_mem_take u));have R:(b.take c).length<=12:=aF
    omega
   have aH:Hid ((en (b.take c)).length+1<=maxLen/\((en (b.take c)).length+1)*16<=140737488355328):=⟨by unfold maxLen;omega,by omega⟩;have aI:Hid ((en (b.take c)).length+1+j<=maxLen/\((en (b.take c)).length+1+j)*16<=140737488355328):=⟨by unfold maxLen;omega,by omega⟩;have L:Hid (g.heap.size<=l.heap.size):=by show g.heap.size<=l.heap.size;omega
   have aL:=Z i;clear i n q;have aS:Hid (g.heap.size<=wr.heap.size):=t;have aT:Hid (g.heap.size<=(l.alloc (.cells #[G] 9)).drew.heap.size):=bJ L (od _ _);have a9:Hid (e.heap.size<=l.heap.size):=by show e.heap.size<=l.heap.size;omega
   have bb:Hid (e.heap.size<=g.heap.size):=by show e.heap.size<=g.heap.size;omega
   go_region_law (first
    |(refine oe _ rfl (.tmp 53) (.tmp 56) 83 rfl g.heap.size 9 ap _ 1 16 underlying83 aq ar aw ax rfl au u3 _ _ rfl (J.out.drew.alloc _) _ _ 1 1 [.string G] rfl (AF _ _ _) (λi aM=>by simp at aM;subst aM;rfl) aH.out.1 aH.out.2 ?_ ?_;exact bJ L.out (od _ _);intro ai n t i u;have aU:ae n (ao wr 2) (O H j I):=((World.cell?_of_block (a:=⟨wr.heap.size,2,none⟩) (i.block wr.heap.size (aV aE (od _ _)) aR.out.symm)).trans ((((ag.refl l).alloc _).drew).cells _ 2 aE)).trans aP;have ak:=Z t;have al:=Z i;have aW:Hid (Below e.heap.size e n):=Below.grown (((z.out.trans aL.out).alloc _).drew) i (bJ a9.out (od _ _)) (λc V=>bJ bb.out (J.out.lt c V).1);clear t i u)
    |(refine oe _ rfl (.tmp 57) (.tmp 59) 83 rfl g.heap.size 9 ap _ 1 16 underlying83 aq ar aw ax rfl au ai _ _ rfl ak.out e.heap.size H j I (ab.map .string) rfl (aQ.out.below aW.out) (λi aM=>by obtain⟨bc,_,rfl⟩:=List.mem_map.1 aM;rfl) aI.out.1 aI.out.2 ?_ ?_;exact bJ (bJ L.out (od _ _)) al.out.size;intro i i i j n;have aX:=Z i;have aY:=Z j;clear i j n aU))
   all_goals
    go_wp2;go_roundw
    case rel=>exact⟨c+1,by omega,by go_num,GT m aa.out (Below.trans p.out.1 (Below.mono (aL.out.alloc _).drew aS.out)) aT.out (λi j=>(J.out.lt i j).1) al.out (λi j=>(ak.out.lt i j).1) aX.out aY.out aG.out (by rw[A.out];cases aD<;>simp_all [k0]) p.out.2.2⟩
    simp[intOf];omega
  ·go_ret
   exact⟨cj (s9 s c m (by rw[A.out];simp[k0];omega)).symm,z.alloc _⟩
  go_ret;exact⟨cj (s9 s c m (by rw[A.out];simp[k0];omega)).symm,z.alloc _⟩
 have a9:c=b.length:=af
 subst a9;obtain⟨x,t,aC⟩:=p.out;rw[List.take_length]at t;obtain⟨i,u⟩:=av (en b);rw[<-u]at t;have aD:0<i.length:=by
  rw[u];cases b with
  |nil=>simp at Q
  |cons r b=>simp[en,d7]
 have n:i.length<=12000012:=by
  have:=yb (rs:=b) T.out;rw[<-u]at this;omega
 obtain⟨W,G,bb,n,y⟩:=t.form aD;subst bb;have n:i.length<=G:=by
  rcases t.2 with⟨f,_⟩|⟨w,z,A,f,_,_,j,_⟩
  ·cases f
  injection f with _ _ f;subst f;exact j
 have n:=Z u;have bc:Hid (∀j∈i,aJ j):=by
  intro w j;rw[u]at j;obtain⟨a,z,j⟩:=p6.1 j;obtain⟨r,A,rfl⟩:=List.mem_map.1 z;obtain⟨M,N,_⟩:=(S e (ag.refl _)).2 r A;rcases j with rfl|j
  ·exact N
  exact M.2 w j
 have H:Hid (k4 k=i):=by rw[u];show d7 k.attrs=_;rw[s.out];rfl
 have bd:Hid (k.attrs.all gN=true):=by
  rw[s.out,List.all_eq_true];intro a w;obtain⟨r,z,rfl⟩:=List.mem_map.1 w;obtain⟨A,j,rfl⟩:=List.mem_iff_getElem.1 z;exact aC A j j
 have be:Hid ((bC k.name&&(decide (1<=k.attrs.length)&&decide (k.attrs.length<=12)&&decide (1<=k.key.length)))=true):=by
  rw[a6.out,s.out,aB.out,a3.out,List.length_map,decide_eq_true af,decide_eq_true af,decide_eq_true af];rfl
 have bf:=Z t;have aE:=Z x;have aG:=(x.cells _ 1 af).trans a7;have aH:=(x.cells _ 2 af).trans a8;have n:=x.size;have bg:=Z (GO ⟨some ⟨W,0,none⟩,i.length,G⟩ i wr ⟨GF t rfl af,bc⟩);clear t x aC u p;go_wp2_with fail
 refine bg.mono ?_;rintro f l ⟨rfl,o⟩;have q:=o.cells;have ad:=o.size;cases hbad:(i.any λj=>!bC j)with
 |true=>
  have j:=Z hbad;clear hbad;go_wp2;go_ret;refine⟨cj ?_,(U.trans aE).trans o⟩;have:(k4 k).all bC=false:=by
   rw[H.out];have:=j.out;simp only[List.any_eq_true,Bool.not_eq_true']at this;obtain⟨w,z,A⟩:=this;rw[List.all_eq_false];exact⟨w,z,by simp[A]⟩
  rw[nZ,this];simp
 |false=>
  have bh:Hid ((k4 k).all bC=true):=by
   rw[H.out,List.all_eq_true];intro j n;simp only[List.any_eq_false,Bool.not_eq_true',Bool.not_eq_false]at hbad;exact hbad j n
  clear hbad;have aI:=aK o bf;obtain⟨n,z,aL,bi,aM,bj⟩:=GE aI aD;injection z with z
  injection z with z _ _
  subst z;have bk:=Z (GG g.heap.size W G i l aM bi aL af);have aN:=(q _ 1 af).trans aG;have aO:=(q _ 2 af).trans aH;clear aG aH q aI aM bj;go_wp2_with fail
  refine bk.mono ?_;rintro f bl ⟨rfl,I,br,X⟩;obtain⟨Y,n⟩:=av ((i.map ba).mergeSort λj n=>decide (j<=n));rw[<-n]at X;have p:Y.length=i.length:=by rw[n];simp
  have w:=Z (GK i);rw[<-n]at w;have aa:=Z (GH g.heap.size W G Y bl X aL af af);rw[p]at aa;have aP:=(Below.cell I (by show e.heap.size<_;omega)).trans aN;have aQ:=(Below.cell I (by show e.heap.size<_;omega)).trans aO;have bm:=Z (Below.trans (aE.trans o) I);clear aN aO I n X p;generalize (Lib.compact Y).length=aR at w aa;go_wp2_with fail
  refine aa.mono ?_;rintro f bn ⟨rfl,J⟩;have ai:=(Below.cell J (by show e.heap.size<_;omega)).trans aP;have e:=(Below.cell J (by show e.heap.size<_;omega)).trans aQ;have A:=Z (U.trans (Below.trans bm J));clear aP aQ J;cases hd:jT i with
  |true=>
   have e:aR<i.length:=by rw[hd]at w;exact of_decide_eq_true w.out
   have j:=Z hd;clear hd;go_wp2;go_ret;refine⟨cj ?_,A⟩;rw[nZ,H.out,j.out];simp
  |false=>
   have e:¬aR<i.length:=by rw[hd]at w;exact of_decide_eq_false w.out
   have e:=Z hd;clear hd;have ab:Hid (hE k=p5 b.length d):=by
    show hE k=_;rw[nZ,be.out,bd.out,bh.out,H.out,e.out,s.out,aB.out,List.length_map];simp
   have aS:=Z ((a2 bn A).one);go_wp2;go_loop [75] (λe=>∃c:Nat,c<=d.length/\e=.int .i64 c/\Hid (∀e,e<c->gA b.length d e=true)) (λe=>d.length-(intOf e).toNat)
   case atStart=>exact⟨0,Nat.zero_le _,rfl,λe e=>absurd e (Nat.not_lt_zero _)⟩
   obtain⟨c,V,rfl,ac⟩:=hrel;by_cases m:c<d.length
   ·obtain⟨e,f,hA2,g,e0⟩:=aS.out c m (v:=.int .i64 d[c]) rfl
    have bo:=hA2;subst bo;have K:d.getD c 0=d[c]:=by simp[List.getD_eq_getElem?_getD,m]
    by_cases bp:c=0
    ·subst bp
     have j:Hid (gA b.length d 0=(decide (0<=d[0])&&decide (d[0]<(b.length:Int)))):=by
      show gA b.length d 0=_;unfold gA;rw[K];simp
     generalize d[0]=L at e0 j;clear K hA2;simp only[Nat.add_zero]at e0;go_wp2
     all_goals
      first
       |(
        go_round
        case rel=>exact⟨0+1,by omega,rfl,s8 ac.out (by rw[j.out];simp;omega)⟩
        simp[intOf];omega)
       |(
        go_ret;refine⟨cj ?_,A⟩;rw[ab.out];exact(q8 0 m (by rw[j.out];simp;omega)).symm)
    obtain⟨j,rfl⟩:∃j,c=j+1:=⟨c-1,by omega⟩;obtain⟨c,e,hA3,_,bq⟩:=aS j af rfl;injection hA3 with hA3
    injection hA3 with M N _
    subst M N;have aT:d.getD j 0=d[j]'af:=by simp[List.getD_eq_getElem?_getD];rw[List.getElem?_eq_getElem af];rfl
    have L:Hid (gA b.length d (j+1)=(decide (0<=d[j+1])&&decide (d[j+1]<(b.length:Int))&&decide (d[j]'af<d[j+1]))):=by
     show gA b.length d (j+1)=_;unfold gA;rw[K,Nat.add_sub_cancel,aT];simp
    generalize d[j+1]=bs at e0 L;generalize d[j]'af=bt at bq L;clear K aT hA2;go_wp2
    all_goals
     first
      |(
       go_round
       case rel=>exact⟨j+1+1,by omega,by go_num,s8 ac.out (by rw[L.out];simp;omega)⟩
       simp[intOf];omega)
      |(
       go_ret;refine⟨cj ?_,A⟩;rw[ab.out];exact(q8 (j+1) m (by rw[L.out];simp;omega)).symm)
   go_wp2;go_ret;refine⟨cj ?_,A⟩;rw[ab.out];exact(xZ (λb c=>ac b af)).symm
theorem GV (a:RT) (c:ah) (d:fq c a) (g:∀e∈a.ra,e.at_.was.length<=1000000):
 Calls prog 40 #[a.val] c λe f=>e=.returned (.bool (hE a.tb))/\ag c f:=by
 by_cases b:bC a.name=false\/a.ra.length=0\/12<a.ra.length\/a.key.length=0
 ·refine(GS a c d b).mono ?_
  rintro e f ⟨rfl,i⟩;refine⟨cj ?_,i⟩;have e:a.tb.name=a.name:=rfl;have f:a.tb.attrs.length=a.ra.length:=by simp[RT.tb]
  have i:a.tb.key=a.key:=rfl;rw[nZ,e,f,i];rcases b with h|h|h|h
  ·simp[h]
  ·simp[h]
  ·rw[decide_eq_false (show¬a.ra.length<=12 by omega)];simp
  rw[h];simp
 simp only[not_or,Bool.not_eq_false]at b;exact GU a c d g b.1 b.2.1 b.2.2.1 b.2.2.2
def cL (a:List RT):Prop:=∀b∈a,∀a∈b.ra,a.at_.was.length<=1000000
def q9 (a:List Tb) (b:Nat):Bool:=match a[b]? with|some c=>hE c&&decide (cE a c.name=b)|none=>false
theorem GW (a:List Tb):gf a=(decide (a.length<=20)&&(List.range a.length).all (q9 a)):=rfl
theorem GX (h:Hd) (a:List RT) (b:ah) (f:bI b h a) (y:cL a):
 Calls prog 22 #[.agg #[h.val]] b λp w'=>p=.returned (.bool (gf (a.map RT.tb)))/\ag b w':=by
 have z:=f.1.1;have Q:=f.1.2.1;have R:=Z (λ(c:ah) (g:ag b c) (d:Nat) (e:d<a.length)=>GV a[d] c ((f.2 _ (List.getElem_mem e)).same g) (y _ (List.getElem_mem e)));have q:=Z (λ(c:ah) (d:ag b c) (e:ax)=>sd h a e c (f.same d));have S:=Z (λ(c:ah) (d:ag b c)=>(f.same d).1);have g:=Z (GW (a.map RT.tb));have A:Hid (∀c (d:c<a.length),q9 (a.map RT.tb) c=(hE a[c].tb&&decide (cE (a.map RT.tb) a[c].name=c))):=by
  intro c c;simp[q9,c];rfl
 have i:Hid ((a.map RT.tb).length=a.length):=List.length_map _;clear f y;obtain⟨r,Y,j⟩:=h;simp only at z Q;subst z;generalize a.map RT.tb=s at q g A i⊢;have T:Hid (∀c,ag b c->∀d,Calls prog 41 #[.agg #[O r a.length j],.string d] c λp w'=>p=.returned (J (cE s d))/\ag c w'):=q;clear q;show Calls prog 22 #[.agg #[O r a.length j]] b _;by_cases f:20<a.length
 ·go_enter func22,ntmps22
  go_wp2;go_ret;refine⟨cj ?_,(ag.refl b).alloc _⟩;rw[g.out,i.out,decide_eq_false af];rfl
 go_enter func22,ntmps22
 go_wp2;go_loopw [11] (λd wr=>∃c:Nat,c<=a.length/\d=.int .i64 c/\Hid (ag (b.alloc (.cells #[O r a.length j] 29)) wr)/\Hid (∀d,d<c->q9 s d=true)) (λc _=>a.length-(intOf c).toNat)
 case atStart=>exact⟨0,Nat.zero_le _,rfl,ag.refl _,λc c=>absurd c (Nat.not_lt_zero _)⟩
 obtain⟨c,aa,rfl,Sw,B⟩:=hrel;by_cases k:c<a.length
 ·have t:ag b wr:=((ag.refl b).alloc _).trans Sw.out
  have n:=Z t;obtain⟨C,D,U,f,l⟩:=(S wr t).2.2 c k;subst U;have o:=λd e=>R d e c k;have m:=A c k;obtain⟨tk,f⟩:=av (a[c]);rw[<-f]at l m;simp only[<-f]at o;clear f;generalize hE tk.tb=E at o m;have u:=λd e=>T d e tk.name;generalize cE s tk.name=V at u m;obtain⟨v,⟨F,G,H⟩,ab,⟨I,K,L⟩,ac⟩:=tk;have f:=l 0 v rfl;have p:=l 1 (O F G H) rfl;have q:=l 2 (O I K L) rfl;have r:ae wr (ao b 0) (O (some ⟨C,D,none⟩) a.length j):=(Sw.cells _ 0 aj).trans aj;have s:b.heap.size<wr.heap.size:=aV aj Sw.size;simp only[Nat.add_zero]at f;have s:Hid (Rt 40 #[.agg #[v,O F G H,O I K L]] b (.bool E)):=o;have a:Hid (Rt 41 #[.agg #[O (some ⟨C,D,none⟩) a.length j],v] b V):=u;have w:=Z m;clear l o u m t;have j:=aH f;have j:=aH p;have j:=aH q;have j:=aH r;have M:=kZ (λd e=>s d (n.trans e));have N:=kZ (λd e=>a d (n.trans e));clear f p q r;cases E
  case false=>
   go_wp2_with fail
   refine wp_region_quiet_below am am ?_;repeat (go_big_quiet_step (first|(go_at_call 40;exact M _ _)|(go_at_call 41;exact N _ _)))
   refine wpQuiet_nil ?_;intro _ W;obtain⟨⟨x,osq⟩,X⟩:=W;subst X;have P:=Z (ag.reg wr x osq);generalize Sort.grow (redrawn wr x) osq=ad at P⊢;go_wp2;go_ret;refine⟨cj ?_,n.trans P⟩;rw[g.out,i.out,q8 c k (by rw[w.out];rfl),Bool.and_false]
  go_wp2_with fail
  refine wp_region_quiet_below am am ?_;repeat (go_big_quiet_step (first|(go_at_call 40;exact M _ _)|(go_at_call 41;exact N _ _)))
  refine wpQuiet_nil ?_;intro _ W;obtain⟨⟨P,osq⟩,X⟩:=W;subst X;have x:=Z (ag.reg wr P osq);generalize Sort.grow (redrawn wr P) osq=ad at x⊢;go_wp2
  ·go_ret
   refine⟨cj ?_,n.trans x⟩;rw[g.out,i.out,q8 c k (by rw[w.out];simp_all),Bool.and_false]
  go_roundw
  case rel=>exact⟨c+1,by omega,by go_num,Sw.out.trans x.out,s8 B.out (by rw[w.out];simp_all)⟩
  simp[intOf];omega
 go_wp2;go_ret;refine⟨cj ?_,((ag.refl b).alloc _).trans Sw⟩;rw[g.out,i.out,xZ (λa b=>B.out a af),decide_eq_true af];rfl
def Cg.cells (a:Cg):List Value:=[.int .i64 a.kind,.string a.table,.string a.attr,.string a.name,.int .i64 a.dT,.int .i64 a.dflt.k,.int .i64 a.dflt.n,.string a.dflt.s]
def Cg.val (c:Cg):Value:=.agg c.cells.toArray
def bz (a:Nat):Value:=.func (.func a) #[] #[]
def g4:Value:=.agg #[.bool false,bz 245,bz 248,bz 249]
def g5:Value:=.agg #[.bool true,bz 250,bz 251,bz 253]
def g6:Value:=.agg #[.bool true,bz 255,bz 256,bz 258]
def g7:Value:=.agg #[.bool true,bz 259,bz 260,bz 261]
theorem ye (a:ah):Calls prog 177 #[] a λb c=>b=.returned g4/\ag a c:=by
 go_enter func177,ntmps177
 go_wp2;exact bodyPost_ret (v:=g4) (by simp[results,results177,go_sem,g4,bz]) rfl ⟨rfl,(ag.refl a).alloc _⟩
theorem yf (a:ah):Calls prog 178 #[] a λb c=>b=.returned g5/\ag a c:=by
 go_enter func178,ntmps178
 go_wp2;exact bodyPost_ret (v:=g5) (by simp[results,results178,go_sem,g5,bz]) rfl ⟨rfl,(ag.refl a).alloc _⟩
theorem yg (a:ah):Calls prog 179 #[] a λb c=>b=.returned g6/\ag a c:=by
 go_enter func179,ntmps179
 go_wp2;exact bodyPost_ret (v:=g6) (by simp[results,results179,go_sem,g6,bz]) rfl ⟨rfl,(ag.refl a).alloc _⟩
theorem yh (a:ah):Calls prog 180 #[] a λb c=>b=.returned g7/\ag a c:=by
 go_enter func180,ntmps180
 go_wp2;exact bodyPost_ret (v:=g7) (by simp[results,results180,go_sem,g7,bz]) rfl ⟨rfl,(ag.refl a).alloc _⟩
theorem yi (i:Cg) (w:ah):Calls prog 246 #[i.val] w λg q=>g=.returned (.bool (hG i))/\ag w q:=by
 obtain⟨j,k,l,m,a,⟨b,c,d⟩⟩:=i;have n:Hid (∀e,Calls prog 73 #[a,.agg #[b,c,d]] e λg f=>g=.returned (.bool (ij a ⟨b,c,d⟩))/\ag e f):=λi=>uL a ⟨b,c,d⟩ i;have f:Hid (hG ⟨j,k,l,m,a,⟨b,c,d⟩⟩=(decide (1<=a)&&decide (a<=4)&&ij a ⟨b,c,d⟩)):=rfl;generalize ij a ⟨b,c,d⟩=s at n f;generalize hG ⟨j,k,l,m,a,⟨b,c,d⟩⟩=t at f⊢;show Calls prog 246 #[.agg #[j,k,l,m,a,b,c,d]] w _;by_cases e:1<=a/\a<=4
 ·obtain⟨e,r⟩:=e
  go_enter func246,ntmps246
  go_wp2_with (go_at_call 73;refine(n.out _).mono ?_;rintro g b ⟨rfl,o⟩;have p:=Z o;clear o)
  go_ret;exact⟨cj (by rw[f.out,decide_eq_true e,decide_eq_true r];rfl),((ag.refl w).alloc _).trans p.out⟩
 have o:=Z e;clear e;go_enter func246,ntmps246
 by_cases e:1<=a
 ·have b:¬a<=4:=λh=>o.out ⟨e,h⟩
  go_wp2;go_ret;exact⟨cj (by rw[f.out,decide_eq_false (show¬a<=4 by omega)];simp),(ag.refl w).alloc _⟩
 go_wp2;go_ret;exact⟨cj (by rw[f.out,decide_eq_false (show¬1<=a by omega)];simp),(ag.refl w).alloc _⟩
theorem yj (c:RT) (a:Cg) (b:ah) (k:fq b c) (l:aJ a.name):
 Calls prog 247 #[c.val,a.val] b λe x=>e=.returned (J (gB c.tb a))/\ag b x:=by
 have f:=Z (λd=>p3 a.name d l);have i:=Z (λd (i:ag b d)=>qq c a.name d (k.same i));have d:Hid (gB c.tb a=if bC a.name then(if 0<=bu c.tb.attrs a.name then 9 else 0)else 1):=rfl;generalize bu c.tb.attrs a.name=m at i d;generalize gB c.tb a=G at d⊢;clear k l;obtain⟨n,⟨o,p,q⟩,H,⟨r,s,t⟩,I⟩:=c;obtain⟨y,z,A,j,B,⟨C,D,E⟩⟩:=a;simp only at f;generalize bC j=F at f d;have u:Hid (Rt 55 #[.agg #[n,O o p q,O r s t],j] b m):=i;clear i;show Calls prog 247 #[.agg #[n,O o p q,O r s t],.agg #[y,z,A,j,B,C,D,E]] b _;go_enter func247,ntmps247
 cases F
 case false=>
  go_wp2_with (go_at_call 72;refine(f.out _).mono ?_;rintro e a ⟨rfl,rfl⟩)
  go_ret;exact⟨eg (by rw[d.out];rfl),((ag.refl b).alloc _).alloc _⟩
 by_cases v:0<=m
 ·rw[if_pos rfl,if_pos v]at d
  go_wp2_with (first
   |(go_at_call 72;refine(f.out _).mono ?_;rintro e a ⟨rfl,rfl⟩)
   |(go_at_call 55;refine(u.out _ ?_).mono ?_;exact((ag.refl b).alloc _).alloc _;rintro e a ⟨rfl,w⟩;have g:=Z w;clear w))
  go_ret;exact⟨eg d.out.symm,(((ag.refl b).alloc _).alloc _).trans g.out⟩
 rw[if_pos rfl,if_neg v]at d;go_wp2_with (first
  |(go_at_call 72;refine(f.out _).mono ?_;rintro e a ⟨rfl,rfl⟩)
  |(go_at_call 55;refine(u.out _ ?_).mono ?_;exact((ag.refl b).alloc _).alloc _;rintro e a ⟨rfl,w⟩;have g:=Z w;clear w))
 go_ret;exact⟨eg d.out.symm,(((ag.refl b).alloc _).alloc _).trans g.out⟩
theorem te {b:List Tb} {a:Cg} (h:dz b a=0):ep a=true/\gf b=true/\∃(c:Nat) (e:c<b.length),cE b a.table=c/\b[c].name=a.table/\(a.kind≠1->0<=bu b[c].attrs a.attr)/\gC b[c] a (bu b[c].attrs a.attr).toNat=0:=by
 unfold dz at h;cases hf:ep a with
 |false=>rw[hf]at h;simp at h
 |true=>
  cases hv:gf b with
  |false=>rw[hf,hv]at h;simp at h
  |true=>
   rw[hf,hv]at h;simp only[Bool.and_self,if_true]at h;refine⟨rfl,rfl,?_⟩;rcases m4 (λd:Tb=>decide (d.name=a.table)) b with⟨f,_⟩|⟨c,e,f,i,_⟩
   ·have d:cE b a.table= -1:=f
    rw[d,if_pos af]at h;cases h
   have g:cE b a.table=c:=f;rw[g,if_neg af]at h;simp only[Int.toNat_natCast,List.getElem?_eq_getElem e]at h;have j:b[c].name=a.table:=by simpa using i
   by_cases d:(decide (a.kind≠1)&&decide (bu b[c].attrs a.attr<0))=true
   ·rw[if_pos d]at h;cases h
   rw[if_neg d]at h;refine⟨c,e,g,j,λa=>?_,h⟩;simp at d;exact d a
structure kT (t:Tb):Prop where
 nm:bC t.name=true
 l1:1<=t.attrs.length
 tf:t.attrs.length<=12
 k1:1<=t.key.length
 at_:∀a∈t.attrs,gN a=true
 names:∀x∈d7 t.attrs,bC x=true
 nodup:(d7 t.attrs).Nodup
 key:∀j,j<t.key.length->gA t.attrs.length t.key j=true
theorem ym {a:Tb}:hE a=true↔kT a:=by
 unfold hE;have a:k4 a=d7 a.attrs:=rfl;rw[a];simp only[Bool.and_eq_true,decide_eq_true_eq,Bool.not_eq_true',List.all_eq_true,p5,List.mem_range,uN];constructor
 ·rintro⟨⟨⟨⟨⟨a,⟨b,c⟩,d⟩,e⟩,f⟩,g⟩,i⟩
  exact⟨a,b,c,d,e,f,g,i⟩
 rintro⟨a,b,c,d,e,f,g,i⟩;exact⟨⟨⟨⟨⟨a,⟨b,c⟩,d⟩,e⟩,f⟩,g⟩,i⟩
theorem pF {c:Nat} {b:List Int} {a:Nat}:gA c b a=true↔(0<=b.getD a 0/\b.getD a 0<c)/\(a=0\/b.getD (a-1) 0<b.getD a 0):=by
 simp[gA]
theorem G7 {b:List Tb}:gf b=true↔b.length<=20/\∀a (c:a<b.length),kT b[a]/\cE b b[a].name=a:=by
 unfold gf;simp only[Bool.and_eq_true,decide_eq_true_eq,List.all_eq_true,List.mem_range];constructor
 ·rintro⟨b,d⟩
  refine⟨b,λa c=>?_⟩;have:=d a c;rw[List.getElem?_eq_getElem c]at this;simp only[Bool.and_eq_true,decide_eq_true_eq,ym]at this;exact this
 rintro⟨b,d⟩;refine⟨b,λa c=>?_⟩;rw[List.getElem?_eq_getElem c];simp only[Bool.and_eq_true,decide_eq_true_eq,ym];exact d a c
theorem G8 {b:Type} (a:List b) (b:Nat) (h:b<a.length):∃c d,a=c++a[b]::d/\c.length=b:=by
 refine⟨a.take b,a.drop (b+1),?_,by simp;omega⟩;rw[List.getElem_cons_drop,List.take_append_drop]
theorem tg {a:Type} (c:a->a) (d:a) (e:List a):∀b:List a,(b++d::e).modify b.length c=b++c d::e
 |[]=>by simp
 |y::b=>by simp[tg c d e b]
theorem yo {b:Type} (d:b) (c:List b):∀a:List b,(a++d::c).eraseIdx a.length=a++c
 |[]=>by simp
 |y::a=>by simp[yo d c a]
theorem G9 (a b:List At):d7 (a++b)=d7 a++d7 b:=by simp[d7]
theorem Ha {l:List At} {x:ax} (h:bu l x<0):x∉d7 l:=by
 intro a;obtain⟨b,c,d⟩:=p6.1 a;rcases rP l x with⟨_,e⟩|⟨f,g,i,_⟩
 ·exact e b c d
 omega
theorem yp {a:Cg} (h:ep a=true):a.kind=1\/a.kind=2\/a.kind=3\/a.kind=4:=by
 unfold ep at h;by_cases b:a.kind=1
 ·exact .inl b
 by_cases c:a.kind=2
 ·exact .inr (.inl c)
 by_cases d:a.kind=3
 ·exact .inr (.inr (.inl d))
 by_cases e:a.kind=4
 ·exact .inr (.inr (.inr e))
 rw[if_neg b,if_neg c,if_neg d,if_neg e]at h;cases h
theorem th (a:List Tb) (b:Cg):(gO a b).length=a.length:=by simp[gO]
theorem yq {a:List Tb} {c:Cg} {d:Nat} (b:d<a.length) (e:cE a c.table=d) (b:Nat) (f:b<a.length):(gO a c)[b]'(by rw[th];exact f)=if d=b then dH a[b] c else a[b]:=by
 simp only[gO,e,Int.toNat_natCast,List.getElem_modify]
theorem yr {b:Tb} {a:Cg} (l:ep a=true) (m:a.kind≠1->0<=bu b.attrs a.attr):
 (a.kind=1/\(dH b a).attrs=b.attrs++[⟨a.name,a.dT,[],a.dflt⟩])\/
 ∃f c g,b.attrs=f++c::g/\bu b.attrs a.attr=f.length/\((a.kind=2/\(dH b a).attrs=f++g)\/(a.kind=3/\(dH b a).attrs=f++⟨a.name,c.kind,c.was++[c.name],c.dflt⟩::g)\/(a.kind=4/\(dH b a).attrs=f++⟨c.name,a.dT,c.was,a.dflt⟩::g)):=by
 rcases yp l with d|d|d|d
 ·left;exact⟨d,by simp[dH,hH,d]⟩
 all_goals
  right
  have l:=m af;obtain⟨e,j⟩:∃e:Nat,bu b.attrs a.attr=e:=⟨_,(Int.toNat_of_nonneg l).symm⟩;have l:e<b.attrs.length:=by have:=(ou b.attrs a.attr).2;omega
  obtain⟨f,g,i,k⟩:=G8 b.attrs e l;obtain⟨c,l⟩:∃c,c=b.attrs[e]:=⟨_,rfl⟩;rw[<-l]at i;refine⟨f,c,g,i,by omega,?_⟩
 ·left
  have:(dH b a).attrs=b.attrs.eraseIdx e:=by simp[dH,hH,d,j]
  exact⟨d,by rw[this,i,<-k,yo]⟩
 ·right;left
  have:(dH b a).attrs=b.attrs.modify e (λc=>⟨a.name,c.kind,c.was++[c.name],c.dflt⟩):=by simp[dH,hH,d,j]
  exact⟨d,by rw[this,i,<-k,tg]⟩
 right;right
 have:(dH b a).attrs=b.attrs.modify e (λc=>⟨c.name,a.dT,c.was,a.dflt⟩):=by simp[dH,hH,d,j]
 exact⟨d,by rw[this,i,<-k,tg]⟩
end Go.Proofs.YteamkimbmdgdbaaGreatDoor

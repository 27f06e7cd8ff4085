import Derived.Test.YteamkimbmdgdbaaGreatDoorK16
set_option linter.unusedSimpArgs false
set_option linter.unusedVariables false
set_option maxHeartbeats 16000000
set_option maxRecDepth 100000
namespace Go.Proofs.YteamkimbmdgdbaaGreatDoor
open Go.RowKit
theorem Ce (b:List Tb) (c:aw) (d:List bB) (f:bm) (g i:aw) (j a:Int) (ks:List Pl):cy b 5 c d f g i j a ks=RO.ap (decide (ks.length=2)) 1 a (RO.ap (fh (bF ks 0) (bF ks 1)) 10 a (.ok (.mk 5 0 ks [] [] 0 0 (bF ks 0)))):=by
 have h:decide (ef 5=some ks.length)=decide (ks.length=2):=by
  have:ef 5=some 2:=rfl;exact ri
 unfold cy;rw[h];rfl
theorem Cf (A d t:Nat) (h:Hd) (M:List RT) (N:aw) (aL B:Hd) (b:List aB) (X:Hd) (Y:List bB) (ad:Hd) (ah:bm) (P C:aw) (Q at_:Int) (c:af) (b4:aG C)
 (ak:J c d 105 #[O 5,O 0,B.val,aa,aa,O 0,O 0,aa]) (j:iC c A d t h M B b X Y ad ah at_):
 Calls Tryz.prog 201 #[aj A,.agg #[O 5,N,aL.val,X.val,ad.val,P,C,Q,at_],aj d] c
  λe w'=>RP [d] c (cy (M.map RT.tb) 5 N Y ah P C Q at_ (aB.aN b)) (iE d t) e w':=by
 obtain⟨aY,D,aZ⟩:=h;obtain⟨aM,aP,S⟩:=B;obtain⟨a0,a1,a2⟩:=aL;obtain⟨a3,a4,a5⟩:=X;obtain⟨a6,a7,a8⟩:=ad;have u:=Z j;have a9:b.length=aP:=j.lk.1;have X:aP<=9223372036854775807:=j.lk.2.1;have X:M.length=D:=(j.ta c (Kp.refl _ c)).1.1;have X:D<=9223372036854775807:=(j.ta c (Kp.refl _ c)).1.2.1;subst a9;have X:=j.hX;have ad:=j.xp;have ad:=j.j3;have ad:=j.lw;have ad:=ak.lt;have ba:=Z ak;obtain⟨R,M⟩:=aq (cy (M.map RT.tb) 5 N Y ah P C Q at_ (aB.aN b));rw[<-M];have Y:(aB.aN b).length=b.length:=by rw[aB.iB,List.length_map]
 have E0:=Z (show R=RO.ap (decide (b.length=2)) 1 at_ (RO.ap (fh (bF (aB.aN b) 0) (bF (aB.aN b) 1)) 10 at_ (.ok (.mk 5 0 (aB.aN b) [] [] 0 0 (bF (aB.aN b) 0)))) by rw[M,Ce,Y]);clear M j ak Y;have j:c.heap.size<=c.heap.size:=Nat.le_refl _;have bb:=Z (Kp.refl [d] c);have al:=Z (λ(f:af) (g:Kp [d] c f)=>u.lk.kp g (λf g e D=>by have f:=(u.out.ik f g e).1;have f:=aA D;omega));have j:=Z (λ(f:af) (g:Kp [d] c f)=>show ac f (ab A 0) (U aY D aZ)from(g.cell X aC).trans u.c0);have kS:=Z (λ(f:af) (g:Kp [d] c f)=>show ac f (ab A 8) at_ from(g.cell X aC).trans u.c8);have j:=aW X;have j:=aW ad;have j:∀(j:Fn) (first cap:aO) (c:af),(Instr.makeFunc j first cap).run Tryz.prog c=.ok (.func j first cap) c:=λ_ _ _ _=>rfl;have bf:=@run_makeMap Tryz.prog;show Calls Tryz.prog 201 #[aj A,.agg #[O 5,N,U a0 a1 a2,U a3 a4 a5,U a6 a7 a8,P,C,Q,at_],aj d] c _;go_enter Tryz.func201,Tryz.ntmps201
 go_upto_region 1 with(fail)
 obtain⟨C,j,D,SN,A⟩:=nb c 154 _;rw[j];clear j;have j:=qk bb SN;have M:=qb SN ba;have C:=j.size;clear SN;obtain⟨f,C,bg,SN,N⟩:=nc A 93 _;rw[C];clear C;have aQ:=qk j SN;have bh:=qb SN M;have bi:=qb SN D;have j:=aQ.size;clear SN;have j:c.heap.size+1<f.heap.size:=ae
 clear A N;have bj:=j4 f;have bk:=j5 f;have bl:=j6 f;have bn:=j7 f;have bo:=j8 f;have bp:=j9 f;have bq:=ka f;have br:=kc f;go_upto_region 2 with(fail)
 clear bj bk bl bn bo bp bq br bf;have M3:=Z (kd f);have SN:=Z (show ag f (f.alloc (.map (km 8) 8))from(ag.refl f).alloc _);obtain⟨x,f⟩:=aq (f.alloc (.map (km 8) 8));rw[<-f]at M3 SN⊢;clear f;have K3:=qk aQ SN;have an:=qb SN bh;have ao:=qb SN bi;have ar:=qb SN bg;have f:=K3.size;have bs:=kO M3 (k:=5) (n:=2) rfl;clear SN M3;have bt:=az ar;have f:=J.lt ar;go_upto_region 3 with(fail)
 clear bs bt;have eF:=az ao;have f:=J.lt ao;have eG:ac x (ab d 2) (U aM b.length S):=J.cell an 2;have f:=J.lt an;have eH:=kS x K3;have f:c.heap.size<x.heap.size:=ae
 have f:d<x.heap.size:=ae
 by_cases hN:b.length=2
 case neg=>
  have f:(((2:Nat):Int)==(b.length:Int))=false:=aC
  have f:((2:Int)==(b.length:Int))=false:=aC
  exact lF
 have bu:(((2:Nat):Int)==(b.length:Int))=true:=aC
 have bw:((2:Int)==(b.length:Int))=true:=aC
 have E1:=Z (show R=RO.ap true 1 at_ (RO.ap (fh (bF (aB.aN b) 0) (bF (aB.aN b) 1)) 10 at_ (.ok (.mk 5 0 (aB.aN b) [] [] 0 0 (bF (aB.aN b) 0)))) by rw[E0.out,decide_eq_true hN]);clear E0;refine dB 12 eF eG λhS=>?_;refine dg ?_;refine eh ?_;refine aK 11 (λK hK=>?_);go_simp;refine bJ K3.drew E1 eH λaR=>?_;try go_simp
 refine hK _ _ (λ_=>hS) ?_;refine av ?_;refine b2 ?_;refine bV ?_;clear hS bu bw eF eG eH E1;have SN:=Z ((ag.refl x).drew);obtain⟨E,f⟩:=aq x.drew;rw[<-f]at SN⊢;clear f;have aT:=qk K3 SN;have bx:=qb SN an;have bz:=qb SN ao;have aU:=qb SN ar;have f:=aT.size;clear SN;go_upto_region 5 with(fail)
 obtain⟨v,f,F,SN,-⟩:=nb E 79 #[aa];rw[f];clear f;have au:=qk aT SN;have ax:=qb SN bx;have bA:=qb SN bz;have bC:=qb SN aU;have f:=au.size;clear SN;have f:=J.lt F;have f:d<v.heap.size:=ae
 have f:=J.lt aU;have f:0<b.length:=ae
 obtain⟨m,o,y,j,T⟩:=jo (al v au) 0 f;have G:=Z (u.sub _ (List.getElem_mem f)).res;have f:=jn b 0 f;obtain⟨A,C⟩:=aq (b[0]);rw[<-C]at T G f;obtain⟨⟨q,j,r⟩,x⟩:∃ay,ay=A.ha:=⟨_,rfl⟩;obtain⟨i,A⟩:=aq A.attrs;rw[<-x]at T;rw[<-x,<-A]at G;rw[<-A]at f;have aV:=Z (show R=_ by rw[aR.out,f]);clear aR C x A;have aX:ac v (ab m (o+0*8+7)) (U q j r):=T;have bD:ac v (ab m (o+7)) (U q j r):=by simpa using aX
 have bE:aM=some ⟨m,o,none⟩:=y;have f:(0:Int)<b.length:=ae
 have bG:i.length=j:=G.a.1.1;subst bG;clear T y;subst bE;have bH:ac v (ab d 2) (U (some ⟨m,o,none⟩) b.length S):=J.cell ax 2;have f:=J.lt ax;have bI:=az F;have f:=J.lt F;have bK:=λH=>J.frozen F H;go_upto_region 7 with(fail)
 have j:=Z (jB F (U q i.length r));have f:=Z (Kp.aE (p:=(am E 0)) (l:=[E.heap.size]) ai (Kp.refl [E.heap.size] v) (U q i.length r));obtain⟨w6,v⟩:=aq (v.setCell (am E 0) (U q i.length r));rw[<-v]at j f⊢;clear v;have v:=f;have K6:=Z (f.old au (λg g s=>absurd s (by rw[aA g];omega)));have gw:=qo f ax;have kT:=qo f bA;have kU:=qo f bC;have v:=K6.size;have v:=f;have kV:=j;clear j f;clear bK bH bI bD aX;have bL:=Z (λ(f:af) (g:Kp [d] c f)=>G.keep g (λf f hS=>by have g:=hS.1;have f:=aA f;omega));have aD:1<b.length:=by omega
 obtain⟨f,j,y,v,V⟩:=jo (al w6 K6) 1 aD;injection y with y
 injection y with oE oF
 subst oE oF;have W:=Z (u.sub _ (List.getElem_mem aD)).res;have j:=jn b 1 aD;obtain⟨x,y⟩:=aq (b[1]);rw[<-y]at V W j;obtain⟨⟨I,f,L⟩,v⟩:∃ay,ay=x.ha:=⟨_,rfl⟩;obtain⟨z,x⟩:=aq x.attrs;rw[<-v]at V;rw[<-v,<-x]at W;rw[<-x]at j;have E4:=Z (show R=_ by rw[aV.out,j]);clear aV y v x;have aH:ac w6 (ab m (o+1*8+7)) (U I f L):=V;have bM:ac w6 (ab m (o+15)) (U I f L):=by simpa using aH
 have bN:ac w6 (ab m (o+8+7)) (U I f L):=by simpa using aH
 have j:(1:Int)<b.length:=ae
 have bO:z.length=f:=W.a.1.1;subst bO;clear V;have bP:ac w6 (ab d 2) (U (some ⟨m,o,none⟩) b.length S):=J.cell gw 2;have bQ:=J.lt gw;go_upto_region 9 with(fail)
 clear bP bM aH bN;have j:=Z (λ(f:af) (g:Kp [d] c f)=>W.keep g (λf f hS=>by have g:=hS.1;have f:=aA f;omega));have mT:=az kT;have f:=J.lt kT;have mU:=az kV;have f:=J.lt kV;have bR:=az kU;have f:=J.lt kU;have bS:=b7 gw;have bQ:=J.lt gw;have bT:=λH=>J.frozen gw H;have bU:=kS w6 K6;have kW:Hid (Rt 275 #[U q i.length r,U I z.length L,.func (.func 276) #[] #[]] w6 (.bool (fh (i.map RA.at_) (z.map RA.at_)))):=Z (λg f=>t8 ⟨q,i.length,r⟩ ⟨I,z.length,L⟩ i z g ((bL w6 K6).a.same f) ((j w6 K6).a.same f));go_upto_region 41 with(fail)
 obtain⟨bW,f⟩:=aq (fh (i.map RA.at_) (z.map RA.at_));rw[<-f]at kW E4;clear f bR;cases bW
 case false=>
  exact rn
 refine dB 5 mT mU λhS=>?_;refine cJ ?_;refine aK 3 (λK hK=>?_);go_simp;refine(kW w6.drew ((ag.refl w6).drew)).mono ?_;rintro e w7 ⟨rfl,s1⟩;have SN:=Z (((ag.refl w6).drew).trans s1);clear s1;have K7:=qk K6 SN;have jr:=qb SN gw;have js:=qb SN kT;have pU:=qb SN kU;have jt:=qb SN kV;have z7:=K7.size;clear SN;try go_simp
 have lY:=az js;have uY:=J.lt js;have lZ:=az jt;have uZ:=J.lt jt;refine hK _ _ (λ_=>⟨lY,lZ⟩) ?_;refine av ?_;refine aK 4 (λK hK=>?_);go_simp;refine bJ K7 E4 ((kS w7 K7)) λbX=>?_;try go_simp
 refine hK _ _ (λ_=>⟨lY,lZ⟩) ?_;refine av ?_;refine b2 ?_;refine bV ?_;clear hS kW mT mU bS bT bU E4;have f:=b7 jr;have f:=J.lt jr;have f:=λH=>J.frozen jr H;go_wp2_with fail
 obtain⟨aI,j,bY,f⟩:=qV jr (U q i.length r);rw[j];clear j;have w:=Z (K7.trans f);have j:=qo f js;have j:=qo f pU;have j:=qo f jt;have j:=w.size;have f:=f;have b0:∀g∈[d],¬Bw t c.heap.size g:=λg s hS=>by have bZ:=hS.1;have b1:=aA s;omega
 have b3:∀g,Bw t c.heap.size g->Bw t aI.heap.size g:=λg s=>⟨s.1,by have:=s.2;have:=w.out.size;omega⟩;go_wp2;first|go_end0|refine bodyPost_ret (results_none rfl _ _ _) rfl ?_
 rw[bX.out];have f:=w.size;have d:∀g∈[d],¬Bw t c.heap.size g:=λg s hS=>by have bZ:=hS.1;have b1:=aA s;omega
 have c:∀g,Bw t c.heap.size g->Bw t aI.heap.size g:=λg s=>⟨s.1,by have:=s.2;omega⟩;refine⟨w,_,rfl,rfl,(aB.mk 5 (0) ⟨(some ⟨m,o,none⟩),b.length,S⟩ b aJ [] aJ [] (0) (0) ⟨q,i.length,r⟩ i),kg,bY,.mk (al aI w) (u.ik.mono c) (λb B=>((u.sub b B).keep w d).mono c) (aF.none_ _ 12 _) (aS.none_ _ _ _) (aF.none_ _ 1 _) (aS.none_ _ _ _) ((G.keep w b0).mono b3)⟩
theorem Ch (b:List Tb) (c:aw) (d:List bB) (f:bm) (g i:aw) (j a:Int) (ks:List Pl):cy b 6 c d f g i j a ks=RO.ap (decide (ks.length=2)) 1 a (RO.ap (fh (bF ks 0) (bF ks 1)) 10 a (.ok (.mk 6 0 ks [] [] 0 0 (bF ks 0)))):=by
 have h:decide (ef 6=some ks.length)=decide (ks.length=2):=by
  have:ef 6=some 2:=rfl;exact ri
 unfold cy;rw[h];rfl
theorem Ci (A d t:Nat) (h:Hd) (M:List RT) (N:aw) (aL B:Hd) (b:List aB) (X:Hd) (Y:List bB) (ad:Hd) (ah:bm) (P C:aw) (Q at_:Int) (c:af) (b4:aG C)
 (ak:J c d 105 #[O 6,O 0,B.val,aa,aa,O 0,O 0,aa]) (j:iC c A d t h M B b X Y ad ah at_):
 Calls Tryz.prog 201 #[aj A,.agg #[O 6,N,aL.val,X.val,ad.val,P,C,Q,at_],aj d] c
  λe w'=>RP [d] c (cy (M.map RT.tb) 6 N Y ah P C Q at_ (aB.aN b)) (iE d t) e w':=by
 obtain⟨aY,D,aZ⟩:=h;obtain⟨aM,aP,S⟩:=B;obtain⟨a0,a1,a2⟩:=aL;obtain⟨a3,a4,a5⟩:=X;obtain⟨a6,a7,a8⟩:=ad;have u:=Z j;have a9:b.length=aP:=j.lk.1;have X:aP<=9223372036854775807:=j.lk.2.1;have X:M.length=D:=(j.ta c (Kp.refl _ c)).1.1;have X:D<=9223372036854775807:=(j.ta c (Kp.refl _ c)).1.2.1;subst a9;have X:=j.hX;have ad:=j.xp;have ad:=j.j3;have ad:=j.lw;have ad:=ak.lt;have ba:=Z ak;obtain⟨R,M⟩:=aq (cy (M.map RT.tb) 6 N Y ah P C Q at_ (aB.aN b));rw[<-M];have Y:(aB.aN b).length=b.length:=by rw[aB.iB,List.length_map]
 have E0:=Z (show R=RO.ap (decide (b.length=2)) 1 at_ (RO.ap (fh (bF (aB.aN b) 0) (bF (aB.aN b) 1)) 10 at_ (.ok (.mk 6 0 (aB.aN b) [] [] 0 0 (bF (aB.aN b) 0)))) by rw[M,Ch,Y]);clear M j ak Y;have j:c.heap.size<=c.heap.size:=Nat.le_refl _;have bb:=Z (Kp.refl [d] c);have al:=Z (λ(f:af) (g:Kp [d] c f)=>u.lk.kp g (λf g e D=>by have f:=(u.out.ik f g e).1;have f:=aA D;omega));have j:=Z (λ(f:af) (g:Kp [d] c f)=>show ac f (ab A 0) (U aY D aZ)from(g.cell X aC).trans u.c0);have kS:=Z (λ(f:af) (g:Kp [d] c f)=>show ac f (ab A 8) at_ from(g.cell X aC).trans u.c8);have j:=aW X;have j:=aW ad;have j:∀(j:Fn) (first cap:aO) (c:af),(Instr.makeFunc j first cap).run Tryz.prog c=.ok (.func j first cap) c:=λ_ _ _ _=>rfl;have bf:=@run_makeMap Tryz.prog;show Calls Tryz.prog 201 #[aj A,.agg #[O 6,N,U a0 a1 a2,U a3 a4 a5,U a6 a7 a8,P,C,Q,at_],aj d] c _;go_enter Tryz.func201,Tryz.ntmps201
 go_upto_region 1 with(fail)
 obtain⟨C,j,D,SN,A⟩:=nb c 154 _;rw[j];clear j;have j:=qk bb SN;have M:=qb SN ba;have C:=j.size;clear SN;obtain⟨f,C,bg,SN,N⟩:=nc A 93 _;rw[C];clear C;have aQ:=qk j SN;have bh:=qb SN M;have bi:=qb SN D;have j:=aQ.size;clear SN;have j:c.heap.size+1<f.heap.size:=ae
 clear A N;have bj:=j4 f;have bk:=j5 f;have bl:=j6 f;have bn:=j7 f;have bo:=j8 f;have bp:=j9 f;have bq:=ka f;have br:=kc f;go_upto_region 2 with(fail)
 clear bj bk bl bn bo bp bq br bf;have M3:=Z (kd f);have SN:=Z (show ag f (f.alloc (.map (km 8) 8))from(ag.refl f).alloc _);obtain⟨x,f⟩:=aq (f.alloc (.map (km 8) 8));rw[<-f]at M3 SN⊢;clear f;have K3:=qk aQ SN;have an:=qb SN bh;have ao:=qb SN bi;have ar:=qb SN bg;have f:=K3.size;have bs:=kO M3 (k:=6) (n:=2) rfl;clear SN M3;have bt:=az ar;have f:=J.lt ar;go_upto_region 3 with(fail)
 clear bs bt;have eF:=az ao;have f:=J.lt ao;have eG:ac x (ab d 2) (U aM b.length S):=J.cell an 2;have f:=J.lt an;have eH:=kS x K3;have f:c.heap.size<x.heap.size:=ae
 have f:d<x.heap.size:=ae
 by_cases hN:b.length=2
 case neg=>
  have f:(((2:Nat):Int)==(b.length:Int))=false:=aC
  have f:((2:Int)==(b.length:Int))=false:=aC
  exact lF
 have bu:(((2:Nat):Int)==(b.length:Int))=true:=aC
 have bw:((2:Int)==(b.length:Int))=true:=aC
 have E1:=Z (show R=RO.ap true 1 at_ (RO.ap (fh (bF (aB.aN b) 0) (bF (aB.aN b) 1)) 10 at_ (.ok (.mk 6 0 (aB.aN b) [] [] 0 0 (bF (aB.aN b) 0)))) by rw[E0.out,decide_eq_true hN]);clear E0;refine dB 12 eF eG λhS=>?_;refine dg ?_;refine eh ?_;refine aK 11 (λK hK=>?_);go_simp;refine bJ K3.drew E1 eH λaR=>?_;try go_simp
 refine hK _ _ (λ_=>hS) ?_;refine av ?_;refine b2 ?_;refine bV ?_;clear hS bu bw eF eG eH E1;have SN:=Z ((ag.refl x).drew);obtain⟨E,f⟩:=aq x.drew;rw[<-f]at SN⊢;clear f;have aT:=qk K3 SN;have bx:=qb SN an;have bz:=qb SN ao;have aU:=qb SN ar;have f:=aT.size;clear SN;go_upto_region 5 with(fail)
 obtain⟨v,f,F,SN,-⟩:=nb E 79 #[aa];rw[f];clear f;have au:=qk aT SN;have ax:=qb SN bx;have bA:=qb SN bz;have bC:=qb SN aU;have f:=au.size;clear SN;have f:=J.lt F;have f:d<v.heap.size:=ae
 have f:=J.lt aU;have f:0<b.length:=ae
 obtain⟨m,o,y,j,T⟩:=jo (al v au) 0 f;have G:=Z (u.sub _ (List.getElem_mem f)).res;have f:=jn b 0 f;obtain⟨A,C⟩:=aq (b[0]);rw[<-C]at T G f;obtain⟨⟨q,j,r⟩,x⟩:∃ay,ay=A.ha:=⟨_,rfl⟩;obtain⟨i,A⟩:=aq A.attrs;rw[<-x]at T;rw[<-x,<-A]at G;rw[<-A]at f;have aV:=Z (show R=_ by rw[aR.out,f]);clear aR C x A;have aX:ac v (ab m (o+0*8+7)) (U q j r):=T;have bD:ac v (ab m (o+7)) (U q j r):=by simpa using aX
 have bE:aM=some ⟨m,o,none⟩:=y;have f:(0:Int)<b.length:=ae
 have bG:i.length=j:=G.a.1.1;subst bG;clear T y;subst bE;have bH:ac v (ab d 2) (U (some ⟨m,o,none⟩) b.length S):=J.cell ax 2;have f:=J.lt ax;have bI:=az F;have f:=J.lt F;have bK:=λH=>J.frozen F H;go_upto_region 7 with(fail)
 have j:=Z (jB F (U q i.length r));have f:=Z (Kp.aE (p:=(am E 0)) (l:=[E.heap.size]) ai (Kp.refl [E.heap.size] v) (U q i.length r));obtain⟨w6,v⟩:=aq (v.setCell (am E 0) (U q i.length r));rw[<-v]at j f⊢;clear v;have v:=f;have K6:=Z (f.old au (λg g s=>absurd s (by rw[aA g];omega)));have gw:=qo f ax;have kT:=qo f bA;have kU:=qo f bC;have v:=K6.size;have v:=f;have kV:=j;clear j f;clear bK bH bI bD aX;have bL:=Z (λ(f:af) (g:Kp [d] c f)=>G.keep g (λf f hS=>by have g:=hS.1;have f:=aA f;omega));have aD:1<b.length:=by omega
 obtain⟨f,j,y,v,V⟩:=jo (al w6 K6) 1 aD;injection y with y
 injection y with oE oF
 subst oE oF;have W:=Z (u.sub _ (List.getElem_mem aD)).res;have j:=jn b 1 aD;obtain⟨x,y⟩:=aq (b[1]);rw[<-y]at V W j;obtain⟨⟨I,f,L⟩,v⟩:∃ay,ay=x.ha:=⟨_,rfl⟩;obtain⟨z,x⟩:=aq x.attrs;rw[<-v]at V;rw[<-v,<-x]at W;rw[<-x]at j;have E4:=Z (show R=_ by rw[aV.out,j]);clear aV y v x;have aH:ac w6 (ab m (o+1*8+7)) (U I f L):=V;have bM:ac w6 (ab m (o+15)) (U I f L):=by simpa using aH
 have bN:ac w6 (ab m (o+8+7)) (U I f L):=by simpa using aH
 have j:(1:Int)<b.length:=ae
 have bO:z.length=f:=W.a.1.1;subst bO;clear V;have bP:ac w6 (ab d 2) (U (some ⟨m,o,none⟩) b.length S):=J.cell gw 2;have bQ:=J.lt gw;go_upto_region 9 with(fail)
 clear bP bM aH bN;have j:=Z (λ(f:af) (g:Kp [d] c f)=>W.keep g (λf f hS=>by have g:=hS.1;have f:=aA f;omega));have mT:=az kT;have f:=J.lt kT;have mU:=az kV;have f:=J.lt kV;have bR:=az kU;have f:=J.lt kU;have bS:=b7 gw;have bQ:=J.lt gw;have bT:=λH=>J.frozen gw H;have bU:=kS w6 K6;have kW:Hid (Rt 275 #[U q i.length r,U I z.length L,.func (.func 276) #[] #[]] w6 (.bool (fh (i.map RA.at_) (z.map RA.at_)))):=Z (λg f=>t8 ⟨q,i.length,r⟩ ⟨I,z.length,L⟩ i z g ((bL w6 K6).a.same f) ((j w6 K6).a.same f));go_upto_region 41 with(fail)
 obtain⟨bW,f⟩:=aq (fh (i.map RA.at_) (z.map RA.at_));rw[<-f]at kW E4;clear f bR;cases bW
 case false=>
  exact rn
 refine dB 5 mT mU λhS=>?_;refine cJ ?_;refine aK 3 (λK hK=>?_);go_simp;refine(kW w6.drew ((ag.refl w6).drew)).mono ?_;rintro e w7 ⟨rfl,s1⟩;have SN:=Z (((ag.refl w6).drew).trans s1);clear s1;have K7:=qk K6 SN;have jr:=qb SN gw;have js:=qb SN kT;have pU:=qb SN kU;have jt:=qb SN kV;have z7:=K7.size;clear SN;try go_simp
 have lY:=az js;have uY:=J.lt js;have lZ:=az jt;have uZ:=J.lt jt;refine hK _ _ (λ_=>⟨lY,lZ⟩) ?_;refine av ?_;refine aK 4 (λK hK=>?_);go_simp;refine bJ K7 E4 ((kS w7 K7)) λbX=>?_;try go_simp
 refine hK _ _ (λ_=>⟨lY,lZ⟩) ?_;refine av ?_;refine b2 ?_;refine bV ?_;clear hS kW mT mU bS bT bU E4;have f:=b7 jr;have f:=J.lt jr;have f:=λH=>J.frozen jr H;go_wp2_with fail
 obtain⟨aI,j,bY,f⟩:=qV jr (U q i.length r);rw[j];clear j;have w:=Z (K7.trans f);have j:=qo f js;have j:=qo f pU;have j:=qo f jt;have j:=w.size;have f:=f;have b0:∀g∈[d],¬Bw t c.heap.size g:=λg s hS=>by have bZ:=hS.1;have b1:=aA s;omega
 have b3:∀g,Bw t c.heap.size g->Bw t aI.heap.size g:=λg s=>⟨s.1,by have:=s.2;have:=w.out.size;omega⟩;go_wp2;first|go_end0|refine bodyPost_ret (results_none rfl _ _ _) rfl ?_
 rw[bX.out];have f:=w.size;have d:∀g∈[d],¬Bw t c.heap.size g:=λg s hS=>by have bZ:=hS.1;have b1:=aA s;omega
 have c:∀g,Bw t c.heap.size g->Bw t aI.heap.size g:=λg s=>⟨s.1,by have:=s.2;omega⟩;refine⟨w,_,rfl,rfl,(aB.mk 6 (0) ⟨(some ⟨m,o,none⟩),b.length,S⟩ b aJ [] aJ [] (0) (0) ⟨q,i.length,r⟩ i),kg,bY,.mk (al aI w) (u.ik.mono c) (λb B=>((u.sub b B).keep w d).mono c) (aF.none_ _ 12 _) (aS.none_ _ _ _) (aF.none_ _ 1 _) (aS.none_ _ _ _) ((G.keep w b0).mono b3)⟩
theorem CQ (a:bL) (b:Nat):de [] a b=.bad 7:=rfl
theorem vm (c a:bL) (b:Nat):de (34::c) a b=if 200<a.length then .bad 3 else .tok 3 a 0 (b+2):=by
 rw[de.eq_def];exact if_pos rfl
theorem CR (a b:bL) (c:Nat):de (10::a) b c=.bad 5:=by
 rw[de.eq_def];exact(if_neg au).trans (if_pos rfl)
theorem CS (a:bL) (b:Nat):de [92] a b=.bad 7:=by
 rw[de.eq_def];exact(if_neg au).trans ((if_neg au).trans (if_pos rfl))
theorem pX (a:UInt8) (b c:bL) (d:Nat):de (92::a::b) c d=if a=34 then de b (c++[34]) (d+2)else if a=92 then de b (c++[92]) (d+2)else if a=110 then de b (c++[10]) (d+2)else .bad 5:=by
 rw[de.eq_def];exact(if_neg au).trans ((if_neg au).trans (if_pos rfl))
theorem CT (a:UInt8) (b c:bL) (d:Nat) (e:a≠34) (f:a≠10) (g:a≠92):de (a::b) c d=de b (c++[a]) (d+1):=by
 rw[de.eq_def];exact(if_neg e).trans ((if_neg f).trans (if_neg g))
def k4 (a:UInt8):List Value:=[.int .u8 (a.toNat:Int)]
theorem k4.len (a:UInt8):(k4 a).length=1:=rfl
def pY (b:Nat) (c:aX) (a d:Nat) (e:bL) (f:af):Prop:=f.ownsRow b 5 1 (U c a d) a (e.flatMap k4)
theorem Tryz.CU:(Tryz.prog.info? 5).map (λa=>(a.zero,a.size,a.bytes))=some (some (.int .u8 0),1,1):=ak
theorem pY.string {k n a:Nat} {e:aX} {l:bL} {w:af} (o:pY k e n a l w) (c:l.length=n) (k:n<=9223372036854775807):(convert 252 9 (U e n a)).run Tryz.prog w=.ok (.string (dY l)) w:=by
 have i:=cF (h:=⟨e,n,a⟩) k4.len c k o;cases l with
 |nil=>
  simp at c;subst c;rcases o.2 with⟨b,_⟩|⟨d,f,g,b,_⟩
  ·injection b with e1 e2 e3
   subst e1;exact run_convert_bytes_nil w 252 5 Tryz.underlying252 Tryz.underlying5 _ _ _ Tryz.underlying9
  injection b with e1 e2 e3
  subst e1;exact run_convert_bytes_back w 252 9 5 _ a [] Tryz.underlying252 Tryz.underlying5 Tryz.underlying9 (λb b=>by simp at b)
 |cons j l=>
  obtain⟨f,g,b,_,_⟩:=i.2.2 0 ai;have m:=b;subst m;subst c;refine run_convert_bytes_back w 252 9 5 ⟨f,g,none⟩ a (j::l) Tryz.underlying252 Tryz.underlying5 Tryz.underlying9 (λd a=>?_);obtain⟨a,c,b,_,p⟩:=i.2.2 d a;injection b with b
  injection b with e1 e2
  subst e1 e2;have:=p 0 (.int .u8 ((j::l)[d].toNat:Int)) rfl;rw[show((⟨f,g,none⟩:Addr).add d)=⟨f,g+d,none⟩ by unfold Addr.add;split<;>simp_all];simpa using this
theorem CV (B:Nat) (d:aw) (a:Nat) (f:af) (ay:d.size<=20000) (ay:a<d.size) (ab:eD f B d a):
 Calls Tryz.prog 83 #[aj B] f λe i=>kK a f (jb ((ba d).drop a)) e i:=by
 have ac:=Z ab;have ad:=ab.lt;obtain⟨H,I,L,M,N⟩:=info_parts Tryz.CU;have A:=Z (show Kp [] f (f.alloc (.cells #[O 0,ah,O 0,O 0] 188))from(Kp.refl [] f).alloc _);have P:=Z (show eD (f.alloc _) B d a from J.below ac A.same ad);have Q:=Z (J.new f 188 #[O 0,ah,O 0,O 0]);have an:=kI d a ay;have C:Hid (jb ((ba d).drop a)=if d[a]=34 then de ((ba d).drop (a+1)) [] 0 else .none):=Z (by rw[an];rfl);have R:((d[a].toNat:Int)==34)=decide (d[a]=34):=kJ d[a] 34 ae;generalize jb ((ba d).drop a)=j at C⊢;have ay:(a:Int)<d.size:=by omega
 have ay:(a:Int)+1<=d.size:=ae
 have ay:IntKind.i64.wrap ((a:Int)+1)=(a:Int)+1:=IntWalk.i64_in _ ae;have ay:((a:Int)+1).toNat=a+1:=ae
 have S:=P.at_.text;have c1:=P.at_.off;clear an ab;by_cases w:d[a]=34
 case neg=>
  have m:((d[a].toNat:Int)==34)=false:=by rw[R];exact decide_eq_false w
  have g:=Z (show j=.none by rw[C.out,if_neg w]);clear R w C;go_enter Tryz.func83,Tryz.ntmps83
  go_wp2_with fail
  go_quiet (fail)
  have c:=Z (A.drewN nq);have b:=Z (Q.drewN nq);generalize (f.alloc (.cells #[O 0,ah,O 0,O 0] 188)).drewN nq=n at c b⊢;clear S c1 P A Q;have m:=az b;have m:=aY b;have m:=bh b;have m:=bj b;have b:=λm=>J.frozen b m;go_wp2;refine bodyPost_ret (v:=.tuple #[ih 0 [] 0 0,O 0]) ?_ rfl ?_
  ·simp[results,Tryz.results83,go_sem, *]
   rfl
  rw[g.out];refine⟨?_,0,[],0,rfl⟩;repeat (refine ag.setCell ?_ (Nat.le_refl _) _)
  exact c.same
 have ab:((d[a].toNat:Int)==34)=true:=by rw[R];exact decide_eq_true w
 have aA:((d[a].toNat:Int) !=34)=false:=by rw[bne,ab];rfl
 have T:=Z (show j=de ((ba d).drop (a+1)) [] 0 by rw[C.out,if_pos w]);clear R w C;obtain⟨c,w⟩:=aq (d.extract (a+1) d.size);have C:ba c=(ba d).drop (a+1):=by
  rw[w,show d.extract (a+1) d.size=d.extract (a+1) (a+1+(d.size-(a+1))) by rw[show a+1+(d.size-(a+1))=d.size by omega],nT d (a+1) _ ae,mi,List.take_of_length_le (by rw[fU];omega)]
 have R:c.size=d.size-(a+1):=by rw[<-eJ,C,fU]
 replace T:=Z (show j=de ((ba c).drop 0) [] 0 by rw[T.out,<-C];rfl);have R:=Z w;clear C w;have aB:=R.symm;go_enter Tryz.func83,Tryz.ntmps83
 go_wp2_with fail
 go_quiet (fail)
 have V:=Z (A.drewN nq);have ai:=Z (Q.drewN nq);generalize (f.alloc (.cells #[O 0,ah,O 0,O 0] 188)).drewN nq=ao at V ai⊢;try rw[aA]
 have ak:=Z (show eD ao B d a from J.below ac V.same ad);clear S c1 P A Q;have S:=ak.at_.text;have c1:=ak.at_.off;go_wp2_with fail
 go_quiet (fail)
 have al:=Z (V.drewN nq);have W:=Z (ai.drewN nq);generalize ao.drewN nq=w3 at al W⊢;clear S c1 ak V ai;try rw[aB]
 have aD:f.heap.size+1<=w3.heap.size:=W.lt;go_wp2;go_loopg [4,6] (c.size+1) (λo p q wr=>∃(b:Nat) (out:bL) (m:aX) (g n:Nat),p=.slice m g n/\q=.int .i64 b/\b<=c.size/\c.size-b<o/\out.length=g/\g<=b/\Hid (pY (f.heap.size+1) m g n out wr)/\Hid (J wr f.heap.size 188 #[O 0,ah,O 0,O 0])/\Hid (Kp [] f wr)/\f.heap.size+1<=wr.heap.size/\Hid (j=de ((ba c).drop b) out b))
 case atStart=>exact⟨0,[],none,0,0,rfl,rfl,by omega,by omega,rfl,by omega,Z ⟨rfl,.inl ⟨rfl,rfl⟩⟩,W,al,aD,T⟩
 obtain⟨b,out,p,g,q,rfl,rfl,aM,ap,ar,aN,D,m,K,aO,E⟩:=hrel;clear W al T;have d:=Z (show eD wr B d a from J.below ac K.same ad);have c1:=d.at_.off;have u:=Z ar;have r:=Z ap;clear ap ar;by_cases aE:b<c.size
 case neg=>
  have d:¬(b:Int)<c.size:=ae
  have E':=Z (show j=.bad 7 by rw[E.out];rw[List.drop_of_length_le po];rfl);exact uQ
 have d:(b:Int)<c.size:=ae
 have n:=Z (kI c b aE);have x:((c[b].toNat:Int)==34)=decide (c[b]=34):=kJ c[b] 34 ae;have y:((c[b].toNat:Int)==10)=decide (c[b]=10):=kJ c[b] 10 ae;have z:((c[b].toNat:Int)==92)=decide (c[b]=92):=kJ c[b] 92 ae;have d:IntKind.i64.wrap ((b:Int)+1)=(b:Int)+1:=IntWalk.i64_in _ ae;have d:IntKind.i64.wrap ((b:Int)+2)=(b:Int)+2:=IntWalk.i64_in _ ae;by_cases F:c[b]=34
 case pos=>
  have s:((c[b].toNat:Int)==34)=true:=by rw[x];exact decide_eq_true F
  clear x y z;by_cases o:200<g
  case pos=>
   have d:(200:Int)<g:=ae
   have E':=Z (show j=.bad 3 by rw[E.out];rw[n.out,F,vm,if_pos (by rw[u.out];exact o)]);clear E;go_wp2_with (go_at_call 86;refine(jT B 3 a _ c1).mono ?_;rintro e w3 ⟨rfl,rfl⟩)
   refine⟨rfl,?_⟩;rw[E'.out];exact⟨K.same,rfl⟩
  have d:¬(200:Int)<g:=ae
  have E':=Z (show j=.tok 3 out 0 (b+2) by rw[E.out,n.out,F,vm,if_neg (by rw[u.out];exact o)]);clear E;have d:=pY.string D u ae;have d:=az m;have s:=aY m;have d:=bh m;have d:=bj m;have d:=λb=>J.frozen m b;go_wp2;refine bodyPost_ret (v:=.tuple #[ih 3 out 0 0,O (b+2:Nat)]) ?_ rfl ?_
  ·simp[results,Tryz.results83,go_sem, *]
   rfl
  rw[E'.out];refine⟨?_,rfl⟩;repeat (refine ag.setCell ?_ (Nat.le_refl _) _)
  exact K.same
 have d:((c[b].toNat:Int)==34)=false:=by rw[x];exact decide_eq_false F
 by_cases X:c[b]=10
 case pos=>
  have d:((c[b].toNat:Int)==10)=true:=by rw[y];exact decide_eq_true X
  clear x y z;have E':=Z (show j=.bad 5 by rw[E.out];rw[n.out,X,CR]);clear E;go_wp2_with (go_at_call 86;refine(jT B 5 a _ c1).mono ?_;rintro e w3 ⟨rfl,rfl⟩)
  refine⟨rfl,?_⟩;rw[E'.out];exact⟨K.same,rfl⟩
 have d:((c[b].toNat:Int)==10)=false:=by rw[y];exact decide_eq_false X
 by_cases s:c[b]=92
 case neg=>
  have d:((c[b].toNat:Int)==92)=false:=by rw[z];exact decide_eq_false s
  clear x y z;have o:=Z (aH ((ag.refl wr).alloc (.cells #[.int .u8 (c[b].toNat:Int)] 5)) D);have Y:=Z (cC wr #[.int .u8 (c[b].toNat:Int)] 5 1 rfl);have E':=Z (show j=de ((ba c).drop (b+1)) (out++[c[b]]) (b+1) by rw[E.out];rw[n.out];exact CT _ _ _ _ F X s);clear E;go_wp2_with (first|(at_builtin;refine d6 _ rfl (.tmp 83) (.tmp 85) 252 rfl (f.heap.size+1) 5 H _ 1 1 Tryz.underlying252 I L M N rfl au (U p g q) g (out.flatMap k4) rfl o.out (wr.heap.size+1) (some ⟨wr.heap.size,0,none⟩) 1 1 (#[.int .u8 (c[b].toNat:Int)]:Array Value).toList rfl Y.out bl b1 ae aC ?_;intro d t d w A;have k:=Z d;have l:=Z w;clear d w A))
  obtain⟨aa,am,rfl,aF⟩:=bo k;have w:∀d,(Value.slice p g q).ownBlock=some d->f.heap.size+1<=d:=λd hg=>by
   obtain⟨_,_,_,ho⟩:=bo o;exact oD
  have av:=Z ((K.alloc _).grown l (λd hg=>.inr (by have:=w d hg;omega)));have G:=Z (J.grown (m.alloc _) l (λe=>by have:=w _ e.symm;omega));have ax:f.heap.size+1<=t.heap.size:=G.lt;go_wp2;go_roundg (c.size-b)
  case measure=>have:=r.out;omega
  exact⟨b+1,out++[c[b]],aa,g+1,am,rfl,by go_num,by omega,by have:=r.out;omega,by rw[List.length_append,u.out];rfl,by omega,Z (by show World.ownsRow _ _ _ _ _ _ _;rw[List.flatMap_append];exact k.out),G,av,ax,E'⟩
 have d:((c[b].toNat:Int)==92)=true:=by rw[z];exact decide_eq_true s
 clear x y z;by_cases aF:b+1<c.size
 case neg=>
  have d:((b:Int)+1==c.size)=true:=aC
  have E':=Z (show j=.bad 7 by rw[E.out];rw[n.out,s,List.drop_of_length_le po,CS]);exact uQ
 have d:((b:Int)+1==c.size)=false:=aC
 have d:(b:Int)+1<c.size:=ae
 have d:(0:Int)<=(b:Int)+1:=ae
 have d:((b:Int)+1).toNat=b+1:=ae
 have d:IntKind.i64.wrap ((b:Int)+1+1)=(b:Int)+1+1:=IntWalk.i64_in _ ae;have Y:=Z (kI c (b+1) aF);have o:=Z (λd=>Tryz.strings_IndexByte ⟨#[34,92,110]⟩ (c[b+1].toNat:Int) d);have d:Lib.indexByte (⟨#[34,92,110]⟩:ByteArray).data.toList (c[b+1].toNat:Int).toNat.toUInt8=Lib.indexByte [34,92,110] c[b+1]:=by
  rw[show(c[b+1].toNat:Int).toNat.toUInt8=c[b+1] by simp]
 rw[d]at o;clear d;by_cases G:c[b+1]=34
 case pos=>
  replace o:Hid (∀d,Calls Tryz.prog 158 #[.string ⟨#[34,92,110]⟩,.int .u8 34] d λe i=>e=.returned (O 0)/\i=d):=Z (λd=>Tryz.strings_IndexByte ⟨#[34,92,110]⟩ 34 d);have aa:=Z (aH ((ag.refl wr).alloc (.cells #[.int .u8 (((⟨#[34,92,10]⟩:ByteArray)[0]'au).toNat:Int)] 5)) D);have av:=Z (cC wr #[.int .u8 (((⟨#[34,92,10]⟩:ByteArray)[0]'au).toNat:Int)] 5 1 rfl);have E':=Z (show j=de ((ba c).drop (b+2)) (out++[34]) (b+2) by rw[E.out];rw[n.out,s,Y.out,pX,if_pos G]);clear E;go_wp2_with (first|(go_at_call 158;refine(o.out _).mono ?_;rintro e i ⟨rfl,am⟩;rw[am];clear am i)|(at_builtin;refine d6 _ rfl (.tmp 83) (.tmp 85) 252 rfl (f.heap.size+1) 5 H _ 1 1 Tryz.underlying252 I L M N rfl au (U p g q) g (out.flatMap k4) rfl aa.out (wr.heap.size+1) (some ⟨wr.heap.size,0,none⟩) 1 1 (#[.int .u8 (((⟨#[34,92,10]⟩:ByteArray)[0]'au).toNat:Int)]:Array Value).toList rfl av.out bl b1 ae aC ?_;intro d t d w x;have k:=Z d;have l:=Z w;clear d w x))
  obtain⟨ax,aG,rfl,aK⟩:=bo k;have w:∀d,(Value.slice p g q).ownBlock=some d->f.heap.size+1<=d:=λd hg=>by
   obtain⟨_,_,_,ho⟩:=bo aa;exact oD
  have aI:=Z ((K.alloc _).grown l (λd hg=>.inr (by have:=w d hg;omega)));have am:=Z (J.grown (m.alloc _) l (λe=>by have:=w _ e.symm;omega));have aJ:f.heap.size+1<=t.heap.size:=am.lt;go_wp2;go_roundg (c.size-b)
  case measure=>have:=r.out;omega
  exact⟨b+2,out++[34],ax,g+1,aG,rfl,by go_num,by omega,by have:=r.out;omega,by rw[List.length_append,u.out];rfl,by omega,Z (by show World.ownsRow _ _ _ _ _ _ _;rw[List.flatMap_append];exact k.out),am,aI,aJ,E'⟩
 by_cases aa:c[b+1]=92
 case pos=>
  replace o:Hid (∀d,Calls Tryz.prog 158 #[.string ⟨#[34,92,110]⟩,.int .u8 92] d λe i=>e=.returned (O 1)/\i=d):=Z (λd=>Tryz.strings_IndexByte ⟨#[34,92,110]⟩ 92 d);have am:=Z (aH ((ag.refl wr).alloc (.cells #[.int .u8 (((⟨#[34,92,10]⟩:ByteArray)[1]'au).toNat:Int)] 5)) D);have ax:=Z (cC wr #[.int .u8 (((⟨#[34,92,10]⟩:ByteArray)[1]'au).toNat:Int)] 5 1 rfl);have E':=Z (show j=de ((ba c).drop (b+2)) (out++[92]) (b+2) by rw[E.out];rw[n.out,s,Y.out,pX,if_neg G,if_pos aa]);clear E;go_wp2_with (first|(go_at_call 158;refine(o.out _).mono ?_;rintro e i ⟨rfl,av⟩;rw[av];clear av i)|(at_builtin;refine d6 _ rfl (.tmp 83) (.tmp 85) 252 rfl (f.heap.size+1) 5 H _ 1 1 Tryz.underlying252 I L M N rfl au (U p g q) g (out.flatMap k4) rfl am.out (wr.heap.size+1) (some ⟨wr.heap.size,0,none⟩) 1 1 (#[.int .u8 (((⟨#[34,92,10]⟩:ByteArray)[1]'au).toNat:Int)]:Array Value).toList rfl ax.out bl b1 ae aC ?_;intro d t d w x;have k:=Z d;have l:=Z w;clear d w x))
  obtain⟨aG,aI,rfl,aL⟩:=bo k;have w:∀d,(Value.slice p g q).ownBlock=some d->f.heap.size+1<=d:=λd hg=>by
   obtain⟨_,_,_,ho⟩:=bo am;exact oD
  have aJ:=Z ((K.alloc _).grown l (λd hg=>.inr (by have:=w d hg;omega)));have av:=Z (J.grown (m.alloc _) l (λe=>by have:=w _ e.symm;omega));have aK:f.heap.size+1<=t.heap.size:=av.lt;go_wp2;go_roundg (c.size-b)
  case measure=>have:=r.out;omega
  exact⟨b+2,out++[92],aG,g+1,aI,rfl,by go_num,by omega,by have:=r.out;omega,by rw[List.length_append,u.out];rfl,by omega,Z (by show World.ownsRow _ _ _ _ _ _ _;rw[List.flatMap_append];exact k.out),av,aJ,aK,E'⟩
 by_cases am:c[b+1]=110
 case pos=>
  replace o:Hid (∀d,Calls Tryz.prog 158 #[.string ⟨#[34,92,110]⟩,.int .u8 110] d λe i=>e=.returned (O 2)/\i=d):=Z (λd=>Tryz.strings_IndexByte ⟨#[34,92,110]⟩ 110 d);have av:=Z (aH ((ag.refl wr).alloc (.cells #[.int .u8 (((⟨#[34,92,10]⟩:ByteArray)[2]'au).toNat:Int)] 5)) D);have aG:=Z (cC wr #[.int .u8 (((⟨#[34,92,10]⟩:ByteArray)[2]'au).toNat:Int)] 5 1 rfl);have E':=Z (show j=de ((ba c).drop (b+2)) (out++[10]) (b+2) by rw[E.out];rw[n.out,s,Y.out,pX,if_neg G,if_neg aa,if_pos am]);clear E;go_wp2_with (first|(go_at_call 158;refine(o.out _).mono ?_;rintro e i ⟨rfl,ax⟩;rw[ax];clear ax i)|(at_builtin;refine d6 _ rfl (.tmp 83) (.tmp 85) 252 rfl (f.heap.size+1) 5 H _ 1 1 Tryz.underlying252 I L M N rfl au (U p g q) g (out.flatMap k4) rfl av.out (wr.heap.size+1) (some ⟨wr.heap.size,0,none⟩) 1 1 (#[.int .u8 (((⟨#[34,92,10]⟩:ByteArray)[2]'au).toNat:Int)]:Array Value).toList rfl aG.out bl b1 ae aC ?_;intro d t d w x;have k:=Z d;have l:=Z w;clear d w x))
  obtain⟨aI,aJ,rfl,aP⟩:=bo k;have p:∀d,(Value.slice p g q).ownBlock=some d->f.heap.size+1<=d:=λd hg=>by
   obtain⟨_,_,_,ho⟩:=bo av;exact oD
  have aK:=Z ((K.alloc _).grown l (λd hg=>.inr (by have:=p d hg;omega)));have ax:=Z (J.grown (m.alloc _) l (λe=>by have:=p _ e.symm;omega));have aL:f.heap.size+1<=t.heap.size:=ax.lt;go_wp2;go_roundg (c.size-b)
  case measure=>have:=r.out;omega
  exact⟨b+2,out++[10],aI,g+1,aJ,rfl,by go_num,by omega,by have:=r.out;omega,by rw[List.length_append,u.out];rfl,by omega,Z (by show World.ownsRow _ _ _ _ _ _ _;rw[List.flatMap_append];exact k.out),ax,aK,aL,E'⟩
 have d:Lib.indexByte [34,92,110] c[b+1]= -1:=by
  have f:((34:UInt8)==c[b+1])=false:=by simpa using λe=>G e.symm
  have g:((92:UInt8)==c[b+1])=false:=by simpa using λe=>aa e.symm
  have b:((110:UInt8)==c[b+1])=false:=by simpa using λe=>am e.symm
  simp[Lib.indexByte,f,g,b]
 rw[d]at o;have E':=Z (show j=.bad 5 by rw[E.out,n.out,s,Y.out,pX,if_neg G,if_neg aa,if_neg am]);clear E;go_wp2_with (first|(go_at_call 158;refine(o.out _).mono ?_;rintro e i ⟨rfl,av⟩;rw[av];clear av i)|(go_at_call 86;refine(jT B 5 a _ c1).mono ?_;rintro e w3 ⟨rfl,rfl⟩))
 refine⟨rfl,?_⟩;rw[E'.out];exact⟨K.same,rfl⟩
theorem rM {d:Program} {e:Code} {c:Exit->Act->World->Prop} {a:Act} {b:af} (h:∀f:Exit->Act->World->Prop,Hid (∀g a b,c g a b->f g a b)->e.wp d f a b):e.wp d c a b:=
 h c (Z λ_ _ _ h=>h)
theorem CW (a b c:Nat) (j k m:ay) (er at_:Int) (n:List PanicEntry) (d:af) (e:J d a 121 #[j]) (f:J d b 76 #[k]) (g:J d c 3 #[m]) (q:a≠b) (r:a≠c) (s:b≠c):
 CallsD Tryz.prog 80 #[aj a,aj b,aj c] (.panicking ({v:=nS er at_,recovered:=false}::n)) d λu w i=>
  u=.returned (.tuple #[])/\w=.panicking ({v:=nS er at_,recovered:=true}::n)/\J i a 121 #[aa]/\J i b 76 #[er]/\J i c 3 #[at_]/\Kp [a,b,c] d i:=by
 have i:∀(i:af) (n:ay),(Instr.typeAssert (.iface 178 n) 20 178 true).run Tryz.prog i=.ok (.tuple #[n,.bool true]) i:=λ_ _=>by kernel_rfl
 have n:=λi=>J.frozen e i;have n:=λi=>J.frozen f i;have i:=λi=>J.frozen g i;have i:ac d (ab a 0) j:=J.cell e 0;have i:ac d (ab b 0) k:=J.cell f 0;have i:ac d (ab c 0) m:=J.cell g 0;have i:=e.lt;have j:=f.lt;have k:=g.lt;have m:=aW i;have m:=aW j;have m:=aW k;have i:=Nat.ne_of_gt i;have i:=Nat.ne_of_gt j;have i:=Nat.ne_of_gt k;have i:=q.symm;have i:=r.symm;have i:=s.symm;have x:=Z e;have y:=Z f;have z:=Z g;clear e f g;refine callsD_of_wpS Tryz.func80 rfl λe e o=>?_;rw[Tryz.ntmps80];show Code.wpS _ _ _ {tmps:=#[aj a,aj b,aj c,undef,undef,undef,undef,undef,undef,undef,undef,undef,undef,undef,undef,undef,undef,undef,undef,undef,undef],defers:=[]} _ _;apply wpS_seq;apply wpS_region;simp[wpOpsS,go_sem,recoverD,o,Exit.thenS,nS];apply wpS_seq;apply wpS_region;simp[wpOpsS,go_sem,Exit.thenS];refine wpS_cond (t:=true) mW ?_;simp only[if_true];refine wpS_of_wp ?_;refine rM ?_;intro e e;have A:=Z e;clear o e;go_wp2_with fail
 go_region
 refine A.out.out _ _ _ ?_;have e:=Z (J.far (J.far (x.out.aP 0 aa) (p:=(ab b 0)) aD er) (p:=(ab c 0)) aD at_);have f:=Z (J.far ((J.far y.out (p:=(ab a 0)) aD aa).aP 0 er) (p:=(ab c 0)) aD at_);have g:=Z ((J.far (J.far z.out (p:=(ab a 0)) aD aa) (p:=(ab b 0)) aD er).aP 0 at_);have a:=Z (Kp.aE (p:=(ab c 0)) (l:=[a,b,c]) ai (Kp.aE (p:=(ab b 0)) ai (Kp.aE (p:=(ab a 0)) ai (Kp.refl [a,b,c] d) aa) er) at_);simp[bodyPostS,results,Tryz.results80];exact⟨(e.out.alloc _).drew,(f.out.alloc _).drew,(g.out.alloc _).drew,(a.out.alloc _).drew⟩
theorem CX (a b c:Nat) (d:af):
 CallsD Tryz.prog 80 #[aj a,aj b,aj c] .returning d λe f g=>e=.returned (.tuple #[])/\f=.returning/\g=d:=by
 refine callsD_of_wpS Tryz.func80 rfl λi d j=>?_;rw[Tryz.ntmps80];show Code.wpS _ _ _ {tmps:=#[aj a,aj b,aj c,undef,undef,undef,undef,undef,undef,undef,undef,undef,undef,undef,undef,undef,undef,undef,undef,undef,undef],defers:=[]} _ _;apply wpS_seq;apply wpS_region;simp[wpOpsS,go_sem,recoverD,j,Exit.thenS];apply wpS_seq;apply wpS_region;simp[wpOpsS,go_sem,Exit.thenS];refine wpS_cond (t:=false) mW ?_;simp only[Bool.false_eq_true,if_false];refine wpS_of_wp (wp_skip ?_);cases i;simp_all [bodyPostS,results,Tryz.results80]
theorem CY (a:Nat) (d f:ay) (er at_:Int) (c:List PanicEntry) (b:af) (h:J b a 97 #[d,f]):
 CallsD Tryz.prog 106 #[aj a] (.panicking ({v:=eY er at_,recovered:=false}::c)) b λf g d=>
  f=.returned (.tuple #[])/\g=.panicking ({v:=eY er at_,recovered:=true}::c)/\J d a 97 #[er,at_]/\Kp [a] b d:=by
 have c:∀(c:af) (d:ay),(Instr.typeAssert (.iface 97 d) 20 97 true).run Tryz.prog c=.ok (.tuple #[d,.bool true]) c:=λ_ _=>by kernel_rfl
 have c:=λc=>J.frozen h c;have c:=az h;have c:=aY h;have c:=h.lt;have i:=Z h;clear h;refine callsD_of_wpS Tryz.func106 rfl λc c e=>?_;rw[Tryz.ntmps106];show Code.wpS _ _ _ {tmps:=#[aj a,undef,undef,undef,undef,undef,undef,undef,undef,undef,undef,undef,undef,undef],defers:=[]} _ _;apply wpS_seq;apply wpS_region;simp[wpOpsS,go_sem,recoverD,e,Exit.thenS,eY];apply wpS_seq;apply wpS_region;simp[wpOpsS,go_sem,Exit.thenS];refine wpS_cond (t:=true) mW ?_;simp only[if_true];refine wpS_of_wp ?_;refine rM ?_;intro c c;have j:=Z c;clear e c;go_wp2_with fail
 refine j _ _ _ ?_;have c:=Z ((i.aP 0 er).aP 1 at_);have a:=Z (Kp.aE (p:=(ab a 1)) (l:=[a]) ai (Kp.aE (p:=(ab a 0)) ai (Kp.refl [a] b) er) at_);simp[bodyPostS,results,Tryz.results106];exact⟨c,a⟩
theorem CZ (a:Nat) (b:af):
 CallsD Tryz.prog 106 #[aj a] .returning b λc d e=>c=.returned (.tuple #[])/\d=.returning/\e=b:=by
 refine callsD_of_wpS Tryz.func106 rfl λf b g=>?_;rw[Tryz.ntmps106];show Code.wpS _ _ _ {tmps:=#[aj a,undef,undef,undef,undef,undef,undef,undef,undef,undef,undef,undef,undef,undef],defers:=[]} _ _;apply wpS_seq;apply wpS_region;simp[wpOpsS,go_sem,recoverD,g,Exit.thenS];apply wpS_seq;apply wpS_region;simp[wpOpsS,go_sem,Exit.thenS];refine wpS_cond (t:=false) mW ?_;simp only[Bool.false_eq_true,if_false];refine wpS_of_wp (wp_skip ?_);cases f;simp_all [bodyPostS,results,Tryz.results106]
def rN (b:Int×Int->World->Prop) (c:Ending) (d:af):Prop:=∃a:Int×Int,c=.returned (.agg #[a.1,a.2])/\b a d
theorem vo (d:Nat) (g:Int) (n:FuncId) (r:aO) (c:∀args b,(callFunc n args).run Tryz.prog b=.ok (.enter n args) b) (u0 u1 u2 u3 u4 u5 u6 u7 u8:ay) (b:af) (i:J b d 157 #[u0,u1,u2,u3,u4,u5,u6,u7,u8]) (j:Int×Int->World->Prop) (l:List Nat) (B:∀c∈l,c<b.heap.size)
 (s:∀p c o,j p c->Kp [b.heap.size] c o->b.heap.size<c.heap.size->j p o)
 (t:∀c,J c d 157 #[u0,u1,u2,u3,u4,u5,u6,u7,g]->Kp [d] b c->b.heap.size<c.heap.size->Calls Tryz.prog n r c λk o=>Kp l c o/\((k=.returned (.tuple #[])/\j (0,0) o)\/∃er a,k=.panicked [{v:=eY er a,recovered:=false}]/\j (er,a) o)):
 Calls Tryz.prog 59 #[aj d,g,.func (.func n) #[] r] b (rN j):=by
 have c:∀(c:Fn) (first cap:aO) (b:af),(Instr.makeFunc c first cap).run Tryz.prog b=.ok (.func c first cap) b:=λ_ _ _ _=>rfl;have u:=Z s;have c:=i.lt;have c:=aW c;have c:=c.symm;have w:=Z (show J ((b.setCell (ab d 8) g).alloc (.cells #[O 0,O 0] 97)) b.heap.size 97 #[O 0,O 0] by simpa using J.new (b.setCell (ab d 8) g) 97 #[O 0,O 0]);have x:=Z ((i.aP 8 g).alloc (.cells #[O 0,O 0] 97));have C:=λq=>J.frozen i q;have D:=bN i;have y:=Z (t ((b.setCell (ab d 8) g).alloc _) x ((Kp.aE ai (Kp.refl [d] b) _).alloc _) ai);clear i t s;go_enter_defers Tryz.func59,Tryz.ntmps59
 go_wp2_with fail
 refine y.mono ?_;rintro k z ⟨c,h⟩;have e:=Z (c.blk w (λc=>by have:=B _ c;omega));clear y x C D;rcases h with⟨rfl,m⟩|⟨er,a,rfl,m⟩
 ·have E:=Z m
  have c:=λq=>J.frozen e q;have c:=az e;have c:=aY e;have A:=Z ((e.aP 0 (O 0)).aP 1 (O 0));have F:=Z (Kp.aE (p:=(am b 1)) (l:=[b.heap.size]) ai (Kp.aE (p:=(am b 0)) ai (Kp.refl [b.heap.size] z) (O 0)) (O 0));clear m w;go_wp2;refine leaves_cons (f:=106) (args:=#[aj b.heap.size]) ai ki ?_;refine(CZ b.heap.size _).mono ?_;rintro k c c ⟨rfl,rfl,rfl⟩;have e0:=J.cell A 0;have G:=J.cell A 1;refine⟨.agg _,?_,(0,0),rfl,u _ _ _ E F e.lt⟩;simp[results,Tryz.results59,go_sem,e0,G]
 have E:=Z m;clear m;go_wp2;refine leaves_cons (f:=106) (args:=#[aj b.heap.size]) ai ki ?_;refine(CY b.heap.size _ _ er a [] z e).mono ?_;rintro k b b ⟨rfl,rfl,A,F⟩;have e0:=J.cell A 0;have G:=J.cell A 1;refine⟨.agg _,?_,(er,a),rfl,u _ _ _ E F e.lt⟩;simp[results,Tryz.results59,go_sem,e0,G]
theorem Tryz.C1:(Tryz.prog.info? 136).map (λa=>(a.zero,a.size,a.bytes))=some (some (.agg #[ah,O 0]),2,24):=ak
theorem C2 (g r:Nat) (c:RI) (f:Int) (u0 u2 u3 u4 u5 u6 u7:ay) (j:aX) (a k:Nat) (aA:List Og) (w:af) (p:J w g 157 #[u0,U j a k,u2,u3,u4,u5,u6,u7,f]) (aP:w.ownsRow r 136 2 (U j a k) a (aA.flatMap Og.cells)) (aE:aA.length=a) (a4:g<r) (aE:r<=w.heap.size) (aE:a<=64):
 Calls Tryz.prog 114 #[aj g,.agg c.cells.toArray] w λm w'=>jh w (RO.ap (decide (a<64)) 3 f (RO.ap (aZ c.n 0 100) 2 f (.ok (⟨c.name,c.n⟩:Og))))
  (λaE w'=>fo w w' g r 136 2 Og.cells j a k aA aE (λh=>#[u0,h,u2,u3,u4,u5,u6,u7,f])) m w':=by
 obtain⟨a5,a6,a7,a8,a9⟩:=info_parts Tryz.C1;have ba:=Z (rfl:RO.ap (decide (a<64)) 3 f (RO.ap (aZ c.n 0 100) 2 f (.ok (⟨c.name,c.n⟩:Og)))=RO.ap (decide (a<64)) 3 f (RO.ap (aZ c.n 0 100) 2 f (.ok (⟨c.name,c.n⟩:Og))));obtain⟨aD,aE⟩:∃aD,aD=RO.ap (decide (a<64)) 3 f (RO.ap (aZ c.n 0 100) 2 f (.ok (⟨c.name,c.n⟩:Og))):=⟨_,rfl⟩;rw[<-aE];have o:=Z aE;clear aE ba;obtain⟨s,d,t,u,v,⟨x,y,z⟩,bn,⟨A,B,C⟩,bp,D,b,E,⟨F,G,H⟩,bq,I,K,⟨L,M,N⟩,br,⟨O,P,Q⟩,bs,⟨R,T,V⟩,bt,⟨W,X,⟨Y,aa,ad⟩,bu,⟨ah,ai,ak⟩,bv,⟨al,an,ao⟩,bw,aq,ar,aw,ax⟩⟩:=c;replace o:Hid (aD=RO.ap (decide (a<64)) 3 f (RO.ap (aZ b 0 100) 2 f (.ok (⟨d,b⟩:Og)))):=o;have aF:=Z (λc=>fj b 0 100 c);generalize aZ b 0 100=bb at o aF;have bf:=Z p;have aQ:=Z aP;have c:=p.lt;have aG:=Z (J.new w 95 #[s,d,t,u,v,U x y z,U A B C,D,b,E,U F G H,I,K,U L M N,U O P Q,U R T V,W,X,U Y aa ad,U ah ai ak,U al an ao,aq,ar,aw,ax]);have aB:=Z (p.alloc (.cells #[s,d,t,u,v,U x y z,U A B C,D,b,E,U F G H,I,K,U L M N,U O P Q,U R T V,W,X,U Y aa ad,U ah ai ak,U al an ao,aq,ar,aw,ax] 95));have i:=Z ((ag.refl w).alloc (.cells #[s,d,t,u,v,U x y z,U A B C,D,b,E,U F G H,I,K,U L M N,U O P Q,U R T V,W,X,U Y aa ad,U ah ai ak,U al an ao,aq,ar,aw,ax] 95));have aC:=aY p;have q:=bN p;have c:=aW c;show Calls Tryz.prog 114 #[aj g,.agg #[s,d,t,u,v,U x y z,U A B C,D,b,E,U F G H,I,K,U L M N,U O P Q,U R T V,W,X,U Y aa ad,U ah ai ak,U al an ao,aq,ar,aw,ax]] w _;clear p aP;go_enter Tryz.func114,Tryz.ntmps114
 go_upto_region 1 with(fail)
 obtain⟨e,c⟩:∃e,e=w.alloc (.cells #[s,d,t,u,v,U x y z,U A B C,D,b,E,U F G H,I,K,U L M N,U O P Q,U R T V,W,X,U Y aa ad,U ah ai ak,U al an ao,aq,ar,aw,ax] 95):=⟨_,rfl⟩;rw[<-c]at aG aB i⊢;have f:w.heap.size<e.heap.size:=by rw[c];simp
 have bg:=Z (aH i aQ);clear c aC q bf;have aC:=aY aB;have q:=bN aB;have aI:=aY aG;have aJ:=bN aG;by_cases aR:a<64
 case neg=>
  have c:¬(a:Int)<64:=ae
  have c:=decide_eq_false c;rw[decide_eq_false aR]at o;go_wp2_with fail
  refine fk (w:=w) (l:=[]) (Kp.of_same i.out) o.out q ?_ (λ_ h=>by cases h);intro az _;go_wp2;refine⟨rfl,?_⟩;rw[az.out];exact⟨rfl,i.out⟩
 have c:(a:Int)<64:=ae
 have c:=decide_eq_true c;rw[decide_eq_true aR]at o;go_wp2_with fail
 refine fk (w:=w) (l:=[]) (Kp.of_same i.out) o.out q (λ_ h=>by cases h) ?_;intro aL _;clear o;go_wp2_with fail
 refine(aF.out e).mono ?_;rintro m w' ⟨rfl,rfl⟩;cases bb
 case false=>
  go_wp2_with fail
  refine fk (w:=w) (l:=[]) (Kp.of_same i.out) aL.out q ?_ (λ_ h=>by cases h);intro az _;go_wp2;refine⟨rfl,?_⟩;rw[az.out];exact⟨rfl,i.out⟩
 go_wp2_with fail
 refine fk (w:=w) (l:=[]) (Kp.of_same i.out) aL.out q (λ_ h=>by cases h) ?_;intro bh _;clear aL aF;go_upto_region 3 with(fail)
 refine ez 13 (S:=(λw'=>ac w' (ab g 1) (U j a k)/\ac w' (am w 1) d/\ac w' (am w 8) b)) ⟨aC,aI,aJ⟩ (λhS=>?_);refine dg ?_;refine eh ?_;have bi:(λw':World=>ac w' (ab g 1) (U j a k)/\ac w' (am w 1) d/\ac w' (am w 8) b) (e.drew.alloc (.cells #[d,b] 136)):=⟨(World.cell?_alloc_lt _ _ _ cB).trans aC,(World.cell?_alloc_lt _ _ _ cB).trans aI,(World.cell?_alloc_lt _ _ _ cB).trans aJ⟩;refine aK 11 (λaS az=>?_);go_simp;refine az.out _ _ (λ_=>bi) ?_;refine av ?_;have aT:=Z (aH ((ag.refl e.drew).alloc (.cells #[d,b] 136)) (aH ((ag.refl e).drew) bg));have aU:=Z (cC e.drew #[d,b] 136 2 rfl);have aV:=Z (aB.drew.alloc (.cells #[d,b] 136));refine aK 12 (λaS az=>?_);refine c7 (e.drew.alloc (.cells #[d,b] 136)) (.tmp 23) (.tmp 29) 30 rfl r 136 a5 _ 2 24 Tryz.underlying30 a6 a7 a8 a9 rfl au (U j a k) a (aA.flatMap Og.cells) rfl aT.out (e.heap.size+1) (some ⟨e.heap.size,0,none⟩) 1 1 ((#[d,b]:Array Value).toList) rfl aU.out bl b1 ae cB ?_;intro b b aM a0 a1;obtain⟨a2,a3,rfl,bj⟩:=bo aM;have b:=b3 aQ;have c:some g≠(.slice j a k:ay).ownBlock:=λm=>by have:=b g m.symm;omega
 have aN:=Z (aV.grown a0 c);have d:=aY aN;have c:=λc=>J.frozen aN c;have bk:=Z aM;have aO:=Z (fm (((Kp.refl [] e).drew).alloc _) a0);have bm:=Z (show(Value.slice a2 (a+1) a3).ownBlock=(.slice j a k:ay).ownBlock\/∃c,(Value.slice a2 (a+1) a3).ownBlock=some c/\e.heap.size<=c from a1.imp id (λh=>⟨_,h,by simp[d5]⟩));clear aM a1 bj aT aU aV;refine az.out _ _ (λ_=>⟨d,cR aO.out (by show w.heap.size<_;omega) (λm=>by have h:=b _ m.symm;dsimp only at h;omega) aI,cR aO.out (by show w.heap.size<_;omega) (λm=>by have h:=b _ m.symm;dsimp only at h;omega) aJ⟩) ?_;refine av ?_;refine b2 ?_;refine tq 13 ?_;refine tq 14 ?_;refine tq 15 ?_;refine dp 16 (λaS az=>?_);go_simp;refine az _ _ ?_;refine av ?_;refine bV ?_;go_wp2_with fail
 refine bodyPost_ret (results_none rfl _ _ _) rfl ?_;rw[bh.out];exact⟨rfl,fo.jg i.out aN.out bk.out aO.out a4 rfl bm.out⟩
theorem DP {d i l g:af} {a:List RA} {b:Nat} {f:aw} {o:Int} {e:bm} {p:V} {h:Hd} {m n j:ay} {k:Nat} (r:b<a.length) (s:(⟨⟨f,o,e,p⟩,h⟩:RA)=a[b])
 (t:Below d.heap.size d i) (o:d.heap.size<=i.heap.size) (u:∀c,m.ownBlock=some c->d.heap.size<=c) (p:i.grownBy l m.ownBlock) (i:∀c,n.ownBlock=some c->d.heap.size<=c)
 (m:g.ownsRow d.heap.size 9 1 j ((d4 (a.take b)).length+1+k) ((d4 (a.take b)).map .string++[.string f]++e.map .string)) (v:l.grownBy g n.ownBlock) (l:e.length=k)
 (w:gB a[b].at_=true) (x:∀c (q:c<a.length),c<b->gB a[c].at_=true):vK d a (b+1) j g:=by
 refine⟨Below.grown (Below.grown t p o u) v (bR o p.size) i,?_,?_⟩
 ·rw[DN a b r,<-s]
  have i:((d4 (a.take b)++[f]++e).map Value.string)=(d4 (a.take b)).map .string++[.string f]++e.map .string:=ai
  have k:(d4 (a.take b)++[f]++e).length=(d4 (a.take b)).length+1+k:=by simp[l];omega
  show g.ownsRow d.heap.size _ 1 j ((d4 (a.take b)++[f]++e).length) ((d4 (a.take b)++[f]++e).map Value.string);rw[i,k];exact m
 intro c q a;by_cases y:c=b
 ·subst y;exact w
 exact x c q ae
theorem DQ (n:RT) (e:af) (a:fw e n) (an:∀r∈n.ra,r.at_.was.length<=1000000) (O:bD n.name=true) (P:¬n.ra.length=0) (aZ:¬12<n.ra.length) (Q:¬n.key.length=0):
 Calls Tryz.prog 40 #[n.val] e λf ao=>f=.returned (.bool (g0 n.tb))/\ag e ao:=by
 obtain⟨ap,ar,av,aw,ax⟩:=info_parts Tryz.DM;have ay:=a.1.1.1;have az:=a.2.1.1;have a0:=a.2.1.2.1;have aA:=Z (λb=>o5 n.name b a.2.2);rw[O]at aA;have a1:=Z (m1 n.tb);have R:=Z (λ(b:af) (c:ag e b)=>a.1.same c);have a2:=Z (λ(b:af) (c:ag e b)=>a.2.1.same c);have S:=Z an;have a3:=Z O;clear a an O;obtain⟨B,⟨C,a4,D⟩,b,⟨E,a5,F⟩,d⟩:=n;generalize y:RT.tb ⟨B,⟨C,a4,D⟩,b,⟨E,a5,F⟩,d⟩=k at a1⊢;have n:=Z y;have s:Hid (k.attrs=b.map RA.at_):=by rw[<-y];rfl
 have aB:Hid (k.key=d):=by rw[<-y];rfl
 have a6:Hid (k.name=B):=by rw[<-y];rfl
 clear y;simp only at ay az P aZ Q a0;subst ay az;have n:((b.length:Int)==0)=false:=by simpa using P
 have n:((d.length:Int)==0)=false:=by simpa using Q
 show Calls Tryz.prog 40 #[.agg #[B,U C b.length D,U E d.length F]] e _;go_enter Tryz.func40,Tryz.ntmps40
 go_wp2_with (go_at_call 72;refine(aA.out _).mono ?_;rintro f ao ⟨rfl,rfl⟩)
 obtain⟨g,n⟩:=aq (e.alloc (.cells #[B,U C b.length D,U E d.length F] 81));rw[<-n];have y:ag e g:=by rw[n];exact(ag.refl _).alloc _
 have B:g.heap.size=e.heap.size+1:=by rw[n];simp
 have a7:ac g (am e 1) (U C b.length D):=by rw[n];simp
 have a8:ac g (am e 2) (U E d.length F):=by rw[n];simp
 have T:=Z y;clear n y;go_loopw [3,33] (λi j wr=>∃c:Nat,c<=b.length/\j=.int .i64 c/\Hid (vK g b c i wr)) (λ_ c _=>b.length-(intOf c).toNat)
 case atStart=>exact⟨0,Nat.zero_le _,rfl,ag.refl _,⟨rfl,.inl ⟨rfl,rfl⟩⟩,λc _ c=>absurd c (Nat.not_lt_zero _)⟩
 obtain⟨c,V,rfl,p⟩:=hrel;by_cases m:c<b.length
 ·have z:Hid (ag e wr):=T.out.trans p.out.1
  obtain⟨n,B,y,C,i⟩:=(R wr z).1.2.2 c m;have aN:=y;obtain⟨K,W,X⟩:=(R e (ag.refl _)).2 b[c] (List.getElem_mem m);have Y:=S b[c] (List.getElem_mem m);obtain⟨aO,n⟩:=aq (b[c]);rw[<-n]at i K W X Y;have aa:=Z n;clear n y;subst aN;obtain⟨⟨G,t,ab,⟨u,w,x⟩⟩,⟨H,j,I⟩⟩:=aO;have n:=i 0 G rfl;have y:=i 1 t rfl;have y:=i 2 (U H j I) rfl;have y:=i 3 u rfl;have y:=i 4 w rfl;have y:=i 5 x rfl;simp only[Nat.add_zero]at n;have ad:=Z K;have aD:Hid (∀n,Calls Tryz.prog 73 #[t,.agg #[u,w,x]] n λf y=>f=.returned (.bool (hP t ⟨u,w,x⟩))/\ag n y):=λn=>sD t ⟨u,w,x⟩ n;have A:Hid (gB b[c].at_=(ky t&&hP t ⟨u,w,x⟩)):=by rw[<-aa.out];rfl
  generalize hP t ⟨u,w,x⟩=aE at aD A;clear i K W X;go_upto_region 9 with(go_at_call 73;refine(aD.out _).mono ?_;rintro f l ⟨rfl,J⟩;have o:=Z J;have q:=J.cells;have ah:=J.size;clear J)
  ·go_ret
   exact⟨ch (rV s c m (by rw[A.out];cases aE<;>simp_all [ky]<;>omega)).symm,(z.alloc _).trans o⟩
  ·have i:ag wr l:=((ag.refl wr).alloc _).trans o.out
   have J:=Z (aH i p.2.1);have n:u3.ownBlock≠some wr.heap.size:=λf=>by have:=p.out.2.1.lt _ f;omega
   have t:ac l (am wr 0) G:=(q _ _ ai).trans ai;have aP:ac l (am wr 2) (U H j I):=(q _ _ ai).trans ai;have aF:wr.heap.size<l.heap.size:=by simp at ah;omega
   have t:=p.1.size;have aQ:=Z (xT ad.1);have aI:Hid (ab.length=j):=ad.1.1;have u:j<=1000000:=by rw[<-aI.out];exact Y
   have aR:=Z n;have u:(d4 (b.take c)).length<=12000012:=by
    have:=vJ (rs:=b.take c) (λr u=>S.out r (List.mem_of_mem_take u));have Q:(b.take c).length<=12:=aC
    omega
   have aJ:Hid ((d4 (b.take c)).length+1<=maxLen/\((d4 (b.take c)).length+1)*16<=140737488355328):=⟨by unfold maxLen;omega,by omega⟩;have aK:Hid ((d4 (b.take c)).length+1+j<=maxLen/\((d4 (b.take c)).length+1+j)*16<=140737488355328):=⟨by unfold maxLen;omega,by omega⟩;have L:Hid (g.heap.size<=l.heap.size):=by show g.heap.size<=l.heap.size;omega
   have aL:=Z i;clear i n q;have aS:Hid (g.heap.size<=wr.heap.size):=t;have aU:Hid (g.heap.size<=(l.alloc (.cells #[G] 9)).drew.heap.size):=bR L (m8 _ _);have a9:Hid (e.heap.size<=l.heap.size):=by show e.heap.size<=l.heap.size;omega
   have bb:Hid (e.heap.size<=g.heap.size):=by show e.heap.size<=g.heap.size;omega
   go_region_law (first
    |(refine m9 _ rfl (.tmp 53) (.tmp 56) 83 rfl g.heap.size 9 ap _ 1 16 Tryz.underlying83 ar av aw ax rfl au u3 _ _ rfl (J.out.drew.alloc _) _ _ 1 1 [.string G] rfl (xu _ _ _) (λi aM=>by simp at aM;subst aM;rfl) aJ.out.1 aJ.out.2 ?_ ?_;exact bR L.out (m8 _ _);intro aj n t i u;have aV:ac n (am wr 2) (U H j I):=((World.cell?_of_block (a:=⟨wr.heap.size,2,none⟩) (i.block wr.heap.size (aT aF (m8 _ _)) aR.out.symm)).trans ((((ag.refl l).alloc _).drew).cells _ 2 aF)).trans aP;have ak:=Z t;have al:=Z i;have aW:Hid (Below e.heap.size e n):=Below.grown (((z.out.trans aL.out).alloc _).drew) i (bR a9.out (m8 _ _)) (λc V=>bR bb.out (J.out.lt c V).1);clear t i u)
    |(refine m9 _ rfl (.tmp 57) (.tmp 59) 83 rfl g.heap.size 9 ap _ 1 16 Tryz.underlying83 ar av aw ax rfl au aj _ _ rfl ak.out e.heap.size H j I (ab.map .string) rfl (aQ.out.below aW.out) (λi aM=>by obtain⟨bc,_,rfl⟩:=List.mem_map.1 aM;rfl) aK.out.1 aK.out.2 ?_ ?_;exact bR (bR L.out (m8 _ _)) al.out.size;intro i i i j n;have aX:=Z i;have aY:=Z j;clear i j n aV))
   all_goals
    go_wp2;go_roundw
    case rel=>exact⟨c+1,by omega,by go_num,DP m aa.out (Below.trans p.out.1 (Below.mono (aL.out.alloc _).drew aS.out)) aU.out (λi j=>(J.out.lt i j).1) al.out (λi j=>(ak.out.lt i j).1) aX.out aY.out aI.out (by rw[A.out];cases aE<;>simp_all [ky]) p.out.2.2⟩
    simp[intOf];omega
  ·go_ret
   exact⟨ch (rV s c m (by rw[A.out];simp[ky];omega)).symm,z.alloc _⟩
  go_ret;exact⟨ch (rV s c m (by rw[A.out];simp[ky];omega)).symm,z.alloc _⟩
 have a9:c=b.length:=ae
 subst a9;obtain⟨x,t,aD⟩:=p.out;rw[List.take_length]at t;obtain⟨i,u⟩:=aq (d4 b);rw[<-u]at t;have aE:0<i.length:=by
  rw[u];cases b with
  |nil=>simp at P
  |cons r b=>simp[d4,d9]
 have n:i.length<=12000012:=by
  have:=vJ (rs:=b) S.out;rw[<-u]at this;omega
 obtain⟨W,G,bb,n,y⟩:=t.form aE;subst bb;have n:i.length<=G:=by
  rcases t.2 with⟨f,_⟩|⟨w,z,A,f,_,_,j,_⟩
  ·cases f
  injection f with _ _ f;subst f;exact j
 have n:=Z u;have bc:Hid (∀j∈i,aG j):=by
  intro w j;rw[u]at j;obtain⟨a,z,j⟩:=sG.1 j;obtain⟨r,A,rfl⟩:=List.mem_map.1 z;obtain⟨M,N,_⟩:=(R e (ag.refl _)).2 r A;rcases j with rfl|j
  ·exact N
  exact M.2 w j
 have H:Hid (kz k=i):=by rw[u];show d9 k.attrs=_;rw[s.out];rfl
 have bd:Hid (k.attrs.all gB=true):=by
  rw[s.out,List.all_eq_true];intro a w;obtain⟨r,z,rfl⟩:=List.mem_map.1 w;obtain⟨A,j,rfl⟩:=List.mem_iff_getElem.1 z;exact aD A j j
 have be:Hid ((bD k.name&&(decide (1<=k.attrs.length)&&decide (k.attrs.length<=12)&&decide (1<=k.key.length)))=true):=by
  rw[a6.out,s.out,aB.out,a3.out,List.length_map,decide_eq_true ae,decide_eq_true ae,decide_eq_true ae];rfl
 have bf:=Z t;have aF:=Z x;have aI:=(x.cells _ 1 ae).trans a7;have aJ:=(x.cells _ 2 ae).trans a8;have n:=x.size;have bg:=Z (DL ⟨some ⟨W,0,none⟩,i.length,G⟩ i wr ⟨DD t rfl ae,bc⟩);clear t x aD u p;go_wp2_with fail
 refine bg.mono ?_;rintro f l ⟨rfl,o⟩;have q:=o.cells;have ah:=o.size;cases hbad:(i.any λj=>!bD j)with
 |true=>
  have j:=Z hbad;clear hbad;go_wp2;go_ret;refine⟨ch ?_,(T.trans aF).trans o⟩;have:(kz k).all bD=false:=by
   rw[H.out];have:=j.out;simp only[List.any_eq_true,Bool.not_eq_true']at this;obtain⟨w,z,A⟩:=this;rw[List.all_eq_false];exact⟨w,z,by simp[A]⟩
  rw[m1,this];simp
 |false=>
  have bh:Hid ((kz k).all bD=true):=by
   rw[H.out,List.all_eq_true];intro j n;simp only[List.any_eq_false,Bool.not_eq_true',Bool.not_eq_false]at hbad;exact hbad j n
  clear hbad;have aK:=aH o bf;obtain⟨n,z,aL,bi,aM,bj⟩:=DC aK aE;injection z with z
  injection z with z _ _
  subst z;have bk:=Z (DE g.heap.size W G i l aM bi aL ae);have aN:=(q _ 1 ae).trans aI;have aO:=(q _ 2 ae).trans aJ;clear aI aJ q aK aM bj;go_wp2_with fail
  refine bk.mono ?_;rintro f bl ⟨rfl,I,br,X⟩;obtain⟨Y,n⟩:=aq ((i.map ba).mergeSort λj n=>decide (j<=n));rw[<-n]at X;have p:Y.length=i.length:=by rw[n];simp
  have w:=Z (DI i);rw[<-n]at w;have aa:=Z (DF g.heap.size W G Y bl X aL ae ae);rw[p]at aa;have aP:=(Below.cell I (by show e.heap.size<_;omega)).trans aN;have aQ:=(Below.cell I (by show e.heap.size<_;omega)).trans aO;have bm:=Z (Below.trans (aF.trans o) I);clear aN aO I n X p;generalize (Lib.compact Y).length=aR at w aa;go_wp2_with fail
  refine aa.mono ?_;rintro f bn ⟨rfl,J⟩;have aj:=(Below.cell J (by show e.heap.size<_;omega)).trans aP;have e:=(Below.cell J (by show e.heap.size<_;omega)).trans aQ;have A:=Z (T.trans (Below.trans bm J));clear aP aQ J;cases hd:jA i with
  |true=>
   have e:aR<i.length:=by rw[hd]at w;exact of_decide_eq_true w.out
   have j:=Z hd;clear hd;go_wp2;go_ret;refine⟨ch ?_,A⟩;rw[m1,H.out,j.out];simp
  |false=>
   have e:¬aR<i.length:=by rw[hd]at w;exact of_decide_eq_false w.out
   have e:=Z hd;clear hd;have ab:Hid (g0 k=o6 b.length d):=by
    show g0 k=_;rw[m1,be.out,bd.out,bh.out,H.out,e.out,s.out,aB.out,List.length_map];simp
   have aS:=Z ((a2 bn A).one);go_wp2;go_loop [75] (λe=>∃c:Nat,c<=d.length/\e=.int .i64 c/\Hid (∀e,e<c->gl b.length d e=true)) (λe=>d.length-(intOf e).toNat)
   case atStart=>exact⟨0,Nat.zero_le _,rfl,λe e=>absurd e (Nat.not_lt_zero _)⟩
   obtain⟨c,V,rfl,ad⟩:=hrel;by_cases m:c<d.length
   ·obtain⟨e,f,hA2,g,e0⟩:=aS.out c m (v:=.int .i64 d[c]) rfl
    have bo:=hA2;subst bo;have K:d.getD c 0=d[c]:=by simp[List.getD_eq_getElem?_getD,m]
    by_cases bp:c=0
    ·subst bp
     have j:Hid (gl b.length d 0=(decide (0<=d[0])&&decide (d[0]<(b.length:Int)))):=by
      show gl b.length d 0=_;unfold gl;rw[K];simp
     generalize d[0]=L at e0 j;clear K hA2;simp only[Nat.add_zero]at e0;go_wp2
     all_goals
      first
       |(
        go_round
        case rel=>exact⟨0+1,by omega,rfl,rU ad.out (by rw[j.out];simp;omega)⟩
        simp[intOf];omega)
       |(
        go_ret;refine⟨ch ?_,A⟩;rw[ab.out];exact(p8 0 m (by rw[j.out];simp;omega)).symm)
    obtain⟨j,rfl⟩:∃j,c=j+1:=⟨c-1,by omega⟩;obtain⟨c,e,hA3,_,bq⟩:=aS j ae rfl;injection hA3 with hA3
    injection hA3 with M N _
    subst M N;have aU:d.getD j 0=d[j]'ae:=by simp[List.getD_eq_getElem?_getD];rw[List.getElem?_eq_getElem ae];rfl
    have L:Hid (gl b.length d (j+1)=(decide (0<=d[j+1])&&decide (d[j+1]<(b.length:Int))&&decide (d[j]'ae<d[j+1]))):=by
     show gl b.length d (j+1)=_;unfold gl;rw[K,Nat.add_sub_cancel,aU];simp
    generalize d[j+1]=bs at e0 L;generalize d[j]'ae=bt at bq L;clear K aU hA2;go_wp2
    all_goals
     first
      |(
       go_round
       case rel=>exact⟨j+1+1,by omega,by go_num,rU ad.out (by rw[L.out];simp;omega)⟩
       simp[intOf];omega)
      |(
       go_ret;refine⟨ch ?_,A⟩;rw[ab.out];exact(p8 (j+1) m (by rw[L.out];simp;omega)).symm)
   go_wp2;go_ret;refine⟨ch ?_,A⟩;rw[ab.out];exact(vH (λb c=>ad b ae)).symm
theorem DR (a:RT) (c:af) (d:fw c a) (g:∀e∈a.ra,e.at_.was.length<=1000000):
 Calls Tryz.prog 40 #[a.val] c λe f=>e=.returned (.bool (g0 a.tb))/\ag c f:=by
 by_cases b:bD a.name=false\/a.ra.length=0\/12<a.ra.length\/a.key.length=0
 ·refine(DO a c d b).mono ?_
  rintro e f ⟨rfl,i⟩;refine⟨ch ?_,i⟩;have e:a.tb.name=a.name:=rfl;have f:a.tb.attrs.length=a.ra.length:=by simp[RT.tb]
  have i:a.tb.key=a.key:=rfl;rw[m1,e,f,i];rcases b with h|h|h|h
  ·simp[h]
  ·simp[h]
  ·rw[decide_eq_false (show¬a.ra.length<=12 by omega)];simp
  rw[h];simp
 simp only[not_or,Bool.not_eq_false]at b;exact DQ a c d g b.1 b.2.1 b.2.2.1 b.2.2.2
def dh (a:List RT):Prop:=∀b∈a,∀a∈b.ra,a.at_.was.length<=1000000
def p9 (a:List Tb) (b:Nat):Bool:=match a[b]? with|some c=>g0 c&&decide (cS a c.name=b)|none=>false
theorem DS (a:List Tb):eK a=(decide (a.length<=20)&&(List.range a.length).all (p9 a)):=rfl
theorem vL (h:Hd) (a:List RT) (b:af) (f:bI b h a) (z:dh a):
 Calls Tryz.prog 22 #[.agg #[h.val]] b λq w'=>q=.returned (.bool (eK (a.map RT.tb)))/\ag b w':=by
 have A:=f.1.1;have Q:=f.1.2.1;have R:=Z (λ(c:af) (g:ag b c) (d:Nat) (e:d<a.length)=>DR a[d] c ((f.2 _ (List.getElem_mem e)).same g) (z _ (List.getElem_mem e)));have r:=Z (λ(c:af) (d:ag b c) (e:aw)=>q0 h a e c (f.same d));have S:=Z (λ(c:af) (d:ag b c)=>(f.same d).1);have g:=Z (DS (a.map RT.tb));have B:Hid (∀c (d:c<a.length),p9 (a.map RT.tb) c=(g0 a[c].tb&&decide (cS (a.map RT.tb) a[c].name=c))):=by
  intro c c;simp[p9,c];rfl
 have i:Hid ((a.map RT.tb).length=a.length):=List.length_map _;clear f z;obtain⟨s,aa,j⟩:=h;simp only at A Q;subst A;generalize a.map RT.tb=t at r g B i⊢;have T:Hid (∀c,ag b c->∀d,Calls Tryz.prog 41 #[.agg #[U s a.length j],.string d] c λq w'=>q=.returned (O (cS t d))/\ag c w'):=r;clear r;show Calls Tryz.prog 22 #[.agg #[U s a.length j]] b _;by_cases f:20<a.length
 ·go_enter Tryz.func22,Tryz.ntmps22
  go_wp2;go_ret;refine⟨ch ?_,(ag.refl b).alloc _⟩;rw[g.out,i.out,decide_eq_false ae];rfl
 go_enter Tryz.func22,Tryz.ntmps22
 go_wp2;go_loopw [11] (λd wr=>∃c:Nat,c<=a.length/\d=.int .i64 c/\Hid (ag (b.alloc (.cells #[U s a.length j] 29)) wr)/\Hid (∀d,d<c->p9 t d=true)) (λc _=>a.length-(intOf c).toNat)
 case atStart=>exact⟨0,Nat.zero_le _,rfl,ag.refl _,λc c=>absurd c (Nat.not_lt_zero _)⟩
 obtain⟨c,ab,rfl,k,C⟩:=hrel;by_cases l:c<a.length
 ·have u:ag b wr:=((ag.refl b).alloc _).trans k.out
  have o:=Z u;obtain⟨D,E,V,f,m⟩:=(S wr u).2.2 c l;subst V;have p:=λd e=>R d e c l;have n:=B c l;obtain⟨tk,f⟩:=aq (a[c]);rw[<-f]at m n;simp only[<-f]at p;clear f;generalize g0 tk.tb=F at p n;have v:=λd e=>T d e tk.name;generalize cS t tk.name=W at v n;obtain⟨w,⟨G,H,I⟩,ad,⟨J,K,L⟩,ah⟩:=tk;have f:=m 0 w rfl;have q:=m 1 (U G H I) rfl;have r:=m 2 (U J K L) rfl;have s:ac wr (am b 0) (U (some ⟨D,E,none⟩) a.length j):=(k.cells _ 0 ai).trans ai;have t:b.heap.size<wr.heap.size:=aT ai k.size;simp only[Nat.add_zero]at f;have t:Hid (Rt 40 #[.agg #[w,U G H I,U J K L]] b (.bool F)):=p;have a:Hid (Rt 41 #[.agg #[U (some ⟨D,E,none⟩) a.length j],w] b W):=v;have x:=Z n;clear m p v n u;have j:=bM f;have j:=bM q;have j:=bM r;have j:=bM s;have M:=gX (λd e=>t d (o.trans e));have N:=gX (λd e=>a d (o.trans e));clear f q r s;cases F
  case false=>
   go_wp2_with fail
   refine wp_region_quiet_below ak ak ?_;repeat (go_big_quiet_step (first|(go_at_call 40;exact M _ _)|(go_at_call 41;exact N _ _)))
   refine wpQuiet_nil ?_;intro _ X;obtain⟨⟨y,osq⟩,Y⟩:=X;subst Y;have P:=Z (ag.reg wr y osq);generalize Sort.grow (redrawn wr y) osq=aj at P⊢;go_wp2;go_ret;refine⟨ch ?_,o.trans P⟩;rw[g.out,i.out,p8 c l (by rw[x.out];rfl),Bool.and_false]
  go_wp2_with fail
  refine wp_region_quiet_below ak ak ?_;repeat (go_big_quiet_step (first|(go_at_call 40;exact M _ _)|(go_at_call 41;exact N _ _)))
  refine wpQuiet_nil ?_;intro _ X;obtain⟨⟨P,osq⟩,Y⟩:=X;subst Y;have y:=Z (ag.reg wr P osq);generalize Sort.grow (redrawn wr P) osq=aj at y⊢;go_wp2
  ·go_ret
   refine⟨ch ?_,o.trans y⟩;rw[g.out,i.out,p8 c l (by rw[x.out];simp_all),Bool.and_false]
  go_roundw
  case rel=>exact⟨c+1,by omega,by go_num,k.out.trans y.out,rU C.out (by rw[x.out];simp_all)⟩
  simp[intOf];omega
 go_wp2;go_ret;refine⟨ch ?_,((ag.refl b).alloc _).trans k⟩;rw[g.out,i.out,vH (λa b=>C.out a ae),decide_eq_true ae];rfl
def Cg.cells (a:Cg):List Value:=[.int .i64 a.kind,.string a.table,.string a.attr,.string a.name,.int .i64 a.dE,.int .i64 a.dflt.k,.int .i64 a.dflt.n,.string a.dflt.s]
def Cg.val (c:Cg):Value:=.agg c.cells.toArray
def bt (a:Nat):Value:=.func (.func a) #[] #[]
def gQ:Value:=.agg #[.bool false,bt 245,bt 248,bt 249]
def gR:Value:=.agg #[.bool true,bt 250,bt 251,bt 253]
def gS:Value:=.agg #[.bool true,bt 255,bt 256,bt 258]
def gT:Value:=.agg #[.bool true,bt 259,bt 260,bt 261]
theorem vM (a:af):Calls Tryz.prog 177 #[] a λb c=>b=.returned gQ/\ag a c:=by
 go_enter Tryz.func177,Tryz.ntmps177
 go_wp2;exact bodyPost_ret (v:=gQ) (by simp[results,Tryz.results177,go_sem,gQ,bt]) rfl ⟨rfl,(ag.refl a).alloc _⟩
theorem vN (a:af):Calls Tryz.prog 178 #[] a λb c=>b=.returned gR/\ag a c:=by
 go_enter Tryz.func178,Tryz.ntmps178
 go_wp2;exact bodyPost_ret (v:=gR) (by simp[results,Tryz.results178,go_sem,gR,bt]) rfl ⟨rfl,(ag.refl a).alloc _⟩
theorem vO (a:af):Calls Tryz.prog 179 #[] a λb c=>b=.returned gS/\ag a c:=by
 go_enter Tryz.func179,Tryz.ntmps179
 go_wp2;exact bodyPost_ret (v:=gS) (by simp[results,Tryz.results179,go_sem,gS,bt]) rfl ⟨rfl,(ag.refl a).alloc _⟩
theorem vP (a:af):Calls Tryz.prog 180 #[] a λb c=>b=.returned gT/\ag a c:=by
 go_enter Tryz.func180,Tryz.ntmps180
 go_wp2;exact bodyPost_ret (v:=gT) (by simp[results,Tryz.results180,go_sem,gT,bt]) rfl ⟨rfl,(ag.refl a).alloc _⟩
theorem vQ (i:Cg) (w:af):Calls Tryz.prog 246 #[i.val] w λg q=>g=.returned (.bool (g1 i))/\ag w q:=by
 obtain⟨j,k,l,m,a,⟨b,c,d⟩⟩:=i;have n:Hid (∀e,Calls Tryz.prog 73 #[a,.agg #[b,c,d]] e λg f=>g=.returned (.bool (hP a ⟨b,c,d⟩))/\ag e f):=λi=>sD a ⟨b,c,d⟩ i;have f:Hid (g1 ⟨j,k,l,m,a,⟨b,c,d⟩⟩=(decide (1<=a)&&decide (a<=4)&&hP a ⟨b,c,d⟩)):=rfl;generalize hP a ⟨b,c,d⟩=s at n f;generalize g1 ⟨j,k,l,m,a,⟨b,c,d⟩⟩=t at f⊢;show Calls Tryz.prog 246 #[.agg #[j,k,l,m,a,b,c,d]] w _;by_cases e:1<=a/\a<=4
 ·obtain⟨e,r⟩:=e
  go_enter Tryz.func246,Tryz.ntmps246
  go_wp2_with (go_at_call 73;refine(n.out _).mono ?_;rintro g b ⟨rfl,o⟩;have p:=Z o;clear o)
  go_ret;exact⟨ch (by rw[f.out,decide_eq_true e,decide_eq_true r];rfl),((ag.refl w).alloc _).trans p.out⟩
 have o:=Z e;clear e;go_enter Tryz.func246,Tryz.ntmps246
 by_cases e:1<=a
 ·have b:¬a<=4:=λh=>o.out ⟨e,h⟩
  go_wp2;go_ret;exact⟨ch (by rw[f.out,decide_eq_false (show¬a<=4 by omega)];simp),(ag.refl w).alloc _⟩
 go_wp2;go_ret;exact⟨ch (by rw[f.out,decide_eq_false (show¬1<=a by omega)];simp),(ag.refl w).alloc _⟩
theorem vR (c:RT) (a:Cg) (b:af) (k:fw b c) (l:aG a.name):
 Calls Tryz.prog 247 #[c.val,a.val] b λe x=>e=.returned (O (gm c.tb a))/\ag b x:=by
 have f:=Z (λd=>o5 a.name d l);have i:=Z (λd (i:ag b d)=>pq c a.name d (k.same i));have d:Hid (gm c.tb a=if bD a.name then(if 0<=bH c.tb.attrs a.name then 9 else 0)else 1):=rfl;generalize bH c.tb.attrs a.name=m at i d;generalize gm c.tb a=G at d⊢;clear k l;obtain⟨n,⟨o,p,q⟩,H,⟨r,s,t⟩,I⟩:=c;obtain⟨y,z,A,j,B,⟨C,D,E⟩⟩:=a;simp only at f;generalize bD j=F at f d;have u:Hid (Rt 55 #[.agg #[n,U o p q,U r s t],j] b m):=i;clear i;show Calls Tryz.prog 247 #[.agg #[n,U o p q,U r s t],.agg #[y,z,A,j,B,C,D,E]] b _;go_enter Tryz.func247,Tryz.ntmps247
 cases F
 case false=>
  go_wp2_with (go_at_call 72;refine(f.out _).mono ?_;rintro e a ⟨rfl,rfl⟩)
  go_ret;exact⟨d0 (by rw[d.out];rfl),((ag.refl b).alloc _).alloc _⟩
 by_cases v:0<=m
 ·rw[if_pos rfl,if_pos v]at d
  go_wp2_with (first
   |(go_at_call 72;refine(f.out _).mono ?_;rintro e a ⟨rfl,rfl⟩)
   |(go_at_call 55;refine(u.out _ ?_).mono ?_;exact((ag.refl b).alloc _).alloc _;rintro e a ⟨rfl,w⟩;have g:=Z w;clear w))
  go_ret;exact⟨d0 d.out.symm,(((ag.refl b).alloc _).alloc _).trans g.out⟩
 rw[if_pos rfl,if_neg v]at d;go_wp2_with (first
  |(go_at_call 72;refine(f.out _).mono ?_;rintro e a ⟨rfl,rfl⟩)
  |(go_at_call 55;refine(u.out _ ?_).mono ?_;exact((ag.refl b).alloc _).alloc _;rintro e a ⟨rfl,w⟩;have g:=Z w;clear w))
 go_ret;exact⟨d0 d.out.symm,(((ag.refl b).alloc _).alloc _).trans g.out⟩
theorem rY {b:List Tb} {a:Cg} (h:dj b a=0):d7 a=true/\eK b=true/\∃(c:Nat) (e:c<b.length),cS b a.table=c/\b[c].name=a.table/\(a.kind≠1->0<=bH b[c].attrs a.attr)/\gn b[c] a (bH b[c].attrs a.attr).toNat=0:=by
 unfold dj at h;cases hf:d7 a with
 |false=>rw[hf]at h;simp at h
 |true=>
  cases hv:eK b with
  |false=>rw[hf,hv]at h;simp at h
  |true=>
   rw[hf,hv]at h;simp only[Bool.and_self,if_true]at h;refine⟨rfl,rfl,?_⟩;rcases mj (λd:Tb=>decide (d.name=a.table)) b with⟨f,_⟩|⟨c,e,f,i,_⟩
   ·have d:cS b a.table= -1:=f
    rw[d,if_pos ae]at h;cases h
   have g:cS b a.table=c:=f;rw[g,if_neg ae]at h;simp only[Int.toNat_natCast,List.getElem?_eq_getElem e]at h;have j:b[c].name=a.table:=by simpa using i
   by_cases d:(decide (a.kind≠1)&&decide (bH b[c].attrs a.attr<0))=true
   ·rw[if_pos d]at h;cases h
   rw[if_neg d]at h;refine⟨c,e,g,j,λa=>?_,h⟩;simp at d;exact d a
structure mc (t:Tb):Prop where
 nm:bD t.name=true
 l1:1<=t.attrs.length
 rZ:t.attrs.length<=12
 k1:1<=t.key.length
 at_:∀a∈t.attrs,gB a=true
 names:∀x∈d9 t.attrs,bD x=true
 nodup:(d9 t.attrs).Nodup
 key:∀j,j<t.key.length->gl t.attrs.length t.key j=true
theorem vT {a:Tb}:g0 a=true↔mc a:=by
 unfold g0;have a:kz a=d9 a.attrs:=rfl;rw[a];simp only[Bool.and_eq_true,decide_eq_true_eq,Bool.not_eq_true',List.all_eq_true,o6,List.mem_range,sF];constructor
 ·rintro⟨⟨⟨⟨⟨a,⟨b,c⟩,d⟩,e⟩,f⟩,g⟩,i⟩
  exact⟨a,b,c,d,e,f,g,i⟩
 rintro⟨a,b,c,d,e,f,g,i⟩;exact⟨⟨⟨⟨⟨a,⟨b,c⟩,d⟩,e⟩,f⟩,g⟩,i⟩
theorem oR {c:Nat} {b:List Int} {a:Nat}:gl c b a=true↔(0<=b.getD a 0/\b.getD a 0<c)/\(a=0\/b.getD (a-1) 0<b.getD a 0):=by
 simp[gl]
theorem vU {b:List Tb}:eK b=true↔b.length<=20/\∀a (c:a<b.length),mc b[a]/\cS b b[a].name=a:=by
 unfold eK;simp only[Bool.and_eq_true,decide_eq_true_eq,List.all_eq_true,List.mem_range];constructor
 ·rintro⟨b,d⟩
  refine⟨b,λa c=>?_⟩;have:=d a c;rw[List.getElem?_eq_getElem c]at this;simp only[Bool.and_eq_true,decide_eq_true_eq,vT]at this;exact this
 rintro⟨b,d⟩;refine⟨b,λa c=>?_⟩;rw[List.getElem?_eq_getElem c];simp only[Bool.and_eq_true,decide_eq_true_eq,vT];exact d a c
theorem D2 {b:Type} (a:List b) (b:Nat) (h:b<a.length):∃c d,a=c++a[b]::d/\c.length=b:=by
 refine⟨a.take b,a.drop (b+1),?_,by simp;omega⟩;rw[List.getElem_cons_drop,List.take_append_drop]
theorem r0 {a:Type} (c:a->a) (d:a) (e:List a):∀b:List a,(b++d::e).modify b.length c=b++c d::e
 |[]=>by simp
 |y::b=>by simp[r0 c d e b]
theorem vV {b:Type} (d:b) (c:List b):∀a:List b,(a++d::c).eraseIdx a.length=a++c
 |[]=>by simp
 |y::a=>by simp[vV d c a]
theorem D3 (a b:List At):d9 (a++b)=d9 a++d9 b:=by simp[d9]
theorem D4 {l:List At} {x:aw} (h:bH l x<0):x∉d9 l:=by
 intro a;obtain⟨b,c,d⟩:=sG.1 a;rcases sE l x with⟨_,e⟩|⟨f,g,i,_⟩
 ·exact e b c d
 omega
theorem vW {a:Cg} (h:d7 a=true):a.kind=1\/a.kind=2\/a.kind=3\/a.kind=4:=by
 unfold d7 at h;by_cases b:a.kind=1
 ·exact .inl b
 by_cases c:a.kind=2
 ·exact .inr (.inl c)
 by_cases d:a.kind=3
 ·exact .inr (.inr (.inl d))
 by_cases e:a.kind=4
 ·exact .inr (.inr (.inr e))
 rw[if_neg b,if_neg c,if_neg d,if_neg e]at h;cases h
theorem r1 (a:List Tb) (b:Cg):(gC a b).length=a.length:=by simp[gC]
theorem vX {a:List Tb} {c:Cg} {d:Nat} (b:d<a.length) (e:cS a c.table=d) (b:Nat) (f:b<a.length):(gC a c)[b]'(by rw[r1];exact f)=if d=b then dt a[b] c else a[b]:=by
 simp only[gC,e,Int.toNat_natCast,List.getElem_modify]
end Go.Proofs.YteamkimbmdgdbaaGreatDoor

import Derived.Test.YteamkimbmdgdbaaGreatDoorK16
set_option linter.unusedSimpArgs false
set_option linter.unusedVariables false
set_option maxHeartbeats 16000000
set_option maxRecDepth 100000
namespace Go.Proofs.YteamkimbmdgdbaaGreatDoor
open Go.Proofs.Tryz
open Go.RowKit
theorem E9 (b:List Tb) (c:ax) (d:List bm) (f:bk) (g i:ax) (j a:Int) (ks:List Pl):cy b 4 c d f g i j a ks=RO.ap (decide (ks.length=2)) 1 a ((hJ a (bH ks 0) (bH ks 0) (bH ks 1)).bind λb=>RO.ap (decide (b.length<=24)) 3 a (.ok (.mk 4 0 ks [] [] 0 0 b))):=by
 have h:decide (ey 4=some ks.length)=decide (ks.length=2):=by
  have:ey 4=some 2:=rfl;exact sM
 unfold cy;rw[h];rfl
theorem Fa (ar g ai:Nat) (h:Hd) (bs:List RT) (a1:ax) (b5 v:Hd) (c:List aD) (bt:Hd) (bu:List bm) (a2:Hd) (bx:bk) (a3 az:ax) (a4 at_:Int) (o:ah) (eq:aJ az)
 (bz:aa o g 105 #[J 4,J 0,v.val,ab,ab,J 0,J 0,ab]) (y:iP o ar g ai h bs v c bt bu a2 bx at_):
 Calls prog 201 #[ak ar,.agg #[J 4,a1,b5.val,bt.val,a2.val,a3,az,a4,at_],ak g] o
  λe w'=>RP [g] o (cy (bs.map RT.tb) 4 a1 bu bx a3 az a4 at_ (aD.aO c)) (iQ g ai) e w':=by
 obtain⟨er,b6,es⟩:=h;obtain⟨b8,b9,aA⟩:=v;obtain⟨cQ,cR,cS⟩:=b5;obtain⟨cT,cU,cV⟩:=bt;obtain⟨cW,cX,cY⟩:=a2;have S:=Z y;have cZ:c.length=b9:=y.lk.1;have bt:b9<=9223372036854775807:=y.lk.2.1;subst cZ;have b5:=y.hX;have bt:=y.xp;have bt:=y.kz;have bt:=y.lw;have bt:=bz.lt;have c0:=Z bz;obtain⟨R,bs⟩:=av (cy (bs.map RT.tb) 4 a1 bu bx a3 az a4 at_ (aD.aO c));rw[<-bs];have bt:(aD.aO c).length=c.length:=by rw[aD.gY,List.length_map]
 have E0:=Z (show R=RO.ap (decide (c.length=2)) 1 at_ ((hJ at_ (bH (aD.aO c) 0) (bH (aD.aO c) 0) (bH (aD.aO c) 1)).bind λb=>RO.ap (decide (b.length<=24)) 3 at_ (.ok (.mk 4 0 (aD.aO c) [] [] 0 0 b))) by rw[bs,E9,bt]);clear bs y bz bt;have c1:=Z (Kp.refl [g] o);have bA:=Z (λ(b:ah) (d:Kp [g] o b)=>S.lk.kp d (λb d e b6=>by have b:=(S.out.ik b d e).1;have b:=aC b6;omega));have aB:=Z (λ(b:ah) (d:Kp [g] o b)=>show ae b (ac ar 8) at_ from(d.cell (p:=(ac ar 8)) b5 aF).trans S.c8);have c2:=@run_makeMap prog;show Calls prog 201 #[ak ar,.agg #[J 4,a1,O cQ cR cS,O cT cU cV,O cW cX cY,a3,az,a4,at_],ak g] o _;go_enter func201,ntmps201
 go_upto_region 1 with(fail)
 obtain⟨a3,ar,a1,b,az⟩:=nb o 154 _;rw[ar];clear ar;have a3:=qk c1 b;have a4:=qb b c0;clear b;obtain⟨q,ar,c3,b,bs⟩:=nc az 93 _;rw[ar];clear ar;have c4:=qk a3 b;have c5:=qb b a4;have c6:=qb b a1;clear b;clear az bs;have c7:=kA q;have c9:=kB q;have da:=kC q;have db:=kD q;have dc:=kE q;have dd:=kF q;have de:=kG q;have df:=kH q;go_upto_region 2 with(fail)
 clear c7 c9 da db dc dd de df c2;have M3:=Z (kI q);have b:=Z (show ag q (q.alloc (.map (km 8) 8))from(ag.refl q).alloc _);obtain⟨a5,q⟩:=av (q.alloc (.map (km 8) 8));rw[<-q]at M3 b⊢;clear q;have K3:=qk c4 b;have ca:=qb b c5;have cb:=qb b c6;have cd:=qb b c3;have dg:=lx M3 (k:=4) (n:=2) rfl;clear b M3;have dh:=ay cd;go_upto_region 3 with(fail)
 clear dg dh;have eW:=ay cb;have eX:ae a5 (ac g 2) (O b8 c.length aA):=aa.cell ca 2;have dw:=aB a5 K3;by_cases hN:c.length=2
 case neg=>
  have d:(((2:Nat):Int)==(c.length:Int))=false:=aF
  have d:((2:Int)==(c.length:Int))=false:=aF
  exact pn
 have a6:(((2:Nat):Int)==(c.length:Int))=true:=aF
 have dj:((2:Int)==(c.length:Int))=true:=aF
 have E1:=Z (show R=RO.ap true 1 at_ ((hJ at_ (bH (aD.aO c) 0) (bH (aD.aO c) 0) (bH (aD.aO c) 1)).bind λd=>RO.ap (decide (d.length<=24)) 3 at_ (.ok (.mk 4 0 (aD.aO c) [] [] 0 0 d))) by rw[E0.out,decide_eq_true hN]);clear E0;refine dP 12 eW eX λhS=>?_;refine dv ?_;refine eA ?_;refine aM 11 (λK hK=>?_);go_simp;refine bV K3.drew E1 dw λce=>?_;try go_simp
 refine hK _ _ (λ_=>hS) ?_;refine aw ?_;refine bZ ?_;refine bM ?_;clear hS a6 dj eW eX dw E1;have b:=Z ((ag.refl a5).drew);obtain⟨aG,q⟩:=av a5.drew;rw[<-q]at b⊢;clear q;have dk:=qk K3 b;have dl:=qb b ca;have dm:=qb b cb;have cf:=qb b cd;clear b;go_upto_region 5 with(fail)
 obtain⟨al,q,bB,b,-⟩:=nb aG 79 #[ab];rw[q];clear q;have cg:=qk dk b;have ch:=qb b dl;have dn:=qb b dm;have dp:=qb b cf;clear b;have q:=aa.lt cf;have q:0<c.length:=af
 obtain⟨z,A,am,ar,a7⟩:=jD (bA al cg) 0 q;have T:=Z (S.sub _ (List.getElem_mem q)).res;have q:=jC c 0 q;obtain⟨a1,a3⟩:=av (c[0]);rw[<-a3]at a7 T q;obtain⟨⟨C,ar,H⟩,az⟩:∃bC,bC=a1.ha:=⟨_,rfl⟩;obtain⟨f,a1⟩:=av a1.attrs;rw[<-az]at a7;rw[<-az,<-a1]at T;rw[<-a1]at q;have ci:=Z (show R=_ by rw[ce.out,q]);clear ce a3 az a1;have cj:ae al (ac z (A+0*8+7)) (O C ar H):=a7;have dq:ae al (ac z (A+7)) (O C ar H):=by simpa using cj
 have dr:b8=some ⟨z,A,none⟩:=am;have ds:f.length=ar:=T.a.1.1;subst ds;clear a7 am;subst dr;have du:ae al (ac g 2) (O (some ⟨z,A,none⟩) c.length aA):=aa.cell ch 2;have dx:=ay bB;have dy:=λd=>aa.frozen bB d;go_upto_region 7 with(fail)
 have U:=Z (jf bB (O C f.length H));have w:=Z (Kp.aI (p:=(ao aG 0)) (l:=[aG.heap.size]) aj (Kp.refl [aG.heap.size] al) (O C f.length H));obtain⟨t,q⟩:=av (al.setCell (ao aG 0) (O C f.length H));rw[<-q]at U w⊢;clear q;have bE:=Z (w.old cg (λi i j=>absurd j (by rw[aC i];omega)));have a8:=qo w ch;have dz:=qo w dn;have dA:=qo w dp;have a9:=U;clear U w;clear dy du dx dq cj;have bI:=Z (λ(i:ah) (j:Kp [g] o i)=>T.keep j (λi i hS=>by have j:=hS.1;have i:=aC i;omega));have bJ:1<c.length:=by omega
 obtain⟨q,al,am,ar,bb⟩:=jD (bA t bE) 1 bJ;injection am with am
 injection am with po pp
 subst po pp;have an:=Z (S.sub _ (List.getElem_mem bJ)).res;have al:=jC c 1 bJ;obtain⟨az,aG⟩:=av (c[1]);rw[<-aG]at bb an al;obtain⟨⟨bd,q,am⟩,ar⟩:∃bC,bC=az.ha:=⟨_,rfl⟩;obtain⟨i,az⟩:=av az.attrs;rw[<-ar]at bb;rw[<-ar,<-az]at an;rw[<-az]at al;have ck:=Z (show R=_ by rw[ci.out,al]);clear ci aG ar az;have bK:ae t (ac z (A+1*8+7)) (O bd q am):=bb;have dB:ae t (ac z (A+15)) (O bd q am):=by simpa using bK
 have dC:ae t (ac z (A+8+7)) (O bd q am):=by simpa using bK
 have dD:i.length=q:=an.a.1.1;subst dD;clear bb;have dE:ae t (ac g 2) (O (some ⟨z,A,none⟩) c.length aA):=aa.cell a8 2;have dF:=aa.lt a8;go_upto_region 9 with(fail)
 clear dE dB bK dC;have dG:=Z (λ(j:ah) (m:Kp [g] o j)=>an.keep m (λj j hS=>by have m:=hS.1;have j:=aC j;omega));have dH:=Z (Kp.refl [g] t);have dI:=ay a9;have q:=aa.lt a9;have dJ:=ay dA;have dF:=aa.lt a8;have cl:=Z (xe ⟨C,f.length,H⟩ f t (bI t bE).a T.l);go_upto_region 29 with(fail)
 go_wp2_with fail
 refine(cl).mono ?_;rintro e q ⟨cm,cn,rfl,b,dK⟩;have bL:=qb b a8;have dL:=qb b a9;have dM:=qk dH b;clear b;have dN:=b7 bL;clear dI dJ cl;have dO:=λd=>aa.frozen bL d;go_upto_region 30 with(fail)
 obtain⟨am,al,dQ,q⟩:=r8 bL (O cm f.length cn);rw[al];clear al;have dR:=Z (dM.trans q);have al:=qo q dL;have q:=q;have dS:=Z (bG dK q (λj j=>by have:=aC j;omega));clear dN dO;obtain⟨dT,dU,dV,dW,dY⟩:=info_parts Tryz.infoAt;have q:=T.l;have q:=an.l;go_wp2;go_loopg [170] (i.length+1) (λu x wr=>∃(d j:Nat) (m:List RA) (q:aU) (r:Nat),x=.int .i64 d/\d<=i.length/\i.length-d<u/\m.length=j/\j<=f.length+d/\Hid (aa wr g 105 #[J 4,J 0,O (some ⟨z,A,none⟩) c.length aA,ab,ab,J 0,J 0,O q j r])/\Hid (wr.ownsRow t.heap.size 111 6 (O q j r) j (m.flatMap RA.cells))/\Hid (∀j∈m,gX j/\aJ j.at_.name/\aJ j.at_.dflt.s)/\Hid (Kp [g] t wr)/\Hid (R=(hJ at_ (f.map RA.at_) (m.map RA.at_) ((i.map RA.at_).drop d)).bind (λj=>RO.ap (decide (j.length<=24)) 3 at_ (.ok (.mk 4 0 (aD.aO c) [] [] 0 0 j)))))
 case atStart=>exact⟨0,f.length,f,cm,cn,rfl,by omega,by omega,rfl,by omega,dQ,dS,Z T.out.bare,dR,ck⟩
 obtain⟨d,j,B,aH,aN,rfl,et,co,cp,a2,bN,bO,bP,aq,bh⟩:=hrel;have bn:=Z co;have aP:=Z cp;clear co cp ck;have V:=Z (bE.trans aq);have q:=aq.size;have bQ:=qo aq dz;have cq:=qo aq a9;by_cases bR:d<i.length
 case neg=>
  have q:¬(d:Int)<i.length:=af
  have m:=Z (show R=RO.ap (decide (j<=24)) 3 at_ (.ok (.mk 4 0 (aD.aO c) [] [] 0 0 (B.map RA.at_))) by rw[bh.out,List.drop_of_length_le (by rw[List.length_map];omega),<-aP.out];show RO.ap (decide ((B.map RA.at_).length<=24)) _ _ _=_;rw[List.length_map]);clear bh;go_upto_region 38 with(fail)
  have u:=ay bQ;have x:=b7 bN;by_cases q:j<=24
  case neg=>
   have a6:decide ((j:Int)<=24)=false:=aF
   rw[show decide (j<=24)=false by simp;omega]at m;refine dP 8 u x λhS=>?_;refine dX ?_;refine gV ?_;refine aM 7 (λK hK=>?_);go_simp;exact b1 V.drew m (aB wr V)
  have a6:decide ((j:Int)<=24)=true:=aF
  rw[show decide (j<=24)=true by simp;omega]at m;refine dP 8 u x λhS=>?_;refine dX ?_;refine gV ?_;refine aM 7 (λK hK=>?_);go_simp;refine bV V.drew m (aB wr V) λE=>?_;try go_simp
  refine hK _ _ (λ_=>hS) ?_;refine aw ?_;refine bZ ?_;refine bM ?_;clear hS u x a6 m;have b:=Z ((ag.refl wr).drew);obtain⟨D,m⟩:=av wr.drew;rw[<-m]at b⊢;clear m;have r:=qk V b;have F:=qb b bN;have m:=qb b bQ;have m:=qb b cq;have m:=qk aq b;have m:=r.size;have m:=Z (aK b bO);clear b;have G:=Z ((lA m.out aP.out (omg aP) bP.out).mono (S':=Bw ai D.heap.size) (λm m=>⟨by have:=m.1;omega,m.2⟩));go_wp2;first|go_end0|refine bodyPost_ret (results_none rfl _ _ _) rfl ?_
  rw[E.out];have u:∀m∈[g],¬Bw ai o.heap.size m:=λm q hS=>by have x:=hS.1;have x:=aC q;omega
  have m:∀m,Bw ai o.heap.size m->Bw ai D.heap.size m:=λm q=>⟨q.1,by have:=q.2;omega⟩;refine⟨r,_,rfl,rfl,(aD.mk 4 (0) ⟨(some ⟨z,A,none⟩),c.length,aA⟩ c aL [] aL [] (0) (0) ⟨aH,j,aN⟩ B),kL,F,.mk (bA D r) (S.ik.mono m) (λq v=>((S.sub q v).keep r u).mono m) (aE.none_ _ 12 _) (bc.none_ _ _ _) (aE.none_ _ 1 _) (bc.none_ _ _ _) G⟩
 have q:(d:Int)<i.length:=af
 have q:(0:Int)<=d:=af
 obtain⟨W,X,cr,q,aR,I,aT,aV,aW,aX⟩:=iJ (dG wr V).a d bR;have bS:bd=some ⟨W,X,none⟩:=cr;have cs:=Z (an.bare _ (List.getElem_mem bR));have bT:(i.map RA.at_).drop d=i[d].at_::(i.map RA.at_).drop (d+1):=by rw[List.drop_eq_getElem_cons (by simpa using bR),List.getElem_map]
 obtain⟨dZ,ct⟩:=av (i[d]);rw[<-ct]at aR I aT aV aW aX cs bT;obtain⟨⟨r,m,bU,⟨D,E,F⟩⟩,⟨L,M,N⟩⟩:=dZ;obtain⟨Y,q⟩:=av (ew (f.map RA.at_) r);have cu:Hid (Y<(f.map RA.at_).length):=Z (by rw[q];exact(lW (λy:At=>decide (y.name=r)) (f.map RA.at_)).2);have cv:Hid (∀u,Kp [g] o u->Calls prog 274 #[O C f.length H,r] u λe w'=>e=.returned Y/\ag u w'):=Z (λo u=>by rw[q];exact se ⟨C,f.length,H⟩ f r o (bI.out o u).a);have bo:Hid (R=(if Y<0 then hJ at_ (f.map RA.at_) (B.map RA.at_++[⟨r,m,bU,⟨D,E,F⟩⟩]) ((i.map RA.at_).drop (d+1))else RO.ap (decide ((cH (f.map RA.at_) Y).kind=m)) 10 at_ (hJ at_ (f.map RA.at_) (B.map RA.at_) ((i.map RA.at_).drop (d+1)))).bind (λo=>RO.ap (decide (o.length<=24)) 3 at_ (.ok (.mk 4 0 (aD.aO c) [] [] 0 0 o)))):=Z (by rw[bh.out,bT,q];rfl);clear ct cr bT bh q;have d0:ae wr (ac W (X+d*6)) r:=aR;have d1:ae wr (ac W (X+d*6+1)) m:=I;have d2:ae wr (ac W (X+d*6+2)) (O L M N):=aT;have d3:ae wr (ac W (X+d*6+3)) D:=aV;have d4:ae wr (ac W (X+d*6+4)) E:=aW;have d5:ae wr (ac W (X+d*6+5)) F:=aX;have o:IntKind.i64.wrap ((d:Int)+1)=(d:Int)+1:=IntWalk.i64_in _ af;clear aR I aT aV aW aX;subst bS;go_upto_region 33 with(fail)
 clear d0 d1 d2 d3 d4 d5;obtain⟨q,o,cw,b,-⟩:=nb wr 111 #[r,m,O L M N,D,E,F];rw[o];clear o;have bW:=qk V b;have d6:=qb b bN;have d7:=qb b bQ;have cx:=qb b cq;have d8:=Z (aK b bO);have d9:=qk aq b;have o:=bW.size;clear b;have ea:=ay cx;have eb:=ay cw;have cz:=Z (cv q bW);go_wp2_with fail
 refine(cz).mono ?_;rintro e ad ⟨rfl,b⟩;have aY:=qk bW b;have bX:=qb b d6;have ec:=qb b d7;have ed:=qb b cx;have G:=qb b cw;have cA:=Z (aK b d8);have cB:=qk d9 b;clear b;clear cz cv ea eb;by_cases v:Y<0
 case pos=>
  have o:=decide_eq_true v;have ee:=Z (show R=(hJ at_ (f.map RA.at_) ((B++[(⟨⟨r,m,bU,⟨D,E,F⟩⟩,⟨L,M,N⟩⟩:RA)]).map RA.at_) ((i.map RA.at_).drop (d+1))).bind (λo=>RO.ap (decide (o.length<=24)) 3 at_ (.ok (.mk 4 0 (aD.aO c) [] [] 0 0 o))) by rw[bo.out,if_pos v,List.map_append];rfl);clear bo;go_upto_region 35 with(fail)
  have o:=b7 bX;have q:=ay G;have y:=aS G;have z:=aZ G;have A:=bi G;have H:=bl G;have S:=bF G;refine oX 8 o q y z A H S λhS=>?_;refine dX ?_;refine mo ?_;have q:=Z ((ag.refl ad).drew);obtain⟨P,o⟩:=av ad.drew;rw[<-o]at q hS⊢;clear o;have bp:=qb q bX;have o:=qb q G;have bY:=Z (aK q cA);have ef:=qk cB q;clear q hS;have cC:=b7 bp;have q:=aa.lt bp;have cD:=ay o;have cE:=aS o;have cF:=aZ o;have cG:=bi o;have cI:=bl o;have cJ:=bF o;have o:=aa.lt o;have cK:(λw':World=>ae w' (ac g 7) (O aH j aN)/\ae w' (ao wr 0) r/\ae w' (ao wr 1) m/\ae w' (ao wr 2) (O L M N)/\ae w' (ao wr 3) D/\ae w' (ao wr 4) E/\ae w' (ao wr 5) F) (P.alloc (.cells #[r,m,O L M N,D,E,F] 111)):=⟨bj cC,bj cD,bj cE,bj cF,bj cG,bj cI,bj cJ⟩;refine aM 6 (λK hK=>?_);go_simp;refine hK _ _ (λ_=>cK) ?_;refine aw ?_;have cL:=Z (aK ((ag.refl P).alloc (.cells #[r,m,O L M N,D,E,F] 111)) bY);have cM:=Z (cO P #[r,m,O L M N,D,E,F] 111 6 rfl);have hrow:∀u,(Value.slice aH j aN).ownBlock=some u->t.heap.size<=u/\u<P.heap.size/\u<wr.heap.size:=λu x=>⟨(b2 bY u x).1,(b2 bY u x).2,(λu x=>(b2 bO u x).2) u x⟩;have o:=aa.lt bp;refine aM 7 (λK hK=>?_);refine di (P.alloc _) (.tmp 184) (.tmp 186) 79 rfl (t.heap.size) 111 dT _ 6 80 underlying79 dU dV dW dY rfl au (O aH j aN) j (B.flatMap RA.cells) rfl cL (P.heap.size+1) (some ⟨P.heap.size,0,none⟩) 1 1 ((_:aQ).toList) rfl cM bw cc af aF ?_;intro o cN b0 x eg;obtain⟨bq,br,rfl,eh⟩:=bv b0;have ei:=Z b0;have b3:=Z x;have Q:=Z (fO ((Kp.refl [] P).alloc _) x);clear b0 x eg eh;have b4:=Z (aa.grown (bp.alloc _) b3 (λe=>by have:=hrow _ e.symm;omega));have ej:=b7 b4;have ek:=λd=>aa.frozen b4 d;refine hK _ _ (λ_=>⟨bD Q cC,bD Q.out cD,bD Q.out cE,bD Q.out cF,bD Q.out cG,bD Q.out cI,bD Q.out cJ⟩) ?_;clear hK K cK;refine aw ?_;refine bZ ?_;refine tq 8 ?_;refine tq 9 ?_;refine dt 10 (λK hK=>?_);go_simp;refine hK _ _ ?_;refine aw ?_;refine bM ?_;have o:=Z ((ef.alloc _).grown b3 (λu x=>.inr (by have:=hrow u x;omega)));clear cL cM b3 Q hrow ej ek;have U:=Z (gE b4 (O bq (j+1) br));have w:=Z (Kp.aI (p:=(ac g 7)) (l:=[g]) aj (Kp.refl [g] cN) (O bq (j+1) br));obtain⟨q,g⟩:=av (cN.setCell (ac g 7) (O bq (j+1) br));rw[<-g]at U w⊢;clear g;have el:=Z (o.trans w);have em:=w;have en:=U;clear U w;go_wp2_with fail
  go_roundg (i.length-d)
  case measure=>have:=bn.out;omega
  refine⟨d+1,j+1,B++[(⟨⟨r,m,bU,⟨D,E,F⟩⟩,⟨L,M,N⟩⟩:RA)],bq,br,by go_num,by omega,omg bn,by rw[List.length_append,aP.out];rfl,by omega,en,Z (bG (by rw[List.flatMap_append];exact ei.out) em.out (λg g=>by have:=aC g;omega)),Z ?_,el,ee⟩;intro ep a0;rcases cP a0 with a0|a0
  ·exact bP ep a0
  rw[aC a0];exact cs.out
 have g:=decide_eq_false v;obtain⟨u,b0⟩:∃u:Nat,Y=u:=⟨Y.toNat,by omega⟩;subst b0;have g:u<f.length:=by have:=cu.out;rw[List.length_map]at this;omega
 obtain⟨ba,o,br,q,aR,I,aT,aV,aW,aX⟩:=iJ (bI ad aY).a u g;have bS:C=some ⟨ba,o,none⟩:=br;obtain⟨x,Q⟩:=av (f[u].at_.kind);rw[<-Q]at I;have o:(u:Int)<f.length:=af
 have o:(0:Int)<=u:=af
 have bY:(x==m)=decide (x=m):=by by_cases h:x=m<;>simp[h]
 have P:=Z (show R=RO.ap (x==m) 10 at_ ((hJ at_ (f.map RA.at_) (B.map RA.at_) ((i.map RA.at_).drop (d+1))).bind (λo=>RO.ap (decide (o.length<=24)) 3 at_ (.ok (.mk 4 0 (aD.aO c) [] [] 0 0 o)))) by rw[bo.out,if_neg v,RO.gW,ku f u g,<-Q,bY]);generalize b3:(x==m)=b4 at P;clear bo Q aR aT aV aW aX br bY v cu;subst bS;go_upto_region 36 with(fail)
 have a0:=ay ec;have bp:=ay ed;have bq:=aS G;cases b4
 case false=>
  refine lj 10 a0 bp bq I λhS=>?_;refine dv ?_;refine aM 9 (λK hK=>?_);go_simp;exact b1 aY.drew P (aB ad aY)
 refine lj 10 a0 bp bq I λhS=>?_;refine dv ?_;refine aM 9 (λK hK=>?_);go_simp;refine bV aY.drew P (aB ad aY) λcC=>?_;try go_simp
 refine hK _ _ (λ_=>hS) ?_;refine aw ?_;refine bZ ?_;refine bM ?_;clear hS a0 bp bq I b3 P;have b:=Z ((ag.refl ad).drew);obtain⟨f,c⟩:=av ad.drew;rw[<-c]at b⊢;clear c;have cD:=qb b bX;have c:=qb b G;have cE:=Z (aK b cA);have cF:=qk cB b;clear b;go_wp2_with fail
 go_roundg (i.length-d)
 case measure=>have:=bn.out;omega
 exact⟨d+1,j,B,aH,aN,by go_num,by omega,omg bn,aP.out,by omega,cD,cE,bP,cF,cC⟩
theorem q7 {a d e:ah} {row:Option Nat} (b:ag a d) (c:d.grownBy e row):a.grownBy e row:=
 ⟨c.os.trans b.os,c.tape.trans b.tape,c.output.trans b.output,bJ b.size c.size,λd e f=>(c.block d (aV e b.size) f).trans (b.block d e)⟩
theorem Gp (a:ah) (c:Nat) (f:a.heap.size=c) (b:aQ) (d:aX) (e:Nat) (g:b.size=e):cA (a.alloc (.cells b d)) (c+1) e (some ⟨c,0,none⟩) 1 b.toList:=by
 subst f;refine⟨by simp[g],λ_=>⟨_,rfl,Nat.lt_succ_self _,λc e i=>?_⟩⟩;have h:=(aa.new a d b).cell c;have j:(⟨a.heap.size,0,none⟩:Addr).add c=⟨a.heap.size,c,none⟩:=by unfold Addr.add;split<;>simp_all
 rw[j,h];simpa using i
theorem Gq (m c d e:Nat) (n:aA) (o:aP) (a p g i j:Int) (q r k l:ax) (b:ah) (v:c<b.heap.size) (E:m<=b.heap.size) (H:e<=1000000)
 (F:ae b (ac c (d+1)) n) (G:b.frozen? (ac c (d+1))=false) (s:b.ownsRow m 111 6 n e o) (w:n.ownBlock≠some c):
 Calls prog 248 #[.pointer (some ⟨c,d,none⟩),.agg #[p,q,r,k,g,i,j,l],a] b λH I=>∃t f,H=.returned (.tuple #[])/\
  f.ownsRow m 111 6 t (e+1) (o++[.string k,.int .i64 g,.slice none 0 0,.int .i64 i,.int .i64 j,.string l])/\b.grownBy f n.ownBlock/\I=f.setCell (ac c (d+1)) t:=by
 obtain⟨J,K,L,M,N⟩:=info_parts Tryz.sI;have P:=Z s;have x:=Z w;have y:Hid (e+1<=maxLen/\(e+1)*80<=140737488355328):=⟨by unfold maxLen;omega,by omega⟩;have Q:=Z E;have R:Hid ((b.alloc (.cells #[p,q,r,k,g,i,j,l] 99)).drew.heap.size=b.heap.size+1):=by show _=_;rw[eo];simp
 have n:c≠b.heap.size:=af
 obtain⟨z,A,rfl⟩:=oS s;clear s w;go_enter func248,ntmps248
 go_wp2;go_region_law (first|(refine oe _ rfl (.tmp 10) (.tmp 18) 79 rfl m 111 J _ 6 80 underlying79 K L M N rfl au (O z e A) e o rfl ((P.out.alloc _).drew.alloc _) _ _ 1 1 [.string k,.int .i64 g,.slice none 0 0,.int .i64 i,.int .i64 j,.string l] rfl (Gp (b.alloc (.cells #[p,q,r,k,g,i,j,l] 99)).drew (b.heap.size+1) R.out #[k,g,ab,i,j,l] _ 6 rfl) (by intro g u;simp at u;rcases u with rfl|rfl|rfl|rfl|rfl|rfl<;>rfl) y.out.1 y.out.2 ?_ ?_;exact bJ Q.out (((ag.refl b).alloc _).drew.alloc _).size;intro t f u B S;obtain⟨T,U,rfl⟩:=oS u;have C:=Z u;have b:=q7 (((ag.refl b).alloc _).drew.alloc _) B;have D:=Z b;have e:ae f (ac c (d+1)) (O z e A):=(World.cell?_of_block (a:=⟨c,d+1,none⟩) (b.block c v x.out.symm)).trans F;have c:f.frozen? (ac c (d+1))=false:=(World.frozen?_of_block (a:=⟨c,d+1,none⟩) (b.block c v x.out.symm)).trans G;clear u B S b))
 all_goals
  go_wp2;go_end0
  exact⟨_,f,rfl,C.out,D.out,rfl⟩
theorem Gw (z d b e c a:Nat) (o:aP) (i:ah) (r:i.ownsRow z 111 6 (O (some ⟨d,0,none⟩) b e) b o) (A:∀g∈o,g.oneCell'=true) (L:c<b) (p:a=c+1) (B:b<=1000000):
 Calls prog 252 #[O (some ⟨d,0,none⟩) b e,c,a] i λM B=>M=.returned (O (some ⟨d,0,none⟩) (b-1) e)/\B.ownsRow z 111 6 (O (some ⟨d,0,none⟩) (b-1) e) (b-1) (o.take (c*6)++o.drop ((c+1)*6))/\i.grownBy B (some d):=by
 obtain⟨N,P,z,Q,B⟩:=info_parts Tryz.sI;have R:=Z (EM r.drew L [.string ByteArray.empty,.int .i64 0,.slice none 0 0,.int .i64 0,.int .i64 0,.string ByteArray.empty] rfl);obtain⟨z,s,t,B,k,C,S,x,D⟩:=f7 r af;injection t with t
 injection t with e1
 subst e1;have E:=r.1;have T:a*6<=b*6:=Nat.mul_le_mul_right _ af;have U:b*6<=e*6:=Nat.mul_le_mul_right _ S;have F:s.toList.length=e*6:=by simp[C]
 obtain⟨j,q⟩:=av (o.drop (a*6));have m:j.length=(b-a)*6:=by rw[q,List.length_drop,E,Nat.sub_mul]
 have G:∀f g,j[f]?=some g->ae i (ac d (a*6+f)) g:=by
  intro f g l;rw[q,List.getElem?_drop,<-D,List.getElem?_take]at l;split at l
  ·rw[k.cell];simpa using l
  cases l
 obtain⟨u,t,V⟩:∃u:Addr,(if e=a then(some (⟨d,0,none⟩:Addr))else some ⟨d,a*6,none⟩)=some u/\Hid (∀f g,j[f]?=some g->ae i.drew (u.add f) g):=by
  by_cases h:e=a
  ·refine⟨⟨d,0,none⟩,by simp[h],λf g l=>?_⟩
   have n:j.length=0:=by rw[m,show b-a=0 by omega,Nat.zero_mul]
   rw[List.length_eq_zero_iff.1 n]at l;simp at l
  refine⟨⟨d,a*6,none⟩,by simp[h],λf g l=>?_⟩;rw[show(⟨d,a*6,none⟩:Addr).add f=⟨d,a*6+f,none⟩ by unfold Addr.add;split<;>simp_all];exact G f g l
 have W:Hid (j.length=(b-a)*6):=m;have X:Hid (∀g∈j,g.oneCell'=true):=by
  intro g l;rw[q]at l;exact A g (List.mem_of_mem_drop l)
 have Y:Hid (∀f,f<j.length->(i.drew.cell? (ac d (0+c*6+f))).isSome=true/\i.drew.frozen? (ac d (0+c*6+f))=false):=by
  intro f l;rw[m]at l;have l:a*6=c*6+6:=by rw[p,Nat.add_mul,Nat.one_mul]
  have l:(b-a)*6=b*6-a*6:=Nat.sub_mul _ _ _;rw[Nat.zero_add];refine⟨?_,k.drew.frozen _⟩;rw[k.drew.cell,Array.getElem?_eq_getElem af];rfl
 obtain⟨l,v⟩:=av (i.drew.setCells d (0+c*6) j);have H:aa i.drew d 111 s.toList.toArray:=by simpa using k.drew
 have w:=qQ j (0+c*6) s.toList i.drew H (by
  have n:a*6=c*6+6:=by rw[p,Nat.add_mul,Nat.one_mul]
  have n:(b-a)*6=b*6-a*6:=Nat.sub_mul _ _ _;rw[m];omega)
 rw[<-v]at w;have I:(hU s.toList (0+c*6) j).length=e*6:=by
  have n:a*6=c*6+6:=by rw[p,Nat.add_mul,Nat.one_mul]
  have n:(b-a)*6=b*6-a*6:=Nat.sub_mul _ _ _;rw[sJ _ _ _ (by rw[m];omega),F]
 have s:∀o,(Builtin.clear_ #[79] o #[O (some ⟨d,(c+(b-a))*6,none⟩) (b-(c+(b-a))) (e-(c+(b-a)))]).run prog l=.ok (.tuple #[]) (l.setCells d ((c+(b-a))*6) [.string ByteArray.empty,.int .i64 0,.slice none 0 0,.int .i64 0,.int .i64 0,.string ByteArray.empty]):=by
  intro o;rw[show b-(c+(b-a))=1 by omega];have s:(c+(b-a))*6+6<=e*6:=by
   have:(c+(b-a)+1)*6<=e*6:=Nat.mul_le_mul_right _ af;rw[Nat.add_mul]at this;omega
  refine EL l _ 111 o (.agg _) [.string ByteArray.empty,.int .i64 0,.slice none 0 0,.int .i64 0,.int .i64 0,.string ByteArray.empty] underlying79 (λ_=>by kernel_rfl) rfl (by intro g n;simp at n;rcases n with rfl|rfl|rfl|rfl|rfl|rfl<;>rfl) d _ _ (λf g=>?_) (λf _=>w.frozen _);rw[w.cell,List.getElem?_toArray,List.getElem?_eq_getElem (by rw[I];simp at g;omega)];rfl
 have J:Hid (l=i.drew.setCells d (0+c*6) j):=v;have f:c<=e:=af
 have f:a<=e:=af
 have f:a<=b:=af
 have f:c<=a:=af
 have f:((c:Int)==(a:Int))=false:=aF
 have f:¬e=c+(b-a):=af
 have f:e<=9223372036854775807:=by unfold maxLen at x;exact x
 have y:=Z p;have K:=Z q;have n:Hid (i.grownBy l (some d)):=by
  show i.grownBy l (some d);rw[v];exact q7 (ag.refl i).drew (w8 d j _ _)
 clear r G q m v w I k H D C F T U E x p A;go_enter func252,ntmps252
 go_wp2_with fail
 go_region_law (refine step_append_room rfl (.tmp 22) (.tmp 25) 79 rfl 111 N 6 underlying79 P Q d 0 c e (by simp[Act.eval,Act.put]) u (b-a) (e-a) j (by simp[Act.eval,Act.put]) W.out V.out X.out af Y.out ?_;rw[<-J.out])
 go_wp2;go_ret;have e:c+(b-a)=b-1:=omg y
 refine⟨by rw[e];rfl,?_,?_⟩
 ·have:=R.out
  rw[<-y.out,<-K.out]at this;have f:=J.out;rw[Nat.zero_add]at f;rw[<-f]at this;rw[e,<-y.out,<-K.out];exact this
 have a:=w8 d [.string ByteArray.empty,.int .i64 0,.slice none 0 0,.int .i64 0,.int .i64 0,.string ByteArray.empty] ((c+(b-a))*6) l;exact⟨a.os.trans n.os,a.tape.trans n.tape,a.output.trans n.output,bJ n.size a.size,λb k c=>(a.block b (aV k n.size) c).trans (n.block b k c)⟩
def g3 (b:Nat) (a:Int):Int:=if(b:Int)<a then a-1 else a
def dy (c:Nat) (a:List Int) (b:Nat):List Int:=(a.take b).map (g3 c)++a.drop b
theorem Gx (b:Nat) (a:List Int):dy b a 0=a:=by simp[dy]
theorem Gy (b:Nat) (a:List Int):dy b a a.length=a.map (g3 b):=by simp[dy]
theorem s3 (b:Nat) (a:List Int) (c:Nat):(dy b a c).length=a.length:=by simp[dy];omega
theorem xW (d:Nat) (b:List Int) (a:Nat) (c:a<b.length):(dy d b a)[a]'(by rw[s3];exact c)=b[a]:=by
 simp only[dy];rw[List.getElem_append_right aF];simp[Nat.min_eq_left (Nat.le_of_lt c)]
theorem xX (c:Nat) (b:List Int) (a:Nat) (d:a<b.length):dy c b (a+1)=(dy c b a).set a (g3 c b[a]):=by
 unfold dy;rw[List.take_succ_eq_append_getElem d,List.map_append,List.drop_eq_getElem_cons d,List.set_append_right _ _ aF];have a:a-(List.map (g3 c) (List.take a b)).length=0:=aF
 rw[a];simp;rw[List.drop_eq_getElem_cons d];rfl
theorem Gz (c:Nat) (b:List Int) (a:Nat) (e:a<b.length) (h:g3 c b[a]=b[a]):dy c b (a+1)=dy c b a:=by
 rw[xX c b a e,h];apply List.ext_getElem aj;intro b c c;by_cases d:a=b
 ·subst d;rw[List.getElem_set_self,xW]
 rw[List.getElem_set_ne d]
section
variable {W0 w w':ah} {g c i:Nat} {ts:List RT} {t:RT}
theorem bN.cell (S:bN W0 w g c ts i t) (j:Nat) (a:j<3):w.cell? (ac g (i*3+j))=t.cells[j]?:=by
 have:=kJ RT.eV S.row rfl i S.lt j a;rw[S.get]at this;exact this
theorem bN.free (b:bN W0 w g c ts i t) (d:Nat):w.frozen? (ac g d)=false:=by
 obtain⟨b,j,a,_,f,_⟩:=f7 b.row (Nat.lt_of_le_of_lt (Nat.zero_le _) b.lt);injection a with a
 injection a with e
 subst e;exact f.frozen d
theorem bN.s4 (d:bN W0 w g c ts i t) (h:0<t.ra.length):∃a ca,t.ha=⟨some ⟨a,0,none⟩,t.ra.length,ca⟩/\W0.heap.size<=a/\a<w.heap.size/\g≠a/\(∀e,w.frozen? (ac a e)=false)/\w.ownsRow W0.heap.size 111 6 (O (some ⟨a,0,none⟩) t.ra.length ca) t.ra.length (t.ra.flatMap RA.cells):=by
 have b:=d.ar;obtain⟨⟨j,l,ca⟩,f⟩:∃h,t.ha=h:=⟨_,rfl⟩;have m:l=t.ra.length:=by have:=d.an;rw[f]at this;exact this
 subst m;have j:(⟨j,t.ra.length,ca⟩:Hd).val=.slice j t.ra.length ca:=rfl;rw[f,j]at b;obtain⟨a,j,n,o,k,_⟩:=f7 b h;subst n;exact⟨a,ca,f,o,k.lt,λa=>gZ d.row b au (by simp[Value.ownBlock,a]),λe=>k.frozen e,b⟩
theorem bN.GA (d:bN W0 w g c ts i t) (h:0<t.key.length):∃gk ck,t.hk=⟨some ⟨gk,0,none⟩,t.key.length,ck⟩/\W0.heap.size<=gk/\gk<w.heap.size/\g≠gk/\(∀a,w.frozen? (ac gk a)=false)/\∀a (j:a<t.key.length),ae w (ac gk a) (J t.key[a]):=by
 have b:=d.kr;obtain⟨⟨k,n,e⟩,f⟩:∃h,t.hk=h:=⟨_,rfl⟩;have o:n=t.key.length:=by have:=d.kn;rw[f]at this;exact this
 subst o;have k:(⟨k,t.key.length,e⟩:Hd).val=.slice k t.key.length e:=rfl;rw[f,k]at b;obtain⟨p,k,q,r,l,_⟩:=f7 b h;subst q;refine⟨p,e,f,r,l.lt,λe=>gZ d.row b au (by simp[Value.ownBlock,e]),λa=>l.frozen a,λa j=>?_⟩;have:=kJ (enc:=bU) (m:=1) (λ_=>rfl) b rfl a j 0 Nat.one_pos;simpa[bU]using this
end
theorem GB (W0 w:ah) (g c i a:Nat) (ts:List RT) (t:RT) (q E F G:Int) (H I K L:ax) (S:bN W0 w g c ts i t) (ha:a<t.ra.length) (an:t.ra.length<=1000000) (ao:t.key.length<=1000000) (M:∀k∈t.key,0<=k/\k<=1000000):
 Calls prog 251 #[.pointer (some ⟨g,i*3,none⟩),.agg #[q,H,I,K,E,F,G,L],a] w λf w'=>f=.returned (.tuple #[])/\
  (∃h',bN W0 w' g c (ts.set i {t with ra:=t.ra.eraseIdx a,ha:=h',key:=t.key.map (g3 a)}) i {t with ra:=t.ra.eraseIdx a,ha:=h',key:=t.key.map (g3 a)})/\dg w w':=by
 obtain⟨d,j,kR,V,aJ,N,ap,y⟩:=S.s4 af;have P:ae w (ac g (i*3+1)) (O (some ⟨d,0,none⟩) t.ra.length j):=by
  exact s5
 obtain⟨⟨Q,V,m⟩,p⟩:∃h,t.hk=h:=⟨_,rfl⟩;have aq:V=t.key.length:=by have:=S.kn;rw[p]at this;exact this
 subst aq;have R:ae w (ac g (i*3+2)) (O Q t.key.length m):=by
  have:=S.cell 2 af;rw[this];show some t.hk.val=_;rw[p];rfl
 have T:w.frozen? (ac g (i*3+1))=false:=S.free _;have U:=S.pj.2;have V:g≠w.heap.size:=af
 have W:∀V∈t.ra.flatMap RA.cells,V.oneCell'=true:=by
  intro V e;obtain⟨e,_,b⟩:=List.mem_flatMap.1 e;simp only[RA.cells,List.mem_cons,List.not_mem_nil,or_false]at b;rcases b with rfl|rfl|rfl|rfl|rfl|rfl<;>rfl
 obtain⟨q,E⟩:=av (Obj.cells #[q,H,I,K,E,F,G,L] 99);have z:Hid (Calls prog 252 #[O (some ⟨d,0,none⟩) t.ra.length j,a,J ((a:Int)+1)] (w.alloc q) λf w'=>f=.returned (O (some ⟨d,0,none⟩) (t.ra.length-1) j)/\w'.ownsRow W0.heap.size 111 6 (O (some ⟨d,0,none⟩) (t.ra.length-1) j) (t.ra.length-1) ((t.ra.flatMap RA.cells).take (a*6)++(t.ra.flatMap RA.cells).drop ((a+1)*6))/\(w.alloc q).grownBy w' (some d)):=
  Gw W0.heap.size d t.ra.length j a (a+1) _ (w.alloc q) (y.alloc q) W ha rfl an
 have r:=Z S;have ar:=Z y;rw[E]at z;clear S y W E;have q:(a:Int)+1<=1000000:=af
 go_enter func251,ntmps251
 go_wp2_with fail
 refine z.mono ?_;rintro f s ⟨rfl,X,n⟩;have B:=n.block g aF (λf=>N (by injection f));have q:=λb=>(World.cell?_of_block B).trans (((ag.refl w).alloc _).cells g b U);have y:=λb=>(World.frozen?_of_block B).trans (((ag.refl w).alloc _).frees g b U);have au:=(q (i*3+1)).trans P;have aw:=(y (i*3+1)).trans T;have ay:=(q (i*3+2)).trans R;clear q y B;have q:(t.ra.eraseIdx a).length=t.ra.length-1:=by rw[List.length_eraseIdx,if_pos ha]
 have Y:bN W0 (s.setCell (ac g (i*3+1)) (O (some ⟨d,0,none⟩) (t.ra.length-1) j)) g c (ts.set i {t with ra:=t.ra.eraseIdx a,ha:=⟨some ⟨d,0,none⟩,t.ra.length-1,j⟩}) i {t with ra:=t.ra.eraseIdx a,ha:=⟨some ⟨d,0,none⟩,t.ra.length-1,j⟩}:=by
  have:=(r.out.alloc _).hH (w1:=s) (A:=some ⟨d,0,none⟩) (ca:=j) (ra:=t.ra.eraseIdx a) (by rw[kR];exact n) (by rw[q,<-xU RA.eV t.ra a ha];exact X);rw[q]at this;exact this
 have aa:dg w (s.setCell (ac g (i*3+1)) (O (some ⟨d,0,none⟩) (t.ra.length-1) j)):=by
  have l:=((dg.refl w).alloc _).grown (ar.alloc _) (.inr (.inl rfl)) n;obtain⟨u,v,e,_,o,_⟩:=f7 (r.alloc _|>.row.kept n (.inr (λf=>N (by simpa[Value.ownBlock]using f)))) (Nat.lt_of_le_of_lt (Nat.zero_le _) r.lt);injection e with e
  injection e with f
  subst f;exact l.set o (.inl rfl) _ _
 have C:=Z Y;have ab:=Z aa;clear Y X n aa;go_wp2;obtain⟨q,n⟩:=av (s.setCell (ac g (i*3+1)) (O (some ⟨d,0,none⟩) (t.ra.length-1) j));rw[<-n];rw[<-n]at C ab;obtain⟨e,d⟩:∃e:RT,e={t with ra:=t.ra.eraseIdx a,ha:=⟨some ⟨d,0,none⟩,t.ra.length-1,j⟩}:=⟨_,rfl⟩;rw[<-d]at C;have j:e.key=t.key:=by rw[d]
 have q:e.hk=⟨Q,t.key.length,m⟩:=by rw[d];exact p
 have az:=Z j;have o:=Z q;have aA:=Z d;have aB:=Z M;have s:=ao;clear n d au ay aw P R T z j q p kR M ap r;go_loopw [23] (λk wr=>∃b:Nat,b<=t.key.length/\k=.int .i64 b/\Hid (bN W0 wr g c (ts.set i {e with key:=dy a t.key b}) i {e with key:=dy a t.key b})/\Hid (dg w wr)) (λk _=>t.key.length-(intOf k).toNat)
 case atStart=>exact⟨0,Nat.zero_le _,rfl,by rw[Gx,<-az.out];exact C.out,ab.out⟩
 obtain⟨b,aK,rfl,l,D⟩:=hrel;by_cases u:b<t.key.length
 ·have aC:(dy a t.key b).length=t.key.length:=s3 _ _ _
  obtain⟨gk,d,ad,j,n,p,ai,aj⟩:=l.GA (show 0<(dy a t.key b).length by omega);have aD:=o.symm.trans ad;injection aD with eB eN eC
  have aE:ae wr (ac gk b) (J t.key[b]):=by
   have:=aj b (show b<(dy a t.key b).length by omega);rw[this];exact congrArg (λd=>some (Value.int .i64 d)) (xW a t.key b u)
  have d:=ai b;have d:ae wr (ac g (i*3+2)) (O (some ⟨gk,0,none⟩) t.key.length m):=by
   have:=l.out.cell 2 af;rw[this];show some e.hk.val=_;rw[o.out,eB];rfl
  have ak:=aB t.key[b] (List.getElem_mem u);have aG:Hid (∀d,bN W0 (wr.setCell (ac gk b) (.int .i64 d)) g c (ts.set i {e with key:=(dy a t.key b).set b d}) i {e with key:=(dy a t.key b).set b d}):=by
   intro d;have:=l.out.EN (gk:=gk) (ck:=m) (by rw[o.out,eB]) (by rw[o.out]) b (show b<(dy a t.key b).length by omega) d;simpa[List.set_set]using this
  have aH:Hid (∀d,dg w (wr.setCell (ac gk b) (.int .i64 d))):=by
   intro d;have d:=l.kr;have j:({e with key:=dy a t.key b}:RT).hk.val=.slice (some ⟨gk,0,none⟩) t.key.length m:=by
    show e.hk.val=_;rw[o.out,eB];rfl
   rw[j]at d;have j:wr.ownsRow W0.heap.size 3 1 (O (some ⟨gk,0,none⟩) t.key.length m) t.key.length ((dy a t.key b).flatMap bU):=by
    have:(dy a t.key b).length=t.key.length:=s3 _ _ _;rw[<-this];rw[<-this]at d;exact d
   obtain⟨d,j,v,_,x,_⟩:=f7 j af;injection v with v
   injection v with f
   subst f;exact D.set x (.inr (.inr rfl)) _ _
  have v:Hid (dy a t.key (b+1)=(dy a t.key b).set b (g3 a t.key[b])):=xX a t.key b u;have x:Hid (g3 a t.key[b]=t.key[b]->dy a t.key (b+1)=dy a t.key b):=Gz a t.key b u;obtain⟨k,al⟩:=av (t.key[b]);rw[<-al]at aE ak v x;obtain⟨aL,aM⟩:=ak;clear al aj ai ad eB eN eC aC;by_cases am:(a:Int)<k
  ·have aI:Hid (dy a t.key (b+1)=(dy a t.key b).set b (k-1)):=by show _=_;rw[v.out];unfold g3;rw[if_pos am]
   clear v x;go_wp2;go_roundw
   case rel=>exact⟨b+1,by omega,by go_num,by rw[aI.out];exact aG.out (k-1),aH.out (k-1)⟩
   simp[intOf];omega
  have aI:Hid (dy a t.key (b+1)=dy a t.key b):=x.out (by unfold g3;rw[if_neg am]);clear v x;go_wp2;go_roundw
  case rel=>exact⟨b+1,by omega,by go_num,by rw[aI.out];exact l.out,D.out⟩
  simp[intOf];omega
 have b:b=t.key.length:=af
 have v:Hid (bN W0 wr g c (ts.set i {e with key:=t.key.map (g3 a)}) i {e with key:=t.key.map (g3 a)}):=by
  have:=l.out;rw[b,Gy]at this;exact this
 clear b l;go_wp2;go_end0
 exact⟨rfl,⟨_,by have:=v.out;rw[aA.out]at this;exact this⟩,D.out⟩
theorem s6 (d:ah) (a b o:Nat) (e:aA) (h:o≠b):(d.setCell (ac a o) e).cell? (ac a b)=d.cell? (ac a b):=
 World.cell?_setCell_other _ _ _ _ (λc=>by injection c with _ c;exact h c)
theorem xY {c:ah} {b:Nat} {d:aA} (h:ae c (ac b 0) d):cA c (b+1) 1 (some ⟨b,0,none⟩) 1 [d]:=by
 refine⟨rfl,λ_=>⟨_,rfl,Nat.lt_succ_self _,λe b a=>?_⟩⟩;match e,a with
 |0,a=>simp at a;subst a;simpa[Addr.add]using h
 |e+1,a=>simp at a
theorem s7:∀a:List ByteArray,a.flatMap cq=a.map .string
 |[]=>rfl
 |x::a=>by rw[List.flatMap_cons,s7 a];rfl
theorem GC (h:Hd) (b:bk) (c:ah) (a:b5 c h b) (k:h.n<=1000000000):
 Calls prog 257 #[h.val] c λe f=>∃i d,e=.returned (O i b.length d)/\ag c f/\f.ownsRow c.heap.size 9 1 (O i b.length d) b.length (b.map .string):=by
 have e:=s7 b;refine(wX h cq (λ_=>rfl) (λi i g=>by simp[cq]at g;subst g;rfl) b c a.1 k).mono ?_;rintro b f (⟨rfl,rfl,g⟩|⟨d,l,rfl,g,j⟩)
 ·exact⟨none,0,rfl,g,rfl,.inl ⟨rfl,rfl⟩⟩
 rw[e]at j;exact⟨_,d,rfl,g,j⟩
theorem GD (k o g a n w:Nat) (r P Q R:Int) (T U l V s:ax) (y:Hd) (f:bk) (b:ah) (X:k≠g) (j:g<b.heap.size) (t:k<b.heap.size) (X:a<n) (X:n<=9223372036854775807)
 (z:ae b (ac k (o+1)) (O (some ⟨g,0,none⟩) n w))
 (e0:ae b (ac g (a*6)) s) (W:ae b (ac g (a*6+2)) y.val) (I:∀X,b.frozen? (ac g X)=false) (J:b5 b y f) (X:f.length<=1000000):
 Calls prog 256 #[.pointer (some ⟨k,o,none⟩),.agg #[r,T,U,l,P,Q,R,V],a] b λe c=>∃X Y ak,e=.returned (.tuple #[])/\
  ak.ownsRow b.heap.size 9 1 (O X (f.length+1) Y) (f.length+1) ((f++[s]).map .string)/\ag b ak/\
  c=((ak.setCell (ac g (a*6+2)) (O X (f.length+1) Y)).setCell (ac g (a*6)) l).drew:=by
 obtain⟨aa,ab,ad,ai,al⟩:=info_parts Tryz.wW;have an:=Z (λ(d:ah) (i:ag b d)=>GC y f d (J.same i) (by rw[<-J.1.1];omega));have ap:=I (a*6);have aq:=I (a*6+2);have X:k≠b.heap.size:=by omega
 have X:g≠b.heap.size:=af
 have A:Hid (f.length+1<=maxLen/\(f.length+1)*16<=140737488355328):=⟨by unfold maxLen;omega,by omega⟩;obtain⟨B,C,D⟩:=y;have E:ae b (ac g (a*6+2)) (O B C D):=W;have ar:Hid (∀d,ag b d->Calls prog 257 #[O B C D] d λe c=>∃i m,e=.returned (O i f.length m)/\ag d c/\c.ownsRow d.heap.size 9 1 (O i f.length m) f.length (f.map .string)):=an;clear I J an W;go_enter func256,ntmps256
 go_wp2;refine Bi (dU:=?av) (S:=(λc=>ae c (ac k (o+1)) (O (some ⟨g,0,none⟩) n w)/\ae c (ac g (a*6)) s/\ae c (ac g (a*6+2)) (O B C D))) (n:=26) am (vf am) ?ay ?aA
 case ay=>simp only[List.pop_toArray,List.dropLast_cons_cons,List.dropLast_singleton];rfl
 have d:(λc=>ae c (ac k (o+1)) (O (some ⟨g,0,none⟩) n w)/\ae c (ac g (a*6)) s/\ae c (ac g (a*6+2)) (O B C D)) ((b.alloc (.cells #[r,T,U,l,P,Q,R,V] 99)).drew):=by
  exact mQ
 refine ef 0 (oi:=?aB) (v:=?aC) ?aD am ?aF ?ak ?aG d ?aH
 case aD=>simp only[be,bf,bg];rfl
 case aF=>exact λ_ _ _ h=>h
 case ak=>rfl
 case aG=>rintro c ⟨aG,aI,aJ⟩;go_simp;try with_reducible rfl
 refine aw ?_;refine ef 1 (oi:=?aK) (v:=?aL) ?aM am ?aN ?aO ?aI d ?aP
 case aM=>simp only[be,bf,bg];rfl
 case aN=>exact λ_ _ _ h=>h
 case aO=>rfl
 case aI=>rintro c ⟨aG,aI,aJ⟩;go_simp;try with_reducible rfl
 refine aw ?_;refine ef 2 (oi:=?aQ) (v:=?aR) ?aS am ?aT ?aU ?aJ d ?aW
 case aS=>simp only[be,bf,bg];rfl
 case aT=>exact λ_ _ _ h=>h
 case aU=>rfl
 case aJ=>rintro c ⟨aG,aI,aJ⟩;go_simp;try with_reducible rfl
 refine aw ?_;refine ef 3 (oi:=?aX) (v:=?aY) ?aZ am ?bn ?bq ?bA d ?bB
 case aZ=>simp only[be,bf,bg];rfl
 case bn=>exact λ_ _ _ h=>h
 case bq=>rfl
 case bA=>rintro c ⟨aG,aI,aJ⟩;go_simp;try with_reducible rfl
 refine aw ?_;refine ef 4 (oi:=?bC) (v:=?bD) ?bE am ?bF ?bG ?bH d ?bI
 case bE=>simp only[be,bf,bg];rfl
 case bF=>exact λ_ _ _ h=>h
 case bG=>rfl
 case bH=>rintro c ⟨aG,aI,aJ⟩;go_simp;try with_reducible rfl
 refine aw ?_;refine ef 5 (oi:=?bK) (v:=?bL) ?bM am ?bN ?bO ?bP d ?bQ
 case bM=>simp only[be,bf,bg];rfl
 case bN=>exact λ_ _ _ h=>h
 case bO=>rfl
 case bP=>rintro c ⟨aG,aI,aJ⟩;go_simp;try with_reducible rfl
 refine aw ?_;refine ef 6 (oi:=?bR) (v:=?bS) ?bT am ?bU ?bV ?bW d ?bX
 case bT=>simp only[be,bf,bg];rfl
 case bU=>exact λ_ _ _ h=>h
 case bV=>rfl
 case bW=>rintro c ⟨aG,aI,aJ⟩;go_simp;try with_reducible rfl
 refine aw ?_;refine ef 7 (oi:=?bY) (v:=?bZ) ?cu am ?cB ?cK ?cO d ?cZ
 case cu=>simp only[be,bf,bg];rfl
 case cB=>exact λ_ _ _ h=>h
 case cK=>rfl
 case cO=>rintro c ⟨aG,aI,aJ⟩;go_simp;try with_reducible rfl
 refine aw ?_;refine ef 8 (oi:=?dh) (v:=?dn) ?dw am ?dx ?dz ?dA d ?dB
 case dw=>simp only[be,bf,bg];rfl
 case dx=>exact λ_ _ _ h=>h
 case dz=>rfl
 case dA=>rintro c ⟨aG,aI,aJ⟩;go_simp;try with_reducible rfl
 refine aw ?_;refine ef 9 (oi:=?dD) (v:=?dF) ?dG am ?dH ?dI ?dJ d ?dK
 case dG=>simp only[be,bf,bg];rfl
 case dH=>exact λ_ _ _ h=>h
 case dI=>rfl
 case dJ=>rintro c ⟨aG,aI,aJ⟩;go_simp;try with_reducible rfl
 refine aw ?_;refine ef 10 (oi:=?dL) (v:=?dM) ?dN am ?dO ?dP ?dQ d ?dR
 case dN=>simp only[be,bf,bg];rfl
 case dO=>exact λ_ _ _ h=>h
 case dP=>rfl
 case dQ=>rintro c ⟨aG,aI,aJ⟩;go_simp;try with_reducible rfl
 refine aw ?_;refine ef 11 (oi:=?dS) (v:=?dV) ?dW am ?dX ?dY ?dZ d ?d9
 case dW=>simp only[be,bf,bg];rfl
 case dX=>exact λ_ _ _ h=>h
 case dY=>rfl
 case dZ=>rintro c ⟨aG,aI,aJ⟩;go_simp;try with_reducible rfl
 refine aw ?_;refine ef 12 (oi:=?eu) (v:=?eB) ?eD am ?eF ?eG ?eH d ?eO
 case eD=>simp only[be,bf,bg];rfl
 case eF=>exact λ_ _ _ h=>h
 case eG=>rfl
 case eH=>rintro c ⟨aG,aI,aJ⟩;go_simp;try with_reducible rfl
 refine aw ?_;refine ef 14 (oi:=?eP) (v:=?eT) ?eU am ?eX ?eY ?eZ d ?fq
 case eU=>simp only[be,bf,bg];rfl
 case eX=>exact λ_ _ _ h=>h
 case eY=>rfl
 case eZ=>rintro c ⟨aG,aI,aJ⟩;go_simp;try with_reducible rfl
 refine aw ?_;refine ef 15 (oi:=?fu) (v:=?fA) ?fB am ?fC ?fD ?fE d ?fF
 case fB=>simp only[be,bf,bg];rfl
 case fC=>exact λ_ _ _ h=>h
 case fD=>rfl
 case fE=>rintro c ⟨aG,aI,aJ⟩;go_simp;try with_reducible rfl
 refine aw ?_;refine ef 16 (oi:=?fG) (v:=?fH) ?fI am ?fJ ?fK ?fM d ?fO
 case fI=>simp only[be,bf,bg];rfl
 case fJ=>exact λ_ _ _ h=>h
 case fK=>rfl
 case fM=>rintro c ⟨aG,aI,aJ⟩;go_simp;try with_reducible rfl
 refine aw ?_;refine ef 17 (oi:=?fP) (v:=?fQ) ?fT am ?fU ?fV ?fZ d ?gq
 case fT=>simp only[be,bf,bg];rfl
 case fU=>exact λ_ _ _ h=>h
 case fV=>rfl
 case fZ=>rintro c ⟨aG,aI,aJ⟩;go_simp;try with_reducible rfl
 refine aw ?_;refine ef 18 (oi:=?gu) (v:=?gy) ?gB am ?gD ?gF ?gG d ?gH
 case gB=>simp only[be,bf,bg];rfl
 case gD=>exact λ_ _ _ h=>h
 case gF=>rfl
 case gG=>rintro c ⟨aG,aI,aJ⟩;go_simp;try with_reducible rfl
 refine aw ?_;refine ef 19 (oi:=?gI) (v:=?gJ) ?gK am ?gL ?gM ?gN d ?gP
 case gK=>simp only[be,bf,bg];rfl
 case gL=>exact λ_ _ _ h=>h
 case gM=>rfl
 case gN=>rintro c ⟨aG,aI,aJ⟩;go_simp;try with_reducible rfl
 refine aw ?_;refine ef 20 (oi:=?gQ) (v:=?gT) ?gU am ?gV ?gW ?gX d ?gY
 case gU=>simp only[be,bf,bg];rfl
 case gV=>exact λ_ _ _ h=>h
 case gW=>rfl
 case gX=>rintro c ⟨aG,aI,aJ⟩;go_simp;try with_reducible rfl
 refine aw ?_;refine ef 21 (oi:=?gZ) (v:=?ig) ?iq am ?iw ?iy ?iA d ?iB
 case iq=>simp only[be,bf,bg];rfl
 case iw=>exact λ_ _ _ h=>h
 case iy=>rfl
 case iA=>rintro c ⟨aG,aI,aJ⟩;go_simp;try with_reducible rfl
 refine aw ?_;refine wpAnyH_ready (rs:=[13,22]) am aj ?_;refine AllReadyH.cons (o:=?iC) ?iD (λq i=>?iE) ?iF
 case iD=>simp only[be,bf,bg];rfl
 case iE=>
  rw[if_pos (by rfl)];go_simp;go_at_call 257;refine(ar.out _ ?_).mono ?_;(first|exact((ag.refl b).alloc _).drew|exact(((ag.refl b).alloc _).alloc _).drew);rintro e wc ⟨F,G,rfl,u,aK⟩;have K:b.heap.size<wc.heap.size:=aV nY u.size;have x:Hid (ag b wc):=(by first|exact((ag.refl b).alloc _).drew.trans u|exact(((ag.refl b).alloc _).alloc _).drew.trans u);have az:Hid ((Value.slice F f.length G).ownBlock≠some b.heap.size):=(λe=>by have:=(aK.lt _ e).1;simp[eo]at this<;>omega);have aE:ae wc (ao b 3) l:=(u.cells _ _ nY).trans (by simp[jd]);have a0:Hid (∀m p,World.cell? _ m=some p->ae wc m p):=(λm m h=>(u.cell (World.block_lt_of_cell? _ _ h)).trans h);have y:=(x.out.cells _ _ t).trans z;have y:=(x.out.cells _ _ j).trans e0;have y:=(x.out.cells _ _ j).trans E;have y:wc.ownsRow b.heap.size 9 1 (O F f.length G) f.length (f.map .string):=aK.mono (Nat.le_of_lt nY);have L:=Z y;clear u aK y
  try go_simp
  refine i _ _ ?_ (λd=>?_)
  ·exact mQ
  refine aw ?_;refine wpAnyH_ready (rs:=[22]) am aj ?_;refine AllReadyH.cons (o:=?iG) ?iH (λq i=>?iI) ?iJ
  case iH=>simp only[be,bf,bg];rfl
  case iJ=>exact AllReadyH.nil
  rw[if_pos (by rfl)];go_simp;refine i _ _ ?_ (λd=>?_)
  ·exact mQ
  refine aw ?_;refine wpAnyH_ready (rs:=[23]) am aj ?_;refine AllReadyH.cons (o:=?iK) ?iL (λq i=>?iM) ?iN
  case iL=>simp only[be,bf,bg];rfl
  case iN=>exact AllReadyH.nil
  refine oe _ rfl (.tmp 19) (.tmp 28) 83 rfl b.heap.size 9 aa _ 1 16 underlying83 ab ad ai al rfl au (O F f.length G) f.length (f.map .string) rfl ?_ _ _ 1 1 [.string s] rfl (xY ?_) (λp m=>by simp at m;subst m;rfl) A.out.1 A.out.2 ?_ ?_;(first|exact L.out|exact L.out.alloc _);(first|exact a0.out _ _ (by simp[jd])|simp[*,jd]);(exact bJ (Nat.le_of_lt K) aj);intro aC m M N a1;obtain⟨a2,a3,rfl⟩:=oS M;have H:wc.grownBy m (Value.slice F f.length G).ownBlock:=(by first|exact N|exact q7 ((ag.refl wc).alloc _) N);have a4:=Z M;have p:Hid (ag b m):=Below.grown x.out H x.out.size (λr p=>(L.out.lt r p).1);have u:b.heap.size<m.heap.size:=aV K H.size;have u:ae m (ao b 3) l:=(World.cell?_of_block (a:=⟨b.heap.size,3,none⟩) (H.block b.heap.size K az.out.symm)).trans aE;have u:=(p.out.cells _ _ t).trans z;have u:=(p.out.cells _ _ j).trans e0;have u:=(p.out.cells _ _ j).trans E;have u:m.frozen? (ac g (a*6))=false:=(p.out.frees _ _ j).trans ap;have u:m.frozen? (ac g (a*6+2))=false:=(p.out.frees _ _ j).trans aq;have u:k<m.heap.size:=aV t p.out.size;have u:g<m.heap.size:=aV j p.out.size;clear M N a1 H;refine i _ _ ?_ (λd=>?_)
  ·exact mQ
  refine aw ?_;refine ef 24 (oi:=?iO) (v:=?iP) ?iQ am ?iR ?iT ?iU d ?iV
  case iQ=>simp only[be,bf,bg];rfl
  case iR=>exact λ_ _ _ h=>h
  case iT=>rfl
  case iU=>rintro c ⟨aG,aI,aJ⟩;go_simp;try with_reducible rfl
  refine aw ?_;refine ef 25 (oi:=?iW) (v:=?iX) ?iY am ?iZ ?jc ?je d ?jf
  case iY=>simp only[be,bf,bg];rfl
  case iZ=>exact λ_ _ _ h=>h
  case jc=>rfl
  case je=>rintro c ⟨aG,aI,aJ⟩;go_simp;try with_reducible rfl
  refine aw ?_;refine wpAnyH_done am ?_ _;refine vg (o:=?jg) ?jh ?ji ?jk
  case jh=>simp only[be,bf,bg];rfl
  case ji=>rfl
  intro q i;go_simp;refine i _ _ ?_;refine aw ?_;go_wp2;go_region_held3 (λc=>ae c (ac k (o+1)) (O (some ⟨g,0,none⟩) n w)/\ae c (ao b 3) l) (first|(simp[*];done)|((repeat' apply And.intro)<;>(first|(simp[*];done)|(simp[*,q3,jd,q4,s6,q5,q6];done)|go_keep))) (fail)
  go_wp2;go_end0
  refine⟨a2,a3,m,rfl,?_,p,rfl⟩;have:=a4.out;rw[List.map_append];exact this
 refine AllReadyH.cons (o:=?jl) ?jm (λq i=>?jo) ?jq
 case jm=>simp only[be,bf,bg];rfl
 case jq=>exact AllReadyH.nil
 rw[if_pos (by rfl)];go_simp;refine i _ _ ?_ (λd=>?_)
 ·exact mQ
 refine aw ?_;refine wpAnyH_ready (rs:=[13]) am aj ?_;refine AllReadyH.cons (o:=?jr) ?jv (λq i=>?jw) ?jy
 case jv=>simp only[be,bf,bg];rfl
 case jy=>exact AllReadyH.nil
 rw[if_pos (by rfl)];go_simp;go_at_call 257;refine(ar.out _ ?_).mono ?_;(first|exact((ag.refl b).alloc _).drew|exact(((ag.refl b).alloc _).alloc _).drew);rintro e wc ⟨F,G,rfl,u,aK⟩;have K:b.heap.size<wc.heap.size:=aV nY u.size;have x:Hid (ag b wc):=(by first|exact((ag.refl b).alloc _).drew.trans u|exact(((ag.refl b).alloc _).alloc _).drew.trans u);have az:Hid ((Value.slice F f.length G).ownBlock≠some b.heap.size):=(λe=>by have:=(aK.lt _ e).1;simp[eo]at this<;>omega);have aE:ae wc (ao b 3) l:=(u.cells _ _ nY).trans (by simp[jd]);have a0:Hid (∀m p,World.cell? _ m=some p->ae wc m p):=(λm m h=>(u.cell (World.block_lt_of_cell? _ _ h)).trans h);have y:=(x.out.cells _ _ t).trans z;have y:=(x.out.cells _ _ j).trans e0;have y:=(x.out.cells _ _ j).trans E;have y:wc.ownsRow b.heap.size 9 1 (O F f.length G) f.length (f.map .string):=aK.mono (Nat.le_of_lt nY);have L:=Z y;clear u aK y
 try go_simp
 refine i _ _ ?_ (λd=>?_)
 ·exact mQ
 refine aw ?_;refine wpAnyH_ready (rs:=[23]) am aj ?_;refine AllReadyH.cons (o:=?jA) ?jB (λq i=>?jC) ?jD
 case jB=>simp only[be,bf,bg];rfl
 case jD=>exact AllReadyH.nil
 refine oe _ rfl (.tmp 19) (.tmp 28) 83 rfl b.heap.size 9 aa _ 1 16 underlying83 ab ad ai al rfl au (O F f.length G) f.length (f.map .string) rfl ?_ _ _ 1 1 [.string s] rfl (xY ?_) (λp m=>by simp at m;subst m;rfl) A.out.1 A.out.2 ?_ ?_;(first|exact L.out|exact L.out.alloc _);(first|exact a0.out _ _ (by simp[jd])|simp[*,jd]);(exact bJ (Nat.le_of_lt K) aj);intro aC m M N a1;obtain⟨a2,a3,rfl⟩:=oS M;have H:wc.grownBy m (Value.slice F f.length G).ownBlock:=(by first|exact N|exact q7 ((ag.refl wc).alloc _) N);have a4:=Z M;have p:Hid (ag b m):=Below.grown x.out H x.out.size (λr f=>(L.out.lt r f).1);have f:b.heap.size<m.heap.size:=aV K H.size;have f:ae m (ao b 3) l:=(World.cell?_of_block (a:=⟨b.heap.size,3,none⟩) (H.block b.heap.size K az.out.symm)).trans aE;have f:=(p.out.cells _ _ t).trans z;have f:=(p.out.cells _ _ j).trans e0;have f:=(p.out.cells _ _ j).trans E;have f:m.frozen? (ac g (a*6))=false:=(p.out.frees _ _ j).trans ap;have f:m.frozen? (ac g (a*6+2))=false:=(p.out.frees _ _ j).trans aq;have f:k<m.heap.size:=aV t p.out.size;have f:g<m.heap.size:=aV j p.out.size;clear M N a1 H;refine i _ _ ?_ (λd=>?_)
 ·exact mQ
 refine aw ?_;refine ef 24 (oi:=?jE) (v:=?jF) ?jG am ?jH ?jI ?jJ d ?jK
 case jG=>simp only[be,bf,bg];rfl
 case jH=>exact λ_ _ _ h=>h
 case jI=>rfl
 case jJ=>rintro c ⟨aG,aI,aJ⟩;go_simp;try with_reducible rfl
 refine aw ?_;refine ef 25 (oi:=?jL) (v:=?jM) ?jN am ?jO ?jP ?jQ d ?jR
 case jN=>simp only[be,bf,bg];rfl
 case jO=>exact λ_ _ _ h=>h
 case jP=>rfl
 case jQ=>rintro c ⟨aG,aI,aJ⟩;go_simp;try with_reducible rfl
 refine aw ?_;refine wpAnyH_done am ?_ _;refine vg (o:=?jS) ?jT ?jU ?jV
 case jT=>simp only[be,bf,bg];rfl
 case jU=>rfl
 intro q i;go_simp;refine i _ _ ?_;refine aw ?_;go_wp2;go_region_held3 (λc=>ae c (ac k (o+1)) (O (some ⟨g,0,none⟩) n w)/\ae c (ao b 3) l) (first|(simp[*];done)|((repeat' apply And.intro)<;>(first|(simp[*];done)|(simp[*,q3,jd,q4,s6,q5,q6];done)|go_keep))) (fail)
 go_wp2;go_end0
 refine⟨a2,a3,m,rfl,?_,p,rfl⟩;have:=a4.out;rw[List.map_append];exact this
def PO.Sf {a:Type} (b:PO a) (c:List aq):Prop:=∀d a,b=.ok d a->a<:+c
theorem PO.Sf.bind {c d:Type} {r:PO c} {f:c->List aq->PO d} {n:List aq} (h:r.Sf n) (hf:∀a ts,ts<:+n->(f a ts).Sf n):(r.bind f).Sf n:=by
 exact qf
theorem PO.Sf.ok {α:Type} {a:α} {ts:List aq} {n:List aq} (h:ts<:+n):(PO.ok a ts).Sf n:=by
 intro c c b;injection b with _ b
 subst b;exact h
theorem PO.Sf.bad {α:Type} {a b:Int} {c:List aq}:(PO.bad a b:PO α).Sf c:=by intro a a h;cases h
theorem PO.Sf.ite {d:Type} {a:Prop} [Decidable a] {b c:PO d} {n:List aq} (h:b.Sf n) (d:c.Sf n):(if a then b else c).Sf n:=by split<;>assumption
def yT (a:List aq):Prop:=a.Pairwise λa b=>a.at_<b.at_
mutual
def Ex.All (a:Int->Prop):Ex->Prop
 |.mk _ _ kids _ _ _ _ _ at_=>a at_/\Ex.kV a kids
def Ex.kV (a:Int->Prop):List Ex->Prop
 |[]=>True
 |e::es=>e.All a/\Ex.kV a es
end
mutual
theorem Ex.All.imp {p b:Int->Prop} (h:∀a,p a->b a):∀c:Ex,c.All p->c.All b
 |.mk _ _ kids _ _ _ _ _ _,a=>by
  rw[Ex.All]at a⊢;exact⟨h _ a.1,Ex.kV.imp h kids a.2⟩
theorem Ex.kV.imp {p b:Int->Prop} (h:∀a,p a->b a):∀l:List Ex,Ex.kV p l->Ex.kV b l
 |[],_=>by rw[Ex.kV];trivial
 |e::es,a=>by
  rw[Ex.kV]at a⊢;exact⟨Ex.All.imp h e a.1,Ex.kV.imp h es a.2⟩
end
theorem H9 {a b:List aq} (h:yT a) (c:b<:+a) (d:b≠[]):db a<=db b:=by
 cases a with
 |nil=>exact absurd (List.suffix_nil.1 c) d
 |cons f g=>
  rcases List.suffix_cons_iff.1 c with e|c
  ·rw[e];exact Int.le_refl _
  cases b with
  |nil=>exact absurd rfl d
  |cons i j=>exact Int.le_of_lt (List.rel_of_pairwise_cons h (c.subset (List.mem_cons_self ..)))
def tA (b:Int) (c d:List aq) (a:Int):Prop:=db c<=a/\a<b/\∀b∈d,a<b.at_
theorem tA.mono {b:Int} {ts us vs c:List aq} (h:yT vs) (s:ts<:+vs) (n:ts≠[]) (k:c<:+us) {a:Int} (r:tA b ts us a):tA b vs c a:=
 ⟨Int.le_trans (H9 h s n) r.1,r.2.1,λb c=>r.2.2 b (k.subset c)⟩
def PO.Al {a:Type} (b:PO a) (c:a->Prop):Prop:=∀a d,b=.ok a d->c a
theorem PO.Al.bind {b c:Type} {d:PO b} {f:b->List aq->PO c} {q:c->Prop} (h:∀a ts,(f a ts).Al q):(d.bind f).Al q:=by
 intro c d b;obtain⟨a,ts,_,b⟩:=PO.bind_some b;exact h a ts c d b
theorem PO.Al.wo {a b:Type} {c:PO a} {d:a->List aq->PO b} {e:a->Prop} {f:b->Prop} (g:c.Al e) (h:∀a b,e a->(d a b).Al f):(c.bind d).Al f:=by
 intro d e c;obtain⟨a,b,f,c⟩:=PO.bind_some c;exact h a b (g a b f) d e c
theorem PO.Al.ok {α:Type} {a:α} {ts:List aq} {q:α->Prop} (h:q a):(PO.ok a ts).Al q:=by
 intro c c b;injection b with b _
 subst b;exact h
theorem PO.Al.ite {b:Type} {c:Prop} [Decidable c] {d e:PO b} {a:b->Prop} (h:d.Al a) (b:e.Al a):(if c then d else e).Al a:=by split<;>assumption
def tE (a:Int):List aB->Int
 |[]=>a
 |x::_=>x.at_
def pK (a:Int):List aB->Prop
 |[]=>True
 |x::xs=>x.at_<tE a xs/\(x.kind=10->x.expr.All λb=>x.at_<=b/\b<tE a xs)/\pK a xs
def RO.At {α:Type} (r:RO α) (q:Int->Prop):Prop:=∀b a,r=.bad b a->q a
section
variable {α β:Type} {r:RO α} {q:Int->Prop} {at_:Int}
theorem RO.At.ok {a:α}:(RO.ok a).At q:=by intro b b h;cases h
theorem RO.At.bad {a:Int} (h:q at_):(RO.bad a at_:RO α).At q:=by intro a a h;injection h with _ h;subst h;assumption
theorem RO.At.bind {f:α->RO β} (h:r.At q) (c:∀a,(f a).At q):(r.bind f).At q:=by
 cases r with
 |ok a=>exact c a
 |bad d a=>intro c c b;injection b with _ b;subst b;exact h d a rfl
theorem RO.At.ap {a:Bool} {b:Int} (h:q at_) (k:r.At q):(RO.ap a b at_ r).At q:=by
 unfold RO.ap;split
 ·exact k
 exact .bad h
theorem RO.At.ite {a:Prop} [Decidable a] {b:RO α} (h:r.At q) (c:b.At q):(if a then r else b).At q:=by split<;>assumption
variable (h:q at_)
include h
end
inductive FL (L:Int):List aB->List (Int×Int)->List aB->Prop
 |nil:FL L [] [] []
 |bad {x:aB} {xs:List aB} {e a:Int} {fs:List (Int×Int)} {ys:List aB}:x.at_<=a->a<tE L xs->FL L xs fs ys->FL L (x::xs) ((e,a)::fs) ys
 |good {x:aB} {xs:List aB} {fs:List (Int×Int)} {ys:List aB}:FL L xs fs ys->FL L (x::xs) fs (x::ys)
def n6 (b:List Tb) (d:ce) (c:aB):List Tb×(Int×Int):=
 if(bL d c).2≠0 then(b,((bL d c).2,c.at_))
 else if c.kind=1 then match eP b c with|.ok t=>(b++[t],(0,0))|.bad e a=>(b,(e,a))else(b,(0,0))
theorem pL (b:List Tb) (c:ce) (d:List (Int×Int)) (a:aB) (e:List aB):cI b c d (a::e)=cI (n6 b c a).1 (bL c a).1 (d++[(n6 b c a).2]) e:=by
 rw[cI];unfold n6;split
 ·rfl
 split
 ·cases eP b a<;>rfl
 rfl
theorem pM:∀(a:List aB) (b:List Tb) (c:ce) (d:List (Int×Int)),cI b c d a=((cI b c [] a).1,d++(cI b c [] a).2)
 |[],b,c,d=>by rw[cI,cI];simp
 |x::a,b,c,d=>by
  rw[pL,pL b c [],pM a _ _ (d++_),pM a _ _ ([]++_)];simp
theorem rx:∀(a:List aB) (b:List Tb) (c:ce),(cI b c [] a).2.length=a.length
 |[],_,_=>by rw[cI];rfl
 |x::a,b,c=>by
  rw[pL,pM];simp[rx a]
section
variable {α:Type}
def n8 (b c:List α) (d:Nat):Prop:=∀a,a<d->b[a]?=c[a]?
theorem I0 (a b:List α):n8 a b 0:=λa a=>absurd a (Nat.not_lt_zero _)
theorem I1 {b c:List α} {a:Nat} (e:a<b.length) (f:a<c.length) (h:n8 b c a) (g:b[a]=c[a]):n8 b c (a+1):=λd b=>by
 by_cases i:d=a
 ·subst i;rw[List.getElem?_eq_getElem e,List.getElem?_eq_getElem f,g]
 exact h d af
theorem I3 [DecidableEq α] {a b:List α} (c:a.length=b.length) (h:n8 a b a.length):decide (a=b)=true:=by
 apply decide_eq_true;apply List.ext_getElem?;intro b;by_cases c:b<a.length
 ·exact h b c
 rw[List.getElem?_eq_none af,List.getElem?_eq_none af]
theorem I4 [DecidableEq α] {b c:List α} {a:Nat} (e:a<b.length) (e:a<c.length) (d:b[a]≠c[a]):decide (b=c)=false:=by
 apply decide_eq_false;rintro rfl;exact d rfl
theorem I5 [DecidableEq α] {a b:List α} (h:a.length≠b.length):decide (a=b)=false:=by
 apply decide_eq_false;rintro rfl;exact h rfl
end
theorem zl (g i:Hd) (a b:List Int) (d:ah) (o:cY d g a) (p:cY d i b):
 Calls prog 34 #[g.val,i.val] d λu v=>u=.returned (.bool (decide (a=b)))/\ag d v:=by
 have L1:aE d 1 g bU a:=o;have L2:aE d 1 i bU b:=p;clear o p;obtain⟨w,x,y⟩:=g;obtain⟨z,A,B⟩:=i;show Calls prog 34 #[O w x y,O z A B] d _;have C:=L1.1;have D:=L2.1;have g:=L1.2.1;have g:=L2.2.1;subst C D;have E:=Z L1;have F:=Z L2;clear L1 L2;by_cases j:a.length=b.length
 case neg=>
  have e:((a.length:Int) !=(b.length:Int))=true:=aF
  have c:=Z j;clear j;go_enter func34,ntmps34
  go_wp2;go_ret;exact⟨cj (I5 c).symm,ag.refl _⟩
 have g:((a.length:Int) !=(b.length:Int))=false:=aF
 have q:=Z j;clear j;go_enter func34,ntmps34
 go_wp2;go_loopw [5] (λe wr=>∃c:Nat,c<=a.length/\e=.int .i64 c/\Hid (ag d wr)/\Hid (n8 a b c)) (λc _=>a.length-(intOf c).toNat)
 case atStart=>exact⟨0,Nat.zero_le _,rfl,ag.refl d,I0 _ _⟩
 obtain⟨c,J,rfl,f,r⟩:=hrel;by_cases m:c<a.length
 ·have n:c<b.length:=omg q
  obtain⟨g,i,G,j,d⟩:=(E.same f).2.2 c m;obtain⟨i,j,H,o,g⟩:=(F.same f).2.2 c n;obtain⟨k,i⟩:=av (a[c]);obtain⟨l,j⟩:=av (b[c]);rw[<-i]at d;rw[<-j]at g;have s:=Z i;have t:=Z j;have o:=d 0 k rfl;have p:=g 0 l rfl;simp only[Nat.mul_one,Nat.add_zero]at o p;clear d g i j;subst G H;have d:(c:Int)<(a.length:Int):=af
  have d:(c:Int)<(b.length:Int):=af
  by_cases e:k=l
  ·have d:(k !=l)=false:=by simp;exact e
   have I:=Z e;clear e;go_wp2_with fail
   go_quiet (fail)
   go_wp2;go_roundw
   case rel=>exact⟨c+1,by omega,by go_num,(f.out.drewN _),I1 m n r.out (by rw[<-s.out,<-t.out];exact I.out)⟩
   simp[intOf];omega
  have d:(k !=l)=true:=by simp;exact e
  have I:=Z e;clear e;go_wp2_with fail
  go_quiet (fail)
  go_wp2;go_ret;exact⟨cj (I4 m n (by rw[<-s.out,<-t.out];exact I.out)).symm,f.drewN _⟩
 have c:c=a.length:=af
 have e:Hid (n8 a b a.length):=by rw[<-c];exact r.out
 clear c;go_wp2;go_ret;exact⟨cj (I3 q e).symm,f⟩
end Go.Proofs.YteamkimbmdgdbaaGreatDoor

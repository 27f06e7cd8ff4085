import Derived.Test.YteamkimbmdgdbaaGreatDoorK16
set_option linter.unusedSimpArgs false
set_option linter.unusedVariables false
set_option maxHeartbeats 16000000
set_option maxRecDepth 100000
namespace Go.Proofs.YteamkimbmdgdbaaGreatDoor
open Go.Proofs.Tryz
open Go.RowKit
theorem Fi (b:List Tb) (c:av) (d:List bv) (f:bk) (g i:av) (j a:Int) (ks:List Pl):cq b 4 c d f g i j a ks=RO.ap (decide (ks.length=2)) 1 a ((hZ a (bG ks 0) (bG ks 0) (bG ks 1)).bind λb=>RO.ap (decide (b.length<=24)) 3 a (.ok (.mk 4 0 ks [] [] 0 0 b))):=by
 have h:decide (eF 4=some ks.length)=decide (ks.length=2):=by
  have:eF 4=some 2:=rfl;exact sZ
 unfold cq;rw[h];rfl
theorem Fj (ar g ai:Nat) (h:Hd) (bs:List RT) (a1:av) (b4 v:Hd) (c:List aC) (bt:Hd) (bw:List bv) (a2:Hd) (bx:bk) (a3 az:av) (a4 at_:Int) (o:ah) (eq:aJ az)
 (bz:aa o g 105 #[J 4,J 0,v.val,ab,ab,J 0,J 0,ab]) (y:iV o ar g ai h bs v c bt bw a2 bx at_):
 Calls prog 201 #[ak ar,.agg #[J 4,a1,b4.val,bt.val,a2.val,a3,az,a4,at_],ak g] o
  λe w'=>RP [g] o (cq (bs.map RT.tb) 4 a1 bw bx a3 az a4 at_ (aC.aO c)) (iW g ai) e w':=by
 obtain⟨er,b5,es⟩:=h;obtain⟨b8,ca,aA⟩:=v;obtain⟨cQ,cS,cT⟩:=b4;obtain⟨cU,cV,cW⟩:=bt;obtain⟨cX,cY,cZ⟩:=a2;have S:=Z y;have c0:c.length=ca:=y.lk.1;have bt:ca<=9223372036854775807:=y.lk.2.1;subst c0;have b4:=y.hX;have bt:=y.xp;have bt:=y.kv;have bt:=y.lw;have bt:=bz.lt;have c1:=Z bz;obtain⟨R,bs⟩:=au (cq (bs.map RT.tb) 4 a1 bw bx a3 az a4 at_ (aC.aO c));rw[<-bs];have bt:(aC.aO c).length=c.length:=by rw[aC.g0,List.length_map]
 have E0:=Z (show R=RO.ap (decide (c.length=2)) 1 at_ ((hZ at_ (bG (aC.aO c) 0) (bG (aC.aO c) 0) (bG (aC.aO c) 1)).bind λb=>RO.ap (decide (b.length<=24)) 3 at_ (.ok (.mk 4 0 (aC.aO c) [] [] 0 0 b))) by rw[bs,Fi,bt]);clear bs y bz bt;have c2:=Z (Kp.refl [g] o);have bA:=Z (λ(b:ah) (d:Kp [g] o b)=>S.lk.kp d (λb d e b5=>by have b:=(S.out.ik b d e).1;have b:=aB b5;omega));have aE:=Z (λ(b:ah) (d:Kp [g] o b)=>show ae b (ac ar 8) at_ from(d.cell (p:=(ac ar 8)) b4 aF).trans S.c8);have c3:=@run_makeMap prog;show Calls prog 201 #[ak ar,.agg #[J 4,a1,O cQ cS cT,O cU cV cW,O cX cY cZ,a3,az,a4,at_],ak g] o _;go_enter func201,ntmps201
 go_upto_region 1 with(fail)
 obtain⟨a3,ar,a1,b,az⟩:=nb o 154 _;rw[ar];clear ar;have a3:=qk c2 b;have a4:=qb b c1;clear b;obtain⟨q,ar,c4,b,bs⟩:=nc az 93 _;rw[ar];clear ar;have c5:=qk a3 b;have c6:=qb b a4;have c7:=qb b a1;clear b;clear az bs;have c9:=kw q;have da:=kx q;have db:=ky q;have dc:=kz q;have dd:=kA q;have df:=kB q;have dg:=kC q;have dh:=kD q;go_upto_region 2 with(fail)
 clear c9 da db dc dd df dg dh c3;have M3:=Z (kE q);have b:=Z (show ag q (q.alloc (.map (km 8) 8))from(ag.refl q).alloc _);obtain⟨a5,q⟩:=au (q.alloc (.map (km 8) 8));rw[<-q]at M3 b⊢;clear q;have K3:=qk c5 b;have cb:=qb b c6;have cc:=qb b c7;have cd:=qb b c4;have di:=ly M3 (k:=4) (n:=2) rfl;clear b M3;have dj:=ay cd;go_upto_region 3 with(fail)
 clear di dj;have eX:=ay cc;have eY:ae a5 (ac g 2) (O b8 c.length aA):=aa.cell cb 2;have dw:=aE a5 K3;by_cases hN:c.length=2
 case neg=>
  have d:(((2:Nat):Int)==(c.length:Int))=false:=aF
  have d:((2:Int)==(c.length:Int))=false:=aF
  exact px
 have a6:(((2:Nat):Int)==(c.length:Int))=true:=aF
 have dk:((2:Int)==(c.length:Int))=true:=aF
 have E1:=Z (show R=RO.ap true 1 at_ ((hZ at_ (bG (aC.aO c) 0) (bG (aC.aO c) 0) (bG (aC.aO c) 1)).bind λd=>RO.ap (decide (d.length<=24)) 3 at_ (.ok (.mk 4 0 (aC.aO c) [] [] 0 0 d))) by rw[E0.out,decide_eq_true hN]);clear E0;refine dQ 12 eX eY λhS=>?_;refine dq ?_;refine eo ?_;refine aM 11 (λK hK=>?_);go_simp;refine bX K3.drew E1 dw λce=>?_;try go_simp
 refine hK _ _ (λ_=>hS) ?_;refine aw ?_;refine b1 ?_;refine bQ ?_;clear hS a6 dk eX eY dw E1;have b:=Z ((ag.refl a5).drew);obtain⟨aG,q⟩:=au a5.drew;rw[<-q]at b⊢;clear q;have dl:=qk K3 b;have dm:=qb b cb;have dn:=qb b cc;have cf:=qb b cd;clear b;go_upto_region 5 with(fail)
 obtain⟨al,q,bB,b,-⟩:=nb aG 79 #[ab];rw[q];clear q;have cg:=qk dl b;have ch:=qb b dm;have dp:=qb b dn;have dr:=qb b cf;clear b;have q:=aa.lt cf;have q:0<c.length:=af
 obtain⟨z,A,am,ar,a7⟩:=jK (bA al cg) 0 q;have T:=Z (S.sub _ (List.getElem_mem q)).res;have q:=jJ c 0 q;obtain⟨a1,a3⟩:=au (c[0]);rw[<-a3]at a7 T q;obtain⟨⟨C,ar,H⟩,az⟩:∃bC,bC=a1.ha:=⟨_,rfl⟩;obtain⟨f,a1⟩:=au a1.attrs;rw[<-az]at a7;rw[<-az,<-a1]at T;rw[<-a1]at q;have ci:=Z (show R=_ by rw[ce.out,q]);clear ce a3 az a1;have cj:ae al (ac z (A+0*8+7)) (O C ar H):=a7;have ds:ae al (ac z (A+7)) (O C ar H):=by simpa using cj
 have dt:b8=some ⟨z,A,none⟩:=am;have du:f.length=ar:=T.a.1.1;subst du;clear a7 am;subst dt;have dv:ae al (ac g 2) (O (some ⟨z,A,none⟩) c.length aA):=aa.cell ch 2;have dx:=ay bB;have dy:=λd=>aa.frozen bB d;go_upto_region 7 with(fail)
 have U:=Z (iA bB (O C f.length H));have w:=Z (Kp.aH (p:=(aq aG 0)) (l:=[aG.heap.size]) aj (Kp.refl [aG.heap.size] al) (O C f.length H));obtain⟨t,q⟩:=au (al.setCell (aq aG 0) (O C f.length H));rw[<-q]at U w⊢;clear q;have bE:=Z (w.old cg (λi i j=>absurd j (by rw[aB i];omega)));have a8:=qo w ch;have dz:=qo w dp;have dA:=qo w dr;have a9:=U;clear U w;clear dy dv dx ds cj;have bH:=Z (λ(i:ah) (j:Kp [g] o i)=>T.keep j (λi i hS=>by have j:=hS.1;have i:=aB i;omega));have bJ:1<c.length:=by omega
 obtain⟨q,al,am,ar,bb⟩:=jK (bA t bE) 1 bJ;injection am with am
 injection am with py pz
 subst py pz;have an:=Z (S.sub _ (List.getElem_mem bJ)).res;have al:=jJ c 1 bJ;obtain⟨az,aG⟩:=au (c[1]);rw[<-aG]at bb an al;obtain⟨⟨bg,q,am⟩,ar⟩:∃bC,bC=az.ha:=⟨_,rfl⟩;obtain⟨i,az⟩:=au az.attrs;rw[<-ar]at bb;rw[<-ar,<-az]at an;rw[<-az]at al;have ck:=Z (show R=_ by rw[ci.out,al]);clear ci aG ar az;have bK:ae t (ac z (A+1*8+7)) (O bg q am):=bb;have dB:ae t (ac z (A+15)) (O bg q am):=by simpa using bK
 have dC:ae t (ac z (A+8+7)) (O bg q am):=by simpa using bK
 have dD:i.length=q:=an.a.1.1;subst dD;clear bb;have dE:ae t (ac g 2) (O (some ⟨z,A,none⟩) c.length aA):=aa.cell a8 2;have dG:=aa.lt a8;go_upto_region 9 with(fail)
 clear dE dB bK dC;have dH:=Z (λ(j:ah) (m:Kp [g] o j)=>an.keep m (λj j hS=>by have m:=hS.1;have j:=aB j;omega));have dI:=Z (Kp.refl [g] t);have dJ:=ay a9;have q:=aa.lt a9;have dK:=ay dA;have dG:=aa.lt a8;have cl:=Z (xl ⟨C,f.length,H⟩ f t (bH t bE).a T.l);go_upto_region 29 with(fail)
 go_wp2_with fail
 refine(cl).mono ?_;rintro e q ⟨cm,cn,rfl,b,dL⟩;have bL:=qb b a8;have dM:=qb b a9;have dN:=qk dI b;clear b;have dO:=b7 bL;clear dJ dK cl;have dP:=λd=>aa.frozen bL d;go_upto_region 30 with(fail)
 obtain⟨am,al,dR,q⟩:=sj bL (O cm f.length cn);rw[al];clear al;have dS:=Z (dN.trans q);have al:=qo q dM;have q:=q;have dT:=Z (bD dL q (λj j=>by have:=aB j;omega));clear dO dP;obtain⟨dU,dV,dW,dX,dY⟩:=info_parts Tryz.infoAt;have q:=T.l;have q:=an.l;go_wp2;go_loopg [170] (i.length+1) (λu x wr=>∃(d j:Nat) (m:List RA) (q:aT) (r:Nat),x=.int .i64 d/\d<=i.length/\i.length-d<u/\m.length=j/\j<=f.length+d/\Hid (aa wr g 105 #[J 4,J 0,O (some ⟨z,A,none⟩) c.length aA,ab,ab,J 0,J 0,O q j r])/\Hid (wr.ownsRow t.heap.size 111 6 (O q j r) j (m.flatMap RA.cells))/\Hid (∀j∈m,gZ j/\aJ j.at_.name/\aJ j.at_.dflt.s)/\Hid (Kp [g] t wr)/\Hid (R=(hZ at_ (f.map RA.at_) (m.map RA.at_) ((i.map RA.at_).drop d)).bind (λj=>RO.ap (decide (j.length<=24)) 3 at_ (.ok (.mk 4 0 (aC.aO c) [] [] 0 0 j)))))
 case atStart=>exact⟨0,f.length,f,cm,cn,rfl,by omega,by omega,rfl,by omega,dR,dT,Z T.out.bare,dS,ck⟩
 obtain⟨d,j,B,aI,aN,rfl,et,co,cp,a2,bM,bN,bO,ao,bh⟩:=hrel;have bl:=Z co;have aP:=Z cp;clear co cp ck;have V:=Z (bE.trans ao);have q:=ao.size;have bP:=qo ao dz;have cr:=qo ao a9;by_cases bR:d<i.length
 case neg=>
  have q:¬(d:Int)<i.length:=af
  have m:=Z (show R=RO.ap (decide (j<=24)) 3 at_ (.ok (.mk 4 0 (aC.aO c) [] [] 0 0 (B.map RA.at_))) by rw[bh.out,List.drop_of_length_le (by rw[List.length_map];omega),<-aP.out];show RO.ap (decide ((B.map RA.at_).length<=24)) _ _ _=_;rw[List.length_map]);clear bh;go_upto_region 38 with(fail)
  have u:=ay bP;have x:=b7 bM;by_cases q:j<=24
  case neg=>
   have a6:decide ((j:Int)<=24)=false:=aF
   rw[show decide (j<=24)=false by simp;omega]at m;refine dQ 8 u x λhS=>?_;refine cR ?_;refine jH ?_;refine aM 7 (λK hK=>?_);go_simp;exact b3 V.drew m (aE wr V)
  have a6:decide ((j:Int)<=24)=true:=aF
  rw[show decide (j<=24)=true by simp;omega]at m;refine dQ 8 u x λhS=>?_;refine cR ?_;refine jH ?_;refine aM 7 (λK hK=>?_);go_simp;refine bX V.drew m (aE wr V) λE=>?_;try go_simp
  refine hK _ _ (λ_=>hS) ?_;refine aw ?_;refine b1 ?_;refine bQ ?_;clear hS u x a6 m;have b:=Z ((ag.refl wr).drew);obtain⟨D,m⟩:=au wr.drew;rw[<-m]at b⊢;clear m;have r:=qk V b;have F:=qb b bM;have m:=qb b bP;have m:=qb b cr;have m:=qk ao b;have m:=r.size;have m:=Z (aK b bN);clear b;have G:=Z ((lA m.out aP.out (omg aP) bO.out).mono (S':=Bw ai D.heap.size) (λm m=>⟨by have:=m.1;omega,m.2⟩));go_wp2;first|go_end0|refine bodyPost_ret (results_none rfl _ _ _) rfl ?_
  rw[E.out];have u:∀m∈[g],¬Bw ai o.heap.size m:=λm q hS=>by have x:=hS.1;have x:=aB q;omega
  have m:∀m,Bw ai o.heap.size m->Bw ai D.heap.size m:=λm q=>⟨q.1,by have:=q.2;omega⟩;refine⟨r,_,rfl,rfl,(aC.mk 4 (0) ⟨(some ⟨z,A,none⟩),c.length,aA⟩ c aL [] aL [] (0) (0) ⟨aI,j,aN⟩ B),kI,F,.mk (bA D r) (S.ik.mono m) (λq v=>((S.sub q v).keep r u).mono m) (aD.none_ _ 12 _) (aV.none_ _ _ _) (aD.none_ _ 1 _) (aV.none_ _ _ _) G⟩
 have q:(d:Int)<i.length:=af
 have q:(0:Int)<=d:=af
 obtain⟨W,X,cs,q,aR,I,aU,aW,aX,aY⟩:=iR (dH wr V).a d bR;have bS:bg=some ⟨W,X,none⟩:=cs;have ct:=Z (an.bare _ (List.getElem_mem bR));have bT:(i.map RA.at_).drop d=i[d].at_::(i.map RA.at_).drop (d+1):=by rw[List.drop_eq_getElem_cons (by simpa using bR),List.getElem_map]
 obtain⟨dZ,cu⟩:=au (i[d]);rw[<-cu]at aR I aU aW aX aY ct bT;obtain⟨⟨r,m,bU,⟨D,E,F⟩⟩,⟨L,M,N⟩⟩:=dZ;obtain⟨Y,q⟩:=au (eE (f.map RA.at_) r);have cv:Hid (Y<(f.map RA.at_).length):=Z (by rw[q];exact(l0 (λy:At=>decide (y.name=r)) (f.map RA.at_)).2);have cw:Hid (∀u,Kp [g] o u->Calls prog 274 #[O C f.length H,r] u λe w'=>e=.returned Y/\ag u w'):=Z (λo u=>by rw[q];exact sv ⟨C,f.length,H⟩ f r o (bH.out o u).a);have bm:Hid (R=(if Y<0 then hZ at_ (f.map RA.at_) (B.map RA.at_++[⟨r,m,bU,⟨D,E,F⟩⟩]) ((i.map RA.at_).drop (d+1))else RO.ap (decide ((cE (f.map RA.at_) Y).kind=m)) 10 at_ (hZ at_ (f.map RA.at_) (B.map RA.at_) ((i.map RA.at_).drop (d+1)))).bind (λo=>RO.ap (decide (o.length<=24)) 3 at_ (.ok (.mk 4 0 (aC.aO c) [] [] 0 0 o)))):=Z (by rw[bh.out,bT,q];rfl);clear cu cs bT bh q;have d0:ae wr (ac W (X+d*6)) r:=aR;have d1:ae wr (ac W (X+d*6+1)) m:=I;have d2:ae wr (ac W (X+d*6+2)) (O L M N):=aU;have d3:ae wr (ac W (X+d*6+3)) D:=aW;have d4:ae wr (ac W (X+d*6+4)) E:=aX;have d5:ae wr (ac W (X+d*6+5)) F:=aY;have o:IntKind.i64.wrap ((d:Int)+1)=(d:Int)+1:=IntWalk.i64_in _ af;clear aR I aU aW aX aY;subst bS;go_upto_region 33 with(fail)
 clear d0 d1 d2 d3 d4 d5;obtain⟨q,o,cx,b,-⟩:=nb wr 111 #[r,m,O L M N,D,E,F];rw[o];clear o;have bV:=qk V b;have d6:=qb b bM;have d7:=qb b bP;have cy:=qb b cr;have d8:=Z (aK b bN);have d9:=qk ao b;have o:=bV.size;clear b;have ea:=ay cy;have eb:=ay cx;have cz:=Z (cw q bV);go_wp2_with fail
 refine(cz).mono ?_;rintro e ad ⟨rfl,b⟩;have aZ:=qk bV b;have bW:=qb b d6;have ec:=qb b d7;have ed:=qb b cy;have G:=qb b cx;have cA:=Z (aK b d8);have cB:=qk d9 b;clear b;clear cz cw ea eb;by_cases v:Y<0
 case pos=>
  have o:=decide_eq_true v;have ee:=Z (show R=(hZ at_ (f.map RA.at_) ((B++[(⟨⟨r,m,bU,⟨D,E,F⟩⟩,⟨L,M,N⟩⟩:RA)]).map RA.at_) ((i.map RA.at_).drop (d+1))).bind (λo=>RO.ap (decide (o.length<=24)) 3 at_ (.ok (.mk 4 0 (aC.aO c) [] [] 0 0 o))) by rw[bm.out,if_pos v,List.map_append];rfl);clear bm;go_upto_region 35 with(fail)
  have o:=b7 bW;have q:=ay G;have y:=aS G;have z:=bc G;have A:=bj G;have H:=bo G;have S:=bI G;refine o2 8 o q y z A H S λhS=>?_;refine cR ?_;refine gl ?_;refine tk 5 hS ?_;have q:=Z ((ag.refl ad).drew);obtain⟨P,o⟩:=au ad.drew;rw[<-o]at q hS⊢;clear o;have bp:=qb q bW;have o:=qb q G;have bY:=Z (aK q cA);have ef:=qk cB q;clear q hS;have cC:=b7 bp;have q:=aa.lt bp;have cD:=ay o;have cF:=aS o;have cG:=bc o;have cH:=bj o;have cI:=bo o;have cK:=bI o;have o:=aa.lt o;have cL:(λw':World=>ae w' (ac g 7) (O aI j aN)/\ae w' (aq wr 0) r/\ae w' (aq wr 1) m/\ae w' (aq wr 2) (O L M N)/\ae w' (aq wr 3) D/\ae w' (aq wr 4) E/\ae w' (aq wr 5) F) (P.alloc (.cells #[r,m,O L M N,D,E,F] 111)):=⟨bi cC,bi cD,bi cF,bi cG,bi cH,bi cI,bi cK⟩;refine aM 6 (λK hK=>?_);go_simp;refine hK _ _ (λ_=>cL) ?_;refine aw ?_;have cM:=Z (aK ((ag.refl P).alloc (.cells #[r,m,O L M N,D,E,F] 111)) bY);have cN:=Z (cJ P #[r,m,O L M N,D,E,F] 111 6 rfl);have hrow:∀u,(Value.slice aI j aN).ownBlock=some u->t.heap.size<=u/\u<P.heap.size/\u<wr.heap.size:=λu x=>⟨(b6 bY u x).1,(b6 bY u x).2,(λu x=>(b6 bN u x).2) u x⟩;have o:=aa.lt bp;refine aM 7 (λK hK=>?_);refine de (P.alloc _) (.tmp 184) (.tmp 186) 79 rfl (t.heap.size) 111 dU _ 6 80 underlying79 dV dW dX dY rfl ax (O aI j aN) j (B.flatMap RA.cells) rfl cM (P.heap.size+1) (some ⟨P.heap.size,0,none⟩) 1 1 ((_:aQ).toList) rfl cN bn b9 af aF ?_;intro o cO bZ x eg;obtain⟨bq,br,rfl,eh⟩:=bu bZ;have ei:=Z bZ;have b0:=Z x;have Q:=Z (fK ((Kp.refl [] P).alloc _) x);clear bZ x eg eh;have b2:=Z (aa.grown (bp.alloc _) b0 (λe=>by have:=hrow _ e.symm;omega));have ej:=b7 b2;have ek:=λd=>aa.frozen b2 d;refine hK _ _ (λ_=>⟨bF Q cC,bF Q.out cD,bF Q.out cF,bF Q.out cG,bF Q.out cH,bF Q.out cI,bF Q.out cK⟩) ?_;clear hK K cL;refine aw ?_;refine b1 ?_;refine tq 8 ?_;refine tq 9 ?_;refine dF 10 (λK hK=>?_);go_simp;refine hK _ _ ?_;refine aw ?_;refine bQ ?_;have o:=Z ((ef.alloc _).grown b0 (λu x=>.inr (by have:=hrow u x;omega)));clear cM cN b0 Q hrow ej ek;have U:=Z (gy b2 (O bq (j+1) br));have w:=Z (Kp.aH (p:=(ac g 7)) (l:=[g]) aj (Kp.refl [g] cO) (O bq (j+1) br));obtain⟨q,g⟩:=au (cO.setCell (ac g 7) (O bq (j+1) br));rw[<-g]at U w⊢;clear g;have el:=Z (o.trans w);have em:=w;have en:=U;clear U w;go_wp2_with fail
  go_roundg (i.length-d)
  case measure=>have:=bl.out;omega
  refine⟨d+1,j+1,B++[(⟨⟨r,m,bU,⟨D,E,F⟩⟩,⟨L,M,N⟩⟩:RA)],bq,br,by go_num,by omega,omg bl,by rw[List.length_append,aP.out];rfl,by omega,en,Z (bD (by rw[List.flatMap_append];exact ei.out) em.out (λg g=>by have:=aB g;omega)),Z ?_,el,ee⟩;intro ep a0;rcases cP a0 with a0|a0
  ·exact bO ep a0
  rw[aB a0];exact ct.out
 have g:=decide_eq_false v;obtain⟨u,bZ⟩:∃u:Nat,Y=u:=⟨Y.toNat,by omega⟩;subst bZ;have g:u<f.length:=by have:=cv.out;rw[List.length_map]at this;omega
 obtain⟨ba,o,br,q,aR,I,aU,aW,aX,aY⟩:=iR (bH ad aZ).a u g;have bS:C=some ⟨ba,o,none⟩:=br;obtain⟨x,Q⟩:=au (f[u].at_.kind);rw[<-Q]at I;have o:(u:Int)<f.length:=af
 have o:(0:Int)<=u:=af
 have bY:(x==m)=decide (x=m):=by by_cases h:x=m<;>simp[h]
 have P:=Z (show R=RO.ap (x==m) 10 at_ ((hZ at_ (f.map RA.at_) (B.map RA.at_) ((i.map RA.at_).drop (d+1))).bind (λo=>RO.ap (decide (o.length<=24)) 3 at_ (.ok (.mk 4 0 (aC.aO c) [] [] 0 0 o)))) by rw[bm.out,if_neg v,RO.gY,ki f u g,<-Q,bY]);generalize b0:(x==m)=b2 at P;clear bm Q aR aU aW aX aY br bY v cv;subst bS;go_upto_region 36 with(fail)
 have a0:=ay ec;have bp:=ay ed;have bq:=aS G;cases b2
 case false=>
  refine lm 10 a0 bp bq I λhS=>?_;refine dq ?_;refine aM 9 (λK hK=>?_);go_simp;exact b3 aZ.drew P (aE ad aZ)
 refine lm 10 a0 bp bq I λhS=>?_;refine dq ?_;refine aM 9 (λK hK=>?_);go_simp;refine bX aZ.drew P (aE ad aZ) λcC=>?_;try go_simp
 refine hK _ _ (λ_=>hS) ?_;refine aw ?_;refine b1 ?_;refine bQ ?_;clear hS a0 bp bq I b0 P;have b:=Z ((ag.refl ad).drew);obtain⟨f,c⟩:=au ad.drew;rw[<-c]at b⊢;clear c;have cD:=qb b bW;have c:=qb b G;have cF:=Z (aK b cA);have cG:=qk cB b;clear b;go_wp2_with fail
 go_roundg (i.length-d)
 case measure=>have:=bl.out;omega
 exact⟨d+1,j,B,aI,aN,by go_num,by omega,omg bl,aP.out,by omega,cD,cF,bO,cG,cC⟩
theorem rg {a d e:ah} {row:Option Nat} (b:ag a d) (c:d.grownBy e row):a.grownBy e row:=
 ⟨c.os.trans b.os,c.tape.trans b.tape,c.output.trans b.output,bL b.size c.size,λd e f=>(c.block d (aR e b.size) f).trans (b.block d e)⟩
theorem Gy (a:ah) (c:Nat) (f:a.heap.size=c) (b:aQ) (d:aX) (e:Nat) (g:b.size=e):cD (a.alloc (.cells b d)) (c+1) e (some ⟨c,0,none⟩) 1 b.toList:=by
 subst f;refine⟨by simp[g],λ_=>⟨_,rfl,Nat.lt_succ_self _,λc e i=>?_⟩⟩;have h:=(aa.new a d b).cell c;have j:(⟨a.heap.size,0,none⟩:Addr).add c=⟨a.heap.size,c,none⟩:=by unfold Addr.add;split<;>simp_all
 rw[j,h];simpa using i
theorem Gz (m c d e:Nat) (n:aA) (o:bg) (a p g i j:Int) (q r k l:av) (b:ah) (v:c<b.heap.size) (E:m<=b.heap.size) (H:e<=1000000)
 (F:ae b (ac c (d+1)) n) (G:b.frozen? (ac c (d+1))=false) (s:b.ownsRow m 111 6 n e o) (w:n.ownBlock≠some c):
 Calls prog 248 #[.pointer (some ⟨c,d,none⟩),.agg #[p,q,r,k,g,i,j,l],a] b λH I=>∃t f,H=.returned (.tuple #[])/\
  f.ownsRow m 111 6 t (e+1) (o++[.string k,.int .i64 g,.slice none 0 0,.int .i64 i,.int .i64 j,.string l])/\b.grownBy f n.ownBlock/\I=f.setCell (ac c (d+1)) t:=by
 obtain⟨J,K,L,M,N⟩:=info_parts Tryz.sU;have P:=Z s;have x:=Z w;have y:Hid (e+1<=maxLen/\(e+1)*80<=140737488355328):=⟨by unfold maxLen;omega,by omega⟩;have Q:=Z E;have R:Hid ((b.alloc (.cells #[p,q,r,k,g,i,j,l] 99)).drew.heap.size=b.heap.size+1):=by show _=_;rw[eu];simp
 have n:c≠b.heap.size:=af
 obtain⟨z,A,rfl⟩:=oX s;clear s w;go_enter func248,ntmps248
 go_wp2;go_region_law (first|(refine oy _ rfl (.tmp 10) (.tmp 18) 79 rfl m 111 J _ 6 80 underlying79 K L M N rfl ax (O z e A) e o rfl ((P.out.alloc _).drew.alloc _) _ _ 1 1 [.string k,.int .i64 g,.slice none 0 0,.int .i64 i,.int .i64 j,.string l] rfl (Gy (b.alloc (.cells #[p,q,r,k,g,i,j,l] 99)).drew (b.heap.size+1) R.out #[k,g,ab,i,j,l] _ 6 rfl) (by intro g u;simp at u;rcases u with rfl|rfl|rfl|rfl|rfl|rfl<;>rfl) y.out.1 y.out.2 ?_ ?_;exact bL Q.out (((ag.refl b).alloc _).drew.alloc _).size;intro t f u B S;obtain⟨T,U,rfl⟩:=oX u;have C:=Z u;have b:=rg (((ag.refl b).alloc _).drew.alloc _) B;have D:=Z b;have e:ae f (ac c (d+1)) (O z e A):=(World.cell?_of_block (a:=⟨c,d+1,none⟩) (b.block c v x.out.symm)).trans F;have c:f.frozen? (ac c (d+1))=false:=(World.frozen?_of_block (a:=⟨c,d+1,none⟩) (b.block c v x.out.symm)).trans G;clear u B S b))
 all_goals
  go_wp2;go_end0
  exact⟨_,f,rfl,C.out,D.out,rfl⟩
theorem GF (z d b e c a:Nat) (o:bg) (i:ah) (r:i.ownsRow z 111 6 (O (some ⟨d,0,none⟩) b e) b o) (A:∀g∈o,g.oneCell'=true) (L:c<b) (p:a=c+1) (B:b<=1000000):
 Calls prog 252 #[O (some ⟨d,0,none⟩) b e,c,a] i λM B=>M=.returned (O (some ⟨d,0,none⟩) (b-1) e)/\B.ownsRow z 111 6 (O (some ⟨d,0,none⟩) (b-1) e) (b-1) (o.take (c*6)++o.drop ((c+1)*6))/\i.grownBy B (some d):=by
 obtain⟨N,P,z,Q,B⟩:=info_parts Tryz.sU;have R:=Z (EV r.drew L [.string ByteArray.empty,.int .i64 0,.slice none 0 0,.int .i64 0,.int .i64 0,.string ByteArray.empty] rfl);obtain⟨z,s,t,B,k,C,S,x,D⟩:=fX r af;injection t with t
 injection t with e1
 subst e1;have E:=r.1;have T:a*6<=b*6:=Nat.mul_le_mul_right _ af;have U:b*6<=e*6:=Nat.mul_le_mul_right _ S;have F:s.toList.length=e*6:=by simp[C]
 obtain⟨j,q⟩:=au (o.drop (a*6));have m:j.length=(b-a)*6:=by rw[q,List.length_drop,E,Nat.sub_mul]
 have G:∀f g,j[f]?=some g->ae i (ac d (a*6+f)) g:=by
  intro f g l;rw[q,List.getElem?_drop,<-D,List.getElem?_take]at l;split at l
  ·rw[k.cell];simpa using l
  cases l
 obtain⟨u,t,V⟩:∃u:Addr,(if e=a then(some (⟨d,0,none⟩:Addr))else some ⟨d,a*6,none⟩)=some u/\Hid (∀f g,j[f]?=some g->ae i.drew (u.add f) g):=by
  by_cases h:e=a
  ·refine⟨⟨d,0,none⟩,by simp[h],λf g l=>?_⟩
   have n:j.length=0:=by rw[m,show b-a=0 by omega,Nat.zero_mul]
   rw[List.length_eq_zero_iff.1 n]at l;simp at l
  refine⟨⟨d,a*6,none⟩,by simp[h],λf g l=>?_⟩;rw[show(⟨d,a*6,none⟩:Addr).add f=⟨d,a*6+f,none⟩ by unfold Addr.add;split<;>simp_all];exact G f g l
 have W:Hid (j.length=(b-a)*6):=m;have X:Hid (∀g∈j,g.oneCell'=true):=by
  intro g l;rw[q]at l;exact A g (List.mem_of_mem_drop l)
 have Y:Hid (∀f,f<j.length->(i.drew.cell? (ac d (0+c*6+f))).isSome=true/\i.drew.frozen? (ac d (0+c*6+f))=false):=by
  intro f l;rw[m]at l;have l:a*6=c*6+6:=by rw[p,Nat.add_mul,Nat.one_mul]
  have l:(b-a)*6=b*6-a*6:=Nat.sub_mul _ _ _;rw[Nat.zero_add];refine⟨?_,k.drew.frozen _⟩;rw[k.drew.cell,Array.getElem?_eq_getElem af];rfl
 obtain⟨l,v⟩:=au (i.drew.setCells d (0+c*6) j);have H:aa i.drew d 111 s.toList.toArray:=by simpa using k.drew
 have w:=pp j (0+c*6) s.toList i.drew H (by
  have n:a*6=c*6+6:=by rw[p,Nat.add_mul,Nat.one_mul]
  have n:(b-a)*6=b*6-a*6:=Nat.sub_mul _ _ _;rw[m];omega)
 rw[<-v]at w;have I:(gG s.toList (0+c*6) j).length=e*6:=by
  have n:a*6=c*6+6:=by rw[p,Nat.add_mul,Nat.one_mul]
  have n:(b-a)*6=b*6-a*6:=Nat.sub_mul _ _ _;rw[sV _ _ _ (by rw[m];omega),F]
 have s:∀o,(Builtin.clear_ #[79] o #[O (some ⟨d,(c+(b-a))*6,none⟩) (b-(c+(b-a))) (e-(c+(b-a)))]).run prog l=.ok (.tuple #[]) (l.setCells d ((c+(b-a))*6) [.string ByteArray.empty,.int .i64 0,.slice none 0 0,.int .i64 0,.int .i64 0,.string ByteArray.empty]):=by
  intro o;rw[show b-(c+(b-a))=1 by omega];have s:(c+(b-a))*6+6<=e*6:=by
   have:(c+(b-a)+1)*6<=e*6:=Nat.mul_le_mul_right _ af;rw[Nat.add_mul]at this;omega
  refine EU l _ 111 o (.agg _) [.string ByteArray.empty,.int .i64 0,.slice none 0 0,.int .i64 0,.int .i64 0,.string ByteArray.empty] underlying79 (λ_=>by kernel_rfl) rfl (by intro g n;simp at n;rcases n with rfl|rfl|rfl|rfl|rfl|rfl<;>rfl) d _ _ (λf g=>?_) (λf _=>w.frozen _);rw[w.cell,List.getElem?_toArray,List.getElem?_eq_getElem (by rw[I];simp at g;omega)];rfl
 have J:Hid (l=i.drew.setCells d (0+c*6) j):=v;have f:c<=e:=af
 have f:a<=e:=af
 have f:a<=b:=af
 have f:c<=a:=af
 have f:((c:Int)==(a:Int))=false:=aF
 have f:¬e=c+(b-a):=af
 have f:e<=9223372036854775807:=by unfold maxLen at x;exact x
 have y:=Z p;have K:=Z q;have n:Hid (i.grownBy l (some d)):=by
  show i.grownBy l (some d);rw[v];exact rg (ag.refl i).drew (sW d j _ _)
 clear r G q m v w I k H D C F T U E x p A;go_enter func252,ntmps252
 go_wp2_with fail
 go_region_law (refine step_append_room rfl (.tmp 22) (.tmp 25) 79 rfl 111 N 6 underlying79 P Q d 0 c e (by simp[Act.eval,Act.put]) u (b-a) (e-a) j (by simp[Act.eval,Act.put]) W.out V.out X.out af Y.out ?_;rw[<-J.out])
 go_wp2;go_ret;have e:c+(b-a)=b-1:=omg y
 refine⟨by rw[e];rfl,?_,?_⟩
 ·have:=R.out
  rw[<-y.out,<-K.out]at this;have f:=J.out;rw[Nat.zero_add]at f;rw[<-f]at this;rw[e,<-y.out,<-K.out];exact this
 have a:=sW d [.string ByteArray.empty,.int .i64 0,.slice none 0 0,.int .i64 0,.int .i64 0,.string ByteArray.empty] ((c+(b-a))*6) l;exact⟨a.os.trans n.os,a.tape.trans n.tape,a.output.trans n.output,bL n.size a.size,λb k c=>(a.block b (aR k n.size) c).trans (n.block b k c)⟩
def g5 (b:Nat) (a:Int):Int:=if(b:Int)<a then a-1 else a
def dz (c:Nat) (a:List Int) (b:Nat):List Int:=(a.take b).map (g5 c)++a.drop b
theorem GG (b:Nat) (a:List Int):dz b a 0=a:=by simp[dz]
theorem GH (b:Nat) (a:List Int):dz b a a.length=a.map (g5 b):=by simp[dz]
theorem tj (b:Nat) (a:List Int) (c:Nat):(dz b a c).length=a.length:=by simp[dz];omega
theorem yb (d:Nat) (b:List Int) (a:Nat) (c:a<b.length):(dz d b a)[a]'(by rw[tj];exact c)=b[a]:=by
 simp only[dz];rw[List.getElem_append_right aF];simp[Nat.min_eq_left (Nat.le_of_lt c)]
theorem yd (c:Nat) (b:List Int) (a:Nat) (d:a<b.length):dz c b (a+1)=(dz c b a).set a (g5 c b[a]):=by
 unfold dz;rw[List.take_succ_eq_append_getElem d,List.map_append,List.drop_eq_getElem_cons d,List.set_append_right _ _ aF];have a:a-(List.map (g5 c) (List.take a b)).length=0:=aF
 rw[a];simp;rw[List.drop_eq_getElem_cons d];rfl
theorem GI (c:Nat) (b:List Int) (a:Nat) (e:a<b.length) (h:g5 c b[a]=b[a]):dz c b (a+1)=dz c b a:=by
 rw[yd c b a e,h];apply List.ext_getElem aj;intro b c c;by_cases d:a=b
 ·subst d;rw[List.getElem_set_self,yb]
 rw[List.getElem_set_ne d]
section
variable {W0 w w':ah} {g c i:Nat} {ts:List RT} {t:RT}
theorem bR.cell (S:bR W0 w g c ts i t) (j:Nat) (a:j<3):w.cell? (ac g (i*3+j))=t.cells[j]?:=by
 have:=kF RT.eW S.row rfl i S.lt j a;rw[S.get]at this;exact this
theorem bR.free (b:bR W0 w g c ts i t) (d:Nat):w.frozen? (ac g d)=false:=by
 obtain⟨b,j,a,_,f,_⟩:=fX b.row (Nat.lt_of_le_of_lt (Nat.zero_le _) b.lt);injection a with a
 injection a with e
 subst e;exact f.frozen d
theorem bR.tm (d:bR W0 w g c ts i t) (h:0<t.ra.length):∃a ca,t.ha=⟨some ⟨a,0,none⟩,t.ra.length,ca⟩/\W0.heap.size<=a/\a<w.heap.size/\g≠a/\(∀e,w.frozen? (ac a e)=false)/\w.ownsRow W0.heap.size 111 6 (O (some ⟨a,0,none⟩) t.ra.length ca) t.ra.length (t.ra.flatMap RA.cells):=by
 have b:=d.ar;obtain⟨⟨j,l,ca⟩,f⟩:∃h,t.ha=h:=⟨_,rfl⟩;have m:l=t.ra.length:=by have:=d.an;rw[f]at this;exact this
 subst m;have j:(⟨j,t.ra.length,ca⟩:Hd).val=.slice j t.ra.length ca:=rfl;rw[f,j]at b;obtain⟨a,j,n,o,k,_⟩:=fX b h;subst n;exact⟨a,ca,f,o,k.lt,λa=>g1 d.row b ax (by simp[Value.ownBlock,a]),λe=>k.frozen e,b⟩
theorem bR.GJ (d:bR W0 w g c ts i t) (h:0<t.key.length):∃gk ck,t.hk=⟨some ⟨gk,0,none⟩,t.key.length,ck⟩/\W0.heap.size<=gk/\gk<w.heap.size/\g≠gk/\(∀a,w.frozen? (ac gk a)=false)/\∀a (j:a<t.key.length),ae w (ac gk a) (J t.key[a]):=by
 have b:=d.kr;obtain⟨⟨k,n,e⟩,f⟩:∃h,t.hk=h:=⟨_,rfl⟩;have o:n=t.key.length:=by have:=d.kn;rw[f]at this;exact this
 subst o;have k:(⟨k,t.key.length,e⟩:Hd).val=.slice k t.key.length e:=rfl;rw[f,k]at b;obtain⟨p,k,q,r,l,_⟩:=fX b h;subst q;refine⟨p,e,f,r,l.lt,λe=>g1 d.row b ax (by simp[Value.ownBlock,e]),λa=>l.frozen a,λa j=>?_⟩;have:=kF (enc:=cu) (m:=1) (λ_=>rfl) b rfl a j 0 Nat.one_pos;simpa[cu]using this
end
theorem GK (W0 w:ah) (g c i a:Nat) (ts:List RT) (t:RT) (q E F G:Int) (H I K L:av) (S:bR W0 w g c ts i t) (ha:a<t.ra.length) (an:t.ra.length<=1000000) (ao:t.key.length<=1000000) (M:∀k∈t.key,0<=k/\k<=1000000):
 Calls prog 251 #[.pointer (some ⟨g,i*3,none⟩),.agg #[q,H,I,K,E,F,G,L],a] w λf w'=>f=.returned (.tuple #[])/\
  (∃h',bR W0 w' g c (ts.set i {t with ra:=t.ra.eraseIdx a,ha:=h',key:=t.key.map (g5 a)}) i {t with ra:=t.ra.eraseIdx a,ha:=h',key:=t.key.map (g5 a)})/\c7 w w':=by
 obtain⟨d,j,kO,V,aJ,N,ap,y⟩:=S.tm af;have P:ae w (ac g (i*3+1)) (O (some ⟨d,0,none⟩) t.ra.length j):=by
  exact tn
 obtain⟨⟨Q,V,m⟩,p⟩:∃h,t.hk=h:=⟨_,rfl⟩;have aq:V=t.key.length:=by have:=S.kn;rw[p]at this;exact this
 subst aq;have R:ae w (ac g (i*3+2)) (O Q t.key.length m):=by
  have:=S.cell 2 af;rw[this];show some t.hk.val=_;rw[p];rfl
 have T:w.frozen? (ac g (i*3+1))=false:=S.free _;have U:=S.pu.2;have V:g≠w.heap.size:=af
 have W:∀V∈t.ra.flatMap RA.cells,V.oneCell'=true:=by
  intro V e;obtain⟨e,_,b⟩:=List.mem_flatMap.1 e;simp only[RA.cells,List.mem_cons,List.not_mem_nil,or_false]at b;rcases b with rfl|rfl|rfl|rfl|rfl|rfl<;>rfl
 obtain⟨q,E⟩:=au (Obj.cells #[q,H,I,K,E,F,G,L] 99);have z:Hid (Calls prog 252 #[O (some ⟨d,0,none⟩) t.ra.length j,a,J ((a:Int)+1)] (w.alloc q) λf w'=>f=.returned (O (some ⟨d,0,none⟩) (t.ra.length-1) j)/\w'.ownsRow W0.heap.size 111 6 (O (some ⟨d,0,none⟩) (t.ra.length-1) j) (t.ra.length-1) ((t.ra.flatMap RA.cells).take (a*6)++(t.ra.flatMap RA.cells).drop ((a+1)*6))/\(w.alloc q).grownBy w' (some d)):=
  GF W0.heap.size d t.ra.length j a (a+1) _ (w.alloc q) (y.alloc q) W ha rfl an
 have r:=Z S;have ar:=Z y;rw[E]at z;clear S y W E;have q:(a:Int)+1<=1000000:=af
 go_enter func251,ntmps251
 go_wp2_with fail
 refine z.mono ?_;rintro f s ⟨rfl,X,n⟩;have B:=n.block g aF (λf=>N (by injection f));have q:=λb=>(World.cell?_of_block B).trans (((ag.refl w).alloc _).cells g b U);have y:=λb=>(World.frozen?_of_block B).trans (((ag.refl w).alloc _).frees g b U);have aw:=(q (i*3+1)).trans P;have ax:=(y (i*3+1)).trans T;have ay:=(q (i*3+2)).trans R;clear q y B;have q:(t.ra.eraseIdx a).length=t.ra.length-1:=by rw[List.length_eraseIdx,if_pos ha]
 have Y:bR W0 (s.setCell (ac g (i*3+1)) (O (some ⟨d,0,none⟩) (t.ra.length-1) j)) g c (ts.set i {t with ra:=t.ra.eraseIdx a,ha:=⟨some ⟨d,0,none⟩,t.ra.length-1,j⟩}) i {t with ra:=t.ra.eraseIdx a,ha:=⟨some ⟨d,0,none⟩,t.ra.length-1,j⟩}:=by
  have:=(r.out.alloc _).hO (w1:=s) (A:=some ⟨d,0,none⟩) (ca:=j) (ra:=t.ra.eraseIdx a) (by rw[kO];exact n) (by rw[q,<-xZ RA.eW t.ra a ha];exact X);rw[q]at this;exact this
 have aa:c7 w (s.setCell (ac g (i*3+1)) (O (some ⟨d,0,none⟩) (t.ra.length-1) j)):=by
  have l:=((c7.refl w).alloc _).grown (ar.alloc _) (.inr (.inl rfl)) n;obtain⟨u,v,e,_,o,_⟩:=fX (r.alloc _|>.row.kept n (.inr (λf=>N (by simpa[Value.ownBlock]using f)))) (Nat.lt_of_le_of_lt (Nat.zero_le _) r.lt);injection e with e
  injection e with f
  subst f;exact l.set o (.inl rfl) _ _
 have C:=Z Y;have ab:=Z aa;clear Y X n aa;go_wp2;obtain⟨q,n⟩:=au (s.setCell (ac g (i*3+1)) (O (some ⟨d,0,none⟩) (t.ra.length-1) j));rw[<-n];rw[<-n]at C ab;obtain⟨e,d⟩:∃e:RT,e={t with ra:=t.ra.eraseIdx a,ha:=⟨some ⟨d,0,none⟩,t.ra.length-1,j⟩}:=⟨_,rfl⟩;rw[<-d]at C;have j:e.key=t.key:=by rw[d]
 have q:e.hk=⟨Q,t.key.length,m⟩:=by rw[d];exact p
 have az:=Z j;have o:=Z q;have aA:=Z d;have aB:=Z M;have s:=ao;clear n d aw ay ax P R T z j q p kO M ap r;go_loopw [23] (λk wr=>∃b:Nat,b<=t.key.length/\k=.int .i64 b/\Hid (bR W0 wr g c (ts.set i {e with key:=dz a t.key b}) i {e with key:=dz a t.key b})/\Hid (c7 w wr)) (λk _=>t.key.length-(intOf k).toNat)
 case atStart=>exact⟨0,Nat.zero_le _,rfl,by rw[GG,<-az.out];exact C.out,ab.out⟩
 obtain⟨b,aK,rfl,l,D⟩:=hrel;by_cases u:b<t.key.length
 ·have aC:(dz a t.key b).length=t.key.length:=tj _ _ _
  obtain⟨gk,d,ad,j,n,p,ai,aj⟩:=l.GJ (show 0<(dz a t.key b).length by omega);have aD:=o.symm.trans ad;injection aD with eB eN eC
  have aE:ae wr (ac gk b) (J t.key[b]):=by
   have:=aj b (show b<(dz a t.key b).length by omega);rw[this];exact congrArg (λd=>some (Value.int .i64 d)) (yb a t.key b u)
  have d:=ai b;have d:ae wr (ac g (i*3+2)) (O (some ⟨gk,0,none⟩) t.key.length m):=by
   have:=l.out.cell 2 af;rw[this];show some e.hk.val=_;rw[o.out,eB];rfl
  have ak:=aB t.key[b] (List.getElem_mem u);have aG:Hid (∀d,bR W0 (wr.setCell (ac gk b) (.int .i64 d)) g c (ts.set i {e with key:=(dz a t.key b).set b d}) i {e with key:=(dz a t.key b).set b d}):=by
   intro d;have:=l.out.EW (gk:=gk) (ck:=m) (by rw[o.out,eB]) (by rw[o.out]) b (show b<(dz a t.key b).length by omega) d;simpa[List.set_set]using this
  have aH:Hid (∀d,c7 w (wr.setCell (ac gk b) (.int .i64 d))):=by
   intro d;have d:=l.kr;have j:({e with key:=dz a t.key b}:RT).hk.val=.slice (some ⟨gk,0,none⟩) t.key.length m:=by
    show e.hk.val=_;rw[o.out,eB];rfl
   rw[j]at d;have j:wr.ownsRow W0.heap.size 3 1 (O (some ⟨gk,0,none⟩) t.key.length m) t.key.length ((dz a t.key b).flatMap cu):=by
    have:(dz a t.key b).length=t.key.length:=tj _ _ _;rw[<-this];rw[<-this]at d;exact d
   obtain⟨d,j,v,_,x,_⟩:=fX j af;injection v with v
   injection v with f
   subst f;exact D.set x (.inr (.inr rfl)) _ _
  have v:Hid (dz a t.key (b+1)=(dz a t.key b).set b (g5 a t.key[b])):=yd a t.key b u;have x:Hid (g5 a t.key[b]=t.key[b]->dz a t.key (b+1)=dz a t.key b):=GI a t.key b u;obtain⟨k,al⟩:=au (t.key[b]);rw[<-al]at aE ak v x;obtain⟨aL,aM⟩:=ak;clear al aj ai ad eB eN eC aC;by_cases am:(a:Int)<k
  ·have aI:Hid (dz a t.key (b+1)=(dz a t.key b).set b (k-1)):=by show _=_;rw[v.out];unfold g5;rw[if_pos am]
   clear v x;go_wp2;go_roundw
   case rel=>exact⟨b+1,by omega,by go_num,by rw[aI.out];exact aG.out (k-1),aH.out (k-1)⟩
   simp[intOf];omega
  have aI:Hid (dz a t.key (b+1)=dz a t.key b):=x.out (by unfold g5;rw[if_neg am]);clear v x;go_wp2;go_roundw
  case rel=>exact⟨b+1,by omega,by go_num,by rw[aI.out];exact l.out,D.out⟩
  simp[intOf];omega
 have b:b=t.key.length:=af
 have v:Hid (bR W0 wr g c (ts.set i {e with key:=t.key.map (g5 a)}) i {e with key:=t.key.map (g5 a)}):=by
  have:=l.out;rw[b,GH]at this;exact this
 clear b l;go_wp2;go_end0
 exact⟨rfl,⟨_,by have:=v.out;rw[aA.out]at this;exact this⟩,D.out⟩
theorem tp (d:ah) (a b o:Nat) (e:aA) (h:o≠b):(d.setCell (ac a o) e).cell? (ac a b)=d.cell? (ac a b):=
 World.cell?_setCell_other _ _ _ _ (λc=>by injection c with _ c;exact h c)
theorem ye {c:ah} {b:Nat} {d:aA} (h:ae c (ac b 0) d):cD c (b+1) 1 (some ⟨b,0,none⟩) 1 [d]:=by
 refine⟨rfl,λ_=>⟨_,rfl,Nat.lt_succ_self _,λe b a=>?_⟩⟩;match e,a with
 |0,a=>simp at a;subst a;simpa[Addr.add]using h
 |e+1,a=>simp at a
theorem tr:∀a:List ByteArray,a.flatMap dt=a.map .string
 |[]=>rfl
 |x::a=>by rw[List.flatMap_cons,tr a];rfl
theorem GL (h:Hd) (b:bk) (c:ah) (a:bV c h b) (k:h.n<=1000000000):
 Calls prog 257 #[h.val] c λe f=>∃i d,e=.returned (O i b.length d)/\ag c f/\f.ownsRow c.heap.size 9 1 (O i b.length d) b.length (b.map .string):=by
 have e:=tr b;refine(xb h dt (λ_=>rfl) (λi i g=>by simp[dt]at g;subst g;rfl) b c a.1 k).mono ?_;rintro b f (⟨rfl,rfl,g⟩|⟨d,l,rfl,g,j⟩)
 ·exact⟨none,0,rfl,g,rfl,.inl ⟨rfl,rfl⟩⟩
 rw[e]at j;exact⟨_,d,rfl,g,j⟩
theorem GM (k o g a n w:Nat) (r P Q R:Int) (T U l V s:av) (y:Hd) (f:bk) (b:ah) (X:k≠g) (j:g<b.heap.size) (t:k<b.heap.size) (X:a<n) (X:n<=9223372036854775807)
 (z:ae b (ac k (o+1)) (O (some ⟨g,0,none⟩) n w))
 (e0:ae b (ac g (a*6)) s) (W:ae b (ac g (a*6+2)) y.val) (I:∀X,b.frozen? (ac g X)=false) (J:bV b y f) (X:f.length<=1000000):
 Calls prog 256 #[.pointer (some ⟨k,o,none⟩),.agg #[r,T,U,l,P,Q,R,V],a] b λe c=>∃X Y ak,e=.returned (.tuple #[])/\
  ak.ownsRow b.heap.size 9 1 (O X (f.length+1) Y) (f.length+1) ((f++[s]).map .string)/\ag b ak/\
  c=((ak.setCell (ac g (a*6+2)) (O X (f.length+1) Y)).setCell (ac g (a*6)) l).drew:=by
 obtain⟨aa,ab,ad,ai,al⟩:=info_parts Tryz.xa;have an:=Z (λ(d:ah) (i:ag b d)=>GL y f d (J.same i) (by rw[<-J.1.1];omega));have ao:=I (a*6);have ap:=I (a*6+2);have X:k≠b.heap.size:=by omega
 have X:g≠b.heap.size:=af
 have A:Hid (f.length+1<=maxLen/\(f.length+1)*16<=140737488355328):=⟨by unfold maxLen;omega,by omega⟩;obtain⟨B,C,D⟩:=y;have E:ae b (ac g (a*6+2)) (O B C D):=W;have ar:Hid (∀d,ag b d->Calls prog 257 #[O B C D] d λe c=>∃i m,e=.returned (O i f.length m)/\ag d c/\c.ownsRow d.heap.size 9 1 (O i f.length m) f.length (f.map .string)):=an;clear I J an W;go_enter func256,ntmps256
 go_wp2;refine By (dW:=?au) (S:=(λc=>ae c (ac k (o+1)) (O (some ⟨g,0,none⟩) n w)/\ae c (ac g (a*6)) s/\ae c (ac g (a*6+2)) (O B C D))) (n:=26) am (vk am) ?ay ?aA
 case ay=>simp only[List.pop_toArray,List.dropLast_cons_cons,List.dropLast_singleton];rfl
 have d:(λc=>ae c (ac k (o+1)) (O (some ⟨g,0,none⟩) n w)/\ae c (ac g (a*6)) s/\ae c (ac g (a*6+2)) (O B C D)) ((b.alloc (.cells #[r,T,U,l,P,Q,R,V] 99)).drew):=by
  exact mX
 refine ei 0 (oi:=?aB) (v:=?aC) ?aD am ?aF ?ak ?aG d ?aH
 case aD=>simp only[bd,be,bf];rfl
 case aF=>exact λ_ _ _ h=>h
 case ak=>rfl
 case aG=>rintro c ⟨aG,aI,aJ⟩;go_simp;try with_reducible rfl
 refine aw ?_;refine ei 1 (oi:=?aK) (v:=?aL) ?aM am ?aN ?aO ?aI d ?aP
 case aM=>simp only[bd,be,bf];rfl
 case aN=>exact λ_ _ _ h=>h
 case aO=>rfl
 case aI=>rintro c ⟨aG,aI,aJ⟩;go_simp;try with_reducible rfl
 refine aw ?_;refine ei 2 (oi:=?aQ) (v:=?aS) ?aT am ?aU ?aV ?aJ d ?aW
 case aT=>simp only[bd,be,bf];rfl
 case aU=>exact λ_ _ _ h=>h
 case aV=>rfl
 case aJ=>rintro c ⟨aG,aI,aJ⟩;go_simp;try with_reducible rfl
 refine aw ?_;refine ei 3 (oi:=?aX) (v:=?aY) ?aZ am ?bg ?bn ?bq d ?bA
 case aZ=>simp only[bd,be,bf];rfl
 case bg=>exact λ_ _ _ h=>h
 case bn=>rfl
 case bq=>rintro c ⟨aG,aI,aJ⟩;go_simp;try with_reducible rfl
 refine aw ?_;refine ei 4 (oi:=?bB) (v:=?bC) ?bD am ?bE ?bF ?bG d ?bH
 case bD=>simp only[bd,be,bf];rfl
 case bE=>exact λ_ _ _ h=>h
 case bF=>rfl
 case bG=>rintro c ⟨aG,aI,aJ⟩;go_simp;try with_reducible rfl
 refine aw ?_;refine ei 5 (oi:=?bI) (v:=?bJ) ?bK am ?bM ?bN ?bO d ?bP
 case bK=>simp only[bd,be,bf];rfl
 case bM=>exact λ_ _ _ h=>h
 case bN=>rfl
 case bO=>rintro c ⟨aG,aI,aJ⟩;go_simp;try with_reducible rfl
 refine aw ?_;refine ei 6 (oi:=?bQ) (v:=?bR) ?bS am ?bT ?bU ?bW d ?bX
 case bS=>simp only[bd,be,bf];rfl
 case bT=>exact λ_ _ _ h=>h
 case bU=>rfl
 case bW=>rintro c ⟨aG,aI,aJ⟩;go_simp;try with_reducible rfl
 refine aw ?_;refine ei 7 (oi:=?bY) (v:=?bZ) ?cu am ?cB ?cK ?cO d ?cZ
 case cu=>simp only[bd,be,bf];rfl
 case cB=>exact λ_ _ _ h=>h
 case cK=>rfl
 case cO=>rintro c ⟨aG,aI,aJ⟩;go_simp;try with_reducible rfl
 refine aw ?_;refine ei 8 (oi:=?dh) (v:=?dn) ?dw am ?dx ?dz ?dA d ?dB
 case dw=>simp only[bd,be,bf];rfl
 case dx=>exact λ_ _ _ h=>h
 case dz=>rfl
 case dA=>rintro c ⟨aG,aI,aJ⟩;go_simp;try with_reducible rfl
 refine aw ?_;refine ei 9 (oi:=?dD) (v:=?dF) ?dG am ?dH ?dI ?dJ d ?dK
 case dG=>simp only[bd,be,bf];rfl
 case dH=>exact λ_ _ _ h=>h
 case dI=>rfl
 case dJ=>rintro c ⟨aG,aI,aJ⟩;go_simp;try with_reducible rfl
 refine aw ?_;refine ei 10 (oi:=?dL) (v:=?dM) ?dN am ?dO ?dP ?dQ d ?dR
 case dN=>simp only[bd,be,bf];rfl
 case dO=>exact λ_ _ _ h=>h
 case dP=>rfl
 case dQ=>rintro c ⟨aG,aI,aJ⟩;go_simp;try with_reducible rfl
 refine aw ?_;refine ei 11 (oi:=?dS) (v:=?dU) ?dV am ?dX ?dY ?dZ d ?d9
 case dV=>simp only[bd,be,bf];rfl
 case dX=>exact λ_ _ _ h=>h
 case dY=>rfl
 case dZ=>rintro c ⟨aG,aI,aJ⟩;go_simp;try with_reducible rfl
 refine aw ?_;refine ei 12 (oi:=?eB) (v:=?eD) ?eF am ?eG ?eH ?eO d ?eP
 case eF=>simp only[bd,be,bf];rfl
 case eG=>exact λ_ _ _ h=>h
 case eH=>rfl
 case eO=>rintro c ⟨aG,aI,aJ⟩;go_simp;try with_reducible rfl
 refine aw ?_;refine ei 14 (oi:=?eT) (v:=?eU) ?eX am ?eY ?eZ ?fq d ?fu
 case eX=>simp only[bd,be,bf];rfl
 case eY=>exact λ_ _ _ h=>h
 case eZ=>rfl
 case fq=>rintro c ⟨aG,aI,aJ⟩;go_simp;try with_reducible rfl
 refine aw ?_;refine ei 15 (oi:=?fA) (v:=?fB) ?fC am ?fD ?fE ?fF d ?fG
 case fC=>simp only[bd,be,bf];rfl
 case fD=>exact λ_ _ _ h=>h
 case fE=>rfl
 case fF=>rintro c ⟨aG,aI,aJ⟩;go_simp;try with_reducible rfl
 refine aw ?_;refine ei 16 (oi:=?fH) (v:=?fI) ?fJ am ?fK ?fM ?fO d ?fP
 case fJ=>simp only[bd,be,bf];rfl
 case fK=>exact λ_ _ _ h=>h
 case fM=>rfl
 case fO=>rintro c ⟨aG,aI,aJ⟩;go_simp;try with_reducible rfl
 refine aw ?_;refine ei 17 (oi:=?fQ) (v:=?fT) ?fU am ?fV ?fZ ?gq d ?gu
 case fU=>simp only[bd,be,bf];rfl
 case fV=>exact λ_ _ _ h=>h
 case fZ=>rfl
 case gq=>rintro c ⟨aG,aI,aJ⟩;go_simp;try with_reducible rfl
 refine aw ?_;refine ei 18 (oi:=?gy) (v:=?gB) ?gD am ?gF ?gG ?gH d ?gI
 case gD=>simp only[bd,be,bf];rfl
 case gF=>exact λ_ _ _ h=>h
 case gG=>rfl
 case gH=>rintro c ⟨aG,aI,aJ⟩;go_simp;try with_reducible rfl
 refine aw ?_;refine ei 19 (oi:=?gJ) (v:=?gK) ?gL am ?gM ?gN ?gP d ?gQ
 case gL=>simp only[bd,be,bf];rfl
 case gM=>exact λ_ _ _ h=>h
 case gN=>rfl
 case gP=>rintro c ⟨aG,aI,aJ⟩;go_simp;try with_reducible rfl
 refine aw ?_;refine ei 20 (oi:=?gT) (v:=?gU) ?gV am ?gW ?gX ?gY d ?gZ
 case gV=>simp only[bd,be,bf];rfl
 case gW=>exact λ_ _ _ h=>h
 case gX=>rfl
 case gY=>rintro c ⟨aG,aI,aJ⟩;go_simp;try with_reducible rfl
 refine aw ?_;refine ei 21 (oi:=?ig) (v:=?iq) ?iw am ?iy ?iA ?iB d ?iC
 case iw=>simp only[bd,be,bf];rfl
 case iy=>exact λ_ _ _ h=>h
 case iA=>rfl
 case iB=>rintro c ⟨aG,aI,aJ⟩;go_simp;try with_reducible rfl
 refine aw ?_;refine wpAnyH_ready (rs:=[13,22]) am aj ?_;refine AllReadyH.cons (o:=?iD) ?iE (λq i=>?iF) ?iG
 case iE=>simp only[bd,be,bf];rfl
 case iF=>
  rw[if_pos (by rfl)];go_simp;go_at_call 257;refine(ar.out _ ?_).mono ?_;(first|exact((ag.refl b).alloc _).drew|exact(((ag.refl b).alloc _).alloc _).drew);rintro e wc ⟨F,G,rfl,u,aK⟩;have K:b.heap.size<wc.heap.size:=aR n6 u.size;have x:Hid (ag b wc):=(by first|exact((ag.refl b).alloc _).drew.trans u|exact(((ag.refl b).alloc _).alloc _).drew.trans u);have az:Hid ((Value.slice F f.length G).ownBlock≠some b.heap.size):=(λe=>by have:=(aK.lt _ e).1;simp[eu]at this<;>omega);have aE:ae wc (aq b 3) l:=(u.cells _ _ n6).trans (by simp[jm]);have a0:Hid (∀m p,World.cell? _ m=some p->ae wc m p):=(λm m h=>(u.cell (World.block_lt_of_cell? _ _ h)).trans h);have y:=(x.out.cells _ _ t).trans z;have y:=(x.out.cells _ _ j).trans e0;have y:=(x.out.cells _ _ j).trans E;have y:wc.ownsRow b.heap.size 9 1 (O F f.length G) f.length (f.map .string):=aK.mono (Nat.le_of_lt n6);have L:=Z y;clear u aK y
  try go_simp
  refine i _ _ ?_ (λd=>?_)
  ·exact mX
  refine aw ?_;refine wpAnyH_ready (rs:=[22]) am aj ?_;refine AllReadyH.cons (o:=?iH) ?iI (λq i=>?iJ) ?iK
  case iI=>simp only[bd,be,bf];rfl
  case iK=>exact AllReadyH.nil
  rw[if_pos (by rfl)];go_simp;refine i _ _ ?_ (λd=>?_)
  ·exact mX
  refine aw ?_;refine wpAnyH_ready (rs:=[23]) am aj ?_;refine AllReadyH.cons (o:=?iL) ?iM (λq i=>?iN) ?iO
  case iM=>simp only[bd,be,bf];rfl
  case iO=>exact AllReadyH.nil
  refine oy _ rfl (.tmp 19) (.tmp 28) 83 rfl b.heap.size 9 aa _ 1 16 underlying83 ab ad ai al rfl ax (O F f.length G) f.length (f.map .string) rfl ?_ _ _ 1 1 [.string s] rfl (ye ?_) (λp m=>by simp at m;subst m;rfl) A.out.1 A.out.2 ?_ ?_;(first|exact L.out|exact L.out.alloc _);(first|exact a0.out _ _ (by simp[jm])|simp[*,jm]);(exact bL (Nat.le_of_lt K) aj);intro aC m M N a1;obtain⟨a2,a3,rfl⟩:=oX M;have H:wc.grownBy m (Value.slice F f.length G).ownBlock:=(by first|exact N|exact rg ((ag.refl wc).alloc _) N);have a4:=Z M;have p:Hid (ag b m):=Below.grown x.out H x.out.size (λr p=>(L.out.lt r p).1);have u:b.heap.size<m.heap.size:=aR K H.size;have u:ae m (aq b 3) l:=(World.cell?_of_block (a:=⟨b.heap.size,3,none⟩) (H.block b.heap.size K az.out.symm)).trans aE;have u:=(p.out.cells _ _ t).trans z;have u:=(p.out.cells _ _ j).trans e0;have u:=(p.out.cells _ _ j).trans E;have u:m.frozen? (ac g (a*6))=false:=(p.out.frees _ _ j).trans ao;have u:m.frozen? (ac g (a*6+2))=false:=(p.out.frees _ _ j).trans ap;have u:k<m.heap.size:=aR t p.out.size;have u:g<m.heap.size:=aR j p.out.size;clear M N a1 H;refine i _ _ ?_ (λd=>?_)
  ·exact mX
  refine aw ?_;refine ei 24 (oi:=?iP) (v:=?iQ) ?iR am ?iT ?iU ?iV d ?iW
  case iR=>simp only[bd,be,bf];rfl
  case iT=>exact λ_ _ _ h=>h
  case iU=>rfl
  case iV=>rintro c ⟨aG,aI,aJ⟩;go_simp;try with_reducible rfl
  refine aw ?_;refine ei 25 (oi:=?iX) (v:=?iY) ?iZ am ?jc ?jd ?je d ?jf
  case iZ=>simp only[bd,be,bf];rfl
  case jc=>exact λ_ _ _ h=>h
  case jd=>rfl
  case je=>rintro c ⟨aG,aI,aJ⟩;go_simp;try with_reducible rfl
  refine aw ?_;refine wpAnyH_done am ?_ _;refine vl (o:=?jg) ?jh ?ji ?jk
  case jh=>simp only[bd,be,bf];rfl
  case ji=>rfl
  intro q i;go_simp;refine i _ _ ?_;refine aw ?_;go_wp2;go_region_held3 (λc=>ae c (ac k (o+1)) (O (some ⟨g,0,none⟩) n w)/\ae c (aq b 3) l) (first|(simp[*];done)|((repeat' apply And.intro)<;>(first|(simp[*];done)|(simp[*,rc,jm,rd,tp,re,rf];done)|go_keep))) (fail)
  go_wp2;go_end0
  refine⟨a2,a3,m,rfl,?_,p,rfl⟩;have:=a4.out;rw[List.map_append];exact this
 refine AllReadyH.cons (o:=?jl) ?jo (λq i=>?jq) ?jr
 case jo=>simp only[bd,be,bf];rfl
 case jr=>exact AllReadyH.nil
 rw[if_pos (by rfl)];go_simp;refine i _ _ ?_ (λd=>?_)
 ·exact mX
 refine aw ?_;refine wpAnyH_ready (rs:=[13]) am aj ?_;refine AllReadyH.cons (o:=?jv) ?jw (λq i=>?jy) ?jA
 case jw=>simp only[bd,be,bf];rfl
 case jA=>exact AllReadyH.nil
 rw[if_pos (by rfl)];go_simp;go_at_call 257;refine(ar.out _ ?_).mono ?_;(first|exact((ag.refl b).alloc _).drew|exact(((ag.refl b).alloc _).alloc _).drew);rintro e wc ⟨F,G,rfl,u,aK⟩;have K:b.heap.size<wc.heap.size:=aR n6 u.size;have x:Hid (ag b wc):=(by first|exact((ag.refl b).alloc _).drew.trans u|exact(((ag.refl b).alloc _).alloc _).drew.trans u);have az:Hid ((Value.slice F f.length G).ownBlock≠some b.heap.size):=(λe=>by have:=(aK.lt _ e).1;simp[eu]at this<;>omega);have aE:ae wc (aq b 3) l:=(u.cells _ _ n6).trans (by simp[jm]);have a0:Hid (∀m p,World.cell? _ m=some p->ae wc m p):=(λm m h=>(u.cell (World.block_lt_of_cell? _ _ h)).trans h);have y:=(x.out.cells _ _ t).trans z;have y:=(x.out.cells _ _ j).trans e0;have y:=(x.out.cells _ _ j).trans E;have y:wc.ownsRow b.heap.size 9 1 (O F f.length G) f.length (f.map .string):=aK.mono (Nat.le_of_lt n6);have L:=Z y;clear u aK y
 try go_simp
 refine i _ _ ?_ (λd=>?_)
 ·exact mX
 refine aw ?_;refine wpAnyH_ready (rs:=[23]) am aj ?_;refine AllReadyH.cons (o:=?jB) ?jC (λq i=>?jD) ?jE
 case jC=>simp only[bd,be,bf];rfl
 case jE=>exact AllReadyH.nil
 refine oy _ rfl (.tmp 19) (.tmp 28) 83 rfl b.heap.size 9 aa _ 1 16 underlying83 ab ad ai al rfl ax (O F f.length G) f.length (f.map .string) rfl ?_ _ _ 1 1 [.string s] rfl (ye ?_) (λp m=>by simp at m;subst m;rfl) A.out.1 A.out.2 ?_ ?_;(first|exact L.out|exact L.out.alloc _);(first|exact a0.out _ _ (by simp[jm])|simp[*,jm]);(exact bL (Nat.le_of_lt K) aj);intro aC m M N a1;obtain⟨a2,a3,rfl⟩:=oX M;have H:wc.grownBy m (Value.slice F f.length G).ownBlock:=(by first|exact N|exact rg ((ag.refl wc).alloc _) N);have a4:=Z M;have p:Hid (ag b m):=Below.grown x.out H x.out.size (λr f=>(L.out.lt r f).1);have f:b.heap.size<m.heap.size:=aR K H.size;have f:ae m (aq b 3) l:=(World.cell?_of_block (a:=⟨b.heap.size,3,none⟩) (H.block b.heap.size K az.out.symm)).trans aE;have f:=(p.out.cells _ _ t).trans z;have f:=(p.out.cells _ _ j).trans e0;have f:=(p.out.cells _ _ j).trans E;have f:m.frozen? (ac g (a*6))=false:=(p.out.frees _ _ j).trans ao;have f:m.frozen? (ac g (a*6+2))=false:=(p.out.frees _ _ j).trans ap;have f:k<m.heap.size:=aR t p.out.size;have f:g<m.heap.size:=aR j p.out.size;clear M N a1 H;refine i _ _ ?_ (λd=>?_)
 ·exact mX
 refine aw ?_;refine ei 24 (oi:=?jF) (v:=?jG) ?jH am ?jI ?jJ ?jK d ?jL
 case jH=>simp only[bd,be,bf];rfl
 case jI=>exact λ_ _ _ h=>h
 case jJ=>rfl
 case jK=>rintro c ⟨aG,aI,aJ⟩;go_simp;try with_reducible rfl
 refine aw ?_;refine ei 25 (oi:=?jM) (v:=?jN) ?jO am ?jP ?jQ ?jR d ?jS
 case jO=>simp only[bd,be,bf];rfl
 case jP=>exact λ_ _ _ h=>h
 case jQ=>rfl
 case jR=>rintro c ⟨aG,aI,aJ⟩;go_simp;try with_reducible rfl
 refine aw ?_;refine wpAnyH_done am ?_ _;refine vl (o:=?jT) ?jU ?jV ?jW
 case jU=>simp only[bd,be,bf];rfl
 case jV=>rfl
 intro q i;go_simp;refine i _ _ ?_;refine aw ?_;go_wp2;go_region_held3 (λc=>ae c (ac k (o+1)) (O (some ⟨g,0,none⟩) n w)/\ae c (aq b 3) l) (first|(simp[*];done)|((repeat' apply And.intro)<;>(first|(simp[*];done)|(simp[*,rc,jm,rd,tp,re,rf];done)|go_keep))) (fail)
 go_wp2;go_end0
 refine⟨a2,a3,m,rfl,?_,p,rfl⟩;have:=a4.out;rw[List.map_append];exact this
def PO.Sf {a:Type} (b:PO a) (c:List ao):Prop:=∀d a,b=.ok d a->a<:+c
theorem PO.Sf.bind {c d:Type} {r:PO c} {f:c->List ao->PO d} {n:List ao} (h:r.Sf n) (hf:∀a ts,ts<:+n->(f a ts).Sf n):(r.bind f).Sf n:=by
 exact qr
theorem PO.Sf.ok {α:Type} {a:α} {ts:List ao} {n:List ao} (h:ts<:+n):(PO.ok a ts).Sf n:=by
 intro c c b;injection b with _ b
 subst b;exact h
theorem PO.Sf.bad {α:Type} {a b:Int} {c:List ao}:(PO.bad a b:PO α).Sf c:=by intro a a h;cases h
theorem PO.Sf.ite {d:Type} {a:Prop} [Decidable a] {b c:PO d} {n:List ao} (h:b.Sf n) (d:c.Sf n):(if a then b else c).Sf n:=by split<;>assumption
theorem tT {b:Type} (c:Int) (a:List ao) (d:Int) (e:List ao):(eQ c a d:PO b).Sf e:=by cases a<;>exact .bad
theorem gJ {a:List ao} {b:List ao} (h:a<:+b):a.tail<:+b:=(List.tail_suffix a).trans h
theorem Il {a:List ao} {b:List ao} (c:Nat) (h:a<:+b):a.drop c<:+b:=(List.drop_suffix c a).trans h
theorem dN (c:Int) (b:bk):∀(a:List ao) (d:List ao),a<:+d->(aW c a b).Sf d:=by
 induction b with
 |nil=>intro a d h;cases a<;>exact .ok h
 |cons e b f=>
  intro a d h;have:aW c a (e::b)=if bB a e then aW c a.tail b else eQ c a 4:=by cases a<;>rfl
  rw[this];exact .ite (f _ _ (gJ h)) (tT _ _ _ _)
theorem zc (c:Int) (a:List ao) (d:Int) (b:List ao) (h:a<:+b):(ez c a d).Sf b:=by
 cases a with
 |nil=>exact .bad
 |cons e f=>exact .ite (.ok (gJ h)) .bad
theorem hG (c:Int) (a:List ao) (b:List ao) (h:a<:+b):(bN c a).Sf b:=(zc c a 1 b h).bind λ_ _ h=>.ok h
theorem gK (c:Int) (a:List ao) (b:List ao) (h:a<:+b):(cB c a).Sf b:=(zc c a 2 b h).bind λ_ _ h=>.ok h
theorem m5 (c:Int) (a:List ao) (d:bk) (b:List ao) (h:a<:+b):(dP c a d).Sf b:=by
 unfold dP;split
 ·exact .ok (gJ h)
 exact tT _ _ _ _
theorem Im {e:Type} (g:av) (f:List ao->PO e) (i:∀a b,a<:+b->(f a).Sf b):∀(c:Nat) (d:List e) (a:List ao) (b:List ao),a<:+b->(db g f c d a).Sf b:=by
 intro c;induction c with
 |zero=>intro d a b h;exact .ok h
 |succ c j=>intro d a b h;exact .ite ((i _ _ (gJ h)).bind λb a h=>j _ _ _ h) (.ok h)
theorem rG {a:Type} (d:av) (c:List ao->PO a) (e:∀a b,a<:+b->(c a).Sf b) (a:List ao) (b:List ao) (h:a<:+b):(dC d c a).Sf b:=
 (e _ _ h).bind λ_ _ h=>Im d c e _ _ _ _ h
theorem tV (a:Int) (b:List ao) (c:List ao) (h:b<:+c):(hP a b).Sf c:=rG _ _ (hG a) _ _ h
theorem zd (c:Int) (a:List ao) (b:List ao) (h:a<:+b):(f6 c a).Sf b:=by
 cases a with
 |nil=>exact .ok h
 |cons e d=>
  have a:d<:+b:=gJ h;exact .ite (.ok a) (.ite (.ok a) (.ite ((gK c d b a).bind λ_ _ h=>.ok h) (.ite ((gK c d b a).bind λ_ _ h=>.ok h) (.ite (.ok a) (.ite (.ok a) (.ite (.ok a) (.ok h)))))))
theorem ze (c:Int) (a:List ao) (b:List ao) (h:a<:+b):(jo c a).Sf b:=
 (zd c a b h).bind λd a h=>by cases d with|none=>exact tT _ _ _ _|some d=>exact .ok h
theorem zf (c:Int) (a:List ao) (b:List ao) (h:a<:+b):(jp c a).Sf b:=
 (zd c a b h).bind λd a h=>by
  cases d with
  |none=>exact(hG c a b h).bind λe a h=>.ite ((hG c _ b (gJ h)).bind λ_ _ h=>.ok h) (.ok h)
  |some d=>exact .ok h
theorem In (b:Int) (c:List ao) (a:List ao) (h:c<:+a):(l8 b c).Sf a:=
 .ite (gK b _ a (gJ h)) (.ite ((gK b _ a (gJ h)).bind λ_ _ h=>.ok h) (.ok h))
theorem Io (b:Int) (c:List ao) (a:List ao) (h:c<:+a):(j3 b c).Sf a:=
 (zf b c a h).bind λ_ _ h=>(m5 b _ _ a h).bind λ_ _ h=>(zf b _ a h).bind λ_ _ h=>(In b _ a h).bind λ_ _ h=>.ok h
theorem zg (a:Int) (c:List ao) (b:List ao) (h:c<:+b):(jq a c).Sf b:=
 (dN a _ _ b h).bind λ_ _ h=>rG _ _ (Io a) _ _ h
theorem Ip (b:Int) (c:List ao) (a:List ao) (h:c<:+a):(j4 b c).Sf a:=
 (hG b c a h).bind λ_ _ h=>(m5 b _ _ a h).bind λ_ _ h=>.ite ((ze b _ a (gJ h)).bind λ_ _ h=>.ok h) (.ok h)
theorem Iq (b:Int) (c:List ao) (a:List ao) (h:c<:+a):(j5 b c).Sf a:=
 (hG b c a h).bind λ_ _ h=>(dN b _ _ a h).bind λ_ _ h=>(ze b _ a h).bind λ_ _ h=>.ok h
theorem Ir (b:Int) (d:av) (e f g i j:Int) (c:List ao) (a:List ao) (h:c<:+a):(k7 b d e f g i j c).Sf a:=
 (PO.Sf.ite (gK b _ a (gJ h)) (.ok h)).bind λ_ _ h=>(dN b _ _ a h).bind λ_ _ h=>.ok h
theorem Is (b:Int) (d:av) (e f g:Int) (c:List ao) (a:List ao) (h:c<:+a):(ql b d e f g c).Sf a:=
 (PO.Sf.ite (gK b _ a (gJ h)) (.ok h)).bind λ_ _ h=>(dN b _ _ a h).bind λ_ _ h=>(gK b _ a h).bind λ_ _ h=>Ir _ _ _ _ _ _ _ _ a h
theorem It (b:Int) (d:av) (e f:Int) (c:List ao) (a:List ao) (h:c<:+a):(l9 b d e f c).Sf a:=
 (dN b _ _ a h).bind λ_ _ h=>(gK b _ a h).bind λ_ _ h=>Is _ _ _ _ _ _ a h
theorem Iu (b:Int) (c:List ao) (a:List ao) (h:c<:+a):(iB b c).Sf a:=
 (hG b c a h).bind λ_ _ h=>(m5 b _ _ a h).bind λ_ _ h=>(PO.Sf.ite (gK b _ a h) (.ok h)).bind λ_ _ h=>It _ _ _ _ _ a h
theorem zh (c:Int) (d:av) (a:List ao) (b:List ao) (h:a<:+b):(k6 c d a).Sf b:=.ite (.ok h) (tV c a b h)
theorem Iv (b:Int) (d:Nat) (c:List ao) (a:List ao) (h:c<:+a):(eA b d c).Sf a:=
 .ite ((zg b c a h).bind λ_ _ h=>.ok h) (.ite ((dN b _ _ a h).bind λ_ _ h=>(zh b _ _ a h).bind λ_ _ h=>.ok h) (.ite
  ((dN b _ _ a h).bind λ_ _ h=>(hG b _ a h).bind λ_ _ h=>(dN b _ _ a h).bind λ_ _ h=>(hG b _ a h).bind λ_ _ h=>.ok h) (.ite
  (
   (
   dN b _ _ a h).bind λ_ _ h=>(zh b _ _ a h).bind λ_ _ h=>(dN b _ _ a h).bind λ_ _ h=>(m5 b _ _ a h).bind λ_ _ h=>
   (PO.Sf.ite (.ok h) (hG b _ a h)).bind λ_ _ h=>(dN b _ _ a h).bind λ_ _ h=>(hG b _ a h).bind λ_ _ h=>.ok h) (.ok h))))
theorem zi (c:Int):∀(d:Nat) (e:List cL) (b:List ao) (a:List ao),b<:+a->(hT c d e b).Sf a
 |0,_,_,_,h=>.ok h
 |d+1,e,b,a,h=>.ite (.ok h) ((Iu c b a h).bind λb b h=>zi c d _ b a h)
def zj (a:List ao):Prop:=a.Pairwise λa b=>a.at_<b.at_
mutual
def Ex.All (a:Int->Prop):Ex->Prop
 |.mk _ _ kids _ _ _ _ _ at_=>a at_/\Ex.kS a kids
def Ex.kS (a:Int->Prop):List Ex->Prop
 |[]=>True
 |e::es=>e.All a/\Ex.kS a es
end
mutual
theorem Ex.All.imp {p b:Int->Prop} (h:∀a,p a->b a):∀c:Ex,c.All p->c.All b
 |.mk _ _ kids _ _ _ _ _ _,a=>by
  rw[Ex.All]at a⊢;exact⟨h _ a.1,Ex.kS.imp h kids a.2⟩
theorem Ex.kS.imp {p b:Int->Prop} (h:∀a,p a->b a):∀l:List Ex,Ex.kS p l->Ex.kS b l
 |[],_=>by rw[Ex.kS];trivial
 |e::es,a=>by
  rw[Ex.kS]at a⊢;exact⟨Ex.All.imp h e a.1,Ex.kS.imp h es a.2⟩
end
theorem Iw {a b:List ao} (h:zj a) (c:b<:+a) (d:b≠[]):cY a<=cY b:=by
 cases a with
 |nil=>exact absurd (List.suffix_nil.1 c) d
 |cons f g=>
  rcases List.suffix_cons_iff.1 c with e|c
  ·rw[e];exact Int.le_refl _
  cases b with
  |nil=>exact absurd rfl d
  |cons i j=>exact Int.le_of_lt (List.rel_of_pairwise_cons h (c.subset (List.mem_cons_self ..)))
def tW (b:Int) (c d:List ao) (a:Int):Prop:=cY c<=a/\a<b/\∀b∈d,a<b.at_
theorem tW.mono {b:Int} {ts us vs c:List ao} (h:zj vs) (s:ts<:+vs) (n:ts≠[]) (k:c<:+us) {a:Int} (r:tW b ts us a):tW b vs c a:=
 ⟨Int.le_trans (Iw h s n) r.1,r.2.1,λb c=>r.2.2 b (k.subset c)⟩
def PO.Al {a:Type} (b:PO a) (c:a->Prop):Prop:=∀a d,b=.ok a d->c a
theorem PO.Al.bind {b c:Type} {d:PO b} {f:b->List ao->PO c} {q:c->Prop} (h:∀a ts,(f a ts).Al q):(d.bind f).Al q:=by
 intro c d b;obtain⟨a,ts,_,b⟩:=PO.bind_some b;exact h a ts c d b
theorem PO.Al.wz {a b:Type} {c:PO a} {d:a->List ao->PO b} {e:a->Prop} {f:b->Prop} (g:c.Al e) (h:∀a b,e a->(d a b).Al f):(c.bind d).Al f:=by
 intro d e c;obtain⟨a,b,f,c⟩:=PO.bind_some c;exact h a b (g a b f) d e c
theorem PO.Al.ok {α:Type} {a:α} {ts:List ao} {q:α->Prop} (h:q a):(PO.ok a ts).Al q:=by
 intro c c b;injection b with b _
 subst b;exact h
theorem PO.Al.ite {b:Type} {c:Prop} [Decidable c] {d e:PO b} {a:b->Prop} (h:d.Al a) (b:e.Al a):(if c then d else e).Al a:=by split<;>assumption
def tX (a:Int):List aE->Int
 |[]=>a
 |x::_=>x.at_
def pQ (a:Int):List aE->Prop
 |[]=>True
 |x::xs=>x.at_<tX a xs/\(x.kind=10->x.expr.All λb=>x.at_<=b/\b<tX a xs)/\pQ a xs
def RO.At {α:Type} (r:RO α) (q:Int->Prop):Prop:=∀b a,r=.bad b a->q a
section
variable {α β:Type} {r:RO α} {q:Int->Prop} {at_:Int}
theorem RO.At.ok {a:α}:(RO.ok a).At q:=by intro b b h;cases h
theorem RO.At.bad {a:Int} (h:q at_):(RO.bad a at_:RO α).At q:=by intro a a h;injection h with _ h;subst h;assumption
theorem RO.At.bind {f:α->RO β} (h:r.At q) (c:∀a,(f a).At q):(r.bind f).At q:=by
 cases r with
 |ok a=>exact c a
 |bad d a=>intro c c b;injection b with _ b;subst b;exact h d a rfl
theorem RO.At.ap {a:Bool} {b:Int} (h:q at_) (k:r.At q):(RO.ap a b at_ r).At q:=by
 unfold RO.ap;split
 ·exact k
 exact .bad h
theorem RO.At.ite {a:Prop} [Decidable a] {b:RO α} (h:r.At q) (c:b.At q):(if a then r else b).At q:=by split<;>assumption
variable (h:q at_)
include h
end
inductive FL (L:Int):List aE->List (Int×Int)->List aE->Prop
 |nil:FL L [] [] []
 |bad {x:aE} {xs:List aE} {e a:Int} {fs:List (Int×Int)} {ys:List aE}:x.at_<=a->a<tX L xs->FL L xs fs ys->FL L (x::xs) ((e,a)::fs) ys
 |good {x:aE} {xs:List aE} {fs:List (Int×Int)} {ys:List aE}:FL L xs fs ys->FL L (x::xs) fs (x::ys)
def ge (b:List Tb) (d:ch) (c:aE):List Tb×(Int×Int):=
 if(dm d c).2≠0 then(b,((dm d c).2,c.at_))
 else if c.kind=1 then match ea b c with|.ok t=>(b++[t],(0,0))|.bad e a=>(b,(e,a))else(b,(0,0))
theorem m6 (b:List Tb) (c:ch) (d:List (Int×Int)) (a:aE) (e:List aE):cy b c d (a::e)=cy (ge b c a).1 (dm c a).1 (d++[(ge b c a).2]) e:=by
 rw[cy];unfold ge;split
 ·rfl
 split
 ·cases ea b a<;>rfl
 rfl
theorem m7:∀(a:List aE) (b:List Tb) (c:ch) (d:List (Int×Int)),cy b c d a=((cy b c [] a).1,d++(cy b c [] a).2)
 |[],b,c,d=>by rw[cy,cy];simp
 |x::a,b,c,d=>by
  rw[m6,m6 b c [],m7 a _ _ (d++_),m7 a _ _ ([]++_)];simp
theorem tY {c:List Tb} {a:ch} {b:aE} (h:(ge c a b).2.1=0):(dm a b).2=0:=by
 unfold ge at h;split at h
 ·exact h
 rename_i a
 exact Decidable.not_not.1 a
theorem zk:∀(a:List aE) (b:List Tb) (c:ch),(cy b c [] a).2.length=a.length
 |[],_,_=>by rw[cy];rfl
 |x::a,b,c=>by
  rw[m6,m7];simp[zk a]
end Go.Proofs.YteamkimbmdgdbaaGreatDoor

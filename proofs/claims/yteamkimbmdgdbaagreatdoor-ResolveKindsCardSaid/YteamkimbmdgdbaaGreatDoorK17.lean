import Derived.Test.YteamkimbmdgdbaaGreatDoorK16
set_option linter.unusedSimpArgs false
set_option linter.unusedVariables false
set_option maxHeartbeats 16000000
set_option maxRecDepth 100000
namespace Go.Proofs.YteamkimbmdgdbaaGreatDoor
open Go.RowKit
theorem Cc (b:List Tb) (c:aw) (d:List bB) (f:bm) (g i:aw) (j a:Int) (ks:List Pl):cy b 4 c d f g i j a ks=RO.ap (decide (ks.length=2)) 1 a ((hZ a (bF ks 0) (bF ks 0) (bF ks 1)).bind λb=>RO.ap (decide (b.length<=24)) 3 a (.ok (.mk 4 0 ks [] [] 0 0 b))):=by
 have h:decide (ef 4=some ks.length)=decide (ks.length=2):=by
  have:ef 4=some 2:=rfl;exact ri
 unfold cy;rw[h];rfl
theorem Cd (ax g ak:Nat) (h:Hd) (bt:List RT) (a1:aw) (b6 v:Hd) (c:List aB) (bu:Hd) (bx:List bB) (a2:Hd) (bz:bm) (a3 ay:aw) (a4 at_:Int) (o:af) (er:aG ay)
 (bA:J o g 105 #[O 4,O 0,v.val,aa,aa,O 0,O 0,aa]) (y:iC o ax g ak h bt v c bu bx a2 bz at_):
 Calls Tryz.prog 201 #[aj ax,.agg #[O 4,a1,b6.val,bu.val,a2.val,a3,ay,a4,at_],aj g] o
  λe w'=>RP [g] o (cy (bt.map RT.tb) 4 a1 bx bz a3 ay a4 at_ (aB.aN c)) (iE g ak) e w':=by
 obtain⟨es,b8,et⟩:=h;obtain⟨b9,ca,aD⟩:=v;obtain⟨cQ,cR,cS⟩:=b6;obtain⟨cT,cU,cV⟩:=bu;obtain⟨cW,cX,cZ⟩:=a2;have S:=Z y;have c0:c.length=ca:=y.lk.1;have bu:ca<=9223372036854775807:=y.lk.2.1;subst c0;have b6:=y.hX;have bu:=y.xp;have bu:=y.j3;have bu:=y.lw;have bu:=bA.lt;have c1:=Z bA;obtain⟨R,bt⟩:=aq (cy (bt.map RT.tb) 4 a1 bx bz a3 ay a4 at_ (aB.aN c));rw[<-bt];have bu:(aB.aN c).length=c.length:=by rw[aB.iB,List.length_map]
 have E0:=Z (show R=RO.ap (decide (c.length=2)) 1 at_ ((hZ at_ (bF (aB.aN c) 0) (bF (aB.aN c) 0) (bF (aB.aN c) 1)).bind λb=>RO.ap (decide (b.length<=24)) 3 at_ (.ok (.mk 4 0 (aB.aN c) [] [] 0 0 b))) by rw[bt,Cc,bu]);clear bt y bA bu;have c2:=Z (Kp.refl [g] o);have bD:=Z (λ(b:af) (d:Kp [g] o b)=>S.lk.kp d (λb d e b8=>by have b:=(S.out.ik b d e).1;have b:=aA b8;omega));have aI:=Z (λ(b:af) (d:Kp [g] o b)=>show ac b (ab ax 8) at_ from(d.cell (p:=(ab ax 8)) b6 aC).trans S.c8);have c3:=@run_makeMap Tryz.prog;show Calls Tryz.prog 201 #[aj ax,.agg #[O 4,a1,U cQ cR cS,U cT cU cV,U cW cX cZ,a3,ay,a4,at_],aj g] o _;go_enter Tryz.func201,Tryz.ntmps201
 go_upto_region 1 with(fail)
 obtain⟨a3,ax,a1,b,ay⟩:=nb o 154 _;rw[ax];clear ax;have a3:=qk c2 b;have a4:=qb b c1;clear b;obtain⟨q,ax,c4,b,bt⟩:=nc ay 93 _;rw[ax];clear ax;have c5:=qk a3 b;have c6:=qb b a4;have c9:=qb b a1;clear b;clear ay bt;have da:=j4 q;have db:=j5 q;have dc:=j6 q;have dd:=j7 q;have de:=j8 q;have df:=j9 q;have dh:=ka q;have di:=kc q;go_upto_region 2 with(fail)
 clear da db dc dd de df dh di c3;have M3:=Z (kd q);have b:=Z (show ag q (q.alloc (.map (km 8) 8))from(ag.refl q).alloc _);obtain⟨a5,q⟩:=aq (q.alloc (.map (km 8) 8));rw[<-q]at M3 b⊢;clear q;have K3:=qk c5 b;have cb:=qb b c6;have cc:=qb b c9;have cd:=qb b c4;have dj:=kO M3 (k:=4) (n:=2) rfl;clear b M3;have dk:=az cd;go_upto_region 3 with(fail)
 clear dj dk;have eF:=az cc;have eG:ac a5 (ab g 2) (U b9 c.length aD):=J.cell cb 2;have eH:=aI a5 K3;by_cases hN:c.length=2
 case neg=>
  have d:(((2:Nat):Int)==(c.length:Int))=false:=aC
  have d:((2:Int)==(c.length:Int))=false:=aC
  exact lF
 have a6:(((2:Nat):Int)==(c.length:Int))=true:=aC
 have dl:((2:Int)==(c.length:Int))=true:=aC
 have E1:=Z (show R=RO.ap true 1 at_ ((hZ at_ (bF (aB.aN c) 0) (bF (aB.aN c) 0) (bF (aB.aN c) 1)).bind λd=>RO.ap (decide (d.length<=24)) 3 at_ (.ok (.mk 4 0 (aB.aN c) [] [] 0 0 d))) by rw[E0.out,decide_eq_true hN]);clear E0;refine dB 12 eF eG λhS=>?_;refine dg ?_;refine eh ?_;refine aK 11 (λK hK=>?_);go_simp;refine bJ K3.drew E1 eH λce=>?_;try go_simp
 refine hK _ _ (λ_=>hS) ?_;refine av ?_;refine b2 ?_;refine bV ?_;clear hS a6 dl eF eG eH E1;have b:=Z ((ag.refl a5).drew);obtain⟨aL,q⟩:=aq a5.drew;rw[<-q]at b⊢;clear q;have dm:=qk K3 b;have dn:=qb b cb;have dq:=qb b cc;have cf:=qb b cd;clear b;go_upto_region 5 with(fail)
 obtain⟨al,q,bE,b,-⟩:=nb aL 79 #[aa];rw[q];clear q;have cg:=qk dm b;have ch:=qb b dn;have dr:=qb b dq;have ds:=qb b cf;clear b;have q:=J.lt cf;have q:0<c.length:=ae
 obtain⟨z,A,an,ax,a7⟩:=jo (bD al cg) 0 q;have T:=Z (S.sub _ (List.getElem_mem q)).res;have q:=jn c 0 q;obtain⟨a1,a3⟩:=aq (c[0]);rw[<-a3]at a7 T q;obtain⟨⟨C,ax,H⟩,ay⟩:∃bG,bG=a1.ha:=⟨_,rfl⟩;obtain⟨f,a1⟩:=aq a1.attrs;rw[<-ay]at a7;rw[<-ay,<-a1]at T;rw[<-a1]at q;have ci:=Z (show R=_ by rw[ce.out,q]);clear ce a3 ay a1;have cj:ac al (ab z (A+0*8+7)) (U C ax H):=a7;have dt:ac al (ab z (A+7)) (U C ax H):=by simpa using cj
 have du:b9=some ⟨z,A,none⟩:=an;have dv:f.length=ax:=T.a.1.1;subst dv;clear a7 an;subst du;have dw:ac al (ab g 2) (U (some ⟨z,A,none⟩) c.length aD):=J.cell ch 2;have dx:=az bE;have dy:=λd=>J.frozen bE d;go_upto_region 7 with(fail)
 have V:=Z (jB bE (U C f.length H));have w:=Z (Kp.aE (p:=(am aL 0)) (l:=[aL.heap.size]) ai (Kp.refl [aL.heap.size] al) (U C f.length H));obtain⟨t,q⟩:=aq (al.setCell (am aL 0) (U C f.length H));rw[<-q]at V w⊢;clear q;have bH:=Z (w.old cg (λi i j=>absurd j (by rw[aA i];omega)));have a8:=qo w ch;have dz:=qo w dr;have dA:=qo w ds;have a9:=V;clear V w;clear dy dw dx dt cj;have bI:=Z (λ(i:af) (j:Kp [g] o i)=>T.keep j (λi i hS=>by have j:=hS.1;have i:=aA i;omega));have bK:1<c.length:=by omega
 obtain⟨q,al,an,ax,bb⟩:=jo (bD t bH) 1 bK;injection an with an
 injection an with oE oF
 subst oE oF;have ao:=Z (S.sub _ (List.getElem_mem bK)).res;have al:=jn c 1 bK;obtain⟨ay,aL⟩:=aq (c[1]);rw[<-aL]at bb ao al;obtain⟨⟨bf,q,an⟩,ax⟩:∃bG,bG=ay.ha:=⟨_,rfl⟩;obtain⟨i,ay⟩:=aq ay.attrs;rw[<-ax]at bb;rw[<-ax,<-ay]at ao;rw[<-ay]at al;have ck:=Z (show R=_ by rw[ci.out,al]);clear ci aL ax ay;have bL:ac t (ab z (A+1*8+7)) (U bf q an):=bb;have dC:ac t (ab z (A+15)) (U bf q an):=by simpa using bL
 have dD:ac t (ab z (A+8+7)) (U bf q an):=by simpa using bL
 have dE:i.length=q:=ao.a.1.1;subst dE;clear bb;have dF:ac t (ab g 2) (U (some ⟨z,A,none⟩) c.length aD):=J.cell a8 2;have dG:=J.lt a8;go_upto_region 9 with(fail)
 clear dF dC bL dD;have dH:=Z (λ(j:af) (m:Kp [g] o j)=>ao.keep m (λj j hS=>by have m:=hS.1;have j:=aA j;omega));have dI:=Z (Kp.refl [g] t);have dJ:=az a9;have q:=J.lt a9;have dK:=az dA;have dG:=J.lt a8;have cl:=Z (uR ⟨C,f.length,H⟩ f t (bI t bH).a T.l);go_upto_region 29 with(fail)
 go_wp2_with fail
 refine(cl).mono ?_;rintro e q ⟨cm,cn,rfl,b,dL⟩;have bM:=qb b a8;have dM:=qb b a9;have dN:=qk dI b;clear b;have dO:=b7 bM;clear dJ dK cl;have dP:=λd=>J.frozen bM d;go_upto_region 30 with(fail)
 obtain⟨an,al,dQ,q⟩:=qV bM (U cm f.length cn);rw[al];clear al;have dR:=Z (dN.trans q);have al:=qo q dM;have q:=q;have dS:=Z (bC dL q (λj j=>by have:=aA j;omega));clear dO dP;obtain⟨dT,dU,dV,dW,dX⟩:=info_parts Tryz.infoAt;have q:=T.l;have q:=ao.l;go_wp2;go_loopg [170] (i.length+1) (λu x wr=>∃(d j:Nat) (m:List RA) (q:aX) (r:Nat),x=.int .i64 d/\d<=i.length/\i.length-d<u/\m.length=j/\j<=f.length+d/\Hid (J wr g 105 #[O 4,O 0,U (some ⟨z,A,none⟩) c.length aD,aa,aa,O 0,O 0,U q j r])/\Hid (wr.ownsRow t.heap.size 111 6 (U q j r) j (m.flatMap RA.cells))/\Hid (∀j∈m,gL j/\aG j.at_.name/\aG j.at_.dflt.s)/\Hid (Kp [g] t wr)/\Hid (R=(hZ at_ (f.map RA.at_) (m.map RA.at_) ((i.map RA.at_).drop d)).bind (λj=>RO.ap (decide (j.length<=24)) 3 at_ (.ok (.mk 4 0 (aB.aN c) [] [] 0 0 j)))))
 case atStart=>exact⟨0,f.length,f,cm,cn,rfl,by omega,by omega,rfl,by omega,dQ,dS,Z T.out.bare,dR,ck⟩
 obtain⟨d,j,B,aM,aP,rfl,eu,co,cp,a2,bN,bO,bP,ar,bg⟩:=hrel;have bk:=Z co;have aQ:=Z cp;clear co cp ck;have W:=Z (bH.trans ar);have q:=ar.size;have bR:=qo ar dz;have cq:=qo ar a9;by_cases bS:d<i.length
 case neg=>
  have q:¬(d:Int)<i.length:=ae
  have m:=Z (show R=RO.ap (decide (j<=24)) 3 at_ (.ok (.mk 4 0 (aB.aN c) [] [] 0 0 (B.map RA.at_))) by rw[bg.out,List.drop_of_length_le (by rw[List.length_map];omega),<-aQ.out];show RO.ap (decide ((B.map RA.at_).length<=24)) _ _ _=_;rw[List.length_map]);clear bg;go_upto_region 38 with(fail)
  have u:=az bR;have x:=b7 bN;by_cases q:j<=24
  case neg=>
   have a6:decide ((j:Int)<=24)=false:=aC
   rw[show decide (j<=24)=false by simp;omega]at m;refine dB 8 u x λhS=>?_;refine cJ ?_;refine jl ?_;refine aK 7 (λK hK=>?_);go_simp;exact bv W.drew m (aI wr W)
  have a6:decide ((j:Int)<=24)=true:=aC
  rw[show decide (j<=24)=true by simp;omega]at m;refine dB 8 u x λhS=>?_;refine cJ ?_;refine jl ?_;refine aK 7 (λK hK=>?_);go_simp;refine bJ W.drew m (aI wr W) λE=>?_;try go_simp
  refine hK _ _ (λ_=>hS) ?_;refine av ?_;refine b2 ?_;refine bV ?_;clear hS u x a6 m;have b:=Z ((ag.refl wr).drew);obtain⟨D,m⟩:=aq wr.drew;rw[<-m]at b⊢;clear m;have r:=qk W b;have F:=qb b bN;have m:=qb b bR;have m:=qb b cq;have m:=qk ar b;have m:=r.size;have m:=Z (aH b bO);clear b;have G:=Z ((kQ m.out aQ.out (by have:=aQ.out;omega) bP.out).mono (S':=Bw ak D.heap.size) (λm m=>⟨by have:=m.1;omega,m.2⟩));go_wp2;first|go_end0|refine bodyPost_ret (results_none rfl _ _ _) rfl ?_
  rw[E.out];have u:∀m∈[g],¬Bw ak o.heap.size m:=λm q hS=>by have x:=hS.1;have x:=aA q;omega
  have m:∀m,Bw ak o.heap.size m->Bw ak D.heap.size m:=λm q=>⟨q.1,by have:=q.2;omega⟩;refine⟨r,_,rfl,rfl,(aB.mk 4 (0) ⟨(some ⟨z,A,none⟩),c.length,aD⟩ c aJ [] aJ [] (0) (0) ⟨aM,j,aP⟩ B),kg,F,.mk (bD D r) (S.ik.mono m) (λq v=>((S.sub q v).keep r u).mono m) (aF.none_ _ 12 _) (aS.none_ _ _ _) (aF.none_ _ 1 _) (aS.none_ _ _ _) G⟩
 have q:(d:Int)<i.length:=ae
 have q:(0:Int)<=d:=ae
 obtain⟨X,Y,cr,q,aR,I,aT,aU,aV,aW⟩:=iq (dH wr W).a d bS;have bT:bf=some ⟨X,Y,none⟩:=cr;have cs:=Z (ao.bare _ (List.getElem_mem bS));have bU:(i.map RA.at_).drop d=i[d].at_::(i.map RA.at_).drop (d+1):=by rw[List.drop_eq_getElem_cons (by simpa using bS),List.getElem_map]
 obtain⟨dY,ct⟩:=aq (i[d]);rw[<-ct]at aR I aT aU aV aW cs bU;obtain⟨⟨r,m,bW,⟨D,E,F⟩⟩,⟨L,M,N⟩⟩:=dY;obtain⟨ad,q⟩:=aq (ed (f.map RA.at_) r);have cu:Hid (ad<(f.map RA.at_).length):=Z (by rw[q];exact(lr (λy:At=>decide (y.name=r)) (f.map RA.at_)).2);have cv:Hid (∀u,Kp [g] o u->Calls Tryz.prog 274 #[U C f.length H,r] u λe w'=>e=.returned ad/\ag u w'):=Z (λo u=>by rw[q];exact q1 ⟨C,f.length,H⟩ f r o (bI.out o u).a);have bp:Hid (R=(if ad<0 then hZ at_ (f.map RA.at_) (B.map RA.at_++[⟨r,m,bW,⟨D,E,F⟩⟩]) ((i.map RA.at_).drop (d+1))else RO.ap (decide ((cE (f.map RA.at_) ad).kind=m)) 10 at_ (hZ at_ (f.map RA.at_) (B.map RA.at_) ((i.map RA.at_).drop (d+1)))).bind (λo=>RO.ap (decide (o.length<=24)) 3 at_ (.ok (.mk 4 0 (aB.aN c) [] [] 0 0 o)))):=Z (by rw[bg.out,bU,q];rfl);clear ct cr bU bg q;have dZ:ac wr (ab X (Y+d*6)) r:=aR;have d0:ac wr (ab X (Y+d*6+1)) m:=I;have d1:ac wr (ab X (Y+d*6+2)) (U L M N):=aT;have d2:ac wr (ab X (Y+d*6+3)) D:=aU;have d3:ac wr (ab X (Y+d*6+4)) E:=aV;have d4:ac wr (ab X (Y+d*6+5)) F:=aW;have o:IntKind.i64.wrap ((d:Int)+1)=(d:Int)+1:=IntWalk.i64_in _ ae;clear aR I aT aU aV aW;subst bT;go_upto_region 33 with(fail)
 clear dZ d0 d1 d2 d3 d4;obtain⟨q,o,cw,b,-⟩:=nb wr 111 #[r,m,U L M N,D,E,F];rw[o];clear o;have bX:=qk W b;have d6:=qb b bN;have d7:=qb b bR;have cx:=qb b cq;have d8:=Z (aH b bO);have d9:=qk ar b;have o:=bX.size;clear b;have ea:=az cx;have eb:=az cw;have cz:=Z (cv q bX);go_wp2_with fail
 refine(cz).mono ?_;rintro e ah ⟨rfl,b⟩;have aZ:=qk bX b;have bY:=qb b d6;have ec:=qb b d7;have ee:=qb b cx;have G:=qb b cw;have cA:=Z (aH b d8);have cB:=qk d9 b;clear b;clear cz cv ea eb;by_cases v:ad<0
 case pos=>
  have o:=decide_eq_true v;have ef:=Z (show R=(hZ at_ (f.map RA.at_) ((B++[(⟨⟨r,m,bW,⟨D,E,F⟩⟩,⟨L,M,N⟩⟩:RA)]).map RA.at_) ((i.map RA.at_).drop (d+1))).bind (λo=>RO.ap (decide (o.length<=24)) 3 at_ (.ok (.mk 4 0 (aB.aN c) [] [] 0 0 o))) by rw[bp.out,if_pos v,List.map_append];rfl);clear bp;go_upto_region 35 with(fail)
  have o:=b7 bY;have q:=az G;have y:=aY G;have z:=bh G;have A:=bj G;have H:=bn G;have S:=bQ G;refine nQ 8 o q y z A H S λhS=>?_;refine cJ ?_;refine gt ?_;refine tk 5 hS ?_;have q:=Z ((ag.refl ah).drew);obtain⟨P,o⟩:=aq ah.drew;rw[<-o]at q hS⊢;clear o;have bq:=qb q bY;have o:=qb q G;have bZ:=Z (aH q cA);have eg:=qk cB q;clear q hS;have cD:=b7 bq;have q:=J.lt bq;have cF:=az o;have cG:=aY o;have cH:=bh o;have cI:=bj o;have cK:=bn o;have cL:=bQ o;have o:=J.lt o;have cM:(λw':World=>ac w' (ab g 7) (U aM j aP)/\ac w' (am wr 0) r/\ac w' (am wr 1) m/\ac w' (am wr 2) (U L M N)/\ac w' (am wr 3) D/\ac w' (am wr 4) E/\ac w' (am wr 5) F) (P.alloc (.cells #[r,m,U L M N,D,E,F] 111)):=⟨bi cD,bi cF,bi cG,bi cH,bi cI,bi cK,bi cL⟩;refine aK 6 (λK hK=>?_);go_simp;refine hK _ _ (λ_=>cM) ?_;refine av ?_;have cN:=Z (aH ((ag.refl P).alloc (.cells #[r,m,U L M N,D,E,F] 111)) bZ);have cO:=Z (cC P #[r,m,U L M N,D,E,F] 111 6 rfl);have hrow:∀u,(Value.slice aM j aP).ownBlock=some u->t.heap.size<=u/\u<P.heap.size/\u<wr.heap.size:=λu x=>⟨(b3 bZ u x).1,(b3 bZ u x).2,(λu x=>(b3 bO u x).2) u x⟩;have o:=J.lt bq;refine aK 7 (λK hK=>?_);refine c7 (P.alloc _) (.tmp 184) (.tmp 186) 79 rfl (t.heap.size) 111 dT _ 6 80 Tryz.underlying79 dU dV dW dX rfl au (U aM j aP) j (B.flatMap RA.cells) rfl cN (P.heap.size+1) (some ⟨P.heap.size,0,none⟩) 1 1 ((_:aO).toList) rfl cO bl b1 ae aC ?_;intro o cP b0 x ei;obtain⟨br,bs,rfl,ej⟩:=bo b0;have ek:=Z b0;have b4:=Z x;have Q:=Z (fm ((Kp.refl [] P).alloc _) x);clear b0 x ei ej;have b5:=Z (J.grown (bq.alloc _) b4 (λe=>by have:=hrow _ e.symm;omega));have el:=b7 b5;have em:=λd=>J.frozen b5 d;refine hK _ _ (λ_=>⟨bw Q cD,bw Q.out cF,bw Q.out cG,bw Q.out cH,bw Q.out cI,bw Q.out cK,bw Q.out cL⟩) ?_;clear hK K cM;refine av ?_;refine b2 ?_;refine tq 8 ?_;refine tq 9 ?_;refine dp 10 (λK hK=>?_);go_simp;refine hK _ _ ?_;refine av ?_;refine bV ?_;have o:=Z ((eg.alloc _).grown b4 (λu x=>.inr (by have:=hrow u x;omega)));clear cN cO b4 Q hrow el em;have V:=Z (gp b5 (U br (j+1) bs));have w:=Z (Kp.aE (p:=(ab g 7)) (l:=[g]) ai (Kp.refl [g] cP) (U br (j+1) bs));obtain⟨q,g⟩:=aq (cP.setCell (ab g 7) (U br (j+1) bs));rw[<-g]at V w⊢;clear g;have en:=Z (o.trans w);have eo:=w;have ep:=V;clear V w;go_wp2_with fail
  go_roundg (i.length-d)
  case measure=>have:=bk.out;omega
  refine⟨d+1,j+1,B++[(⟨⟨r,m,bW,⟨D,E,F⟩⟩,⟨L,M,N⟩⟩:RA)],br,bs,by go_num,by omega,by have:=bk.out;omega,by rw[List.length_append,aQ.out];rfl,by omega,ep,Z (bC (by rw[List.flatMap_append];exact ek.out) eo.out (λg g=>by have:=aA g;omega)),Z ?_,en,ef⟩;intro eq a0;rcases cY a0 with a0|a0
  ·exact bP eq a0
  rw[aA a0];exact cs.out
 have g:=decide_eq_false v;obtain⟨u,b0⟩:∃u:Nat,ad=u:=⟨ad.toNat,by omega⟩;subst b0;have g:u<f.length:=by have:=cu.out;rw[List.length_map]at this;omega
 obtain⟨ba,o,bs,q,aR,I,aT,aU,aV,aW⟩:=iq (bI ah aZ).a u g;have bT:C=some ⟨ba,o,none⟩:=bs;obtain⟨x,Q⟩:=aq (f[u].at_.kind);rw[<-Q]at I;have o:(u:Int)<f.length:=ae
 have o:(0:Int)<=u:=ae
 have bZ:(x==m)=decide (x=m):=by by_cases h:x=m<;>simp[h]
 have P:=Z (show R=RO.ap (x==m) 10 at_ ((hZ at_ (f.map RA.at_) (B.map RA.at_) ((i.map RA.at_).drop (d+1))).bind (λo=>RO.ap (decide (o.length<=24)) 3 at_ (.ok (.mk 4 0 (aB.aN c) [] [] 0 0 o)))) by rw[bp.out,if_neg v,RO.gK,jY f u g,<-Q,bZ]);generalize b4:(x==m)=b5 at P;clear bp Q aR aT aU aV aW bs bZ v cu;subst bT;go_upto_region 36 with(fail)
 have a0:=az ec;have bq:=az ee;have br:=aY G;cases b5
 case false=>
  refine kH 10 a0 bq br I λhS=>?_;refine dg ?_;refine aK 9 (λK hK=>?_);go_simp;exact bv aZ.drew P (aI ah aZ)
 refine kH 10 a0 bq br I λhS=>?_;refine dg ?_;refine aK 9 (λK hK=>?_);go_simp;refine bJ aZ.drew P (aI ah aZ) λcD=>?_;try go_simp
 refine hK _ _ (λ_=>hS) ?_;refine av ?_;refine b2 ?_;refine bV ?_;clear hS a0 bq br I b4 P;have b:=Z ((ag.refl ah).drew);obtain⟨f,c⟩:=aq ah.drew;rw[<-c]at b⊢;clear c;have cF:=qb b bY;have c:=qb b G;have cG:=Z (aH b cA);have cH:=qk cB b;clear b;go_wp2_with fail
 go_roundg (i.length-d)
 case measure=>have:=bk.out;omega
 exact⟨d+1,j,B,aM,aP,by go_num,by omega,by have:=bk.out;omega,aQ.out,by omega,cF,cG,bP,cH,cD⟩
def rB (b:List Tb) (c:Int) (a:aI):RO Bk:=
 (fC b c a.table a.attr).bind λb=>
  if a.bf=1\/a.bf=2 then RO.ok (⟨a.name,b.1,b.2.1,a.bf,0,0⟩:Bk)
   else if a.bf=3 then RO.ap (aZ a.n 1 24) 2 c (.ok ⟨a.name,b.1,b.2.1,a.bf,a.n,0⟩)
   else if a.bf=4 then RO.ap (aZ a.n 1 64&&(decide (0<a.m)&&decide (a.n.tmod a.m=0))) 2 c (.ok ⟨a.name,b.1,b.2.1,a.bf,a.n,a.m⟩)
   else .bad 1 c
theorem Tryz.Cx:(Tryz.prog.info? 50).map (λa=>(a.zero,a.size,a.bytes))=some (some (.agg #[ah,O 0,O 0,O 0,O 0,O 0]),6,56):=ak
theorem Bk.len (k:Bk):k.cells.length=6:=rfl
theorem Cy (X base:Nat) (y:RI) (h:Hd) (v:List RT) (at_:Int) (u1 u3 u4 u5 u6 u7:ay) (A:aX) (n c:Nat) (os:List Bk) (k:af) (G:J k X 157 #[h.val,u1,U A n c,u3,u4,u5,u6,u7,at_]) (Y:bI k h v) (H:k.ownsRow base 50 6 (U A n c) n (os.flatMap Bk.cells)) (I:os.length=n) (rC:X<base) (q:base<=k.heap.size) (I:n<=1000):
 Calls Tryz.prog 115 #[aj X,.agg y.cells.toArray] k λe w'=>jh k (rB (v.map RT.tb) at_ y.it) (λI w'=>fo k w' X base 50 6 Bk.cells A n c os I (λI=>#[h.val,u1,I,u3,u4,u5,u6,u7,at_])) e w':=by
 obtain⟨i0,hi0,rD,rE,rF⟩:=info_parts Tryz.Cx;obtain⟨j,I⟩:=aq (rB (v.map RT.tb) at_ y.it);rw[<-I];have aa:=Z I;clear I;obtain⟨aD,nm,aF,L,M,⟨aG,aI,aJ⟩,b5,⟨aL,aM,aN⟩,b6,bf,b,d,⟨aP,aQ,aR⟩,b8,aS,aT,⟨aU,aV,aW⟩,b9,⟨a0,a1,a2⟩,ca,⟨a3,a4,a5⟩,cb,⟨a6,a7,⟨a8,a9,ba⟩,cc,⟨bb,bg,bk⟩,cd,⟨bm,bp,bq⟩,ce,br,bs,bt,bu⟩⟩:=y;have ad:=Z (show j=(fC (v.map RT.tb) at_ L M).bind λf=>(if bf=1\/bf=2 then RO.ok (⟨nm,f.1,f.2.1,bf,0,0⟩:Bk)else if bf=3 then RO.ap (aZ b 1 24) 2 at_ (.ok ⟨nm,f.1,f.2.1,bf,b,0⟩)else if bf=4 then RO.ap (aZ b 1 64&&(decide (0<d)&&decide (b.tmod d=0))) 2 at_ (.ok ⟨nm,f.1,f.2.1,bf,b,d⟩)else .bad 1 at_)from aa);clear aa;have y:=G.lt;have bx:=Z (Kp.refl [] k);have bz:=Z Y;have bA:=Z G;have z:=Z H;have HOW:=Z H;show Calls Tryz.prog 115 #[aj X,.agg #[aD,nm,aF,L,M,U aG aI aJ,U aL aM aN,bf,b,d,U aP aQ aR,aS,aT,U aU aV aW,U a0 a1 a2,U a3 a4 a5,a6,a7,U a8 a9 ba,U bb bg bk,U bm bp bq,br,bs,bt,bu]] k _;clear G Y H;go_enter Tryz.func115,Tryz.ntmps115
 go_upto_region 1 with(fail)
 obtain⟨bB,k,N,f,y⟩:=nb k 95 _;rw[k];clear k;have al:=qk bx f;have bC:=Z (bz.same f);have bD:=Z (aH f z);have B:=qb f bA;clear f;have an:=az B;have ao:=bN B;have bE:=J.lt B;have bF:=bj N;have bG:=bn N;go_wp2_with fail
 refine dC ad (pI X h v L M at_ bB bE an ao bC) (eL al) ?_;intro a bH w2 bK ar aw w;obtain⟨pt,pc,bL⟩:=a;have bM:bH=.tuple #[pt,pc,bL]:=aw;subst bM;have bO:=Z (al.trans w);have bP:=Z (aH (w.same) bD);have bR:=qo w B;have C:=qo w N;clear w;clear aw bK an ao bF bG;have bS:=aY C;have bT:=b7 C;have k:=J.lt C;go_upto_region 2 with(fail)
 go_upto_region 3 with(first|(refine wpList_store_row rfl 50 (.tmp 7) (.tmp 24) rfl w2.heap.size #[nm,pt,pc,bf,O 0,O 0] rfl rfl 50 #[ah,O 0,O 0,O 0,O 0,O 0] (J.new w2 50 #[ah,O 0,O 0,O 0,O 0,O 0]) ak rfl bl ?_;rw[World.setRow_alloc_new])|fail)
 obtain⟨w3,k,fF,f,-⟩:=nb w2 50 #[nm,pt,pc,bf,O 0,O 0];rw[k];clear k;have K3:=qk bO f;have O3:=Z (aH f bP);have iH:=qb f bR;have D:=qb f C;clear f;have k:=J.lt fF;clear bS bT;have r:=Z ar.out;clear ar ad;have k:=b7 D;by_cases o:bf=1
 case pos=>
  have k:(bf==1)=true:=by simp[o]
  have EF:=Z (show j=.ok (⟨nm,pt,pc,bf,0,0⟩:Bk) by rw[r.out];rw[if_pos (Or.inl o)]);clear r;clear o;exact qa
 have k:(bf==1)=false:=by simp[o]
 by_cases s:bf=2
 case pos=>
  have k:(bf==2)=true:=by simp[s]
  have EF:=Z (show j=.ok (⟨nm,pt,pc,bf,0,0⟩:Bk) by rw[r.out];rw[if_pos (Or.inr s)]);clear r;clear s o;exact qa
 have k:(bf==2)=false:=by simp[s]
 have k:¬(bf=1\/bf=2):=by simp[o,s]
 clear o s;have E:=Z (show j=(if bf=3 then RO.ap (aZ b 1 24) 2 at_ (.ok (⟨nm,pt,pc,bf,b,0⟩:Bk))else if bf=4 then RO.ap (aZ b 1 64&&(decide (0<d)&&decide (b.tmod d=0))) 2 at_ (.ok ⟨nm,pt,pc,bf,b,d⟩)else .bad 1 at_) by rw[r.out,if_neg k]);clear r k;by_cases t:bf=3
 case pos=>
  have k:(bf==3)=true:=by simp[t]
  have u:=Z (show j=RO.ap (aZ b 1 24) 2 at_ (.ok (⟨nm,pt,pc,bf,b,0⟩:Bk)) by rw[E.out,if_pos t]);clear E t;have HW:=Z (λk=>fj b 1 24 k);generalize aZ b 1 24=ax at HW u;have k:=bN D;have eH:=bN iH;have rG:=J.lt iH;go_wp2_with fail
  refine(HW w3).mono ?_;rintro e w' ⟨rfl,rfl⟩;cases ax
  case false=>
   go_wp2_with fail
   exact bv K3 u eH
  go_wp2_with fail
  refine bJ K3 u eH λE5=>?_;clear u HW eH;have aB:=λi=>J.frozen fF i;have l0:=bn fF;have vf:=J.lt fF;go_upto_region 13 with(fail)
  have r:=Z (lu fF b);have o:=Z (Kp.aE (p:=(am w2 4)) (l:=[w2.heap.size]) ai (Kp.refl [w2.heap.size] w3) b);obtain⟨m,k⟩:=aq (w3.setCell (am w2 4) b);rw[<-k]at r o⊢;clear k;have V:=Z (o.old K3 (λk q k=>absurd k (by rw[aA q];omega)));have bU:=Z (aH V.same z);have x:=qo o iH;have k:=r;clear r o;clear aB l0;have W:=bh x;have o:=J.lt x;have F:=az k;have P:=aY k;have Q:=bh k;have R:=bj k;have S:=bn k;have T:=bQ k;have k:=J.lt k;go_upto_region 13 with(fail)
  refine nQ 9 W F P Q R S T λhS=>?_;refine cJ ?_;refine jl ?_;have hS2:(λw':World=>ac w' (ab X 2) (U A n c)/\ac w' (am w2 0) nm/\ac w' (am w2 1) pt/\ac w' (am w2 2) pc/\ac w' (am w2 3) bf/\ac w' (am w2 4) b/\ac w' (am w2 5) (O 0)) (m.drew.alloc (.cells #[nm,pt,pc,bf,b,O 0] 50)):=⟨bi W,bi F,bi P,bi Q,bi R,bi S,bi T⟩;refine aK 7 (λK hK=>?_);go_simp;refine hK _ _ (λ_=>hS2) ?_;refine av ?_;have O9:=Z (aH ((ag.refl m.drew).alloc (.cells #[nm,pt,pc,bf,b,O 0] 50)) (aH ((ag.refl m).drew) bU));have kX:=Z (cC m.drew #[nm,pt,pc,bf,b,O 0] 50 6 rfl);have kY:=Z (x.drew.alloc (.cells #[nm,pt,pc,bf,b,O 0] 50));refine aK 8 (λK hK=>?_);refine c7 (m.drew.alloc _) (.tmp 73) (.tmp 75) 31 rfl base 50 i0 _ 6 56 Tryz.underlying31 hi0 rD rE rF rfl au (U A n c) n (os.flatMap Bk.cells) rfl O9 (m.heap.size+1) (some ⟨m.heap.size,0,none⟩) 1 1 ((_:aO).toList) rfl kX bl b1 ae cB ?_;intro v9 w9 hown hg hat;obtain⟨A2,c2,rfl,gs⟩:=bo hown;have hrow:=b3 HOW;have oG:some X≠(.slice A n c:ay).ownBlock:=λe=>by have:=hrow X e.symm;omega
  have BX:=Z (kY.grown hg oG);have e9:=bh BX;have f9:=λi=>J.frozen BX i;have OWN:=Z hown;have GR:=Z (fm (((Kp.refl [] m).drew).alloc _) hg);have HAT:=Z (show(Value.slice A2 (n+1) c2).ownBlock=(.slice A n c:ay).ownBlock\/∃g,(Value.slice A2 (n+1) c2).ownBlock=some g/\m.heap.size<=g from hat.imp id (λh=>⟨_,h,by simp[d5]⟩));clear hown hat gs O9 kX kY;refine hK _ _ (λ_=>⟨e9,bw GR F,bw GR.out P,bw GR.out Q,bw GR.out R,bw GR.out S,bw GR.out T⟩) ?_;refine av ?_;refine b2 ?_;refine n6 ?_;refine dp 12 (λK hK=>?_);go_simp;refine hK _ _ ?_;refine av ?_;refine bV ?_;go_wp2_with fail
  refine bodyPost_ret (results_none rfl _ _ _) rfl ?_;rw[E5.out];exact⟨rfl,fo.jg V.same BX OWN GR rC rfl HAT⟩
 have k:(bf==3)=false:=by simp[t]
 have F:=Z (show j=(if bf=4 then RO.ap (aZ b 1 64&&(decide (0<d)&&decide (b.tmod d=0))) 2 at_ (.ok (⟨nm,pt,pc,bf,b,d⟩:Bk))else .bad 1 at_) by rw[E.out,if_neg t]);clear E t;by_cases u:bf=4
 case neg=>
  have k:(bf==4)=false:=by simp[u]
  have EF:=Z (show j=.bad 1 at_ by rw[F.out,if_neg u]);clear F u;have eH:=bN iH;have rG:=J.lt iH;have m:=Z (tI X 1 at_ w3 eH);go_wp2_with fail
  refine m.mono ?_;rintro e w9 ⟨rfl,rfl⟩;go_wp2;refine⟨rfl,?_⟩;rw[EF.out];exact⟨rfl,K3.same⟩
 have k:(bf==4)=true:=by simp[u]
 have E5:=Z (show j=RO.ap (aZ b 1 64&&(decide (0<d)&&decide (b.tmod d=0))) 2 at_ (.ok (⟨nm,pt,pc,bf,b,d⟩:Bk)) by rw[F.out,if_pos u]);clear F u;have HW:=Z (λk=>fj b 1 64 k);generalize aZ b 1 64=bU at HW E5;have k:=bN D;have k:=iT D;have eH:=bN iH;have rG:=J.lt iH;cases bU
 case false=>
  have E6:=Z (show j=RO.ap false 2 at_ (.ok (⟨nm,pt,pc,bf,b,d⟩:Bk)) by rw[E5.out];rfl);exact ub
 by_cases ax:0<d
 case neg=>
  have k:(d>0)=False:=aC
  have E6:=Z (show j=RO.ap false 2 at_ (.ok (⟨nm,pt,pc,bf,b,d⟩:Bk)) by rw[E5.out];rw[decide_eq_false ax];rfl);exact ub
 have bW:¬d=0:=ae
 by_cases x:b.tmod d=0
 case neg=>
  have k:(b.tmod d==0)=false:=by simp[x]
  have E6:=Z (show j=RO.ap false 2 at_ (.ok (⟨nm,pt,pc,bf,b,d⟩:Bk)) by rw[E5.out];rw[decide_eq_false x];simp);exact ub
 have bX:(b.tmod d==0)=true:=by simp[x]
 have E6:=Z (show j=RO.ap true 2 at_ (.ok (⟨nm,pt,pc,bf,b,d⟩:Bk)) by rw[E5.out,decide_eq_true x,decide_eq_true ax];rfl);clear E5;go_wp2_with fail
 refine(HW w3).mono ?_;rintro e w' ⟨rfl,rfl⟩;go_wp2_with fail
 refine bJ K3 E6 eH λbY=>?_;clear E6 HW eH bW bX x;have bZ:=λi=>J.frozen fF i;have l0:=bn fF;have oH:=bQ fF;have vf:=J.lt fF;go_upto_region 12 with(fail)
 go_region
 have k:=Z (lu fF b);have j:=Z (Kp.aE (p:=(am w2 4)) (l:=[w2.heap.size]) ai (Kp.refl [w2.heap.size] w3) b);obtain⟨o,r⟩:=aq (w3.setCell (am w2 4) b);rw[<-r]at k j⊢;clear r;have r:=Z (j.old K3 (λm q m=>absurd m (by rw[aA q];omega)));have s:=Z (aH r.same z);have t:=qo j iH;have s:=k;clear k j;have k:=Z (jC s d);have j:=Z (Kp.aE (p:=(am w2 5)) (l:=[w2.heap.size]) ai (Kp.refl [w2.heap.size] o) d);obtain⟨o,s⟩:=aq (o.setCell (am w2 5) d);rw[<-s]at k j⊢;clear s;have q:=Z (j.old r (λm q m=>absurd m (by rw[aA q];omega)));have r:=Z (aH q.same z);have s:=qo j t;have t:=k;clear k j;have f:=Z ((ag.refl o).drew);obtain⟨m,j⟩:=aq o.drew;rw[<-j]at f⊢;clear j;have b0:=qk q f;have b4:=Z (aH f r);have P:=qb f s;have j:=qb f t;clear f;clear bZ l0 oH;have aB:=bh P;have f:=J.lt P;have Q:=az j;have R:=aY j;have S:=bh j;have T:=bj j;have V:=bn j;have W:=bQ j;have f:=J.lt j;go_upto_region 13 with(fail)
 refine nQ 9 aB Q R S T V W λhS=>?_;refine cJ ?_;refine jl ?_;have hS2:(λw':World=>ac w' (ab X 2) (U A n c)/\ac w' (am w2 0) nm/\ac w' (am w2 1) pt/\ac w' (am w2 2) pc/\ac w' (am w2 3) bf/\ac w' (am w2 4) b/\ac w' (am w2 5) d) (m.drew.alloc (.cells #[nm,pt,pc,bf,b,d] 50)):=⟨bi aB,bi Q,bi R,bi S,bi T,bi V,bi W⟩;refine aK 7 (λK hK=>?_);go_simp;refine hK _ _ (λ_=>hS2) ?_;refine av ?_;have O9:=Z (aH ((ag.refl m.drew).alloc (.cells #[nm,pt,pc,bf,b,d] 50)) (aH ((ag.refl m).drew) b4));have kX:=Z (cC m.drew #[nm,pt,pc,bf,b,d] 50 6 rfl);have kY:=Z (P.drew.alloc (.cells #[nm,pt,pc,bf,b,d] 50));refine aK 8 (λK hK=>?_);refine c7 (m.drew.alloc _) (.tmp 73) (.tmp 75) 31 rfl base 50 i0 _ 6 56 Tryz.underlying31 hi0 rD rE rF rfl au (U A n c) n (os.flatMap Bk.cells) rfl O9 (m.heap.size+1) (some ⟨m.heap.size,0,none⟩) 1 1 ((_:aO).toList) rfl kX bl b1 ae cB ?_;intro v9 w9 hown hg hat;obtain⟨A2,c2,rfl,gs⟩:=bo hown;have hrow:=b3 HOW;have oG:some X≠(.slice A n c:ay).ownBlock:=λe=>by have:=hrow X e.symm;omega
 have BX:=Z (kY.grown hg oG);have e9:=bh BX;have f9:=λi=>J.frozen BX i;have OWN:=Z hown;have GR:=Z (fm (((Kp.refl [] m).drew).alloc _) hg);have HAT:=Z (show(Value.slice A2 (n+1) c2).ownBlock=(.slice A n c:ay).ownBlock\/∃g,(Value.slice A2 (n+1) c2).ownBlock=some g/\m.heap.size<=g from hat.imp id (λh=>⟨_,h,by simp[d5]⟩));clear hown hat gs O9 kX kY;refine hK _ _ (λ_=>⟨e9,bw GR Q,bw GR.out R,bw GR.out S,bw GR.out T,bw GR.out V,bw GR.out W⟩) ?_;refine av ?_;refine b2 ?_;refine n6 ?_;refine dp 12 (λK hK=>?_);go_simp;refine hK _ _ ?_;refine av ?_;refine bV ?_;go_wp2_with fail
 refine bodyPost_ret (results_none rfl _ _ _) rfl ?_;rw[bY.out];exact⟨rfl,fo.jg b0.same BX OWN GR rC rfl HAT⟩
end Go.Proofs.YteamkimbmdgdbaaGreatDoor

import Derived.Test.YteamkimbmdgdbaaGreatDoorK16
set_option linter.unusedSimpArgs false
set_option linter.unusedVariables false
set_option maxHeartbeats 16000000
set_option maxRecDepth 100000
namespace Go.Proofs.YteamkimbmdgdbaaGreatDoor
open Go.RowKit
theorem Cc (b:List Tb) (c:aw) (d:List bB) (f:bm) (g i:aw) (j a:Int) (ks:List Pl):cy b 4 c d f g i j a ks=RO.ap (decide (ks.length=2)) 1 a ((hZ a (bF ks 0) (bF ks 0) (bF ks 1)).bind λb=>RO.ap (decide (b.length<=24)) 3 a (.ok (.mk 4 0 ks [] [] 0 0 b))):=by
 have h:decide (ef 4=some ks.length)=decide (ks.length=2):=by
  have:ef 4=some 2:=rfl;exact ri
 unfold cy;rw[h];rfl
theorem Cd (ao g ad:Nat) (h:Hd) (br:List RT) (aZ:aw) (b0 v:Hd) (c:List aB) (bs:Hd) (bt:List bB) (a0:Hd) (bu:bm) (a1 ar:aw) (a2 at_:Int) (o:af) (b6:aG ar)
 (bx:J o g 105 #[O 4,O 0,v.val,aa,aa,O 0,O 0,aa]) (y:iC o ao g ad h br v c bs bt a0 bu at_):
 Calls Tryz.prog 201 #[aj ao,.agg #[O 4,aZ,b0.val,bs.val,a0.val,a1,ar,a2,at_],aj g] o
  λe w'=>RP [g] o (cy (br.map RT.tb) 4 aZ bt bu a1 ar a2 at_ (aB.aN c)) (iE g ad) e w':=by
 obtain⟨b6,b4,el⟩:=h;obtain⟨b5,b6,ax⟩:=v;obtain⟨cL,cM,cN⟩:=b0;obtain⟨cO,cP,cQ⟩:=bs;obtain⟨cR,cS,cT⟩:=a0;have S:=Z y;have cU:c.length=b6:=y.lk.1;have bs:b6<=9223372036854775807:=y.lk.2.1;subst cU;have b0:=y.hX;have bs:=y.xp;have bs:=y.j3;have bs:=y.lw;have bs:=bx.lt;have cV:=Z bx;obtain⟨R,br⟩:=aq (cy (br.map RT.tb) 4 aZ bt bu a1 ar a2 at_ (aB.aN c));rw[<-br];have bs:(aB.aN c).length=c.length:=by rw[aB.iB,List.length_map]
 have E0:=Z (show R=RO.ap (decide (c.length=2)) 1 at_ ((hZ at_ (bF (aB.aN c) 0) (bF (aB.aN c) 0) (bF (aB.aN c) 1)).bind λb=>RO.ap (decide (b.length<=24)) 3 at_ (.ok (.mk 4 0 (aB.aN c) [] [] 0 0 b))) by rw[br,Cc,bs]);clear br y bx bs;have cW:=Z (Kp.refl [g] o);have bz:=Z (λ(b:af) (d:Kp [g] o b)=>S.lk.kp d (λb d e b4=>by have b:=(S.out.ik b d e).1;have b:=aA b4;omega));have ay:=Z (λ(b:af) (d:Kp [g] o b)=>show ac b (ab ao 8) at_ from(d.cell (p:=(ab ao 8)) b0 aC).trans S.c8);have cX:=@run_makeMap Tryz.prog;show Calls Tryz.prog 201 #[aj ao,.agg #[O 4,aZ,U cL cM cN,U cO cP cQ,U cR cS cT,a1,ar,a2,at_],aj g] o _;go_enter Tryz.func201,Tryz.ntmps201
 go_upto_region 1 with(fail)
 obtain⟨a1,ao,aZ,b,ar⟩:=nb o 154 _;rw[ao];clear ao;have a1:=qk cW b;have a2:=qb b cV;clear b;obtain⟨q,ao,cZ,b,br⟩:=nc ar 93 _;rw[ao];clear ao;have c0:=qk a1 b;have c1:=qb b a2;have c2:=qb b aZ;clear b;clear ar br;have c3:=j4 q;have c4:=j5 q;have c5:=j6 q;have c6:=j7 q;have c9:=j8 q;have da:=j9 q;have db:=ka q;have dc:=kc q;go_upto_region 2 with(fail)
 clear c3 c4 c5 c6 c9 da db dc cX;have M3:=Z (kd q);have b:=Z (show ag q (q.alloc (.map (km 8) 8))from(ag.refl q).alloc _);obtain⟨a3,q⟩:=aq (q.alloc (.map (km 8) 8));rw[<-q]at M3 b⊢;clear q;have K3:=qk c0 b;have b8:=qb b c1;have b9:=qb b c2;have ca:=qb b cZ;have dd:=kO M3 (k:=4) (n:=2) rfl;clear b M3;have de:=az ca;go_upto_region 3 with(fail)
 clear dd de;have eF:=az b9;have eG:ac a3 (ab g 2) (U b5 c.length ax):=J.cell b8 2;have eH:=ay a3 K3;by_cases hN:c.length=2
 case neg=>
  have d:(((2:Nat):Int)==(c.length:Int))=false:=aC
  have d:((2:Int)==(c.length:Int))=false:=aC
  exact lF
 have a4:(((2:Nat):Int)==(c.length:Int))=true:=aC
 have df:((2:Int)==(c.length:Int))=true:=aC
 have E1:=Z (show R=RO.ap true 1 at_ ((hZ at_ (bF (aB.aN c) 0) (bF (aB.aN c) 0) (bF (aB.aN c) 1)).bind λd=>RO.ap (decide (d.length<=24)) 3 at_ (.ok (.mk 4 0 (aB.aN c) [] [] 0 0 d))) by rw[E0.out,decide_eq_true hN]);clear E0;refine dB 12 eF eG λhS=>?_;refine dg ?_;refine eh ?_;refine aK 11 (λK hK=>?_);go_simp;refine bJ K3.drew E1 eH λcb=>?_;try go_simp
 refine hK _ _ (λ_=>hS) ?_;refine av ?_;refine b2 ?_;refine bV ?_;clear hS a4 df eF eG eH E1;have b:=Z ((ag.refl a3).drew);obtain⟨aD,q⟩:=aq a3.drew;rw[<-q]at b⊢;clear q;have dh:=qk K3 b;have di:=qb b b8;have dj:=qb b b9;have cc:=qb b ca;clear b;go_upto_region 5 with(fail)
 obtain⟨ah,q,bA,b,-⟩:=nb aD 79 #[aa];rw[q];clear q;have cd:=qk dh b;have ce:=qb b di;have dk:=qb b dj;have dl:=qb b cc;clear b;have q:=J.lt cc;have q:0<c.length:=ae
 obtain⟨z,A,ak,ao,a5⟩:=jo (bz ah cd) 0 q;have T:=Z (S.sub _ (List.getElem_mem q)).res;have q:=jn c 0 q;obtain⟨aZ,a1⟩:=aq (c[0]);rw[<-a1]at a5 T q;obtain⟨⟨C,ao,H⟩,ar⟩:∃bD,bD=aZ.ha:=⟨_,rfl⟩;obtain⟨f,aZ⟩:=aq aZ.attrs;rw[<-ar]at a5;rw[<-ar,<-aZ]at T;rw[<-aZ]at q;have cf:=Z (show R=_ by rw[cb.out,q]);clear cb a1 ar aZ;have cg:ac ah (ab z (A+0*8+7)) (U C ao H):=a5;have dm:ac ah (ab z (A+7)) (U C ao H):=by simpa using cg
 have dn:b5=some ⟨z,A,none⟩:=ak;have dq:f.length=ao:=T.a.1.1;subst dq;clear a5 ak;subst dn;have dr:ac ah (ab g 2) (U (some ⟨z,A,none⟩) c.length ax):=J.cell ce 2;have ds:=az bA;have dt:=λd=>J.frozen bA d;go_upto_region 7 with(fail)
 have V:=Z (jB bA (U C f.length H));have w:=Z (Kp.aE (p:=(am aD 0)) (l:=[aD.heap.size]) ai (Kp.refl [aD.heap.size] ah) (U C f.length H));obtain⟨t,q⟩:=aq (ah.setCell (am aD 0) (U C f.length H));rw[<-q]at V w⊢;clear q;have bE:=Z (w.old cd (λi i j=>absurd j (by rw[aA i];omega)));have a6:=qo w ce;have du:=qo w dk;have dv:=qo w dl;have a7:=V;clear V w;clear dt dr ds dm cg;have bG:=Z (λ(i:af) (j:Kp [g] o i)=>T.keep j (λi i hS=>by have j:=hS.1;have i:=aA i;omega));have bH:1<c.length:=by omega
 obtain⟨q,ah,ak,ao,a8⟩:=jo (bz t bE) 1 bH;injection ak with ak
 injection ak with oE oF
 subst oE oF;have al:=Z (S.sub _ (List.getElem_mem bH)).res;have ah:=jn c 1 bH;obtain⟨ar,aD⟩:=aq (c[1]);rw[<-aD]at a8 al ah;obtain⟨⟨a9,q,ak⟩,ao⟩:∃bD,bD=ar.ha:=⟨_,rfl⟩;obtain⟨i,ar⟩:=aq ar.attrs;rw[<-ao]at a8;rw[<-ao,<-ar]at al;rw[<-ar]at ah;have ch:=Z (show R=_ by rw[cf.out,ah]);clear cf aD ao ar;have bI:ac t (ab z (A+1*8+7)) (U a9 q ak):=a8;have dw:ac t (ab z (A+15)) (U a9 q ak):=by simpa using bI
 have dx:ac t (ab z (A+8+7)) (U a9 q ak):=by simpa using bI
 have dy:i.length=q:=al.a.1.1;subst dy;clear a8;have dz:ac t (ab g 2) (U (some ⟨z,A,none⟩) c.length ax):=J.cell a6 2;have dA:=J.lt a6;go_upto_region 9 with(fail)
 clear dz dw bI dx;have dC:=Z (λ(j:af) (m:Kp [g] o j)=>al.keep m (λj j hS=>by have m:=hS.1;have j:=aA j;omega));have dD:=Z (Kp.refl [g] t);have dE:=az a7;have q:=J.lt a7;have dF:=az dv;have dA:=J.lt a6;have ci:=Z (uR ⟨C,f.length,H⟩ f t (bG t bE).a T.l);go_upto_region 29 with(fail)
 go_wp2_with fail
 refine(ci).mono ?_;rintro e q ⟨cj,ck,rfl,b,dG⟩;have bK:=qb b a6;have dH:=qb b a7;have dI:=qk dD b;clear b;have dJ:=b7 bK;clear dE dF ci;have dK:=λd=>J.frozen bK d;go_upto_region 30 with(fail)
 obtain⟨ak,ah,dL,q⟩:=qV bK (U cj f.length ck);rw[ah];clear ah;have dM:=Z (dI.trans q);have ah:=qo q dH;have q:=q;have dN:=Z (bC dG q (λj j=>by have:=aA j;omega));clear dJ dK;obtain⟨dO,dP,dQ,dR,dS⟩:=info_parts Tryz.infoAt;have q:=T.l;have q:=al.l;go_wp2;go_loopg [170] (i.length+1) (λu x wr=>∃(d j:Nat) (m:List RA) (q:aX) (r:Nat),x=.int .i64 d/\d<=i.length/\i.length-d<u/\m.length=j/\j<=f.length+d/\Hid (J wr g 105 #[O 4,O 0,U (some ⟨z,A,none⟩) c.length ax,aa,aa,O 0,O 0,U q j r])/\Hid (wr.ownsRow t.heap.size 111 6 (U q j r) j (m.flatMap RA.cells))/\Hid (∀j∈m,gL j/\aG j.at_.name/\aG j.at_.dflt.s)/\Hid (Kp [g] t wr)/\Hid (R=(hZ at_ (f.map RA.at_) (m.map RA.at_) ((i.map RA.at_).drop d)).bind (λj=>RO.ap (decide (j.length<=24)) 3 at_ (.ok (.mk 4 0 (aB.aN c) [] [] 0 0 j)))))
 case atStart=>exact⟨0,f.length,f,cj,ck,rfl,by omega,by omega,rfl,by omega,dL,dN,Z T.out.bare,dM,ch⟩
 obtain⟨d,j,B,aI,aL,rfl,em,cl,cm,a0,bL,bM,bN,an,bb⟩:=hrel;have bf:=Z cl;have aM:=Z cm;clear cl cm ch;have W:=Z (bE.trans an);have q:=an.size;have bO:=qo an du;have cn:=qo an a7;by_cases bP:d<i.length
 case neg=>
  have q:¬(d:Int)<i.length:=ae
  have m:=Z (show R=RO.ap (decide (j<=24)) 3 at_ (.ok (.mk 4 0 (aB.aN c) [] [] 0 0 (B.map RA.at_))) by rw[bb.out,List.drop_of_length_le (by rw[List.length_map];omega),<-aM.out];show RO.ap (decide ((B.map RA.at_).length<=24)) _ _ _=_;rw[List.length_map]);clear bb;go_upto_region 38 with(fail)
  have u:=az bO;have x:=b7 bL;by_cases q:j<=24
  case neg=>
   have a4:decide ((j:Int)<=24)=false:=aC
   rw[show decide (j<=24)=false by simp;omega]at m;refine dB 8 u x λhS=>?_;refine cJ ?_;refine jl ?_;refine aK 7 (λK hK=>?_);go_simp;exact bv W.drew m (ay wr W)
  have a4:decide ((j:Int)<=24)=true:=aC
  rw[show decide (j<=24)=true by simp;omega]at m;refine dB 8 u x λhS=>?_;refine cJ ?_;refine jl ?_;refine aK 7 (λK hK=>?_);go_simp;refine bJ W.drew m (ay wr W) λE=>?_;try go_simp
  refine hK _ _ (λ_=>hS) ?_;refine av ?_;refine b2 ?_;refine bV ?_;clear hS u x a4 m;have b:=Z ((ag.refl wr).drew);obtain⟨D,m⟩:=aq wr.drew;rw[<-m]at b⊢;clear m;have r:=qk W b;have F:=qb b bL;have m:=qb b bO;have m:=qb b cn;have m:=qk an b;have m:=r.size;have m:=Z (aH b bM);clear b;have G:=Z ((kQ m.out aM.out (by have:=aM.out;omega) bN.out).mono (S':=Bw ad D.heap.size) (λm m=>⟨by have:=m.1;omega,m.2⟩));go_wp2;first|go_end0|refine bodyPost_ret (results_none rfl _ _ _) rfl ?_
  rw[E.out];have u:∀m∈[g],¬Bw ad o.heap.size m:=λm q hS=>by have x:=hS.1;have x:=aA q;omega
  have m:∀m,Bw ad o.heap.size m->Bw ad D.heap.size m:=λm q=>⟨q.1,by have:=q.2;omega⟩;refine⟨r,_,rfl,rfl,(aB.mk 4 (0) ⟨(some ⟨z,A,none⟩),c.length,ax⟩ c aJ [] aJ [] (0) (0) ⟨aI,j,aL⟩ B),kg,F,.mk (bz D r) (S.ik.mono m) (λq v=>((S.sub q v).keep r u).mono m) (aF.none_ _ 12 _) (aS.none_ _ _ _) (aF.none_ _ 1 _) (aS.none_ _ _ _) G⟩
 have q:(d:Int)<i.length:=ae
 have q:(0:Int)<=d:=ae
 obtain⟨q,z,T,A,aP,I,aQ,aR,aT,aU⟩:=iq (dC wr W).a d bP;have bR:a9=some ⟨q,z,none⟩:=T;have co:=Z (al.bare _ (List.getElem_mem bP));have S:(i.map RA.at_).drop d=i[d].at_::(i.map RA.at_).drop (d+1):=by rw[List.drop_eq_getElem_cons (by simpa using bP),List.getElem_map]
 obtain⟨A,ad⟩:=aq (i[d]);rw[<-ad]at aP I aQ aR aT aU co S;obtain⟨⟨r,m,bS,⟨D,E,F⟩⟩,⟨L,M,N⟩⟩:=A;obtain⟨X,A⟩:=aq (ed (f.map RA.at_) r);have cp:Hid (X<(f.map RA.at_).length):=Z (by rw[A];exact(lr (λy:At=>decide (y.name=r)) (f.map RA.at_)).2);have cq:Hid (∀u,Kp [g] o u->Calls Tryz.prog 274 #[U C f.length H,r] u λe w'=>e=.returned X/\ag u w'):=Z (λo u=>by rw[A];exact q1 ⟨C,f.length,H⟩ f r o (bG.out o u).a);have bg:Hid (R=(if X<0 then hZ at_ (f.map RA.at_) (B.map RA.at_++[⟨r,m,bS,⟨D,E,F⟩⟩]) ((i.map RA.at_).drop (d+1))else RO.ap (decide ((cE (f.map RA.at_) X).kind=m)) 10 at_ (hZ at_ (f.map RA.at_) (B.map RA.at_) ((i.map RA.at_).drop (d+1)))).bind (λo=>RO.ap (decide (o.length<=24)) 3 at_ (.ok (.mk 4 0 (aB.aN c) [] [] 0 0 o)))):=Z (by rw[bb.out,S,A];rfl);clear ad T S bb A;have dT:ac wr (ab q (z+d*6)) r:=aP;have dU:ac wr (ab q (z+d*6+1)) m:=I;have dV:ac wr (ab q (z+d*6+2)) (U L M N):=aQ;have dW:ac wr (ab q (z+d*6+3)) D:=aR;have dX:ac wr (ab q (z+d*6+4)) E:=aT;have dY:ac wr (ab q (z+d*6+5)) F:=aU;have o:IntKind.i64.wrap ((d:Int)+1)=(d:Int)+1:=IntWalk.i64_in _ ae;clear aP I aQ aR aT aU;subst bR;go_upto_region 33 with(fail)
 clear dT dU dV dW dX dY;obtain⟨q,o,cr,b,-⟩:=nb wr 111 #[r,m,U L M N,D,E,F];rw[o];clear o;have bT:=qk W b;have dZ:=qb b bL;have d0:=qb b bO;have cs:=qb b cn;have d1:=Z (aH b bM);have d2:=qk an b;have o:=bT.size;clear b;have d3:=az cs;have d4:=az cr;have ct:=Z (cq q bT);go_wp2_with fail
 refine(ct).mono ?_;rintro e Y ⟨rfl,b⟩;have aV:=qk bT b;have bU:=qb b dZ;have d6:=qb b d0;have d7:=qb b cs;have G:=qb b cr;have cu:=Z (aH b d1);have cv:=qk d2 b;clear b;clear ct cq d3 d4;by_cases v:X<0
 case pos=>
  have o:=decide_eq_true v;have d8:=Z (show R=(hZ at_ (f.map RA.at_) ((B++[(⟨⟨r,m,bS,⟨D,E,F⟩⟩,⟨L,M,N⟩⟩:RA)]).map RA.at_) ((i.map RA.at_).drop (d+1))).bind (λo=>RO.ap (decide (o.length<=24)) 3 at_ (.ok (.mk 4 0 (aB.aN c) [] [] 0 0 o))) by rw[bg.out,if_pos v,List.map_append];rfl);clear bg;go_upto_region 35 with(fail)
  have o:=b7 bU;have q:=az G;have y:=aY G;have z:=bh G;have A:=bj G;have H:=bn G;have S:=bQ G;refine nQ 8 o q y z A H S λhS=>?_;refine cJ ?_;refine gt ?_;refine tk 5 hS ?_;have q:=Z ((ag.refl Y).drew);obtain⟨P,o⟩:=aq Y.drew;rw[<-o]at q hS⊢;clear o;have bk:=qb q bU;have o:=qb q G;have bW:=Z (aH q cu);have d9:=qk cv q;clear q hS;have cw:=b7 bk;have q:=J.lt bk;have cx:=az o;have cz:=aY o;have cA:=bh o;have cB:=bj o;have cD:=bn o;have cF:=bQ o;have o:=J.lt o;have cG:(λw':World=>ac w' (ab g 7) (U aI j aL)/\ac w' (am wr 0) r/\ac w' (am wr 1) m/\ac w' (am wr 2) (U L M N)/\ac w' (am wr 3) D/\ac w' (am wr 4) E/\ac w' (am wr 5) F) (P.alloc (.cells #[r,m,U L M N,D,E,F] 111)):=⟨bi cw,bi cx,bi cz,bi cA,bi cB,bi cD,bi cF⟩;refine aK 6 (λK hK=>?_);go_simp;refine hK _ _ (λ_=>cG) ?_;refine av ?_;have cH:=Z (aH ((ag.refl P).alloc (.cells #[r,m,U L M N,D,E,F] 111)) bW);have cI:=Z (cC P #[r,m,U L M N,D,E,F] 111 6 rfl);have hrow:∀u,(Value.slice aI j aL).ownBlock=some u->t.heap.size<=u/\u<P.heap.size/\u<wr.heap.size:=λu x=>⟨(b3 bW u x).1,(b3 bW u x).2,(λu x=>(b3 bM u x).2) u x⟩;have o:=J.lt bk;refine aK 7 (λK hK=>?_);refine c7 (P.alloc _) (.tmp 184) (.tmp 186) 79 rfl (t.heap.size) 111 dO _ 6 80 Tryz.underlying79 dP dQ dR dS rfl au (U aI j aL) j (B.flatMap RA.cells) rfl cH (P.heap.size+1) (some ⟨P.heap.size,0,none⟩) 1 1 ((_:aO).toList) rfl cI bl b1 ae aC ?_;intro o cK bX x ea;obtain⟨bp,bq,rfl,eb⟩:=bo bX;have ec:=Z bX;have bY:=Z x;have Q:=Z (fm ((Kp.refl [] P).alloc _) x);clear bX x ea eb;have bZ:=Z (J.grown (bk.alloc _) bY (λe=>by have:=hrow _ e.symm;omega));have ee:=b7 bZ;have ef:=λd=>J.frozen bZ d;refine hK _ _ (λ_=>⟨bw Q cw,bw Q.out cx,bw Q.out cz,bw Q.out cA,bw Q.out cB,bw Q.out cD,bw Q.out cF⟩) ?_;clear hK K cG;refine av ?_;refine b2 ?_;refine tq 8 ?_;refine tq 9 ?_;refine dp 10 (λK hK=>?_);go_simp;refine hK _ _ ?_;refine av ?_;refine bV ?_;have o:=Z ((d9.alloc _).grown bY (λu x=>.inr (by have:=hrow u x;omega)));clear cH cI bY Q hrow ee ef;have V:=Z (gp bZ (U bp (j+1) bq));have w:=Z (Kp.aE (p:=(ab g 7)) (l:=[g]) ai (Kp.refl [g] cK) (U bp (j+1) bq));obtain⟨q,g⟩:=aq (cK.setCell (ab g 7) (U bp (j+1) bq));rw[<-g]at V w⊢;clear g;have eg:=Z (o.trans w);have ei:=w;have ej:=V;clear V w;go_wp2_with fail
  go_roundg (i.length-d)
  case measure=>have:=bf.out;omega
  refine⟨d+1,j+1,B++[(⟨⟨r,m,bS,⟨D,E,F⟩⟩,⟨L,M,N⟩⟩:RA)],bp,bq,by go_num,by omega,by have:=bf.out;omega,by rw[List.length_append,aM.out];rfl,by omega,ej,Z (bC (by rw[List.flatMap_append];exact ec.out) ei.out (λg g=>by have:=aA g;omega)),Z ?_,eg,d8⟩;intro ek aW;rcases cY aW with aW|aW
  ·exact bN ek aW
  rw[aA aW];exact co.out
 have g:=decide_eq_false v;obtain⟨u,bX⟩:∃u:Nat,X=u:=⟨X.toNat,by omega⟩;subst bX;have g:u<f.length:=by have:=cp.out;rw[List.length_map]at this;omega
 obtain⟨ba,o,bq,q,aP,I,aQ,aR,aT,aU⟩:=iq (bG Y aV).a u g;have bR:C=some ⟨ba,o,none⟩:=bq;obtain⟨x,Q⟩:=aq (f[u].at_.kind);rw[<-Q]at I;have o:(u:Int)<f.length:=ae
 have o:(0:Int)<=u:=ae
 have bW:(x==m)=decide (x=m):=by by_cases h:x=m<;>simp[h]
 have P:=Z (show R=RO.ap (x==m) 10 at_ ((hZ at_ (f.map RA.at_) (B.map RA.at_) ((i.map RA.at_).drop (d+1))).bind (λo=>RO.ap (decide (o.length<=24)) 3 at_ (.ok (.mk 4 0 (aB.aN c) [] [] 0 0 o)))) by rw[bg.out,if_neg v,RO.gK,jY f u g,<-Q,bW]);generalize bY:(x==m)=bZ at P;clear bg Q aP aQ aR aT aU bq bW v cp;subst bR;go_upto_region 36 with(fail)
 have aW:=az d6;have bk:=az d7;have bp:=aY G;cases bZ
 case false=>
  refine kH 10 aW bk bp I λhS=>?_;refine dg ?_;refine aK 9 (λK hK=>?_);go_simp;exact bv aV.drew P (ay Y aV)
 refine kH 10 aW bk bp I λhS=>?_;refine dg ?_;refine aK 9 (λK hK=>?_);go_simp;refine bJ aV.drew P (ay Y aV) λcw=>?_;try go_simp
 refine hK _ _ (λ_=>hS) ?_;refine av ?_;refine b2 ?_;refine bV ?_;clear hS aW bk bp I bY P;have b:=Z ((ag.refl Y).drew);obtain⟨f,c⟩:=aq Y.drew;rw[<-c]at b⊢;clear c;have cx:=qb b bU;have c:=qb b G;have cz:=Z (aH b cu);have cA:=qk cv b;clear b;go_wp2_with fail
 go_roundg (i.length-d)
 case measure=>have:=bf.out;omega
 exact⟨d+1,j,B,aI,aL,by go_num,by omega,by have:=bf.out;omega,aM.out,by omega,cx,cz,bN,cA,cw⟩
theorem p7 {a d e:af} {row:Option Nat} (b:ag a d) (c:d.grownBy e row):a.grownBy e row:=
 ⟨c.os.trans b.os,c.tape.trans b.tape,c.output.trans b.output,bR b.size c.size,λd e f=>(c.block d (aT e b.size) f).trans (b.block d e)⟩
theorem Dn (a:af) (d:Nat) (i:a.heap.size=d) (b:aO) (e:bb) (f:Nat) (j:b.size=f):cu (a.alloc (.cells b e)) (d+1) f (some ⟨d,0,none⟩) 1 b.toList:=by
 subst i;refine⟨by simp[j],λ_=>⟨_,rfl,Nat.lt_succ_self _,λc d g=>?_⟩⟩;have h:=(J.new a e b).cell c;have k:(⟨a.heap.size,0,none⟩:Addr).add c=⟨a.heap.size,c,none⟩:=by unfold Addr.add;split<;>simp_all
 rw[k,h];simpa using g
theorem Do (m c d e:Nat) (n:ay) (o:bg) (a p g i j:Int) (q r k l:aw) (b:af) (v:c<b.heap.size) (E:m<=b.heap.size) (H:e<=1000000)
 (F:ac b (ab c (d+1)) n) (G:b.frozen? (ab c (d+1))=false) (s:b.ownsRow m 111 6 n e o) (w:n.ownBlock≠some c):
 Calls Tryz.prog 248 #[.pointer (some ⟨c,d,none⟩),.agg #[p,q,r,k,g,i,j,l],a] b λH I=>∃t f,H=.returned (.tuple #[])/\
  f.ownsRow m 111 6 t (e+1) (o++[.string k,.int .i64 g,.slice none 0 0,.int .i64 i,.int .i64 j,.string l])/\b.grownBy f n.ownBlock/\I=f.setCell (ab c (d+1)) t:=by
 obtain⟨J,K,L,M,N⟩:=info_parts Tryz.rv;have O:=Z s;have x:=Z w;have y:Hid (e+1<=maxLen/\(e+1)*80<=140737488355328):=⟨by unfold maxLen;omega,by omega⟩;have P:=Z E;have Q:Hid ((b.alloc (.cells #[p,q,r,k,g,i,j,l] 99)).drew.heap.size=b.heap.size+1):=by show _=_;rw[d5];simp
 have n:c≠b.heap.size:=ae
 obtain⟨z,A,rfl⟩:=nL s;clear s w;go_enter Tryz.func248,Tryz.ntmps248
 go_wp2;go_region_law (first|(refine m9 _ rfl (.tmp 10) (.tmp 18) 79 rfl m 111 J _ 6 80 Tryz.underlying79 K L M N rfl au (U z e A) e o rfl ((O.out.alloc _).drew.alloc _) _ _ 1 1 [.string k,.int .i64 g,.slice none 0 0,.int .i64 i,.int .i64 j,.string l] rfl (Dn (b.alloc (.cells #[p,q,r,k,g,i,j,l] 99)).drew (b.heap.size+1) Q.out #[k,g,aa,i,j,l] _ 6 rfl) (by intro g u;simp at u;rcases u with rfl|rfl|rfl|rfl|rfl|rfl<;>rfl) y.out.1 y.out.2 ?_ ?_;exact bR P.out (((ag.refl b).alloc _).drew.alloc _).size;intro t f u B R;obtain⟨S,T,rfl⟩:=nL u;have C:=Z u;have b:=p7 (((ag.refl b).alloc _).drew.alloc _) B;have D:=Z b;have e:ac f (ab c (d+1)) (U z e A):=(World.cell?_of_block (a:=⟨c,d+1,none⟩) (b.block c v x.out.symm)).trans F;have c:f.frozen? (ab c (d+1))=false:=(World.frozen?_of_block (a:=⟨c,d+1,none⟩) (b.block c v x.out.symm)).trans G;clear u B R b))
 all_goals
  go_wp2;go_end0
  exact⟨_,f,rfl,C.out,D.out,rfl⟩
theorem Du (B d b e c a:Nat) (p:bg) (j:af) (s:j.ownsRow B 111 6 (U (some ⟨d,0,none⟩) b e) b p) (C:∀g∈p,g.oneCell'=true) (O:c<b) (q:a=c+1) (D:b<=1000000):
 Calls Tryz.prog 252 #[U (some ⟨d,0,none⟩) b e,c,a] j λP D=>P=.returned (U (some ⟨d,0,none⟩) (b-1) e)/\D.ownsRow B 111 6 (U (some ⟨d,0,none⟩) (b-1) e) (b-1) (p.take (c*6)++p.drop ((c+1)*6))/\j.grownBy D (some d):=by
 obtain⟨Q,R,B,S,D⟩:=info_parts Tryz.rv;have T:=Z (BU s.drew O [.string ByteArray.empty,.int .i64 0,.slice none 0 0,.int .i64 0,.int .i64 0,.string ByteArray.empty] rfl);obtain⟨B,t,u,D,l,E,V,z,F⟩:=fE s ae;injection u with u
 injection u with e1
 subst e1;have G:=s.1;have W:a*6<=b*6:=Nat.mul_le_mul_right _ ae;have X:b*6<=e*6:=Nat.mul_le_mul_right _ V;have H:t.toList.length=e*6:=by simp[E]
 obtain⟨k,r⟩:=aq (p.drop (a*6));have n:k.length=(b-a)*6:=by rw[r,List.length_drop,G,Nat.sub_mul]
 have I:∀f g,k[f]?=some g->ac j (ab d (a*6+f)) g:=by
  intro f g i;rw[r,List.getElem?_drop,<-F,List.getElem?_take]at i;split at i
  ·rw[l.cell];simpa using i
  cases i
 obtain⟨v,u,Y⟩:∃v:Addr,(if e=a then(some (⟨d,0,none⟩:Addr))else some ⟨d,a*6,none⟩)=some v/\Hid (∀f g,k[f]?=some g->ac j.drew (v.add f) g):=by
  by_cases h:e=a
  ·refine⟨⟨d,0,none⟩,by simp[h],λf g i=>?_⟩
   have m:k.length=0:=by rw[n,show b-a=0 by omega,Nat.zero_mul]
   rw[List.length_eq_zero_iff.1 m]at i;simp at i
  refine⟨⟨d,a*6,none⟩,by simp[h],λf g i=>?_⟩;rw[show(⟨d,a*6,none⟩:Addr).add f=⟨d,a*6+f,none⟩ by unfold Addr.add;split<;>simp_all];exact I f g i
 have aa:Hid (k.length=(b-a)*6):=n;have ad:Hid (∀g∈k,g.oneCell'=true):=by
  intro g i;rw[r]at i;exact C g (List.mem_of_mem_drop i)
 have ah:Hid (∀f,f<k.length->(j.drew.cell? (ab d (0+c*6+f))).isSome=true/\j.drew.frozen? (ab d (0+c*6+f))=false):=by
  intro f y;rw[n]at y;have m:a*6=c*6+6:=by rw[q,Nat.add_mul,Nat.one_mul]
  have m:(b-a)*6=b*6-a*6:=Nat.sub_mul _ _ _;rw[Nat.zero_add];refine⟨?_,l.drew.frozen _⟩;rw[l.drew.cell,Array.getElem?_eq_getElem ae];rfl
 obtain⟨m,w⟩:=aq (j.drew.setCells d (0+c*6) k);have K:J j.drew d 111 t.toList.toArray:=by simpa using l.drew
 have x:=pR k (0+c*6) t.toList j.drew K (by
  have o:a*6=c*6+6:=by rw[q,Nat.add_mul,Nat.one_mul]
  have o:(b-a)*6=b*6-a*6:=Nat.sub_mul _ _ _;rw[n];omega)
 rw[<-w]at x;have L:(g8 t.toList (0+c*6) k).length=e*6:=by
  have o:a*6=c*6+6:=by rw[q,Nat.add_mul,Nat.one_mul]
  have o:(b-a)*6=b*6-a*6:=Nat.sub_mul _ _ _;rw[rx _ _ _ (by rw[n];omega),H]
 have t:∀p,(Builtin.clear_ #[79] p #[U (some ⟨d,(c+(b-a))*6,none⟩) (b-(c+(b-a))) (e-(c+(b-a)))]).run Tryz.prog m=.ok (.tuple #[]) (m.setCells d ((c+(b-a))*6) [.string ByteArray.empty,.int .i64 0,.slice none 0 0,.int .i64 0,.int .i64 0,.string ByteArray.empty]):=by
  intro p;rw[show b-(c+(b-a))=1 by omega];have o:(c+(b-a))*6+6<=e*6:=by
   have:(c+(b-a)+1)*6<=e*6:=Nat.mul_le_mul_right _ ae;rw[Nat.add_mul]at this;omega
  refine BT m _ 111 p (.agg _) [.string ByteArray.empty,.int .i64 0,.slice none 0 0,.int .i64 0,.int .i64 0,.string ByteArray.empty] Tryz.underlying79 (λ_=>by kernel_rfl) rfl (by intro g i;simp at i;rcases i with rfl|rfl|rfl|rfl|rfl|rfl<;>rfl) d _ _ (λf y=>?_) (λf _=>x.frozen _);rw[x.cell,List.getElem?_toArray,List.getElem?_eq_getElem (by rw[L];simp at y;omega)];rfl
 have M:Hid (m=j.drew.setCells d (0+c*6) k):=w;have f:c<=e:=ae
 have f:a<=e:=ae
 have f:a<=b:=ae
 have f:c<=a:=ae
 have f:((c:Int)==(a:Int))=false:=aC
 have f:¬e=c+(b-a):=ae
 have f:e<=9223372036854775807:=by unfold maxLen at z;exact z
 have A:=Z q;have N:=Z r;have o:Hid (j.grownBy m (some d)):=by
  show j.grownBy m (some d);rw[w];exact p7 (ag.refl j).drew (uN d k _ _)
 clear s I r n w x L l K F E H W X G z q C;go_enter Tryz.func252,Tryz.ntmps252
 go_wp2_with fail
 go_region_law (refine step_append_room rfl (.tmp 22) (.tmp 25) 79 rfl 111 Q 6 Tryz.underlying79 R S d 0 c e (by simp[Act.eval,Act.put]) v (b-a) (e-a) k (by simp[Act.eval,Act.put]) aa.out Y.out ad.out ae ah.out ?_;rw[<-M.out])
 go_wp2;go_ret;have e:c+(b-a)=b-1:=by have:=A.out;omega
 refine⟨by rw[e];rfl,?_,?_⟩
 ·have:=T.out
  rw[<-A.out,<-N.out]at this;have f:=M.out;rw[Nat.zero_add]at f;rw[<-f]at this;rw[e,<-A.out,<-N.out];exact this
 have a:=uN d [.string ByteArray.empty,.int .i64 0,.slice none 0 0,.int .i64 0,.int .i64 0,.string ByteArray.empty] ((c+(b-a))*6) m;exact⟨a.os.trans o.os,a.tape.trans o.tape,a.output.trans o.output,bR o.size a.size,λb l c=>(a.block b (aT l o.size) c).trans (o.block b l c)⟩
def gP (b:Nat) (a:Int):Int:=if(b:Int)<a then a-1 else a
def di (c:Nat) (a:List Int) (b:Nat):List Int:=(a.take b).map (gP c)++a.drop b
theorem Dv (b:Nat) (a:List Int):di b a 0=a:=by simp[di]
theorem Dw (b:Nat) (a:List Int):di b a a.length=a.map (gP b):=by simp[di]
theorem rP (b:Nat) (a:List Int) (c:Nat):(di b a c).length=a.length:=by simp[di];omega
theorem vE (d:Nat) (b:List Int) (a:Nat) (c:a<b.length):(di d b a)[a]'(by rw[rP];exact c)=b[a]:=by
 simp only[di];rw[List.getElem_append_right aC];simp[Nat.min_eq_left (Nat.le_of_lt c)]
theorem vF (c:Nat) (b:List Int) (a:Nat) (d:a<b.length):di c b (a+1)=(di c b a).set a (gP c b[a]):=by
 unfold di;rw[List.take_succ_eq_append_getElem d,List.map_append,List.drop_eq_getElem_cons d,List.set_append_right _ _ aC];have a:a-(List.map (gP c) (List.take a b)).length=0:=aC
 rw[a];simp;rw[List.drop_eq_getElem_cons d];rfl
theorem Dx (c:Nat) (b:List Int) (a:Nat) (e:a<b.length) (h:gP c b[a]=b[a]):di c b (a+1)=di c b a:=by
 rw[vF c b a e,h];apply List.ext_getElem ai;intro b c c;by_cases d:a=b
 ·subst d;rw[List.getElem_set_self,vE]
 rw[List.getElem_set_ne d]
section
variable {W0 w w':af} {g c i:Nat} {ts:List RT} {t:RT}
theorem bU.cell (S:bU W0 w g c ts i t) (j:Nat) (a:j<3):w.cell? (ab g (i*3+j))=t.cells[j]?:=by
 have:=ke RT.eE S.row rfl i S.lt j a;rw[S.get]at this;exact this
theorem bU.free (b:bU W0 w g c ts i t) (d:Nat):w.frozen? (ab g d)=false:=by
 obtain⟨b,j,a,_,f,_⟩:=fE b.row (Nat.lt_of_le_of_lt (Nat.zero_le _) b.lt);injection a with a
 injection a with e
 subst e;exact f.frozen d
theorem bU.rQ (d:bU W0 w g c ts i t) (h:0<t.ra.length):∃a ca,t.ha=⟨some ⟨a,0,none⟩,t.ra.length,ca⟩/\W0.heap.size<=a/\a<w.heap.size/\g≠a/\(∀e,w.frozen? (ab a e)=false)/\w.ownsRow W0.heap.size 111 6 (U (some ⟨a,0,none⟩) t.ra.length ca) t.ra.length (t.ra.flatMap RA.cells):=by
 have b:=d.ar;obtain⟨⟨j,l,ca⟩,f⟩:∃h,t.ha=h:=⟨_,rfl⟩;have m:l=t.ra.length:=by have:=d.an;rw[f]at this;exact this
 subst m;have j:(⟨j,t.ra.length,ca⟩:Hd).val=.slice j t.ra.length ca:=rfl;rw[f,j]at b;obtain⟨a,j,n,o,k,_⟩:=fE b h;subst n;exact⟨a,ca,f,o,k.lt,λa=>gM d.row b au (by simp[Value.ownBlock,a]),λe=>k.frozen e,b⟩
theorem bU.Dy (d:bU W0 w g c ts i t) (h:0<t.key.length):∃gk ck,t.hk=⟨some ⟨gk,0,none⟩,t.key.length,ck⟩/\W0.heap.size<=gk/\gk<w.heap.size/\g≠gk/\(∀a,w.frozen? (ab gk a)=false)/\∀a (j:a<t.key.length),ac w (ab gk a) (O t.key[a]):=by
 have b:=d.kr;obtain⟨⟨k,n,e⟩,f⟩:∃h,t.hk=h:=⟨_,rfl⟩;have o:n=t.key.length:=by have:=d.kn;rw[f]at this;exact this
 subst o;have k:(⟨k,t.key.length,e⟩:Hd).val=.slice k t.key.length e:=rfl;rw[f,k]at b;obtain⟨p,k,q,r,l,_⟩:=fE b h;subst q;refine⟨p,e,f,r,l.lt,λe=>gM d.row b au (by simp[Value.ownBlock,e]),λa=>l.frozen a,λa j=>?_⟩;have:=ke (enc:=cj) (m:=1) (λ_=>rfl) b rfl a j 0 Nat.one_pos;simpa[cj]using this
end
theorem Dz (W0 w:af) (g c i a:Nat) (ts:List RT) (t:RT) (q E F G:Int) (H I J K:aw) (S:bU W0 w g c ts i t) (ha:a<t.ra.length) (am:t.ra.length<=1000000) (an:t.key.length<=1000000) (L:∀k∈t.key,0<=k/\k<=1000000):
 Calls Tryz.prog 251 #[.pointer (some ⟨g,i*3,none⟩),.agg #[q,H,I,J,E,F,G,K],a] w λf w'=>f=.returned (.tuple #[])/\
  (∃h',bU W0 w' g c (ts.set i {t with ra:=t.ra.eraseIdx a,ha:=h',key:=t.key.map (gP a)}) i {t with ra:=t.ra.eraseIdx a,ha:=h',key:=t.key.map (gP a)})/\cV w w':=by
 obtain⟨d,j,kj,V,aI,M,ao,y⟩:=S.rQ ae;have N:ac w (ab g (i*3+1)) (U (some ⟨d,0,none⟩) t.ra.length j):=by
  exact wn
 obtain⟨⟨P,V,m⟩,p⟩:∃h,t.hk=h:=⟨_,rfl⟩;have ap:V=t.key.length:=by have:=S.kn;rw[p]at this;exact this
 subst ap;have Q:ac w (ab g (i*3+2)) (U P t.key.length m):=by
  have:=S.cell 2 ae;rw[this];show some t.hk.val=_;rw[p];rfl
 have R:w.frozen? (ab g (i*3+1))=false:=S.free _;have T:=S.oA.2;have V:g≠w.heap.size:=ae
 have W:∀V∈t.ra.flatMap RA.cells,V.oneCell'=true:=by
  intro V e;obtain⟨e,_,b⟩:=List.mem_flatMap.1 e;simp only[RA.cells,List.mem_cons,List.not_mem_nil,or_false]at b;rcases b with rfl|rfl|rfl|rfl|rfl|rfl<;>rfl
 obtain⟨q,E⟩:=aq (Obj.cells #[q,H,I,J,E,F,G,K] 99);have z:Hid (Calls Tryz.prog 252 #[U (some ⟨d,0,none⟩) t.ra.length j,a,O ((a:Int)+1)] (w.alloc q) λf w'=>f=.returned (U (some ⟨d,0,none⟩) (t.ra.length-1) j)/\w'.ownsRow W0.heap.size 111 6 (U (some ⟨d,0,none⟩) (t.ra.length-1) j) (t.ra.length-1) ((t.ra.flatMap RA.cells).take (a*6)++(t.ra.flatMap RA.cells).drop ((a+1)*6))/\(w.alloc q).grownBy w' (some d)):=
  Du W0.heap.size d t.ra.length j a (a+1) _ (w.alloc q) (y.alloc q) W ha rfl am
 have r:=Z S;have ar:=Z y;rw[E]at z;clear S y W E;have q:(a:Int)+1<=1000000:=ae
 go_enter Tryz.func251,Tryz.ntmps251
 go_wp2_with fail
 refine z.mono ?_;rintro f s ⟨rfl,X,n⟩;have B:=n.block g aC (λf=>M (by injection f));have q:=λb=>(World.cell?_of_block B).trans (((ag.refl w).alloc _).cells g b T);have y:=λb=>(World.frozen?_of_block B).trans (((ag.refl w).alloc _).frees g b T);have au:=(q (i*3+1)).trans N;have av:=(y (i*3+1)).trans R;have ax:=(q (i*3+2)).trans Q;clear q y B;have q:(t.ra.eraseIdx a).length=t.ra.length-1:=by rw[List.length_eraseIdx,if_pos ha]
 have Y:bU W0 (s.setCell (ab g (i*3+1)) (U (some ⟨d,0,none⟩) (t.ra.length-1) j)) g c (ts.set i {t with ra:=t.ra.eraseIdx a,ha:=⟨some ⟨d,0,none⟩,t.ra.length-1,j⟩}) i {t with ra:=t.ra.eraseIdx a,ha:=⟨some ⟨d,0,none⟩,t.ra.length-1,j⟩}:=by
  have:=(r.out.alloc _).g2 (w1:=s) (A:=some ⟨d,0,none⟩) (ca:=j) (ra:=t.ra.eraseIdx a) (by rw[kj];exact n) (by rw[q,<-vC RA.eE t.ra a ha];exact X);rw[q]at this;exact this
 have aa:cV w (s.setCell (ab g (i*3+1)) (U (some ⟨d,0,none⟩) (t.ra.length-1) j)):=by
  have l:=((cV.refl w).alloc _).grown (ar.alloc _) (.inr (.inl rfl)) n;obtain⟨q,u,e,_,o,_⟩:=fE (r.alloc _|>.row.kept n (.inr (λf=>M (by simpa[Value.ownBlock]using f)))) (Nat.lt_of_le_of_lt (Nat.zero_le _) r.lt);injection e with e
  injection e with f
  subst f;exact l.set o (.inl rfl) _ _
 have C:=Z Y;have ad:=Z aa;clear Y X n aa;go_wp2;obtain⟨q,n⟩:=aq (s.setCell (ab g (i*3+1)) (U (some ⟨d,0,none⟩) (t.ra.length-1) j));rw[<-n];rw[<-n]at C ad;obtain⟨e,d⟩:∃e:RT,e={t with ra:=t.ra.eraseIdx a,ha:=⟨some ⟨d,0,none⟩,t.ra.length-1,j⟩}:=⟨_,rfl⟩;rw[<-d]at C;have j:e.key=t.key:=by rw[d]
 have q:e.hk=⟨P,t.key.length,m⟩:=by rw[d];exact p
 have ay:=Z j;have o:=Z q;have az:=Z d;have aA:=Z L;have s:=an;clear n d au ax av N Q R z j q p kj L ao r;go_loopw [23] (λk wr=>∃b:Nat,b<=t.key.length/\k=.int .i64 b/\Hid (bU W0 wr g c (ts.set i {e with key:=di a t.key b}) i {e with key:=di a t.key b})/\Hid (cV w wr)) (λk _=>t.key.length-(intOf k).toNat)
 case atStart=>exact⟨0,Nat.zero_le _,rfl,by rw[Dv,<-ay.out];exact C.out,ad.out⟩
 obtain⟨b,aJ,rfl,l,D⟩:=hrel;by_cases u:b<t.key.length
 ·have aB:(di a t.key b).length=t.key.length:=rP _ _ _
  obtain⟨gk,d,ah,j,n,p,ai,aj⟩:=l.Dy (show 0<(di a t.key b).length by omega);have aD:=o.symm.trans ah;injection aD with eB eN eC
  have aE:ac wr (ab gk b) (O t.key[b]):=by
   have:=aj b (show b<(di a t.key b).length by omega);rw[this];exact congrArg (λd=>some (Value.int .i64 d)) (vE a t.key b u)
  have d:=ai b;have d:ac wr (ab g (i*3+2)) (U (some ⟨gk,0,none⟩) t.key.length m):=by
   have:=l.out.cell 2 ae;rw[this];show some e.hk.val=_;rw[o.out,eB];rfl
  have ak:=aA t.key[b] (List.getElem_mem u);have aF:Hid (∀d,bU W0 (wr.setCell (ab gk b) (.int .i64 d)) g c (ts.set i {e with key:=(di a t.key b).set b d}) i {e with key:=(di a t.key b).set b d}):=by
   intro d;have:=l.out.BV (gk:=gk) (ck:=m) (by rw[o.out,eB]) (by rw[o.out]) b (show b<(di a t.key b).length by omega) d;simpa[List.set_set]using this
  have aG:Hid (∀d,cV w (wr.setCell (ab gk b) (.int .i64 d))):=by
   intro d;have d:=l.kr;have j:({e with key:=di a t.key b}:RT).hk.val=.slice (some ⟨gk,0,none⟩) t.key.length m:=by
    show e.hk.val=_;rw[o.out,eB];rfl
   rw[j]at d;have j:wr.ownsRow W0.heap.size 3 1 (U (some ⟨gk,0,none⟩) t.key.length m) t.key.length ((di a t.key b).flatMap cj):=by
    have:(di a t.key b).length=t.key.length:=rP _ _ _;rw[<-this];rw[<-this]at d;exact d
   obtain⟨d,j,v,_,x,_⟩:=fE j ae;injection v with v
   injection v with f
   subst f;exact D.set x (.inr (.inr rfl)) _ _
  have v:Hid (di a t.key (b+1)=(di a t.key b).set b (gP a t.key[b])):=vF a t.key b u;have x:Hid (gP a t.key[b]=t.key[b]->di a t.key (b+1)=di a t.key b):=Dx a t.key b u;obtain⟨k,d⟩:=aq (t.key[b]);rw[<-d]at aE ak v x;obtain⟨f,j⟩:=ak;clear d aj ai ah eB eN eC aB;by_cases al:(a:Int)<k
  ·have aH:Hid (di a t.key (b+1)=(di a t.key b).set b (k-1)):=by show _=_;rw[v.out];unfold gP;rw[if_pos al]
   clear v x;go_wp2;go_roundw
   case rel=>exact⟨b+1,by omega,by go_num,by rw[aH.out];exact aF.out (k-1),aG.out (k-1)⟩
   simp[intOf];omega
  have aH:Hid (di a t.key (b+1)=di a t.key b):=x.out (by unfold gP;rw[if_neg al]);clear v x;go_wp2;go_roundw
  case rel=>exact⟨b+1,by omega,by go_num,by rw[aH.out];exact l.out,D.out⟩
  simp[intOf];omega
 have b:b=t.key.length:=ae
 have v:Hid (bU W0 wr g c (ts.set i {e with key:=t.key.map (gP a)}) i {e with key:=t.key.map (gP a)}):=by
  have:=l.out;rw[b,Dw]at this;exact this
 clear b l;go_wp2;go_end0
 exact⟨rfl,⟨_,by have:=v.out;rw[az.out]at this;exact this⟩,D.out⟩
theorem rS (d:af) (a b o:Nat) (e:ay) (h:o≠b):(d.setCell (ab a o) e).cell? (ab a b)=d.cell? (ab a b):=
 World.cell?_setCell_other _ _ _ _ (λc=>by injection c with _ c;exact h c)
theorem vG {d:af} {b:Nat} {e:ay} (h:ac d (ab b 0) e):cu d (b+1) 1 (some ⟨b,0,none⟩) 1 [e]:=by
 refine⟨rfl,λ_=>⟨_,rfl,Nat.lt_succ_self _,λc b a=>?_⟩⟩;match c,a with
 |0,a=>simp at a;subst a;simpa[Addr.add]using h
 |c+1,a=>simp at a
theorem rT:∀a:List ByteArray,a.flatMap dF=a.map .string
 |[]=>rfl
 |x::a=>by rw[List.flatMap_cons,rT a];rfl
theorem DA (h:Hd) (b:bm) (c:af) (a:b4 c h b) (k:h.n<=1000000000):
 Calls Tryz.prog 257 #[h.val] c λe f=>∃i d,e=.returned (U i b.length d)/\ag c f/\f.ownsRow c.heap.size 9 1 (U i b.length d) b.length (b.map .string):=by
 have e:=rT b;refine(uI h dF (λ_=>rfl) (λi i g=>by simp[dF]at g;subst g;rfl) b c a.1 k).mono ?_;rintro b f (⟨rfl,rfl,g⟩|⟨d,l,rfl,g,j⟩)
 ·exact⟨none,0,rfl,g,rfl,.inl ⟨rfl,rfl⟩⟩
 rw[e]at j;exact⟨_,d,rfl,g,j⟩
theorem DB (k o g a n u:Nat) (q M N O:Int) (P Q l R r:aw) (x:Hd) (f:bm) (b:af) (G:k≠g) (j:g<b.heap.size) (s:k<b.heap.size) (G:a<n) (G:n<=9223372036854775807)
 (y:ac b (ab k (o+1)) (U (some ⟨g,0,none⟩) n u))
 (e0:ac b (ab g (a*6)) r) (T:ac b (ab g (a*6+2)) x.val) (G:∀H,b.frozen? (ab g H)=false) (H:b4 b x f) (V:f.length<=1000000):
 Calls Tryz.prog 256 #[.pointer (some ⟨k,o,none⟩),.agg #[q,P,Q,l,M,N,O,R],a] b λe c=>∃V W ah,e=.returned (.tuple #[])/\
  ah.ownsRow b.heap.size 9 1 (U V (f.length+1) W) (f.length+1) ((f++[r]).map .string)/\ag b ah/\
  c=((ah.setCell (ab g (a*6+2)) (U V (f.length+1) W)).setCell (ab g (a*6)) l).drew:=by
 obtain⟨X,Y,aa,ad,al⟩:=info_parts Tryz.uH;have V:=Z (λ(d:af) (m:ag b d)=>DA x f d (H.same m) (by rw[<-H.1.1];omega));have an:=G (a*6);have ao:=G (a*6+2);have W:k≠b.heap.size:=by omega
 have W:g≠b.heap.size:=ae
 have z:Hid (f.length+1<=maxLen/\(f.length+1)*16<=140737488355328):=⟨by unfold maxLen;omega,by omega⟩;obtain⟨A,B,C⟩:=x;have D:ac b (ab g (a*6+2)) (U A B C):=T;have ap:Hid (∀d,ag b d->Calls Tryz.prog 257 #[U A B C] d λe c=>∃m p,e=.returned (U m f.length p)/\ag d c/\c.ownsRow d.heap.size 9 1 (U m f.length p) f.length (f.map .string)):=V;clear G H V T;go_enter Tryz.func256,Tryz.ntmps256
 go_wp2;refine yg (dH:=?aj) (S:=(λc=>ac c (ab k (o+1)) (U (some ⟨g,0,none⟩) n u)/\ac c (ab g (a*6)) r/\ac c (ab g (a*6+2)) (U A B C))) (n:=26) ak (sT ak) ?ay ?aA
 case ay=>simp only[List.pop_toArray,List.dropLast_cons_cons,List.dropLast_singleton];rfl
 have d:(λc=>ac c (ab k (o+1)) (U (some ⟨g,0,none⟩) n u)/\ac c (ab g (a*6)) r/\ac c (ab g (a*6+2)) (U A B C)) ((b.alloc (.cells #[q,P,Q,l,M,N,O,R] 99)).drew):=by
  exact uX
 refine dZ 0 (oi:=?aB) (v:=?aC) ?aD ak ?aF ?ah ?aG d ?aH
 case aD=>simp only[bc,bd,be];rfl
 case aF=>exact λ_ _ _ h=>h
 case ah=>rfl
 case aG=>rintro c ⟨aG,aI,aJ⟩;go_simp;try with_reducible rfl
 refine av ?_;refine dZ 1 (oi:=?aK) (v:=?aL) ?aM ak ?aN ?aO ?aI d ?aP
 case aM=>simp only[bc,bd,be];rfl
 case aN=>exact λ_ _ _ h=>h
 case aO=>rfl
 case aI=>rintro c ⟨aG,aI,aJ⟩;go_simp;try with_reducible rfl
 refine av ?_;refine dZ 2 (oi:=?aQ) (v:=?aR) ?aS ak ?aU ?aV ?aJ d ?aW
 case aS=>simp only[bc,bd,be];rfl
 case aU=>exact λ_ _ _ h=>h
 case aV=>rfl
 case aJ=>rintro c ⟨aG,aI,aJ⟩;go_simp;try with_reducible rfl
 refine av ?_;refine dZ 3 (oi:=?aX) (v:=?aY) ?aZ ak ?bf ?bg ?bn d ?bq
 case aZ=>simp only[bc,bd,be];rfl
 case bf=>exact λ_ _ _ h=>h
 case bg=>rfl
 case bn=>rintro c ⟨aG,aI,aJ⟩;go_simp;try with_reducible rfl
 refine av ?_;refine dZ 4 (oi:=?bA) (v:=?bB) ?bC ak ?bD ?bE ?bF d ?bG
 case bC=>simp only[bc,bd,be];rfl
 case bD=>exact λ_ _ _ h=>h
 case bE=>rfl
 case bF=>rintro c ⟨aG,aI,aJ⟩;go_simp;try with_reducible rfl
 refine av ?_;refine dZ 5 (oi:=?bH) (v:=?bI) ?bJ ak ?bK ?bL ?bM d ?bN
 case bJ=>simp only[bc,bd,be];rfl
 case bK=>exact λ_ _ _ h=>h
 case bL=>rfl
 case bM=>rintro c ⟨aG,aI,aJ⟩;go_simp;try with_reducible rfl
 refine av ?_;refine dZ 6 (oi:=?bO) (v:=?bP) ?bQ ak ?bS ?bT ?bU d ?bV
 case bQ=>simp only[bc,bd,be];rfl
 case bS=>exact λ_ _ _ h=>h
 case bT=>rfl
 case bU=>rintro c ⟨aG,aI,aJ⟩;go_simp;try with_reducible rfl
 refine av ?_;refine dZ 7 (oi:=?bW) (v:=?bX) ?bY ak ?bZ ?cu ?cB d ?cK
 case bY=>simp only[bc,bd,be];rfl
 case bZ=>exact λ_ _ _ h=>h
 case cu=>rfl
 case cB=>rintro c ⟨aG,aI,aJ⟩;go_simp;try with_reducible rfl
 refine av ?_;refine dZ 8 (oi:=?cO) (v:=?cZ) ?dh ak ?dn ?dw ?dx d ?dz
 case dh=>simp only[bc,bd,be];rfl
 case dn=>exact λ_ _ _ h=>h
 case dw=>rfl
 case dx=>rintro c ⟨aG,aI,aJ⟩;go_simp;try with_reducible rfl
 refine av ?_;refine dZ 9 (oi:=?dA) (v:=?dB) ?dD ak ?dF ?dG ?dI d ?dJ
 case dD=>simp only[bc,bd,be];rfl
 case dF=>exact λ_ _ _ h=>h
 case dG=>rfl
 case dI=>rintro c ⟨aG,aI,aJ⟩;go_simp;try with_reducible rfl
 refine av ?_;refine dZ 10 (oi:=?dK) (v:=?dL) ?dM ak ?dN ?dO ?dP d ?dQ
 case dM=>simp only[bc,bd,be];rfl
 case dN=>exact λ_ _ _ h=>h
 case dO=>rfl
 case dP=>rintro c ⟨aG,aI,aJ⟩;go_simp;try with_reducible rfl
 refine av ?_;refine dZ 11 (oi:=?dR) (v:=?dS) ?dU ak ?dV ?dW ?dX d ?dY
 case dU=>simp only[bc,bd,be];rfl
 case dV=>exact λ_ _ _ h=>h
 case dW=>rfl
 case dX=>rintro c ⟨aG,aI,aJ⟩;go_simp;try with_reducible rfl
 refine av ?_;refine dZ 12 (oi:=?d9) (v:=?eu) ?eB ak ?eD ?eF ?eG d ?eH
 case eB=>simp only[bc,bd,be];rfl
 case eD=>exact λ_ _ _ h=>h
 case eF=>rfl
 case eG=>rintro c ⟨aG,aI,aJ⟩;go_simp;try with_reducible rfl
 refine av ?_;refine dZ 14 (oi:=?eO) (v:=?eP) ?eT ak ?eU ?eX ?eY d ?eZ
 case eT=>simp only[bc,bd,be];rfl
 case eU=>exact λ_ _ _ h=>h
 case eX=>rfl
 case eY=>rintro c ⟨aG,aI,aJ⟩;go_simp;try with_reducible rfl
 refine av ?_;refine dZ 15 (oi:=?fq) (v:=?fu) ?fA ak ?fB ?fC ?fD d ?fE
 case fA=>simp only[bc,bd,be];rfl
 case fB=>exact λ_ _ _ h=>h
 case fC=>rfl
 case fD=>rintro c ⟨aG,aI,aJ⟩;go_simp;try with_reducible rfl
 refine av ?_;refine dZ 16 (oi:=?fF) (v:=?fG) ?fH ak ?fI ?fJ ?fK d ?fM
 case fH=>simp only[bc,bd,be];rfl
 case fI=>exact λ_ _ _ h=>h
 case fJ=>rfl
 case fK=>rintro c ⟨aG,aI,aJ⟩;go_simp;try with_reducible rfl
 refine av ?_;refine dZ 17 (oi:=?fO) (v:=?fP) ?fQ ak ?fT ?fU ?fV d ?fZ
 case fQ=>simp only[bc,bd,be];rfl
 case fT=>exact λ_ _ _ h=>h
 case fU=>rfl
 case fV=>rintro c ⟨aG,aI,aJ⟩;go_simp;try with_reducible rfl
 refine av ?_;refine dZ 18 (oi:=?gq) (v:=?gu) ?gy ak ?gB ?gD ?gF d ?gG
 case gy=>simp only[bc,bd,be];rfl
 case gB=>exact λ_ _ _ h=>h
 case gD=>rfl
 case gF=>rintro c ⟨aG,aI,aJ⟩;go_simp;try with_reducible rfl
 refine av ?_;refine dZ 19 (oi:=?gH) (v:=?gI) ?gJ ak ?gK ?gL ?gM d ?gN
 case gJ=>simp only[bc,bd,be];rfl
 case gK=>exact λ_ _ _ h=>h
 case gL=>rfl
 case gM=>rintro c ⟨aG,aI,aJ⟩;go_simp;try with_reducible rfl
 refine av ?_;refine dZ 20 (oi:=?gP) (v:=?gQ) ?gT ak ?gU ?gV ?gW d ?gX
 case gT=>simp only[bc,bd,be];rfl
 case gU=>exact λ_ _ _ h=>h
 case gV=>rfl
 case gW=>rintro c ⟨aG,aI,aJ⟩;go_simp;try with_reducible rfl
 refine av ?_;refine dZ 21 (oi:=?gY) (v:=?gZ) ?ig ak ?iq ?iw ?iy d ?iA
 case ig=>simp only[bc,bd,be];rfl
 case iq=>exact λ_ _ _ h=>h
 case iw=>rfl
 case iy=>rintro c ⟨aG,aI,aJ⟩;go_simp;try with_reducible rfl
 refine av ?_;refine wpAnyH_ready (rs:=[13,22]) ak ai ?_;refine AllReadyH.cons (o:=?iB) ?iC (λm i=>?iD) ?iE
 case iC=>simp only[bc,bd,be];rfl
 case iD=>
  rw[if_pos (by rfl)];go_simp;go_at_call 257;refine(ap.out _ ?_).mono ?_;(first|exact((ag.refl b).alloc _).drew|exact(((ag.refl b).alloc _).alloc _).drew);rintro e wc ⟨E,F,rfl,t,aK⟩;have I:b.heap.size<wc.heap.size:=aT m0 t.size;have w:Hid (ag b wc):=(by first|exact((ag.refl b).alloc _).drew.trans t|exact(((ag.refl b).alloc _).alloc _).drew.trans t);have aq:Hid ((Value.slice E f.length F).ownBlock≠some b.heap.size):=(λe=>by have:=(aK.lt _ e).1;simp[d5]at this<;>omega);have ar:ac wc (am b 3) l:=(t.cells _ _ m0).trans (by simp[iS]);have ax:Hid (∀m p,World.cell? _ m=some p->ac wc m p):=(λm m h=>(t.cell (World.block_lt_of_cell? _ _ h)).trans h);have x:=(w.out.cells _ _ s).trans y;have x:=(w.out.cells _ _ j).trans e0;have x:=(w.out.cells _ _ j).trans D;have x:wc.ownsRow b.heap.size 9 1 (U E f.length F) f.length (f.map .string):=aK.mono (Nat.le_of_lt m0);have J:=Z x;clear t aK x
  try go_simp
  refine i _ _ ?_ (λd=>?_)
  ·exact uX
  refine av ?_;refine wpAnyH_ready (rs:=[22]) ak ai ?_;refine AllReadyH.cons (o:=?iF) ?iG (λm i=>?iH) ?iI
  case iG=>simp only[bc,bd,be];rfl
  case iI=>exact AllReadyH.nil
  rw[if_pos (by rfl)];go_simp;refine i _ _ ?_ (λd=>?_)
  ·exact uX
  refine av ?_;refine wpAnyH_ready (rs:=[23]) ak ai ?_;refine AllReadyH.cons (o:=?iJ) ?iK (λm i=>?iL) ?iM
  case iK=>simp only[bc,bd,be];rfl
  case iM=>exact AllReadyH.nil
  refine m9 _ rfl (.tmp 19) (.tmp 28) 83 rfl b.heap.size 9 X _ 1 16 Tryz.underlying83 Y aa ad al rfl au (U E f.length F) f.length (f.map .string) rfl ?_ _ _ 1 1 [.string r] rfl (vG ?_) (λp m=>by simp at m;subst m;rfl) z.out.1 z.out.2 ?_ ?_;(first|exact J.out|exact J.out.alloc _);(first|exact ax.out _ _ (by simp[iS])|simp[*,iS]);(exact bR (Nat.le_of_lt I) ai);intro aC m K L az;obtain⟨aE,a0,rfl⟩:=nL K;have t:wc.grownBy m (Value.slice E f.length F).ownBlock:=(by first|exact L|exact p7 ((ag.refl wc).alloc _) L);have a1:=Z K;have p:Hid (ag b m):=Below.grown w.out t w.out.size (λq p=>(J.out.lt q p).1);have w:b.heap.size<m.heap.size:=aT I t.size;have w:ac m (am b 3) l:=(World.cell?_of_block (a:=⟨b.heap.size,3,none⟩) (t.block b.heap.size I aq.out.symm)).trans ar;have w:=(p.out.cells _ _ s).trans y;have w:=(p.out.cells _ _ j).trans e0;have w:=(p.out.cells _ _ j).trans D;have w:m.frozen? (ab g (a*6))=false:=(p.out.frees _ _ j).trans an;have w:m.frozen? (ab g (a*6+2))=false:=(p.out.frees _ _ j).trans ao;have w:k<m.heap.size:=aT s p.out.size;have w:g<m.heap.size:=aT j p.out.size;clear K L az t;refine i _ _ ?_ (λd=>?_)
  ·exact uX
  refine av ?_;refine dZ 24 (oi:=?iN) (v:=?iO) ?iP ak ?iQ ?iR ?iT d ?iU
  case iP=>simp only[bc,bd,be];rfl
  case iQ=>exact λ_ _ _ h=>h
  case iR=>rfl
  case iT=>rintro c ⟨aG,aI,aJ⟩;go_simp;try with_reducible rfl
  refine av ?_;refine dZ 25 (oi:=?iV) (v:=?iW) ?iX ak ?iY ?iZ ?jc d ?jd
  case iX=>simp only[bc,bd,be];rfl
  case iY=>exact λ_ _ _ h=>h
  case iZ=>rfl
  case jc=>rintro c ⟨aG,aI,aJ⟩;go_simp;try with_reducible rfl
  refine av ?_;refine wpAnyH_done ak ?_ _;refine sU (o:=?je) ?jf ?jg ?jh
  case jf=>simp only[bc,bd,be];rfl
  case jg=>rfl
  intro t i;go_simp;refine i _ _ ?_;refine av ?_;go_wp2;go_region_held3 (λc=>ac c (ab k (o+1)) (U (some ⟨g,0,none⟩) n u)/\ac c (am b 3) l) (first|(simp[*];done)|((repeat' apply And.intro)<;>(first|(simp[*];done)|(simp[*,p3,iS,p4,rS,p5,p6];done)|go_keep))) (fail)
  go_wp2;go_end0
  refine⟨aE,a0,m,rfl,?_,p,rfl⟩;have:=a1.out;rw[List.map_append];exact this
 refine AllReadyH.cons (o:=?ji) ?jk (λm i=>?jl) ?jm
 case jk=>simp only[bc,bd,be];rfl
 case jm=>exact AllReadyH.nil
 rw[if_pos (by rfl)];go_simp;refine i _ _ ?_ (λd=>?_)
 ·exact uX
 refine av ?_;refine wpAnyH_ready (rs:=[13]) ak ai ?_;refine AllReadyH.cons (o:=?jo) ?jq (λm i=>?jr) ?jv
 case jq=>simp only[bc,bd,be];rfl
 case jv=>exact AllReadyH.nil
 rw[if_pos (by rfl)];go_simp;go_at_call 257;refine(ap.out _ ?_).mono ?_;(first|exact((ag.refl b).alloc _).drew|exact(((ag.refl b).alloc _).alloc _).drew);rintro e wc ⟨E,F,rfl,t,aK⟩;have I:b.heap.size<wc.heap.size:=aT m0 t.size;have w:Hid (ag b wc):=(by first|exact((ag.refl b).alloc _).drew.trans t|exact(((ag.refl b).alloc _).alloc _).drew.trans t);have aq:Hid ((Value.slice E f.length F).ownBlock≠some b.heap.size):=(λe=>by have:=(aK.lt _ e).1;simp[d5]at this<;>omega);have ar:ac wc (am b 3) l:=(t.cells _ _ m0).trans (by simp[iS]);have ax:Hid (∀m p,World.cell? _ m=some p->ac wc m p):=(λm m h=>(t.cell (World.block_lt_of_cell? _ _ h)).trans h);have x:=(w.out.cells _ _ s).trans y;have x:=(w.out.cells _ _ j).trans e0;have x:=(w.out.cells _ _ j).trans D;have x:wc.ownsRow b.heap.size 9 1 (U E f.length F) f.length (f.map .string):=aK.mono (Nat.le_of_lt m0);have J:=Z x;clear t aK x
 try go_simp
 refine i _ _ ?_ (λd=>?_)
 ·exact uX
 refine av ?_;refine wpAnyH_ready (rs:=[23]) ak ai ?_;refine AllReadyH.cons (o:=?jw) ?jy (λm i=>?jA) ?jB
 case jy=>simp only[bc,bd,be];rfl
 case jB=>exact AllReadyH.nil
 refine m9 _ rfl (.tmp 19) (.tmp 28) 83 rfl b.heap.size 9 X _ 1 16 Tryz.underlying83 Y aa ad al rfl au (U E f.length F) f.length (f.map .string) rfl ?_ _ _ 1 1 [.string r] rfl (vG ?_) (λp m=>by simp at m;subst m;rfl) z.out.1 z.out.2 ?_ ?_;(first|exact J.out|exact J.out.alloc _);(first|exact ax.out _ _ (by simp[iS])|simp[*,iS]);(exact bR (Nat.le_of_lt I) ai);intro aC m K L az;obtain⟨aE,a0,rfl⟩:=nL K;have f:wc.grownBy m (Value.slice E f.length F).ownBlock:=(by first|exact L|exact p7 ((ag.refl wc).alloc _) L);have a1:=Z K;have p:Hid (ag b m):=Below.grown w.out f w.out.size (λq p=>(J.out.lt q p).1);have q:b.heap.size<m.heap.size:=aT I f.size;have q:ac m (am b 3) l:=(World.cell?_of_block (a:=⟨b.heap.size,3,none⟩) (f.block b.heap.size I aq.out.symm)).trans ar;have q:=(p.out.cells _ _ s).trans y;have q:=(p.out.cells _ _ j).trans e0;have q:=(p.out.cells _ _ j).trans D;have q:m.frozen? (ab g (a*6))=false:=(p.out.frees _ _ j).trans an;have q:m.frozen? (ab g (a*6+2))=false:=(p.out.frees _ _ j).trans ao;have q:k<m.heap.size:=aT s p.out.size;have j:g<m.heap.size:=aT j p.out.size;clear K L az f;refine i _ _ ?_ (λd=>?_)
 ·exact uX
 refine av ?_;refine dZ 24 (oi:=?jC) (v:=?jD) ?jE ak ?jF ?jG ?jH d ?jI
 case jE=>simp only[bc,bd,be];rfl
 case jF=>exact λ_ _ _ h=>h
 case jG=>rfl
 case jH=>rintro c ⟨aG,aI,aJ⟩;go_simp;try with_reducible rfl
 refine av ?_;refine dZ 25 (oi:=?jJ) (v:=?jK) ?jL ak ?jM ?jN ?jO d ?jP
 case jL=>simp only[bc,bd,be];rfl
 case jM=>exact λ_ _ _ h=>h
 case jN=>rfl
 case jO=>rintro c ⟨aG,aI,aJ⟩;go_simp;try with_reducible rfl
 refine av ?_;refine wpAnyH_done ak ?_ _;refine sU (o:=?jQ) ?jR ?jS ?jT
 case jR=>simp only[bc,bd,be];rfl
 case jS=>rfl
 intro d i;go_simp;refine i _ _ ?_;refine av ?_;go_wp2;go_region_held3 (λc=>ac c (ab k (o+1)) (U (some ⟨g,0,none⟩) n u)/\ac c (am b 3) l) (first|(simp[*];done)|((repeat' apply And.intro)<;>(first|(simp[*];done)|(simp[*,p3,iS,p4,rS,p5,p6];done)|go_keep))) (fail)
 go_wp2;go_end0
 refine⟨aE,a0,m,rfl,?_,p,rfl⟩;have:=a1.out;rw[List.map_append];exact this
section
variable {α:Type}
def m5 (b c:List α) (d:Nat):Prop:=∀a,a<d->b[a]?=c[a]?
theorem FA (a b:List α):m5 a b 0:=λa a=>absurd a (Nat.not_lt_zero _)
theorem FB {b c:List α} {a:Nat} (e:a<b.length) (f:a<c.length) (h:m5 b c a) (g:b[a]=c[a]):m5 b c (a+1):=λd b=>by
 by_cases i:d=a
 ·subst i;rw[List.getElem?_eq_getElem e,List.getElem?_eq_getElem f,g]
 exact h d ae
theorem FC [DecidableEq α] {a b:List α} (c:a.length=b.length) (h:m5 a b a.length):decide (a=b)=true:=by
 apply decide_eq_true;apply List.ext_getElem?;intro b;by_cases c:b<a.length
 ·exact h b c
 rw[List.getElem?_eq_none ae,List.getElem?_eq_none ae]
theorem FD [DecidableEq α] {b c:List α} {a:Nat} (e:a<b.length) (e:a<c.length) (d:b[a]≠c[a]):decide (b=c)=false:=by
 apply decide_eq_false;rintro rfl;exact d rfl
theorem FE [DecidableEq α] {a b:List α} (h:a.length≠b.length):decide (a=b)=false:=by
 apply decide_eq_false;rintro rfl;exact h rfl
end
theorem FF (g i:Hd) (a b:List Int) (d:af) (o:dQ d g a) (p:dQ d i b):
 Calls Tryz.prog 34 #[g.val,i.val] d λu v=>u=.returned (.bool (decide (a=b)))/\ag d v:=by
 have L1:aF d 1 g cj a:=o;have L2:aF d 1 i cj b:=p;clear o p;obtain⟨g,o,p⟩:=g;obtain⟨i,u,v⟩:=i;show Calls Tryz.prog 34 #[U g o p,U i u v] d _;have w:=L1.1;have x:=L2.1;have g:=L1.2.1;have g:=L2.2.1;subst w x;have y:=Z L1;have z:=Z L2;clear L1 L2;by_cases j:a.length=b.length
 case neg=>
  have e:((a.length:Int) !=(b.length:Int))=true:=aC
  have c:=Z j;clear j;go_enter Tryz.func34,Tryz.ntmps34
  go_wp2;go_ret;exact⟨ch (FE c).symm,ag.refl _⟩
 have g:((a.length:Int) !=(b.length:Int))=false:=aC
 have q:=Z j;clear j;go_enter Tryz.func34,Tryz.ntmps34
 go_wp2;go_loopw [5] (λe wr=>∃c:Nat,c<=a.length/\e=.int .i64 c/\Hid (ag d wr)/\Hid (m5 a b c)) (λc _=>a.length-(intOf c).toNat)
 case atStart=>exact⟨0,Nat.zero_le _,rfl,ag.refl d,FA _ _⟩
 obtain⟨c,D,rfl,f,r⟩:=hrel;by_cases m:c<a.length
 ·have n:c<b.length:=by have:=q.out;omega
  obtain⟨g,i,A,j,d⟩:=(y.same f).2.2 c m;obtain⟨i,j,B,o,g⟩:=(z.same f).2.2 c n;obtain⟨k,i⟩:=aq (a[c]);obtain⟨l,j⟩:=aq (b[c]);rw[<-i]at d;rw[<-j]at g;have s:=Z i;have t:=Z j;have o:=d 0 k rfl;have p:=g 0 l rfl;simp only[Nat.mul_one,Nat.add_zero]at o p;clear d g i j;subst A B;have d:(c:Int)<(a.length:Int):=ae
  have d:(c:Int)<(b.length:Int):=ae
  by_cases e:k=l
  ·have d:(k !=l)=false:=by simp;exact e
   have C:=Z e;clear e;go_wp2_with fail
   go_quiet (fail)
   go_wp2;go_roundw
   case rel=>exact⟨c+1,by omega,by go_num,(f.out.drewN _),FB m n r.out (by rw[<-s.out,<-t.out];exact C.out)⟩
   simp[intOf];omega
  have d:(k !=l)=true:=by simp;exact e
  have C:=Z e;clear e;go_wp2_with fail
  go_quiet (fail)
  go_wp2;go_ret;exact⟨ch (FD m n (by rw[<-s.out,<-t.out];exact C.out)).symm,f.drewN _⟩
 have c:c=a.length:=ae
 have e:Hid (m5 a b a.length):=by rw[<-c];exact r.out
 clear c;go_wp2;go_ret;exact⟨ch (FC q e).symm,f⟩
def lj (b:List Tb) (a c:Int):Bool:=(decide (0<=a)&&decide (a<b.length))&&(decide (0<=c)&&decide (c<(dw b a).attrs.length))
theorem FR (h:Hd) (c:List RT) (a b:Int) (d:af) (k:bI d h c):
 Calls Tryz.prog 23 #[.agg #[h.val],a,b] d λo w'=>o=.returned (.bool (lj (c.map RT.tb) a b))/\ag d w':=by
 have l:c.length=h.n:=k.1.1;have t:h.n<=9223372036854775807:=k.1.2.1;obtain⟨m,o⟩:∃m,m=lj (c.map RT.tb) a b:=⟨_,rfl⟩;rw[<-o];have j:=Z o;clear o;have g:=Z (show ag d (d.alloc (.cells #[h.val] 29))from(ag.refl d).alloc _);have u:=Z (k.same g.out);clear k;obtain⟨v,f,w⟩:=h;have l:c.length=f:=l;have t:f<=9223372036854775807:=t;show Calls Tryz.prog 23 #[.agg #[U v f w],a,b] d _;by_cases k:0<=a
 case neg=>
  have e:decide (0<=a)=false:=aC
  go_enter Tryz.func23,Tryz.ntmps23
  go_wp2;refine⟨rfl,.bool false,by simp[results,go_sem],?_,g.out⟩;rw[j.out];unfold lj;rw[e];rfl
 have z:decide (0<=a)=true:=aC
 by_cases A:a<f
 case neg=>
  have e:decide (a<f)=false:=aC
  go_enter Tryz.func23,Tryz.ntmps23
  go_wp2;refine⟨rfl,.bool false,by simp[results,go_sem],?_,g.out⟩;rw[j.out];unfold lj;rw[z,List.length_map,l,e];rfl
 have k:decide (a<f)=true:=aC
 by_cases B:0<=b
 case neg=>
  have e:decide (0<=b)=false:=aC
  go_enter Tryz.func23,Tryz.ntmps23
  go_wp2;refine⟨rfl,.bool false,by simp[results,go_sem],?_,g.out⟩;rw[j.out];unfold lj;rw[e,Bool.false_and,Bool.and_false]
 have k:decide (0<=b)=true:=aC
 obtain⟨e,rfl⟩:∃e:Nat,a=e:=⟨a.toNat,by omega⟩;have p:e<c.length:=by omega
 obtain⟨q,r,x,a,C,s,D⟩:=lQ u.out e p;have E:v=some ⟨q,r,none⟩:=x;subst E;have k:=Z (u.out.2 _ (List.getElem_mem p));have a:=Z (show m=decide (b<c[e].ra.length) by
  rw[j.out];simp[lj,B,l,A,lR c e p,RT.tb])
 obtain⟨tq,c⟩:∃tq,tq=c[e]:=⟨_,rfl⟩;rw[<-c]at s k a;obtain⟨t,⟨l,i,o⟩,p,u,v⟩:=tq;have d:(d.alloc (.cells #[U (some ⟨q,r,none⟩) f w] 29)).cell? (ab q (r+e*3+1))=some (.slice l i o):=s;have d:p.length=i:=k.out.1.1.1;have y:=Z (show m=decide (b<(i:Int)) by rw[a.out,<-d]);clear C s D c x j a;by_cases a:b<i
 case neg=>
  have F:decide (b<(i:Int))=false:=aC
  go_enter Tryz.func23,Tryz.ntmps23
  go_wp2;refine⟨rfl,.bool false,by simp[results,go_sem],?_,g.out⟩;rw[y.out,F]
 have F:decide (b<(i:Int))=true:=aC
 go_enter Tryz.func23,Tryz.ntmps23
 go_wp2;refine⟨rfl,.bool true,by simp[results,go_sem],?_,g.out⟩;rw[y.out,F]
end Go.Proofs.YteamkimbmdgdbaaGreatDoor

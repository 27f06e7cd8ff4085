import Derived.Test.YteamkimbmdgdbaaGreatDoorK16
set_option linter.unusedSimpArgs false
set_option linter.unusedVariables false
set_option maxHeartbeats 16000000
set_option maxRecDepth 100000
namespace Go.Proofs.YteamkimbmdgdbaaGreatDoor
open Go.RowKit
theorem Cj (d:List Tb) (f:aw) (g:List bB) (i:bm) (c cN:aw) (j a:Int) (ks:List Pl):cy d 7 f g i c cN j a ks=RO.ap (decide (ks.length=1)) 1 a ((ee a (bF ks 0) c).bind λb=>RO.ap (bD cN) 1 a<|RO.ap (decide (ed (bF ks 0) cN<0)||decide (ed (bF ks 0) cN=b)) 9 a<|.ok (.mk 7 0 ks [] [] b 0 ((bF ks 0).modify b.toNat λa=>{a with name:=cN}))):=by
 have h:decide (ef 7=some ks.length)=decide (ks.length=1):=by
  have:ef 7=some 1:=rfl;exact tL
 unfold cy;rw[h];rfl
theorem Ck (y i F:Nat) (h:Hd) (al:List RT) (an:aw) (bu m:Hd) (c:List aB) (aR:Hd) (aT:List bB) (aU:Hd) (aV:bm) (u j:aw) (ao at_:Int) (d:af) (bw:aG j)
 (aX:J d i 105 #[O 7,O 0,m.val,aa,aa,O 0,O 0,aa]) (a:iC d y i F h al m c aR aT aU aV at_):
 Calls Tryz.prog 201 #[aj y,.agg #[O 7,an,bu.val,aR.val,aU.val,u,j,ao,at_],aj i] d
  λe w'=>RP [i] d (cy (al.map RT.tb) 7 an aT aV u j ao at_ (aB.aN c)) (iE i F) e w':=by
 obtain⟨b4,N,b5⟩:=h;obtain⟨bx,bz,aY⟩:=m;obtain⟨b6,b8,b9⟩:=bu;obtain⟨ca,cb,cc⟩:=aR;obtain⟨ce,cf,cg⟩:=aU;have z:=Z a;have ch:c.length=bz:=a.lk.1;have aR:bz<=9223372036854775807:=a.lk.2.1;have aR:al.length=N:=(a.ta d (Kp.refl _ d)).1.1;have aR:N<=9223372036854775807:=(a.ta d (Kp.refl _ d)).1.2.1;subst ch;have aZ:=a.hX;have aR:=a.xp;have aR:=a.j3;have aR:=a.lw;have ci:=aX.lt;have cj:=Z aX;obtain⟨R,a0⟩:=aq (cy (al.map RT.tb) 7 an aT aV u j ao at_ (aB.aN c));rw[<-a0];have bA:(aB.aN c).length=c.length:=by rw[aB.iB,List.length_map]
 have E0:=Z (show R=RO.ap (decide (c.length=1)) 1 at_ ((ee at_ (bF (aB.aN c) 0) u).bind λb=>RO.ap (bD j) 1 at_<|RO.ap (decide (ed (bF (aB.aN c) 0) j<0)||decide (ed (bF (aB.aN c) 0) j=b)) 9 at_<|.ok (.mk 7 0 (aB.aN c) [] [] b 0 ((bF (aB.aN c) 0).modify b.toNat λa=>{a with name:=j}))) by rw[a0,Cj,bA]);clear a0 a aX bA;have al:d.heap.size<=d.heap.size:=Nat.le_refl _;have ck:=Z (Kp.refl [i] d);have bE:=Z (λ(b:af) (f:Kp [i] d b)=>z.lk.kp f (λb f e N=>by have b:=(z.out.ik b f e).1;have b:=aA N;omega));have N:=Z (λ(b:af) (f:Kp [i] d b)=>show ac b (ab y 0) (U b4 N b5)from(f.cell aZ aC).trans z.c0);have A:=Z (λ(b:af) (f:Kp [i] d b)=>show ac b (ab y 8) at_ from(f.cell aZ aC).trans z.c8);have N:=aW aZ;have N:=aW ci;have N:∀(N:Fn) (first cap:aO) (d:af),(Instr.makeFunc N first cap).run Tryz.prog d=.ok (.func N first cap) d:=λ_ _ _ _=>rfl;have cl:=@run_makeMap Tryz.prog;show Calls Tryz.prog 201 #[aj y,.agg #[O 7,an,U b6 b8 b9,U ca cb cc,U ce cf cg,u,j,ao,at_],aj i] d _;go_enter Tryz.func201,Tryz.ntmps201
 go_upto_region 1 with(fail)
 obtain⟨an,N,ao,b,al⟩:=nb d 154 _;rw[N];clear N;have N:=qk ck b;have aR:=qb b cj;have an:=N.size;clear b;obtain⟨q,an,cm,b,aT⟩:=nc al 93 _;rw[an];clear an;have bG:=qk N b;have cn:=qb b aR;have co:=qb b ao;have N:=bG.size;clear b;have N:d.heap.size+1<q.heap.size:=ae
 clear al aT;have cp:=j4 q;have cq:=j5 q;have cr:=j6 q;have cs:=j7 q;have ct:=j8 q;have cu:=j9 q;have cv:=ka q;have cw:=kc q;go_upto_region 2 with(fail)
 clear cp cq cr cs ct cu cv cw cl;have M3:=Z (kd q);have b:=Z (show ag q (q.alloc (.map (km 8) 8))from(ag.refl q).alloc _);obtain⟨G,q⟩:=aq (q.alloc (.map (km 8) 8));rw[<-q]at M3 b⊢;clear q;have K3:=qk bG b;have a1:=qb b cn;have a2:=qb b co;have a3:=qb b cm;have q:=K3.size;have cx:=kO M3 (k:=7) (n:=1) rfl;clear b M3;have cz:=az a3;have q:=J.lt a3;go_upto_region 3 with(fail)
 clear cx cz;have eF:=az a2;have q:=J.lt a2;have eG:ac G (ab i 2) (U bx c.length aY):=J.cell a1 2;have q:=J.lt a1;have eH:=A G K3;have q:d.heap.size<G.heap.size:=ae
 have q:i<G.heap.size:=ae
 by_cases hN:c.length=1
 case neg=>
  have f:(((1:Nat):Int)==(c.length:Int))=false:=aC
  have f:((1:Int)==(c.length:Int))=false:=aC
  exact lF
 have cA:(((1:Nat):Int)==(c.length:Int))=true:=aC
 have cB:((1:Int)==(c.length:Int))=true:=aC
 have E1:=Z (show R=RO.ap true 1 at_ ((ee at_ (bF (aB.aN c) 0) u).bind λf=>RO.ap (bD j) 1 at_<|RO.ap (decide (ed (bF (aB.aN c) 0) j<0)||decide (ed (bF (aB.aN c) 0) j=f)) 9 at_<|.ok (.mk 7 0 (aB.aN c) [] [] f 0 ((bF (aB.aN c) 0).modify f.toNat λa=>{a with name:=j}))) by rw[E0.out,decide_eq_true hN]);clear E0;refine dB 12 eF eG λhS=>?_;refine dg ?_;refine eh ?_;refine aK 11 (λK hK=>?_);go_simp;refine bJ K3.drew E1 eH λbH=>?_;try go_simp
 refine hK _ _ (λ_=>hS) ?_;refine av ?_;refine b2 ?_;refine bV ?_;clear hS cA cB eF eG eH E1;have b:=Z ((ag.refl G).drew);obtain⟨P,q⟩:=aq G.drew;rw[<-q]at b⊢;clear q;have bI:=qk K3 b;have cC:=qb b a1;have cD:=qb b a2;have bK:=qb b a3;have q:=bI.size;clear b;go_upto_region 5 with(fail)
 obtain⟨B,q,Q,b,-⟩:=nb P 79 #[aa];rw[q];clear q;have a4:=qk bI b;have a5:=qb b cC;have cE:=qb b cD;have cF:=qb b bK;have q:=a4.size;clear b;have q:=J.lt Q;have q:i<B.heap.size:=ae
 have q:=J.lt bK;have q:0<c.length:=ae
 obtain⟨S,T,bL,G,ar⟩:=jo (bE B a4) 0 q;have C:=Z (z.sub _ (List.getElem_mem q)).res;have q:=jn c 0 q;obtain⟨al,an⟩:=aq (c[0]);rw[<-an]at ar C q;obtain⟨⟨r,G,s⟩,N⟩:∃G,G=al.ha:=⟨_,rfl⟩;obtain⟨f,al⟩:=aq al.attrs;rw[<-N]at ar;rw[<-N,<-al]at C;rw[<-al]at q;have cG:=Z (show R=_ by rw[bH.out,q]);clear bH an N al;have bM:ac B (ab S (T+0*8+7)) (U r G s):=ar;have cH:ac B (ab S (T+7)) (U r G s):=by simpa using bM
 have cI:bx=some ⟨S,T,none⟩:=bL;have q:(0:Int)<c.length:=ae
 have cK:f.length=G:=C.a.1.1;subst cK;clear ar bL;subst cI;have cL:ac B (ab i 2) (U (some ⟨S,T,none⟩) c.length aY):=J.cell a5 2;have q:=J.lt a5;have cM:=az Q;have q:=J.lt Q;have cN:=λv=>J.frozen Q v;go_upto_region 7 with(fail)
 have D:=Z (jB Q (U r f.length s));have g:=Z (Kp.aE (p:=(am P 0)) (l:=[P.heap.size]) ai (Kp.refl [P.heap.size] B) (U r f.length s));obtain⟨V,q⟩:=aq (B.setCell (am P 0) (U r f.length s));rw[<-q]at D g⊢;clear q;have q:=g;have K6:=Z (g.old a4 (λo o q=>absurd q (by rw[aA o];omega)));have a6:=qo g a5;have a7:=qo g cE;have au:=qo g cF;have q:=K6.size;have q:=g;have a8:=D;clear D g;clear cN cL cM cH bM;have a9:=Z (λ(o:af) (q:Kp [i] d o)=>C.keep q (λo o hS=>by have q:=hS.1;have o:=aA o;omega));have cO:=az a7;have q:=J.lt a7;have cP:=az a8;have q:=J.lt a8;have cQ:=az au;have cR:=bQ au;have q:=J.lt au;have cS:=bQ a6;have q:=J.lt a6;have bN:=Z bw;clear bw;have bO:=A V K6;go_upto_region 44 with(fail)
 have bP:Hid (Calls Tryz.prog 272 #[aj y,U r f.length s,u] V λe w'=>RP [] V (ee at_ (f.map RA.at_) u) g7 e w'):=Z (pv y ⟨r,f.length,s⟩ f u at_ V ae bO (a9 V K6).a);go_wp2_with fail
 refine dC cG bP ?ah ?ak
 case ah=>
  exact GX
 intro a q u bR ax bS H;have cT:q=.int .i64 a:=bS;subst cT;obtain⟨o,cU,bT⟩:=pN bR;subst cU;have bU:o<f.length:=by simpa using bT
 clear bT bS bR;have bW:=qm K6 H;have ay:=qo H a6;have cV:=qo H a7;have cW:=qo H au;have cX:=qo H a8;have q:=bW.size;clear H;have cY:=bQ ay;have q:=J.lt ay;have cZ:=λv=>J.frozen ay v;clear cQ cR cS cP cO bO bP;go_upto_region 45 with(fail)
 obtain⟨W,u,c1,q⟩:=yU ay (o:Int);rw[u];clear u;have I:=Z (bW.trans q);have ba:=qo q cV;have bb:=qo q cW;have c2:=qo q cX;have u:=I.size;have q:=q;clear cY cZ;have bf:=az ba;have q:=J.lt ba;have bg:=cd bb;have q:=J.lt bb;obtain⟨c3,q⟩:=aq (bD j);have aD:=Z (pu j W.drew bN);rw[<-q]at aD ax;clear q;cases c3
 case false=>
  refine dB 5 bf bg λhS=>?_;refine cJ ?_;refine dV 3 (λK hK=>?_);go_simp;refine(aD).mono ?_;rintro e w' ⟨rfl,rfl⟩;try go_simp
  refine hK _ _ (λ_=>hS) ?_;refine av ?_;refine aK 4 (λK hK=>?_);go_simp;exact bv I.drew ax (A W I)
 refine dB 5 bf bg λhS=>?_;refine cJ ?_;refine dV 3 (λK hK=>?_);go_simp;refine(aD).mono ?_;rintro e w' ⟨rfl,rfl⟩;try go_simp
 refine hK _ _ (λ_=>hS) ?_;refine av ?_;refine aK 4 (λK hK=>?_);go_simp;refine bJ I.drew ax (A W I) λE=>?_;try go_simp
 refine hK _ _ (λ_=>hS) ?_;refine av ?_;refine b2 ?_;refine bV ?_;clear hS aD bf bg ax;have b:=Z ((ag.refl W).drew);obtain⟨q,u⟩:=aq W.drew;rw[<-u]at b⊢;clear u;have bh:=qk I b;have c4:=qb b c1;have c5:=qb b ba;have bi:=qb b bb;have bj:=qb b c2;have u:=bh.size;clear b;have c6:=az bj;have u:=J.lt bj;have c7:=cd bi;have u:=J.lt bi;have bk:Hid (Calls Tryz.prog 274 #[U r f.length s,j] q λe w'=>e=.returned (O (ed (f.map RA.at_) j))/\ag q w'):=Z (q1 ⟨r,f.length,s⟩ f j q (a9 q bh).a);obtain⟨L,q⟩:=aq (ed (f.map RA.at_) j);rw[<-q]at bk E;clear q;go_wp2_with fail
 refine(bk).mono ?_;rintro e M ⟨rfl,b⟩;have w:=qk bh b;have bl:=qb b c4;have bn:=qb b c5;have c9:=qb b bi;have da:=qb b bj;have q:=w.size;clear b;clear bk c6 c7;go_upto_region 47 with(fail)
 have X:=az bn;have q:=J.lt bn;have Y:=bQ bl;have q:=J.lt bl;obtain⟨dv,x⟩:=aq ((decide (L<0)||decide (L=(o:Int))));rw[<-x]at E;have q:i<M.heap.size:=ae
 by_cases m:L<0
 case' pos=>
  have t:=decide_eq_true m;rw[t,Bool.true_or]at x;subst x;clear m;refine dB 12 X Y λhS=>?_;refine cJ ?_;refine tk 3 hS ?_;refine sk 4 hS ?_;refine sk 5 hS ?_;refine rq ?_;refine aK 11 (λK hK=>?_);go_simp;refine bJ w.drew E (A M w) λaQ=>?_;try go_simp
  refine hK _ _ (λ_=>hS) ?_;refine av ?_;refine b2 ?_;refine bV ?_;clear hS t X Y E
 case' neg=>
  have t:=decide_eq_false m;rw[t,Bool.false_or]at x;clear m;by_cases m:L=(o:Int)
  case' neg=>
   have q:(L==(o:Int))=false:=by simp[m]
   rw[decide_eq_false m]at x;subst x;clear m;refine dB 12 X Y λhS=>?_;refine dg ?_;refine eh ?_;refine aK 11 (λK hK=>?_);go_simp;exact bv w.drew E (A M w)
  have ad:(L==(o:Int))=true:=by simp[m]
  rw[decide_eq_true m]at x;subst x;clear m;refine dB 12 X Y λhS=>?_;refine dg ?_;refine eh ?_;refine aK 11 (λK hK=>?_);go_simp;refine bJ w.drew E (A M w) λaQ=>?_;try go_simp
  refine hK _ _ (λ_=>hS) ?_;refine av ?_;refine b2 ?_;refine bV ?_;clear hS t ad X Y E
 all_goals
  have b:=Z ((ag.refl M).drew);obtain⟨q,u⟩:=aq M.drew;rw[<-u]at b⊢;clear u;have bo:=qk w b;have aI:=qb b bl;have db:=qb b bn;have dc:=qb b c9;have bp:=qb b da;have u:=bo.size;clear b;have dd:=az bp;have u:=J.lt bp;have de:=b7 aI;have u:=J.lt aI;have df:=λv=>J.frozen aI v;have bX:=Z (uR ⟨r,f.length,s⟩ f q (a9 q bo).a C.l);go_wp2_with fail
  refine(bX).mono ?_;rintro e bq ⟨q,aL,rfl,b,bY⟩;have bZ:=qk bo b;have aM:=qb b aI;have dh:=qb b db;have di:=qb b dc;have dj:=qb b bp;have q:=bZ.size;clear b;have dk:=b7 aM;have b:=J.lt aM;clear dd de df bX;have dl:=λv=>J.frozen aM v;obtain⟨t,b,dm,q,_,_,_,_,_⟩:=fE bY ae;subst dm;have b:=J.lt ‹J bq t _ _›;go_upto_region 49 with(fail)
  have D:=Z (gp aM (U (some ⟨t,0,none⟩) f.length aL));have g:=Z (Kp.aE (p:=(ab i 7)) (l:=[i]) ai (Kp.refl [i] bq) (U (some ⟨t,0,none⟩) f.length aL));obtain⟨s,b⟩:=aq (bq.setCell (ab i 7) (U (some ⟨t,0,none⟩) f.length aL));rw[<-b]at D g⊢;clear b;have b:=g;have u:=Z (bZ.trans g);have A:=qo g dh;have r:=qo g di;have B:=qo g dj;have b:=u.size;have b:=g;have q:=D;clear D g;have D:=Z (bC bY b (λb b=>by have:=aA b;omega));clear dk dl;have w:=bQ q;have x:=b7 q;have b:=J.lt q;have y:=cd r;have b:=J.lt r;have b:(o:Int)<f.length:=by omega
  have b:(0:Int)<=o:=ae
  have b:=Z ((ag.refl s).drew);refine gr 10 w x y λhS=>?_;refine dg ?_;refine tk 9 hS ?_;obtain⟨br,s⟩:=aq s.drew;rw[<-s]at b hS⊢;clear s;have b0:=qk u b;have dn:=qb b q;have q:=qb b A;have q:=qb b r;have q:=qb b B;have q:=b0.size;have bs:=Z (aH b D);clear b hS w x y;obtain⟨b,q,ad,r,b1,_,_,_,_⟩:=fE bs ae;injection ad with ad
  injection ad with ad
  subst ad;have dq:ac br (ab t (o*6)) (.string f[o].at_.name):=ke RA.eE bs rfl o bU 0 ae;have dr:=λv=>J.frozen b1 v;have b:=J.lt b1;refine b2 ?_;refine tq 10 ?_;refine tq 11 ?_;refine dp 12 (λK hK=>?_);go_simp;refine hK _ _ ?_;refine av ?_;refine bV ?_;obtain⟨b3,r,q,b⟩:=B0 bs rfl C.l C.bare bU bN;have g:=Z (Kp.aE (p:=(ab t (o*6))) (l:=[t]) ai (Kp.refl [t] br) j);obtain⟨bt,j⟩:=aq (br.setCell (ab t (o*6)) j);rw[<-j]at b g⊢;clear j dq dr;have ds:=qo g dn;have aP:=Z (g.old b0 (λj j r=>absurd r (by rw[aA j];omega)));have dt:=Z (b.mono (S':=Bw F bt.heap.size) (λj j=>⟨by have:=j.1;omega,j.2⟩));clear g b;have du:=Z (show R=.ok (.mk 7 0 (aB.aN c) [] [] (o:Int) 0 (b3.map RA.at_)) by rw[aQ.out,q,Int.toNat_natCast]);clear aQ q;go_wp2;first|go_end0|refine bodyPost_ret (results_none rfl _ _ _) rfl ?_
  rw[du.out];have b:=aP.size;have i:∀b∈[i],¬Bw F d.heap.size b:=λb g hS=>by have j:=hS.1;have j:=aA g;omega
  have b:∀b,Bw F d.heap.size b->Bw F bt.heap.size b:=λb g=>⟨g.1,by have:=g.2;omega⟩;refine⟨aP,_,rfl,rfl,(aB.mk 7 (0) ⟨(some ⟨S,T,none⟩),c.length,aY⟩ c aJ [] aJ [] o (0) ⟨some ⟨t,0,none⟩,f.length,aL⟩ b3),kg,ds,.mk (bE bt aP) (z.ik.mono b) (λc m=>((z.sub c m).keep aP i).mono b) (aF.none_ _ 12 _) (aS.none_ _ _ _) (aF.none_ _ 1 _) (aS.none_ _ _ _) dt⟩
theorem p7 {a d e:af} {row:Option Nat} (b:ag a d) (c:d.grownBy e row):a.grownBy e row:=
 ⟨c.os.trans b.os,c.tape.trans b.tape,c.output.trans b.output,bR b.size c.size,λd e f=>(c.block d (aT e b.size) f).trans (b.block d e)⟩
theorem Dn (a:af) (c:Nat) (f:a.heap.size=c) (b:aO) (d:bb) (e:Nat) (g:b.size=e):cu (a.alloc (.cells b d)) (c+1) e (some ⟨c,0,none⟩) 1 b.toList:=by
 subst f;refine⟨by simp[g],λ_=>⟨_,rfl,Nat.lt_succ_self _,λc e i=>?_⟩⟩;have h:=(J.new a d b).cell c;have j:(⟨a.heap.size,0,none⟩:Addr).add c=⟨a.heap.size,c,none⟩:=by unfold Addr.add;split<;>simp_all
 rw[j,h];simpa using i
theorem Do (m c d e:Nat) (n:ay) (o:bg) (a p g i j:Int) (q r k l:aw) (b:af) (v:c<b.heap.size) (E:m<=b.heap.size) (H:e<=1000000)
 (F:ac b (ab c (d+1)) n) (G:b.frozen? (ab c (d+1))=false) (s:b.ownsRow m 111 6 n e o) (w:n.ownBlock≠some c):
 Calls Tryz.prog 248 #[.pointer (some ⟨c,d,none⟩),.agg #[p,q,r,k,g,i,j,l],a] b λH I=>∃t f,H=.returned (.tuple #[])/\
  f.ownsRow m 111 6 t (e+1) (o++[.string k,.int .i64 g,.slice none 0 0,.int .i64 i,.int .i64 j,.string l])/\b.grownBy f n.ownBlock/\I=f.setCell (ab c (d+1)) t:=by
 obtain⟨J,K,L,M,N⟩:=info_parts Tryz.rv;have O:=Z s;have x:=Z w;have y:Hid (e+1<=maxLen/\(e+1)*80<=140737488355328):=⟨by unfold maxLen;omega,by omega⟩;have P:=Z E;have Q:Hid ((b.alloc (.cells #[p,q,r,k,g,i,j,l] 99)).drew.heap.size=b.heap.size+1):=by show _=_;rw[d5];simp
 have n:c≠b.heap.size:=ae
 obtain⟨z,A,rfl⟩:=nL s;clear s w;go_enter Tryz.func248,Tryz.ntmps248
 go_wp2;go_region_law (first|(refine m9 _ rfl (.tmp 10) (.tmp 18) 79 rfl m 111 J _ 6 80 Tryz.underlying79 K L M N rfl au (U z e A) e o rfl ((O.out.alloc _).drew.alloc _) _ _ 1 1 [.string k,.int .i64 g,.slice none 0 0,.int .i64 i,.int .i64 j,.string l] rfl (Dn (b.alloc (.cells #[p,q,r,k,g,i,j,l] 99)).drew (b.heap.size+1) Q.out #[k,g,aa,i,j,l] _ 6 rfl) (by intro g u;simp at u;rcases u with rfl|rfl|rfl|rfl|rfl|rfl<;>rfl) y.out.1 y.out.2 ?_ ?_;exact bR P.out (((ag.refl b).alloc _).drew.alloc _).size;intro t f u B R;obtain⟨S,T,rfl⟩:=nL u;have C:=Z u;have b:=p7 (((ag.refl b).alloc _).drew.alloc _) B;have D:=Z b;have e:ac f (ab c (d+1)) (U z e A):=(World.cell?_of_block (a:=⟨c,d+1,none⟩) (b.block c v x.out.symm)).trans F;have c:f.frozen? (ab c (d+1))=false:=(World.frozen?_of_block (a:=⟨c,d+1,none⟩) (b.block c v x.out.symm)).trans G;clear u B R b))
 all_goals
  go_wp2;go_end0
  exact⟨_,f,rfl,C.out,D.out,rfl⟩
theorem Du (z d b e c a:Nat) (o:bg) (i:af) (r:i.ownsRow z 111 6 (U (some ⟨d,0,none⟩) b e) b o) (A:∀g∈o,g.oneCell'=true) (M:c<b) (p:a=c+1) (B:b<=1000000):
 Calls Tryz.prog 252 #[U (some ⟨d,0,none⟩) b e,c,a] i λN B=>N=.returned (U (some ⟨d,0,none⟩) (b-1) e)/\B.ownsRow z 111 6 (U (some ⟨d,0,none⟩) (b-1) e) (b-1) (o.take (c*6)++o.drop ((c+1)*6))/\i.grownBy B (some d):=by
 obtain⟨O,P,z,Q,B⟩:=info_parts Tryz.rv;have R:=Z (BU r.drew M [.string ByteArray.empty,.int .i64 0,.slice none 0 0,.int .i64 0,.int .i64 0,.string ByteArray.empty] rfl);obtain⟨z,s,t,B,k,C,S,x,D⟩:=fE r ae;injection t with t
 injection t with e1
 subst e1;have E:=r.1;have T:a*6<=b*6:=Nat.mul_le_mul_right _ ae;have V:b*6<=e*6:=Nat.mul_le_mul_right _ S;have F:s.toList.length=e*6:=by simp[C]
 obtain⟨j,q⟩:=aq (o.drop (a*6));have m:j.length=(b-a)*6:=by rw[q,List.length_drop,E,Nat.sub_mul]
 have G:∀f g,j[f]?=some g->ac i (ab d (a*6+f)) g:=by
  intro f g l;rw[q,List.getElem?_drop,<-D,List.getElem?_take]at l;split at l
  ·rw[k.cell];simpa using l
  cases l
 obtain⟨u,t,W⟩:∃u:Addr,(if e=a then(some (⟨d,0,none⟩:Addr))else some ⟨d,a*6,none⟩)=some u/\Hid (∀f g,j[f]?=some g->ac i.drew (u.add f) g):=by
  by_cases h:e=a
  ·refine⟨⟨d,0,none⟩,by simp[h],λf g l=>?_⟩
   have n:j.length=0:=by rw[m,show b-a=0 by omega,Nat.zero_mul]
   rw[List.length_eq_zero_iff.1 n]at l;simp at l
  refine⟨⟨d,a*6,none⟩,by simp[h],λf g l=>?_⟩;rw[show(⟨d,a*6,none⟩:Addr).add f=⟨d,a*6+f,none⟩ by unfold Addr.add;split<;>simp_all];exact G f g l
 have X:Hid (j.length=(b-a)*6):=m;have Y:Hid (∀g∈j,g.oneCell'=true):=by
  intro g l;rw[q]at l;exact A g (List.mem_of_mem_drop l)
 have aa:Hid (∀f,f<j.length->(i.drew.cell? (ab d (0+c*6+f))).isSome=true/\i.drew.frozen? (ab d (0+c*6+f))=false):=by
  intro f l;rw[m]at l;have l:a*6=c*6+6:=by rw[p,Nat.add_mul,Nat.one_mul]
  have l:(b-a)*6=b*6-a*6:=Nat.sub_mul _ _ _;rw[Nat.zero_add];refine⟨?_,k.drew.frozen _⟩;rw[k.drew.cell,Array.getElem?_eq_getElem ae];rfl
 obtain⟨l,v⟩:=aq (i.drew.setCells d (0+c*6) j);have H:J i.drew d 111 s.toList.toArray:=by simpa using k.drew
 have w:=pR j (0+c*6) s.toList i.drew H (by
  have n:a*6=c*6+6:=by rw[p,Nat.add_mul,Nat.one_mul]
  have n:(b-a)*6=b*6-a*6:=Nat.sub_mul _ _ _;rw[m];omega)
 rw[<-v]at w;have I:(g8 s.toList (0+c*6) j).length=e*6:=by
  have n:a*6=c*6+6:=by rw[p,Nat.add_mul,Nat.one_mul]
  have n:(b-a)*6=b*6-a*6:=Nat.sub_mul _ _ _;rw[rx _ _ _ (by rw[m];omega),F]
 have s:∀o,(Builtin.clear_ #[79] o #[U (some ⟨d,(c+(b-a))*6,none⟩) (b-(c+(b-a))) (e-(c+(b-a)))]).run Tryz.prog l=.ok (.tuple #[]) (l.setCells d ((c+(b-a))*6) [.string ByteArray.empty,.int .i64 0,.slice none 0 0,.int .i64 0,.int .i64 0,.string ByteArray.empty]):=by
  intro o;rw[show b-(c+(b-a))=1 by omega];have s:(c+(b-a))*6+6<=e*6:=by
   have:(c+(b-a)+1)*6<=e*6:=Nat.mul_le_mul_right _ ae;rw[Nat.add_mul]at this;omega
  refine BT l _ 111 o (.agg _) [.string ByteArray.empty,.int .i64 0,.slice none 0 0,.int .i64 0,.int .i64 0,.string ByteArray.empty] Tryz.underlying79 (λ_=>by kernel_rfl) rfl (by intro g n;simp at n;rcases n with rfl|rfl|rfl|rfl|rfl|rfl<;>rfl) d _ _ (λf g=>?_) (λf _=>w.frozen _);rw[w.cell,List.getElem?_toArray,List.getElem?_eq_getElem (by rw[I];simp at g;omega)];rfl
 have K:Hid (l=i.drew.setCells d (0+c*6) j):=v;have f:c<=e:=ae
 have f:a<=e:=ae
 have f:a<=b:=ae
 have f:c<=a:=ae
 have f:((c:Int)==(a:Int))=false:=aC
 have f:¬e=c+(b-a):=ae
 have f:e<=9223372036854775807:=by unfold maxLen at x;exact x
 have y:=Z p;have L:=Z q;have n:Hid (i.grownBy l (some d)):=by
  show i.grownBy l (some d);rw[v];exact p7 (ag.refl i).drew (uN d j _ _)
 clear r G q m v w I k H D C F T V E x p A;go_enter Tryz.func252,Tryz.ntmps252
 go_wp2_with fail
 go_region_law (refine step_append_room rfl (.tmp 22) (.tmp 25) 79 rfl 111 O 6 Tryz.underlying79 P Q d 0 c e (by simp[Act.eval,Act.put]) u (b-a) (e-a) j (by simp[Act.eval,Act.put]) X.out W.out Y.out ae aa.out ?_;rw[<-K.out])
 go_wp2;go_ret;have e:c+(b-a)=b-1:=by have:=y.out;omega
 refine⟨by rw[e];rfl,?_,?_⟩
 ·have:=R.out
  rw[<-y.out,<-L.out]at this;have f:=K.out;rw[Nat.zero_add]at f;rw[<-f]at this;rw[e,<-y.out,<-L.out];exact this
 have a:=uN d [.string ByteArray.empty,.int .i64 0,.slice none 0 0,.int .i64 0,.int .i64 0,.string ByteArray.empty] ((c+(b-a))*6) l;exact⟨a.os.trans n.os,a.tape.trans n.tape,a.output.trans n.output,bR n.size a.size,λb k c=>(a.block b (aT k n.size) c).trans (n.block b k c)⟩
def gP (b:Nat) (a:Int):Int:=if(b:Int)<a then a-1 else a
def di (c:Nat) (a:List Int) (b:Nat):List Int:=(a.take b).map (gP c)++a.drop b
theorem Dv (b:Nat) (a:List Int):di b a 0=a:=by simp[di]
theorem Dw (b:Nat) (a:List Int):di b a a.length=a.map (gP b):=by simp[di]
theorem rP (b:Nat) (a:List Int) (c:Nat):(di b a c).length=a.length:=by simp[di];omega
theorem vE (d:Nat) (b:List Int) (a:Nat) (c:a<b.length):(di d b a)[a]'(by rw[rP];exact c)=b[a]:=by
 simp only[di];rw[List.getElem_append_right aC];simp[Nat.min_eq_left (Nat.le_of_lt c)]
theorem vF (c:Nat) (b:List Int) (a:Nat) (d:a<b.length):di c b (a+1)=(di c b a).set a (gP c b[a]):=by
 unfold di;rw[List.take_succ_eq_append_getElem d,List.map_append,List.drop_eq_getElem_cons d,List.set_append_right _ _ aC];have a:a-(List.map (gP c) (List.take a b)).length=0:=aC
 rw[a];simp;rw[List.drop_eq_getElem_cons d];rfl
theorem Dx (c:Nat) (b:List Int) (a:Nat) (e:a<b.length) (h:gP c b[a]=b[a]):di c b (a+1)=di c b a:=by
 rw[vF c b a e,h];apply List.ext_getElem ai;intro b c c;by_cases d:a=b
 ·subst d;rw[List.getElem_set_self,vE]
 rw[List.getElem_set_ne d]
section
variable {W0 w w':af} {g c i:Nat} {ts:List RT} {t:RT}
theorem bU.cell (S:bU W0 w g c ts i t) (j:Nat) (a:j<3):w.cell? (ab g (i*3+j))=t.cells[j]?:=by
 have:=ke RT.eE S.row rfl i S.lt j a;rw[S.get]at this;exact this
theorem bU.free (b:bU W0 w g c ts i t) (d:Nat):w.frozen? (ab g d)=false:=by
 obtain⟨b,j,a,_,f,_⟩:=fE b.row (Nat.lt_of_le_of_lt (Nat.zero_le _) b.lt);injection a with a
 injection a with e
 subst e;exact f.frozen d
theorem bU.rQ (d:bU W0 w g c ts i t) (h:0<t.ra.length):∃a ca,t.ha=⟨some ⟨a,0,none⟩,t.ra.length,ca⟩/\W0.heap.size<=a/\a<w.heap.size/\g≠a/\(∀e,w.frozen? (ab a e)=false)/\w.ownsRow W0.heap.size 111 6 (U (some ⟨a,0,none⟩) t.ra.length ca) t.ra.length (t.ra.flatMap RA.cells):=by
 have b:=d.ar;obtain⟨⟨j,l,ca⟩,f⟩:∃h,t.ha=h:=⟨_,rfl⟩;have m:l=t.ra.length:=by have:=d.an;rw[f]at this;exact this
 subst m;have j:(⟨j,t.ra.length,ca⟩:Hd).val=.slice j t.ra.length ca:=rfl;rw[f,j]at b;obtain⟨a,j,n,o,k,_⟩:=fE b h;subst n;exact⟨a,ca,f,o,k.lt,λa=>gM d.row b au (by simp[Value.ownBlock,a]),λe=>k.frozen e,b⟩
theorem bU.Dy (d:bU W0 w g c ts i t) (h:0<t.key.length):∃gk ck,t.hk=⟨some ⟨gk,0,none⟩,t.key.length,ck⟩/\W0.heap.size<=gk/\gk<w.heap.size/\g≠gk/\(∀a,w.frozen? (ab gk a)=false)/\∀a (j:a<t.key.length),ac w (ab gk a) (O t.key[a]):=by
 have b:=d.kr;obtain⟨⟨k,n,e⟩,f⟩:∃h,t.hk=h:=⟨_,rfl⟩;have o:n=t.key.length:=by have:=d.kn;rw[f]at this;exact this
 subst o;have k:(⟨k,t.key.length,e⟩:Hd).val=.slice k t.key.length e:=rfl;rw[f,k]at b;obtain⟨p,k,q,r,l,_⟩:=fE b h;subst q;refine⟨p,e,f,r,l.lt,λe=>gM d.row b au (by simp[Value.ownBlock,e]),λa=>l.frozen a,λa j=>?_⟩;have:=ke (enc:=cj) (m:=1) (λ_=>rfl) b rfl a j 0 Nat.one_pos;simpa[cj]using this
end
theorem Dz (W0 w:af) (g c i a:Nat) (ts:List RT) (t:RT) (q E F G:Int) (H I J K:aw) (S:bU W0 w g c ts i t) (ha:a<t.ra.length) (an:t.ra.length<=1000000) (ao:t.key.length<=1000000) (L:∀k∈t.key,0<=k/\k<=1000000):
 Calls Tryz.prog 251 #[.pointer (some ⟨g,i*3,none⟩),.agg #[q,H,I,J,E,F,G,K],a] w λf w'=>f=.returned (.tuple #[])/\
  (∃h',bU W0 w' g c (ts.set i {t with ra:=t.ra.eraseIdx a,ha:=h',key:=t.key.map (gP a)}) i {t with ra:=t.ra.eraseIdx a,ha:=h',key:=t.key.map (gP a)})/\cV w w':=by
 obtain⟨d,j,kj,V,aJ,M,ap,y⟩:=S.rQ ae;have N:ac w (ab g (i*3+1)) (U (some ⟨d,0,none⟩) t.ra.length j):=by
  exact GT
 obtain⟨⟨P,V,m⟩,p⟩:∃h,t.hk=h:=⟨_,rfl⟩;have ar:V=t.key.length:=by have:=S.kn;rw[p]at this;exact this
 subst ar;have Q:ac w (ab g (i*3+2)) (U P t.key.length m):=by
  have:=S.cell 2 ae;rw[this];show some t.hk.val=_;rw[p];rfl
 have R:w.frozen? (ab g (i*3+1))=false:=S.free _;have T:=S.oA.2;have V:g≠w.heap.size:=ae
 have W:∀V∈t.ra.flatMap RA.cells,V.oneCell'=true:=by
  intro V e;obtain⟨e,_,b⟩:=List.mem_flatMap.1 e;simp only[RA.cells,List.mem_cons,List.not_mem_nil,or_false]at b;rcases b with rfl|rfl|rfl|rfl|rfl|rfl<;>rfl
 obtain⟨q,E⟩:=aq (Obj.cells #[q,H,I,J,E,F,G,K] 99);have z:Hid (Calls Tryz.prog 252 #[U (some ⟨d,0,none⟩) t.ra.length j,a,O ((a:Int)+1)] (w.alloc q) λf w'=>f=.returned (U (some ⟨d,0,none⟩) (t.ra.length-1) j)/\w'.ownsRow W0.heap.size 111 6 (U (some ⟨d,0,none⟩) (t.ra.length-1) j) (t.ra.length-1) ((t.ra.flatMap RA.cells).take (a*6)++(t.ra.flatMap RA.cells).drop ((a+1)*6))/\(w.alloc q).grownBy w' (some d)):=
  Du W0.heap.size d t.ra.length j a (a+1) _ (w.alloc q) (y.alloc q) W ha rfl an
 have r:=Z S;have au:=Z y;rw[E]at z;clear S y W E;have q:(a:Int)+1<=1000000:=ae
 go_enter Tryz.func251,Tryz.ntmps251
 go_wp2_with fail
 refine z.mono ?_;rintro f s ⟨rfl,X,n⟩;have B:=n.block g aC (λf=>M (by injection f));have q:=λb=>(World.cell?_of_block B).trans (((ag.refl w).alloc _).cells g b T);have y:=λb=>(World.frozen?_of_block B).trans (((ag.refl w).alloc _).frees g b T);have av:=(q (i*3+1)).trans N;have ax:=(y (i*3+1)).trans R;have ay:=(q (i*3+2)).trans Q;clear q y B;have q:(t.ra.eraseIdx a).length=t.ra.length-1:=by rw[List.length_eraseIdx,if_pos ha]
 have Y:bU W0 (s.setCell (ab g (i*3+1)) (U (some ⟨d,0,none⟩) (t.ra.length-1) j)) g c (ts.set i {t with ra:=t.ra.eraseIdx a,ha:=⟨some ⟨d,0,none⟩,t.ra.length-1,j⟩}) i {t with ra:=t.ra.eraseIdx a,ha:=⟨some ⟨d,0,none⟩,t.ra.length-1,j⟩}:=by
  have:=(r.out.alloc _).g2 (w1:=s) (A:=some ⟨d,0,none⟩) (ca:=j) (ra:=t.ra.eraseIdx a) (by rw[kj];exact n) (by rw[q,<-vC RA.eE t.ra a ha];exact X);rw[q]at this;exact this
 have aa:cV w (s.setCell (ab g (i*3+1)) (U (some ⟨d,0,none⟩) (t.ra.length-1) j)):=by
  have l:=((cV.refl w).alloc _).grown (au.alloc _) (.inr (.inl rfl)) n;obtain⟨u,v,e,_,o,_⟩:=fE (r.alloc _|>.row.kept n (.inr (λf=>M (by simpa[Value.ownBlock]using f)))) (Nat.lt_of_le_of_lt (Nat.zero_le _) r.lt);injection e with e
  injection e with f
  subst f;exact l.set o (.inl rfl) _ _
 have C:=Z Y;have ad:=Z aa;clear Y X n aa;go_wp2;obtain⟨q,n⟩:=aq (s.setCell (ab g (i*3+1)) (U (some ⟨d,0,none⟩) (t.ra.length-1) j));rw[<-n];rw[<-n]at C ad;obtain⟨e,d⟩:∃e:RT,e={t with ra:=t.ra.eraseIdx a,ha:=⟨some ⟨d,0,none⟩,t.ra.length-1,j⟩}:=⟨_,rfl⟩;rw[<-d]at C;have j:e.key=t.key:=by rw[d]
 have q:e.hk=⟨P,t.key.length,m⟩:=by rw[d];exact p
 have az:=Z j;have o:=Z q;have aA:=Z d;have aB:=Z L;have s:=ao;clear n d av ay ax N Q R z j q p kj L ap r;go_loopw [23] (λk wr=>∃b:Nat,b<=t.key.length/\k=.int .i64 b/\Hid (bU W0 wr g c (ts.set i {e with key:=di a t.key b}) i {e with key:=di a t.key b})/\Hid (cV w wr)) (λk _=>t.key.length-(intOf k).toNat)
 case atStart=>exact⟨0,Nat.zero_le _,rfl,by rw[Dv,<-az.out];exact C.out,ad.out⟩
 obtain⟨b,aK,rfl,l,D⟩:=hrel;by_cases u:b<t.key.length
 ·have aD:(di a t.key b).length=t.key.length:=rP _ _ _
  obtain⟨gk,d,ah,j,n,p,ai,aj⟩:=l.Dy (show 0<(di a t.key b).length by omega);have aE:=o.symm.trans ah;injection aE with eB eN eC
  have aF:ac wr (ab gk b) (O t.key[b]):=by
   have:=aj b (show b<(di a t.key b).length by omega);rw[this];exact congrArg (λd=>some (Value.int .i64 d)) (vE a t.key b u)
  have d:=ai b;have d:ac wr (ab g (i*3+2)) (U (some ⟨gk,0,none⟩) t.key.length m):=by
   have:=l.out.cell 2 ae;rw[this];show some e.hk.val=_;rw[o.out,eB];rfl
  have ak:=aB t.key[b] (List.getElem_mem u);have aG:Hid (∀d,bU W0 (wr.setCell (ab gk b) (.int .i64 d)) g c (ts.set i {e with key:=(di a t.key b).set b d}) i {e with key:=(di a t.key b).set b d}):=by
   intro d;have:=l.out.BV (gk:=gk) (ck:=m) (by rw[o.out,eB]) (by rw[o.out]) b (show b<(di a t.key b).length by omega) d;simpa[List.set_set]using this
  have aH:Hid (∀d,cV w (wr.setCell (ab gk b) (.int .i64 d))):=by
   intro d;have d:=l.kr;have j:({e with key:=di a t.key b}:RT).hk.val=.slice (some ⟨gk,0,none⟩) t.key.length m:=by
    show e.hk.val=_;rw[o.out,eB];rfl
   rw[j]at d;have j:wr.ownsRow W0.heap.size 3 1 (U (some ⟨gk,0,none⟩) t.key.length m) t.key.length ((di a t.key b).flatMap cj):=by
    have:(di a t.key b).length=t.key.length:=rP _ _ _;rw[<-this];rw[<-this]at d;exact d
   obtain⟨d,j,v,_,x,_⟩:=fE j ae;injection v with v
   injection v with f
   subst f;exact D.set x (.inr (.inr rfl)) _ _
  have v:Hid (di a t.key (b+1)=(di a t.key b).set b (gP a t.key[b])):=vF a t.key b u;have x:Hid (gP a t.key[b]=t.key[b]->di a t.key (b+1)=di a t.key b):=Dx a t.key b u;obtain⟨k,al⟩:=aq (t.key[b]);rw[<-al]at aF ak v x;obtain⟨aL,aM⟩:=ak;clear al aj ai ah eB eN eC aD;by_cases am:(a:Int)<k
  ·have aI:Hid (di a t.key (b+1)=(di a t.key b).set b (k-1)):=by show _=_;rw[v.out];unfold gP;rw[if_pos am]
   clear v x;go_wp2;go_roundw
   case rel=>exact⟨b+1,by omega,by go_num,by rw[aI.out];exact aG.out (k-1),aH.out (k-1)⟩
   simp[intOf];omega
  have aI:Hid (di a t.key (b+1)=di a t.key b):=x.out (by unfold gP;rw[if_neg am]);clear v x;go_wp2;go_roundw
  case rel=>exact⟨b+1,by omega,by go_num,by rw[aI.out];exact l.out,D.out⟩
  simp[intOf];omega
 have b:b=t.key.length:=ae
 have v:Hid (bU W0 wr g c (ts.set i {e with key:=t.key.map (gP a)}) i {e with key:=t.key.map (gP a)}):=by
  have:=l.out;rw[b,Dw]at this;exact this
 clear b l;go_wp2;go_end0
 exact⟨rfl,⟨_,by have:=v.out;rw[aA.out]at this;exact this⟩,D.out⟩
theorem rS (d:af) (a b o:Nat) (e:ay) (h:o≠b):(d.setCell (ab a o) e).cell? (ab a b)=d.cell? (ab a b):=
 World.cell?_setCell_other _ _ _ _ (λc=>by injection c with _ c;exact h c)
theorem vG {c:af} {b:Nat} {d:ay} (h:ac c (ab b 0) d):cu c (b+1) 1 (some ⟨b,0,none⟩) 1 [d]:=by
 refine⟨rfl,λ_=>⟨_,rfl,Nat.lt_succ_self _,λe b a=>?_⟩⟩;match e,a with
 |0,a=>simp at a;subst a;simpa[Addr.add]using h
 |e+1,a=>simp at a
theorem rT:∀a:List ByteArray,a.flatMap dF=a.map .string
 |[]=>rfl
 |x::a=>by rw[List.flatMap_cons,rT a];rfl
theorem DA (h:Hd) (b:bm) (c:af) (a:b4 c h b) (k:h.n<=1000000000):
 Calls Tryz.prog 257 #[h.val] c λe f=>∃i d,e=.returned (U i b.length d)/\ag c f/\f.ownsRow c.heap.size 9 1 (U i b.length d) b.length (b.map .string):=by
 have e:=rT b;refine(uI h dF (λ_=>rfl) (λi i g=>by simp[dF]at g;subst g;rfl) b c a.1 k).mono ?_;rintro b f (⟨rfl,rfl,g⟩|⟨d,l,rfl,g,j⟩)
 ·exact⟨none,0,rfl,g,rfl,.inl ⟨rfl,rfl⟩⟩
 rw[e]at j;exact⟨_,d,rfl,g,j⟩
theorem DB (k o g a n w:Nat) (r O P Q:Int) (R T l V s:aw) (y:Hd) (f:bm) (b:af) (X:k≠g) (j:g<b.heap.size) (t:k<b.heap.size) (X:a<n) (X:n<=9223372036854775807)
 (z:ac b (ab k (o+1)) (U (some ⟨g,0,none⟩) n w))
 (e0:ac b (ab g (a*6)) s) (W:ac b (ab g (a*6+2)) y.val) (I:∀X,b.frozen? (ab g X)=false) (J:b4 b y f) (X:f.length<=1000000):
 Calls Tryz.prog 256 #[.pointer (some ⟨k,o,none⟩),.agg #[r,R,T,l,O,P,Q,V],a] b λe c=>∃X Y ah,e=.returned (.tuple #[])/\
  ah.ownsRow b.heap.size 9 1 (U X (f.length+1) Y) (f.length+1) ((f++[s]).map .string)/\ag b ah/\
  c=((ah.setCell (ab g (a*6+2)) (U X (f.length+1) Y)).setCell (ab g (a*6)) l).drew:=by
 obtain⟨aa,ad,al,an,ao⟩:=info_parts Tryz.uH;have ap:=Z (λ(d:af) (i:ag b d)=>DA y f d (J.same i) (by rw[<-J.1.1];omega));have aq:=I (a*6);have ar:=I (a*6+2);have X:k≠b.heap.size:=by omega
 have X:g≠b.heap.size:=ae
 have A:Hid (f.length+1<=maxLen/\(f.length+1)*16<=140737488355328):=⟨by unfold maxLen;omega,by omega⟩;obtain⟨B,C,D⟩:=y;have E:ac b (ab g (a*6+2)) (U B C D):=W;have ax:Hid (∀d,ag b d->Calls Tryz.prog 257 #[U B C D] d λe c=>∃i m,e=.returned (U i f.length m)/\ag d c/\c.ownsRow d.heap.size 9 1 (U i f.length m) f.length (f.map .string)):=ap;clear I J ap W;go_enter Tryz.func256,Tryz.ntmps256
 go_wp2;refine yg (dH:=?aj) (S:=(λc=>ac c (ab k (o+1)) (U (some ⟨g,0,none⟩) n w)/\ac c (ab g (a*6)) s/\ac c (ab g (a*6+2)) (U B C D))) (n:=26) ak (sT ak) ?ay ?aA
 case ay=>simp only[List.pop_toArray,List.dropLast_cons_cons,List.dropLast_singleton];rfl
 have d:(λc=>ac c (ab k (o+1)) (U (some ⟨g,0,none⟩) n w)/\ac c (ab g (a*6)) s/\ac c (ab g (a*6+2)) (U B C D)) ((b.alloc (.cells #[r,R,T,l,O,P,Q,V] 99)).drew):=by
  exact uX
 refine dZ 0 (oi:=?aB) (v:=?aC) ?aD ak ?aF ?ah ?aG d ?aH
 case aD=>simp only[bc,bd,be];rfl
 case aF=>exact λ_ _ _ h=>h
 case ah=>rfl
 case aG=>rintro c ⟨aG,aI,aJ⟩;go_simp;try with_reducible rfl
 refine av ?_;refine dZ 1 (oi:=?aK) (v:=?aL) ?aM ak ?aN ?aO ?aI d ?aP
 case aM=>simp only[bc,bd,be];rfl
 case aN=>exact λ_ _ _ h=>h
 case aO=>rfl
 case aI=>rintro c ⟨aG,aI,aJ⟩;go_simp;try with_reducible rfl
 refine av ?_;refine dZ 2 (oi:=?aQ) (v:=?aR) ?aS ak ?aU ?aV ?aJ d ?aW
 case aS=>simp only[bc,bd,be];rfl
 case aU=>exact λ_ _ _ h=>h
 case aV=>rfl
 case aJ=>rintro c ⟨aG,aI,aJ⟩;go_simp;try with_reducible rfl
 refine av ?_;refine dZ 3 (oi:=?aX) (v:=?aY) ?aZ ak ?bf ?bg ?bn d ?bq
 case aZ=>simp only[bc,bd,be];rfl
 case bf=>exact λ_ _ _ h=>h
 case bg=>rfl
 case bn=>rintro c ⟨aG,aI,aJ⟩;go_simp;try with_reducible rfl
 refine av ?_;refine dZ 4 (oi:=?bA) (v:=?bB) ?bC ak ?bD ?bE ?bF d ?bG
 case bC=>simp only[bc,bd,be];rfl
 case bD=>exact λ_ _ _ h=>h
 case bE=>rfl
 case bF=>rintro c ⟨aG,aI,aJ⟩;go_simp;try with_reducible rfl
 refine av ?_;refine dZ 5 (oi:=?bH) (v:=?bI) ?bJ ak ?bK ?bL ?bM d ?bN
 case bJ=>simp only[bc,bd,be];rfl
 case bK=>exact λ_ _ _ h=>h
 case bL=>rfl
 case bM=>rintro c ⟨aG,aI,aJ⟩;go_simp;try with_reducible rfl
 refine av ?_;refine dZ 6 (oi:=?bO) (v:=?bP) ?bQ ak ?bS ?bT ?bU d ?bV
 case bQ=>simp only[bc,bd,be];rfl
 case bS=>exact λ_ _ _ h=>h
 case bT=>rfl
 case bU=>rintro c ⟨aG,aI,aJ⟩;go_simp;try with_reducible rfl
 refine av ?_;refine dZ 7 (oi:=?bW) (v:=?bX) ?bY ak ?bZ ?cu ?cB d ?cK
 case bY=>simp only[bc,bd,be];rfl
 case bZ=>exact λ_ _ _ h=>h
 case cu=>rfl
 case cB=>rintro c ⟨aG,aI,aJ⟩;go_simp;try with_reducible rfl
 refine av ?_;refine dZ 8 (oi:=?cO) (v:=?cZ) ?dh ak ?dn ?dw ?dx d ?dz
 case dh=>simp only[bc,bd,be];rfl
 case dn=>exact λ_ _ _ h=>h
 case dw=>rfl
 case dx=>rintro c ⟨aG,aI,aJ⟩;go_simp;try with_reducible rfl
 refine av ?_;refine dZ 9 (oi:=?dA) (v:=?dB) ?dD ak ?dF ?dG ?dI d ?dJ
 case dD=>simp only[bc,bd,be];rfl
 case dF=>exact λ_ _ _ h=>h
 case dG=>rfl
 case dI=>rintro c ⟨aG,aI,aJ⟩;go_simp;try with_reducible rfl
 refine av ?_;refine dZ 10 (oi:=?dK) (v:=?dL) ?dM ak ?dN ?dO ?dP d ?dQ
 case dM=>simp only[bc,bd,be];rfl
 case dN=>exact λ_ _ _ h=>h
 case dO=>rfl
 case dP=>rintro c ⟨aG,aI,aJ⟩;go_simp;try with_reducible rfl
 refine av ?_;refine dZ 11 (oi:=?dR) (v:=?dS) ?dU ak ?dV ?dW ?dX d ?dY
 case dU=>simp only[bc,bd,be];rfl
 case dV=>exact λ_ _ _ h=>h
 case dW=>rfl
 case dX=>rintro c ⟨aG,aI,aJ⟩;go_simp;try with_reducible rfl
 refine av ?_;refine dZ 12 (oi:=?d9) (v:=?eu) ?eB ak ?eD ?eF ?eG d ?eH
 case eB=>simp only[bc,bd,be];rfl
 case eD=>exact λ_ _ _ h=>h
 case eF=>rfl
 case eG=>rintro c ⟨aG,aI,aJ⟩;go_simp;try with_reducible rfl
 refine av ?_;refine dZ 14 (oi:=?eO) (v:=?eP) ?eT ak ?eU ?eX ?eY d ?eZ
 case eT=>simp only[bc,bd,be];rfl
 case eU=>exact λ_ _ _ h=>h
 case eX=>rfl
 case eY=>rintro c ⟨aG,aI,aJ⟩;go_simp;try with_reducible rfl
 refine av ?_;refine dZ 15 (oi:=?fq) (v:=?fu) ?fA ak ?fB ?fC ?fD d ?fE
 case fA=>simp only[bc,bd,be];rfl
 case fB=>exact λ_ _ _ h=>h
 case fC=>rfl
 case fD=>rintro c ⟨aG,aI,aJ⟩;go_simp;try with_reducible rfl
 refine av ?_;refine dZ 16 (oi:=?fF) (v:=?fG) ?fH ak ?fI ?fJ ?fK d ?fM
 case fH=>simp only[bc,bd,be];rfl
 case fI=>exact λ_ _ _ h=>h
 case fJ=>rfl
 case fK=>rintro c ⟨aG,aI,aJ⟩;go_simp;try with_reducible rfl
 refine av ?_;refine dZ 17 (oi:=?fO) (v:=?fP) ?fQ ak ?fT ?fU ?fV d ?fZ
 case fQ=>simp only[bc,bd,be];rfl
 case fT=>exact λ_ _ _ h=>h
 case fU=>rfl
 case fV=>rintro c ⟨aG,aI,aJ⟩;go_simp;try with_reducible rfl
 refine av ?_;refine dZ 18 (oi:=?gq) (v:=?gu) ?gy ak ?gB ?gD ?gF d ?gG
 case gy=>simp only[bc,bd,be];rfl
 case gB=>exact λ_ _ _ h=>h
 case gD=>rfl
 case gF=>rintro c ⟨aG,aI,aJ⟩;go_simp;try with_reducible rfl
 refine av ?_;refine dZ 19 (oi:=?gH) (v:=?gI) ?gJ ak ?gK ?gL ?gM d ?gN
 case gJ=>simp only[bc,bd,be];rfl
 case gK=>exact λ_ _ _ h=>h
 case gL=>rfl
 case gM=>rintro c ⟨aG,aI,aJ⟩;go_simp;try with_reducible rfl
 refine av ?_;refine dZ 20 (oi:=?gP) (v:=?gQ) ?gT ak ?gU ?gV ?gW d ?gX
 case gT=>simp only[bc,bd,be];rfl
 case gU=>exact λ_ _ _ h=>h
 case gV=>rfl
 case gW=>rintro c ⟨aG,aI,aJ⟩;go_simp;try with_reducible rfl
 refine av ?_;refine dZ 21 (oi:=?gY) (v:=?gZ) ?ig ak ?iq ?iw ?iy d ?iA
 case ig=>simp only[bc,bd,be];rfl
 case iq=>exact λ_ _ _ h=>h
 case iw=>rfl
 case iy=>rintro c ⟨aG,aI,aJ⟩;go_simp;try with_reducible rfl
 refine av ?_;refine wpAnyH_ready (rs:=[13,22]) ak ai ?_;refine AllReadyH.cons (o:=?iB) ?iC (λq i=>?iD) ?iE
 case iC=>simp only[bc,bd,be];rfl
 case iD=>
  rw[if_pos (by rfl)];go_simp;go_at_call 257;refine(ax.out _ ?_).mono ?_;(first|exact((ag.refl b).alloc _).drew|exact(((ag.refl b).alloc _).alloc _).drew);rintro e wc ⟨F,G,rfl,u,aK⟩;have K:b.heap.size<wc.heap.size:=aT m0 u.size;have x:Hid (ag b wc):=(by first|exact((ag.refl b).alloc _).drew.trans u|exact(((ag.refl b).alloc _).alloc _).drew.trans u);have az:Hid ((Value.slice F f.length G).ownBlock≠some b.heap.size):=(λe=>by have:=(aK.lt _ e).1;simp[d5]at this<;>omega);have aE:ac wc (am b 3) l:=(u.cells _ _ m0).trans (by simp[iS]);have a0:Hid (∀m p,World.cell? _ m=some p->ac wc m p):=(λm m h=>(u.cell (World.block_lt_of_cell? _ _ h)).trans h);have y:=(x.out.cells _ _ t).trans z;have y:=(x.out.cells _ _ j).trans e0;have y:=(x.out.cells _ _ j).trans E;have y:wc.ownsRow b.heap.size 9 1 (U F f.length G) f.length (f.map .string):=aK.mono (Nat.le_of_lt m0);have L:=Z y;clear u aK y
  try go_simp
  refine i _ _ ?_ (λd=>?_)
  ·exact uX
  refine av ?_;refine wpAnyH_ready (rs:=[22]) ak ai ?_;refine AllReadyH.cons (o:=?iF) ?iG (λq i=>?iH) ?iI
  case iG=>simp only[bc,bd,be];rfl
  case iI=>exact AllReadyH.nil
  rw[if_pos (by rfl)];go_simp;refine i _ _ ?_ (λd=>?_)
  ·exact uX
  refine av ?_;refine wpAnyH_ready (rs:=[23]) ak ai ?_;refine AllReadyH.cons (o:=?iJ) ?iK (λq i=>?iL) ?iM
  case iK=>simp only[bc,bd,be];rfl
  case iM=>exact AllReadyH.nil
  refine m9 _ rfl (.tmp 19) (.tmp 28) 83 rfl b.heap.size 9 aa _ 1 16 Tryz.underlying83 ad al an ao rfl au (U F f.length G) f.length (f.map .string) rfl ?_ _ _ 1 1 [.string s] rfl (vG ?_) (λp m=>by simp at m;subst m;rfl) A.out.1 A.out.2 ?_ ?_;(first|exact L.out|exact L.out.alloc _);(first|exact a0.out _ _ (by simp[iS])|simp[*,iS]);(exact bR (Nat.le_of_lt K) ai);intro aC m M N a1;obtain⟨a2,a3,rfl⟩:=nL M;have H:wc.grownBy m (Value.slice F f.length G).ownBlock:=(by first|exact N|exact p7 ((ag.refl wc).alloc _) N);have a4:=Z M;have p:Hid (ag b m):=Below.grown x.out H x.out.size (λr p=>(L.out.lt r p).1);have u:b.heap.size<m.heap.size:=aT K H.size;have u:ac m (am b 3) l:=(World.cell?_of_block (a:=⟨b.heap.size,3,none⟩) (H.block b.heap.size K az.out.symm)).trans aE;have u:=(p.out.cells _ _ t).trans z;have u:=(p.out.cells _ _ j).trans e0;have u:=(p.out.cells _ _ j).trans E;have u:m.frozen? (ab g (a*6))=false:=(p.out.frees _ _ j).trans aq;have u:m.frozen? (ab g (a*6+2))=false:=(p.out.frees _ _ j).trans ar;have u:k<m.heap.size:=aT t p.out.size;have u:g<m.heap.size:=aT j p.out.size;clear M N a1 H;refine i _ _ ?_ (λd=>?_)
  ·exact uX
  refine av ?_;refine dZ 24 (oi:=?iN) (v:=?iO) ?iP ak ?iQ ?iR ?iT d ?iU
  case iP=>simp only[bc,bd,be];rfl
  case iQ=>exact λ_ _ _ h=>h
  case iR=>rfl
  case iT=>rintro c ⟨aG,aI,aJ⟩;go_simp;try with_reducible rfl
  refine av ?_;refine dZ 25 (oi:=?iV) (v:=?iW) ?iX ak ?iY ?iZ ?jc d ?jd
  case iX=>simp only[bc,bd,be];rfl
  case iY=>exact λ_ _ _ h=>h
  case iZ=>rfl
  case jc=>rintro c ⟨aG,aI,aJ⟩;go_simp;try with_reducible rfl
  refine av ?_;refine wpAnyH_done ak ?_ _;refine sU (o:=?je) ?jf ?jg ?jh
  case jf=>simp only[bc,bd,be];rfl
  case jg=>rfl
  intro q i;go_simp;refine i _ _ ?_;refine av ?_;go_wp2;go_region_held3 (λc=>ac c (ab k (o+1)) (U (some ⟨g,0,none⟩) n w)/\ac c (am b 3) l) (first|(simp[*];done)|((repeat' apply And.intro)<;>(first|(simp[*];done)|(simp[*,p3,iS,p4,rS,p5,p6];done)|go_keep))) (fail)
  go_wp2;go_end0
  refine⟨a2,a3,m,rfl,?_,p,rfl⟩;have:=a4.out;rw[List.map_append];exact this
 refine AllReadyH.cons (o:=?ji) ?jk (λq i=>?jl) ?jm
 case jk=>simp only[bc,bd,be];rfl
 case jm=>exact AllReadyH.nil
 rw[if_pos (by rfl)];go_simp;refine i _ _ ?_ (λd=>?_)
 ·exact uX
 refine av ?_;refine wpAnyH_ready (rs:=[13]) ak ai ?_;refine AllReadyH.cons (o:=?jo) ?jq (λq i=>?jr) ?jv
 case jq=>simp only[bc,bd,be];rfl
 case jv=>exact AllReadyH.nil
 rw[if_pos (by rfl)];go_simp;go_at_call 257;refine(ax.out _ ?_).mono ?_;(first|exact((ag.refl b).alloc _).drew|exact(((ag.refl b).alloc _).alloc _).drew);rintro e wc ⟨F,G,rfl,u,aK⟩;have K:b.heap.size<wc.heap.size:=aT m0 u.size;have x:Hid (ag b wc):=(by first|exact((ag.refl b).alloc _).drew.trans u|exact(((ag.refl b).alloc _).alloc _).drew.trans u);have az:Hid ((Value.slice F f.length G).ownBlock≠some b.heap.size):=(λe=>by have:=(aK.lt _ e).1;simp[d5]at this<;>omega);have aE:ac wc (am b 3) l:=(u.cells _ _ m0).trans (by simp[iS]);have a0:Hid (∀m p,World.cell? _ m=some p->ac wc m p):=(λm m h=>(u.cell (World.block_lt_of_cell? _ _ h)).trans h);have y:=(x.out.cells _ _ t).trans z;have y:=(x.out.cells _ _ j).trans e0;have y:=(x.out.cells _ _ j).trans E;have y:wc.ownsRow b.heap.size 9 1 (U F f.length G) f.length (f.map .string):=aK.mono (Nat.le_of_lt m0);have L:=Z y;clear u aK y
 try go_simp
 refine i _ _ ?_ (λd=>?_)
 ·exact uX
 refine av ?_;refine wpAnyH_ready (rs:=[23]) ak ai ?_;refine AllReadyH.cons (o:=?jw) ?jy (λq i=>?jA) ?jB
 case jy=>simp only[bc,bd,be];rfl
 case jB=>exact AllReadyH.nil
 refine m9 _ rfl (.tmp 19) (.tmp 28) 83 rfl b.heap.size 9 aa _ 1 16 Tryz.underlying83 ad al an ao rfl au (U F f.length G) f.length (f.map .string) rfl ?_ _ _ 1 1 [.string s] rfl (vG ?_) (λp m=>by simp at m;subst m;rfl) A.out.1 A.out.2 ?_ ?_;(first|exact L.out|exact L.out.alloc _);(first|exact a0.out _ _ (by simp[iS])|simp[*,iS]);(exact bR (Nat.le_of_lt K) ai);intro aC m M N a1;obtain⟨a2,a3,rfl⟩:=nL M;have H:wc.grownBy m (Value.slice F f.length G).ownBlock:=(by first|exact N|exact p7 ((ag.refl wc).alloc _) N);have a4:=Z M;have p:Hid (ag b m):=Below.grown x.out H x.out.size (λr f=>(L.out.lt r f).1);have f:b.heap.size<m.heap.size:=aT K H.size;have f:ac m (am b 3) l:=(World.cell?_of_block (a:=⟨b.heap.size,3,none⟩) (H.block b.heap.size K az.out.symm)).trans aE;have f:=(p.out.cells _ _ t).trans z;have f:=(p.out.cells _ _ j).trans e0;have f:=(p.out.cells _ _ j).trans E;have f:m.frozen? (ab g (a*6))=false:=(p.out.frees _ _ j).trans aq;have f:m.frozen? (ab g (a*6+2))=false:=(p.out.frees _ _ j).trans ar;have f:k<m.heap.size:=aT t p.out.size;have f:g<m.heap.size:=aT j p.out.size;clear M N a1 H;refine i _ _ ?_ (λd=>?_)
 ·exact uX
 refine av ?_;refine dZ 24 (oi:=?jC) (v:=?jD) ?jE ak ?jF ?jG ?jH d ?jI
 case jE=>simp only[bc,bd,be];rfl
 case jF=>exact λ_ _ _ h=>h
 case jG=>rfl
 case jH=>rintro c ⟨aG,aI,aJ⟩;go_simp;try with_reducible rfl
 refine av ?_;refine dZ 25 (oi:=?jJ) (v:=?jK) ?jL ak ?jM ?jN ?jO d ?jP
 case jL=>simp only[bc,bd,be];rfl
 case jM=>exact λ_ _ _ h=>h
 case jN=>rfl
 case jO=>rintro c ⟨aG,aI,aJ⟩;go_simp;try with_reducible rfl
 refine av ?_;refine wpAnyH_done ak ?_ _;refine sU (o:=?jQ) ?jR ?jS ?jT
 case jR=>simp only[bc,bd,be];rfl
 case jS=>rfl
 intro q i;go_simp;refine i _ _ ?_;refine av ?_;go_wp2;go_region_held3 (λc=>ac c (ab k (o+1)) (U (some ⟨g,0,none⟩) n w)/\ac c (am b 3) l) (first|(simp[*];done)|((repeat' apply And.intro)<;>(first|(simp[*];done)|(simp[*,p3,iS,p4,rS,p5,p6];done)|go_keep))) (fail)
 go_wp2;go_end0
 refine⟨a2,a3,m,rfl,?_,p,rfl⟩;have:=a4.out;rw[List.map_append];exact this
section
variable {α:Type}
def m5 (b c:List α) (d:Nat):Prop:=∀a,a<d->b[a]?=c[a]?
theorem FA (a b:List α):m5 a b 0:=λa a=>absurd a (Nat.not_lt_zero _)
theorem FB {b c:List α} {a:Nat} (e:a<b.length) (f:a<c.length) (h:m5 b c a) (g:b[a]=c[a]):m5 b c (a+1):=λd b=>by
 by_cases i:d=a
 ·subst i;rw[List.getElem?_eq_getElem e,List.getElem?_eq_getElem f,g]
 exact h d ae
theorem FC [DecidableEq α] {a b:List α} (c:a.length=b.length) (h:m5 a b a.length):decide (a=b)=true:=by
 apply decide_eq_true;apply List.ext_getElem?;intro b;by_cases c:b<a.length
 ·exact h b c
 rw[List.getElem?_eq_none ae,List.getElem?_eq_none ae]
theorem FD [DecidableEq α] {b c:List α} {a:Nat} (e:a<b.length) (e:a<c.length) (d:b[a]≠c[a]):decide (b=c)=false:=by
 apply decide_eq_false;rintro rfl;exact d rfl
theorem FE [DecidableEq α] {a b:List α} (h:a.length≠b.length):decide (a=b)=false:=by
 apply decide_eq_false;rintro rfl;exact h rfl
end
theorem FF (g i:Hd) (a b:List Int) (d:af) (o:dQ d g a) (p:dQ d i b):
 Calls Tryz.prog 34 #[g.val,i.val] d λu v=>u=.returned (.bool (decide (a=b)))/\ag d v:=by
 have L1:aF d 1 g cj a:=o;have L2:aF d 1 i cj b:=p;clear o p;obtain⟨w,x,y⟩:=g;obtain⟨z,A,B⟩:=i;show Calls Tryz.prog 34 #[U w x y,U z A B] d _;have C:=L1.1;have D:=L2.1;have g:=L1.2.1;have g:=L2.2.1;subst C D;have E:=Z L1;have F:=Z L2;clear L1 L2;by_cases j:a.length=b.length
 case neg=>
  have e:((a.length:Int) !=(b.length:Int))=true:=aC
  have c:=Z j;clear j;go_enter Tryz.func34,Tryz.ntmps34
  go_wp2;go_ret;exact⟨ch (FE c).symm,ag.refl _⟩
 have g:((a.length:Int) !=(b.length:Int))=false:=aC
 have q:=Z j;clear j;go_enter Tryz.func34,Tryz.ntmps34
 go_wp2;go_loopw [5] (λe wr=>∃c:Nat,c<=a.length/\e=.int .i64 c/\Hid (ag d wr)/\Hid (m5 a b c)) (λc _=>a.length-(intOf c).toNat)
 case atStart=>exact⟨0,Nat.zero_le _,rfl,ag.refl d,FA _ _⟩
 obtain⟨c,J,rfl,f,r⟩:=hrel;by_cases m:c<a.length
 ·have n:c<b.length:=by have:=q.out;omega
  obtain⟨g,i,G,j,d⟩:=(E.same f).2.2 c m;obtain⟨i,j,H,o,g⟩:=(F.same f).2.2 c n;obtain⟨k,i⟩:=aq (a[c]);obtain⟨l,j⟩:=aq (b[c]);rw[<-i]at d;rw[<-j]at g;have s:=Z i;have t:=Z j;have o:=d 0 k rfl;have p:=g 0 l rfl;simp only[Nat.mul_one,Nat.add_zero]at o p;clear d g i j;subst G H;have d:(c:Int)<(a.length:Int):=ae
  have d:(c:Int)<(b.length:Int):=ae
  by_cases e:k=l
  ·have d:(k !=l)=false:=by simp;exact e
   have I:=Z e;clear e;go_wp2_with fail
   go_quiet (fail)
   go_wp2;go_roundw
   case rel=>exact⟨c+1,by omega,by go_num,(f.out.drewN _),FB m n r.out (by rw[<-s.out,<-t.out];exact I.out)⟩
   simp[intOf];omega
  have d:(k !=l)=true:=by simp;exact e
  have I:=Z e;clear e;go_wp2_with fail
  go_quiet (fail)
  go_wp2;go_ret;exact⟨ch (FD m n (by rw[<-s.out,<-t.out];exact I.out)).symm,f.drewN _⟩
 have c:c=a.length:=ae
 have e:Hid (m5 a b a.length):=by rw[<-c];exact r.out
 clear c;go_wp2;go_ret;exact⟨ch (FC q e).symm,f⟩
end Go.Proofs.YteamkimbmdgdbaaGreatDoor

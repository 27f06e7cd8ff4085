import Derived.Test.YteamkimbmdgdbaaGreatDoorK28
set_option linter.unusedSimpArgs false
set_option linter.unusedVariables false
set_option maxHeartbeats 16000000
set_option maxRecDepth 100000
namespace Go.Proofs.YteamkimbmdgdbaaGreatDoor
open Go.Proofs.Tryz
open Go.RowKit
theorem IG (b:ax) (w:ah) (bU:aJ b) (cf:b5 w ⟨some ⟨0,0,none⟩,10,10⟩ fJ) (cg:0<w.heap.size) (bm:(dD (ba b)).2.1=0):
 Calls prog 26 #[b] w λa9 n=>ja w (gy (ba b)) a9 n:=by
 have cg:∀(cg:Fn) (first cap:aQ) (w:ah),(Instr.makeFunc cg first cap).run prog w=.ok (.func cg first cap) w:=λ_ _ _ _=>rfl;obtain⟨cy,cz,cA,cB,cC⟩:=info_parts Tryz.tH;have cg:(b.size:Int)<=9223372036854775807:=by unfold aJ at bU;omega
 have cD:=Z cf;have bV:=Z (yX b (((w.alloc (.cells #[ab] 24)).alloc (.cells #[J 0] 76)).alloc (.cells #[J 0] 3)) bU);have bW:=Z (y4 (ba b));have bo:Hid (gy (ba b)=if(dD (ba b)).2.1=0 then rX (b.size:Int) (dD (ba b)).1 else .bad (dD (ba b)).2.1 (dD (ba b)).2.2):=Z (by unfold gy;rw[eZ]);have cg:ag w (((w.alloc (.cells #[ab] 24)).alloc (.cells #[J 0] 76)).alloc (.cells #[J 0] 3)):=(((ag.refl w).alloc _).alloc _).alloc _;have ch:=Z cg;have bX:=Z (show aa (((w.alloc (.cells #[ab] 24)).alloc (.cells #[J 0] 76)).alloc (.cells #[J 0] 3)) (w.heap.size) 24 #[ab]from((h8 _ rfl).alloc _).alloc _);have bY:=Z (show aa (((w.alloc (.cells #[ab] 24)).alloc (.cells #[J 0] 76)).alloc (.cells #[J 0] 3)) (w.heap.size+1) 76 #[J 0]from(h8 _ aj).alloc _);have b0:=Z (show aa (((w.alloc (.cells #[ab] 24)).alloc (.cells #[J 0] 76)).alloc (.cells #[J 0] 3)) (w.heap.size+1+1) 3 #[J 0]from h8 _ aj);clear cf bU cg;generalize gy (ba b)=a4 at bo⊢;generalize dD (ba b)=cE at bV bW bo bm;obtain⟨bb,a5,ci⟩:=cE;have cF:=Z bm;clear bm;go_enter_defers func26,ntmps26
 go_wp2_with fail
 refine bV.out.mono ?_;rintro a9 av ⟨⟨b1,b2,b3⟩,cG,bc,sm⟩;obtain rfl:a9=.returned (.tuple #[O b1 b2 b3,a5,ci]):=cG;have bp:=Z bc;have cH:=Z (ch.trans sm);have br:=Z (bX.below sm bX.lt);have bh:=Z (bY.below sm bY.lt);have a6:=Z (b0.below sm b0.lt);clear bc sm bV bX bY b0 ch;have cI:=λc=>aa.frozen br c;have cJ:=λc=>aa.frozen bh c;have cK:=λc=>aa.frozen a6 c;have cL:=ay br;have cM:=ay bh;have cN:=ay a6;have bm:=cF.out;subst a5;have bm:=bW rfl;subst ci;have a7:=Z (show a4=ji (b.size:Int) (bb.length+1) [] bb by rw[bo.out];exact if_pos rfl);clear bo bW;have bm:=bp.lies.1;have bm:=bp.cap;obtain⟨d,b4⟩:∃d,d=av.heap.size:=⟨_,rfl⟩;have bm:w.heap.size+3<=d:=by have:=a6.out.lt;omega
 have b6:Hid (g9 w (((av.setCell (ac (w.heap.size+1) 0) (J 0)).setCell (ac (w.heap.size+1+1) 0) (J 0)).alloc (.cells #[O b1 b2 b3,b.size] 129)) d (b.size:Int) bb none 0 0 []):=Z (by
  have a:=(Kp.aI (p:=(ac (w.heap.size+1+1) 0)) (l:=[w.heap.size,w.heap.size+1,w.heap.size+1+1]) aj (Kp.aI (p:=(ac (w.heap.size+1) 0)) (l:=[w.heap.size,w.heap.size+1,w.heap.size+1+1]) aj (Kp.refl _ av) (J 0)) (J 0));refine⟨?_,?_,?_,?_,?_,bm,i8.none_ _ _,by omega⟩
  ·exact(a.old (l':=[]) (Kp.of_same cH.out) (λa hb a=>by simp at hb;omega)).alloc _
  ·exact((aa.far (aa.far br.out (p:=(ac (w.heap.size+1) 0)) aG (J 0)) (p:=(ac (w.heap.size+1+1) 0)) aG (J 0))).alloc _
  ·exact((aa.far ((bh.out).aR 0 (J 0)) (p:=(ac (w.heap.size+1+1) 0)) aG (J 0))).alloc _
  ·exact((((aa.far a6.out (p:=(ac (w.heap.size+1) 0)) aG (J 0))).aR 0 (J 0))).alloc _
  have a:=(bp.out.y0 bh.out (J 0)).y0 (aa.far a6.out (p:=(ac (w.heap.size+1) 0)) aG _) (J 0);refine⟨⟨b1,b2,b3⟩,?_,(a.same ((ag.refl _).alloc _)).up af⟩;exact h8 d (by rw[b4];simp))
 rw[b4]at b6;go_wp2_with fail
 rw[<-b4]at*;go_loopg [] (bb.length+1) (λe wr=>∃(a:List aq) (g:List RI) (j:aU) (m o:Nat),Hid (g9 w wr d (b.size:Int) a j m o g)/\a.length<e/\Hid (a4=ji (b.size:Int) e (g.map RI.it) a))
 case atStart=>exact⟨bb,[],none,0,0,b6,by omega,a7⟩
 obtain⟨cj,bi,bs,g,e,a,ck,a8⟩:=hrel;clear b6 a7 bp br bh a6 cI cJ cK cL cM cN;obtain⟨bj,rfl⟩:∃bj,gk=bj+1:=⟨gk-1,by omega⟩;have cP:=Z ck;clear ck;obtain⟨bt,j,bu,b7,cl,c2⟩:∃(bt:aU) (j bu:Nat),aa wr d 129 #[O bt j bu,b.size]/\cj.length=j/\j<=9223372036854775807:=by
  obtain⟨⟨bt,j,bu⟩,hb,bc⟩:=a.out.pb;exact⟨bt,j,bu,hb,bc.lies.1,bc.lies.2.1⟩
 have a6:=ay b7;have e0:ae wr (ao w 0) (O bs g e):=aa.cell a.bO 0;have a6:=a.few;have a6:=a.pb.lt;have a6:=Z b7;clear b7;cases cj with
 |nil=>
  obtain rfl:j=0:=by simpa using cl.symm
  have a7:=Z (show a4=.ok (bi.map RI.it) []from a8);clear a8;have o:ae wr (ac (w.heap.size+1) 0) (J 0):=aa.cell a.bE 0;have o:ae wr (ac (w.heap.size+1+1) 0) (J 0):=aa.cell a.bA 0;have o:=λc=>aa.frozen a.bO c;have o:=λc=>aa.frozen a.bE c;have o:=λc=>aa.frozen a.bA c;go_wp2;have m:=a7.out;subst m;refine leaves_cons (f:=45) (args:=#[ak w.heap.size,ak (w.heap.size+1),ak (w.heap.size+1+1)]) aj kQ ?_;exact Is a.out.fin [] _ rfl rfl rfl
 |cons bw bk=>
  have a6:bk.length+1=j:=by simpa using cl
  have aA:(0:Int)<j:=af
  by_cases b8:g=200
  case pos=>
   have j:((g:Int)==200)=true:=by simp[b8]
   have a7:=Z (show a4=fI (b.size:Int) (bw::bk) 3 by rw[a8.out,rB];exact if_pos (by rw[List.length_map,a.out.it.len,b8]));clear a8;go_wp2_with fail
   refine r6 (w:=wr) (l:=[d]) 3 (Kp.refl _ wr) a7.out a.out.pb ?aB;intro a5 o j j m;have q:=j.out;subst q;go_wp2_with fail
   refine leaves_cons (f:=45) (args:=#[ak w.heap.size,ak (w.heap.size+1),ak (w.heap.size+1+1)]) aj kQ ?_;exact y5 (m.out.old a.out.k (λj hb j=>by have:=a.out.pl;simp at hb;omega)) (m.out.blk a.out.bO bd) (m.out.blk a.out.bE bd) (m.out.blk a.out.bA bd) a5 o _ rfl rfl rfl
  have j:((g:Int)==200)=false:=aF
  have cm:=Z (show a4=(jh (b.size:Int) (bw::bk)).bind λj m=>ji (b.size:Int) bj (bi.map RI.it++[j]) m by rw[a8.out,rB];exact if_neg (by rw[List.length_map,a.out.it.len];exact b8));have cQ:=Z (Ip (b.size:Int) bw bk);have cR:=Z (cD.same a.k.same);clear a8;go_upto_region 9 with(fail)
  refine eI 6 (S:=(λn=>ae n (ao w 0) (O bs g e))) e0 (λbx=>?_);refine d2 (i:=0) (oi:=?aC) (v:=?aD) ?aH am am am am ?aL (Or.inl ⟨?aN,?aO⟩) bx ?aP
  case aH=>simp only[be,bf,bg];rfl
  case aL=>exact λe j w h=>rA _ _ au au au e j w h
  case aN=>rfl
  case aO=>
   intro n j;have aS:=j;go_simp;try with_reducible rfl
  refine aw ?_;refine d2 (i:=2) (oi:=?aT) (v:=?aV) ?aW am am am am ?aX (Or.inl ⟨?aY,?aZ⟩) bx ?bn
  case aW=>simp only[be,bf,bg];rfl
  case aX=>exact λe j w h=>rA _ _ au au au e j w h
  case aY=>rfl
  case aZ=>
   intro n j;have aS:=j;go_simp;try with_reducible rfl
  refine aw ?_;refine d2 (i:=1) (oi:=?bq) (v:=?bB) ?aA am am am am ?bC (Or.inl ⟨?av,?aS⟩) bx ?bD
  case aA=>simp only[be,bf,bg];rfl
  case bC=>exact λe j w h=>rA _ _ au au au e j w h
  case av=>rfl
  case aS=>
   intro n j;have aS:=j;go_simp;try with_reducible rfl
  refine aw ?_;refine aM 3 (λb9 o=>?_);go_simp;refine wn (w:=wr.drew) (l:=[d]) aj (Kp.refl _ _) cm.out (Em (b.size:Int) d bw bk _ (a.out.pb.drew) (cR.out.same ((ag.refl _).drew)) af) ?bF ?bG
  case bF=>
   intro a5 q j j r;have s:=j.out;subst s;have m:=(Kp.of_same ((ag.refl wr).drew)).trans r;go_wp2_with fail
   refine leaves_cons (f:=45) (args:=#[ak w.heap.size,ak (w.heap.size+1),ak (w.heap.size+1+1)]) aj kQ ?_;exact y5 (m.old a.out.k (λj hb j=>by have:=a.out.pl;simp at hb;omega)) (m.blk a.out.bO bd) (m.blk a.out.bE bd) (m.blk a.out.bA bd) a5 q _ rfl rfl rfl
  intro cS ca cT m cn co bl cp cU cq cV;obtain⟨bz,cX,bl,cr⟩:=bl;have j:=cQ cS ca cn;have bQ:=(Kp.of_same ((ag.refl wr).drew)).trans cp;have cs:=Z (show a4=ji (b.size:Int) bj ((bi++[bz]).map RI.it) ca by rw[co.out,List.map_append,<-cX];rfl);have cb:=Z (show cW m (Bw wr.heap.size m.heap.size) bz from cr);have bR:=Z bQ;have ct:=(bQ.cell a.bO.lt bd).trans e0;have b:=a.pl;have b:=bQ.size;obtain⟨bS,cd⟩:∃bS,bS=bz:=⟨_,rfl⟩;rw[<-cd]at cb cs;obtain⟨q,r,s,t,u,⟨x,y,z⟩,c3,⟨A,B,C⟩,c4,D,E,F,⟨G,H,I⟩,c5,K,L,⟨M,N,P⟩,c6,⟨Q,R,T⟩,c7,⟨U,V,W⟩,c8,⟨aO,X,⟨Y,ad,ai⟩,c9,⟨al,an,ap⟩,da,⟨ar,az,aE⟩,db,a0,a1,a2,a3⟩⟩:=bz;replace bl:cT=.agg #[q,r,s,t,u,O x y z,O A B C,D,E,F,O G H I,K,L,O M N P,O Q R T,O U V W,aO,X,O Y ad ai,O al an ap,O ar az aE,a0,a1,a2,a3]:=bl;have cY:=Z (show bS.cells=(#[q,r,s,t,u,O x y z,O A B C,D,E,F,O G H I,K,L,O M N P,O Q R T,O U V W,aO,X,O Y ad ai,O al an ap,O ar az aE,a0,a1,a2,a3]:Array Value).toList by rw[cd];rfl);subst bl;have cu:=Z cq.out;clear cr cp cn cm cd cU cq cV co bx bQ;try go_simp
  refine o.out _ _ (λ_=>ct) ?_;refine aw ?_;refine aM 4 (λb9 o=>?_);go_simp;refine o.out _ _ (λ_=>(World.cell?_alloc_lt _ _ _ aG).trans ct) ?_;refine aw ?_;have ce:=Z (aK ((ag.refl m).alloc (.cells #[q,r,s,t,u,O x y z,O A B C,D,E,F,O G H I,K,L,O M N P,O Q R T,O U V W,aO,X,O Y ad ai,O al an ap,O ar az aE,a0,a1,a2,a3] 95)) (a.out.it.keep bR.out aj).own);have cv:=Z (cO m #[q,r,s,t,u,O x y z,O A B C,D,E,F,O G H I,K,L,O M N P,O Q R T,O U V W,aO,X,O Y ad ai,O al an ap,O ar az aE,a0,a1,a2,a3] 95 25 rfl);have cw:∀b∈(#[q,r,s,t,u,O x y z,O A B C,D,E,F,O G H I,K,L,O M N P,O Q R T,O U V W,aO,X,O Y ad ai,O al an ap,O ar az aE,a0,a1,a2,a3]:Array Value).toList,b.oneCell'=true:=by simp[Value.oneCell']
  refine aM 5 (λb9 o=>?_);refine di (m.alloc (.cells #[q,r,s,t,u,O x y z,O A B C,D,E,F,O G H I,K,L,O M N P,O Q R T,O U V W,aO,X,O Y ad ai,O al an ap,O ar az aE,a0,a1,a2,a3] 95)) (.tmp 37) (.tmp 40) 22 rfl (d+1) 95 cy _ 25 408 underlying22 cz cA cB cC rfl au (O bs g e) g (bi.flatMap RI.cells) rfl ce.out (m.heap.size+1) (some ⟨m.heap.size,0,none⟩) 1 1 (#[q,r,s,t,u,O x y z,O A B C,D,E,F,O G H I,K,L,O M N P,O Q R T,O U V W,aO,X,O Y ad ai,O al an ap,O ar az aE,a0,a1,a2,a3]:Array Value).toList rfl cv.out cw cc af aF ?_;intro b b bT hg cx;obtain⟨cZ,c0,rfl,dc⟩:=bv bT;rw[<-cY.out]at bT;have c1:=Z (g9.push a af bR cu ((ag.refl m).alloc _) cb.out bT hg cx);have b:∀b,(Value.slice bs g e).ownBlock=some b->d+1<=b:=λb hg=>by
   obtain⟨_,_,_,ho⟩:=bv ce.out;exact f0
  have a:=Z (aa.grown (((bR.blk a.bO bd)).alloc _) hg (λa9=>by have:=b _ a9.symm;omega));have d:=ay a;have a:=λc=>aa.frozen a c;clear b bT hg cx ce cv cw cb cu bR;refine o.out _ _ (λ_=>d) ?_;refine aw ?_;refine bZ ?_;refine wpAny_take (i:=6) (oi:=?bH) (v:=?bI) ?bJ am am am ?bK (Or.inl ⟨?bL,?bN⟩) ?bP
  case bJ=>simp only[be,bf,bg];rfl
  case bK=>exact λe a w h=>rA _ _ au au au e a w h
  case bL=>rfl
  case bN=>
   intro n;go_simp;try with_reducible rfl
  refine aw ?_;refine dt 7 (λb9 o=>?_);go_simp;refine o _ _ ?_;refine aw ?_;refine bM ?_;go_wp2_with fail
  go_roundg bj
  case measure=>omega
  exact⟨ca,bi++[bS],cZ,g+1,c0,c1,by have:=cP.out;simp at this;omega,cs⟩
def PO.Nz {a:Type} (b:PO a):Prop:=∀a c,b=.bad a c->a≠0
theorem PO.Nz.bind {c d:Type} {b:PO c} {f:c->List aq->PO d} (h:b.Nz) (e:∀a ts,(f a ts).Nz):(b.bind f).Nz:=by
 cases b with
 |bad i a=>exact λb c g=>h b c (by injection g with h1 h2;rw[h1,h2])
 |ok a ts=>exact e a ts
theorem PO.Nz.ok {α:Type} {a:α} {ts:List aq}:(PO.ok a ts).Nz:=by intro b b h;cases h
theorem PO.Nz.bad {α:Type} {a b:Int} (h:a≠0):(PO.bad a b:PO α).Nz:=by
 intro a a c;injection c with h1 h2
 exact h1▸h
theorem PO.Nz.ite {d:Type} {a:Prop} [Decidable a] {b c:PO d} (h:b.Nz) (d:c.Nz):(if a then b else c).Nz:=by split<;>assumption
theorem rC {c:Type} (d:Int) (a:List aq) {b:Int} (h:b≠0):(fI d a b:PO c).Nz:=by cases a<;>exact .bad af
theorem dN (c:Int) (b:bk):∀a:List aq,(aW c a b).Nz:=by
 induction b with
 |nil=>intro a;cases a<;>exact .ok
 |cons d b e=>
  intro a;have:aW c a (d::b)=if bB a d then aW c a.tail b else fI c a 4:=by cases a<;>rfl
  rw[this];exact .ite (e _) (rC _ _ au)
theorem zc (b:Int) (a:List aq) (c:Int):(eO b a c).Nz:=by
 cases a with
 |nil=>exact .bad au
 |cons d e=>exact .ite .ok (.bad au)
theorem fQ (a:Int) (b:List aq):(bW a b).Nz:=(zc a b 1).bind λ_ _=>.ok
theorem gL (a:Int) (b:List aq):(cu a b).Nz:=(zc a b 2).bind λ_ _=>.ok
theorem mX (a:Int) (b:List aq) (c:bk):(dZ a b c).Nz:=by
 unfold dZ;split
 ·exact .ok
 exact rC _ _ au
theorem II {d:Type} (f:ax) (e:List aq->PO d) (g:∀a,(e a).Nz):∀(b:Nat) (c:List d) (a:List aq),(dp f e b c a).Nz:=by
 intro b;induction b with
 |zero=>intro c a;exact .ok
 |succ b i=>intro c a;exact .ite ((g _).bind λb a=>i _ _) .ok
theorem pR {b:Type} (c:ax) (a:List aq->PO b) (d:∀b,(a b).Nz) (b:List aq):(dO c a b).Nz:=(d _).bind λ_ _=>II c a d _ _ _
theorem tR (a:Int) (b:List aq):(io a b).Nz:=pR _ _ (fQ a) _
theorem zd (a:Int) (b:List aq):(go a b).Nz:=by
 cases b with
 |nil=>exact .ok
 |cons d c=>exact .ite .ok (.ite .ok (.ite ((gL a c).bind λ_ _=>.ok) (.ite ((gL a c).bind λ_ _=>.ok) (.ite .ok (.ite .ok (.ite .ok .ok))))))
theorem ze (b:Int) (a:List aq):(jX b a).Nz:=(zd b a).bind λc a=>by cases c with|none=>exact rC _ _ au|some c=>exact .ok
theorem zf (b:Int) (a:List aq):(jY b a).Nz:=(zd b a).bind λc a=>by
 cases c with
 |none=>exact(fQ b a).bind λd a=>.ite ((fQ b _).bind λ_ _=>.ok) .ok
 |some c=>exact .ok
theorem IJ (a:Int) (b:List aq):(m6 a b).Nz:=.ite (gL a _) (.ite ((gL a _).bind λ_ _=>.ok) .ok)
theorem IK (a:Int) (b:List aq):(k7 a b).Nz:=(zf a b).bind λ_ _=>(mX a _ _).bind λ_ _=>(zf a _).bind λ_ _=>(IJ a _).bind λ_ _=>.ok
theorem zg (a:Int) (b:List aq):(jZ a b).Nz:=(dN a _ _).bind λ_ _=>pR _ _ (IK a) _
theorem IL (a:Int) (b:List aq):(k8 a b).Nz:=(fQ a b).bind λ_ _=>(mX a _ _).bind λ_ _=>.ite ((ze a _).bind λ_ _=>.ok) .ok
theorem IM (a:Int) (b:List aq):(k9 a b).Nz:=(fQ a b).bind λ_ _=>(dN a _ _).bind λ_ _=>(ze a _).bind λ_ _=>.ok
theorem IN (a:Int) (b:List aq):(la a b).Nz:=(fQ a b).bind λ_ _=>(fQ a _).bind λ_ _=>.ok
theorem IP (a:Int) (b:List aq):(jg a b).Nz:=
 (fQ a b).bind λ_ _=>(mX a _ _).bind λ_ _=>(PO.Nz.ite (gL a _) .ok).bind λ_ _=>(dN a _ _).bind λ_ _=>(gL a _).bind λ_ _=>(PO.Nz.ite (gL a _) .ok).bind λ_ _=>(dN a _ _).bind λ_ _=>(gL a _).bind λ_ _=>
  (PO.Nz.ite (gL a _) .ok).bind λ_ _=>(dN a _ _).bind λ_ _=>.ok
theorem rD (a:Int) (b:List aq):(gR a b).Nz:=(fQ a b).bind λ_ _=>(dN a _ _).bind λ_ _=>(fQ a _).bind λ_ _=>.ok
theorem zh (a:Int) (c:ax) (b:List aq):(lY a c b).Nz:=.ite .ok (tR a b)
theorem IQ (a:Int) (c:Nat) (b:List aq):(eG a c b).Nz:=
 .ite ((zg a b).bind λ_ _=>.ok) (.ite ((dN a _ _).bind λ_ _=>(zh a _ _).bind λ_ _=>.ok) (.ite
  ((dN a _ _).bind λ_ _=>(fQ a _).bind λ_ _=>(dN a _ _).bind λ_ _=>(fQ a _).bind λ_ _=>.ok) (.ite
  (
   (
   dN a _ _).bind λ_ _=>(zh a _ _).bind λ_ _=>(dN a _ _).bind λ_ _=>(mX a _ _).bind λ_ _=>
   (PO.Nz.ite .ok (fQ a _)).bind λ_ _=>(dN a _ _).bind λ_ _=>(fQ a _).bind λ_ _=>.ok) .ok)))
theorem IR (b:Int):∀(c:Nat) (a:List aq),(ev b c a).Nz:=by
 intro c;induction c with
 |zero=>intro a;exact rC _ _ au
 |succ c d=>
  intro a;unfold ev;cases iq a 0 gp with
  |none=>exact(fQ b a).bind λ_ _=>.ok
  |some e=>exact(d _).bind λc a=>(PO.Nz.ite ((dN b _ _).bind λ_ _=>(d _).bind λ_ _=>.ok) .ok).bind λ_ _=>(IQ b e _).bind λ_ _=>(dN b _ _).bind λ_ _=>.ok
theorem IS (d:Int):∀(b:Nat) (c:List ct) (a:List aq),(ir d b c a).Nz:=by
 intro b;induction b with
 |zero=>intro c a;exact .ok
 |succ b e=>intro c a;exact .ite .ok ((IP d a).bind λb a=>e _ _)
theorem zi (a:Int) (b:aB) (c:List aq):(iu a b c).Nz:=(dN a _ _).bind λ_ _=>(fQ a _).bind λ_ _=>(dN a _ _).bind λ_ _=>(tR a _).bind λ_ _=>(dN a _ _).bind λ_ _=>.ok
theorem IT (a:Int) (b:aB) (c:List aq):(eH a b c).Nz:=by
 unfold eH;refine .ite ?_ (.ite ?_ (.ite ?_ (.ite ?_ (.ite ?_ (.ite ?_ (.ite ?_ (.ite ?_ (.ite ?_ ?_))))))))
 ·exact(dN a _ _).bind λ_ _=>(pR _ _ (IL a) _).bind λ_ _=>(dN a _ _).bind λ_ _=>(tR a _).bind λ_ _=>.ok
 ·exact(dN a _ _).bind λ_ _=>(gL a _).bind λ_ _=>.ok
 ·exact(dN a _ _).bind λ_ _=>(rD a _).bind λ_ _=>(dN a _ _).bind λ_ _=>(mX a _ _).bind λ_ _=>.ite ((gL a _).bind λ_ _=>.ok) (.ite ((gL a _).bind λ_ _=>(gL a _).bind λ_ _=>.ok) .ok)
 ·exact(dN a _ _).bind λ_ _=>(fQ a _).bind λ_ _=>(dN a _ _).bind λ_ _=>(gL a _).bind λ_ _=>(dN a _ _).bind λ_ _=>(IS a _ _ _).bind λ_ _=>.ok
 ·exact(rD a _).bind λ_ _=>(dN a _ _).bind λ_ _=>(mX a _ _).bind λ_ _=>.ok
 ·exact zi a b c
 ·exact(zi a b c).bind λb _=>(dN a _ _).bind λ_ _=>(fQ a _).bind λ_ _=>.ite ((pR _ _ (IM a) _).bind λ_ _=>.ok) .ok
 ·exact(rD a _).bind λ_ _=>(dN a _ _).bind λ_ _=>(rD a _).bind λ_ _=>.ok
 ·exact(pR _ _ (IN a) _).bind λ_ _=>(zg a _).bind λ_ _=>.ok
 exact(dN a _ _).bind λ_ _=>(IR a _ _).bind λ_ _=>.ok
theorem IU (a:Int) (b:List aq):(jh a b).Nz:=
 (mX a _ _).bind λ_ _=>(PO.Nz.ite .ok (fQ a _)).bind λ_ _=>(IT a _ _).bind λ_ _=>(dN a _ _).bind λ_ _=>.ok
theorem IV (d:Int):∀(a:Nat) (c:List aB) (b:List aq),(ji d a c b).Nz:=by
 intro a;induction a with
 |zero=>intro c b;exact .ok
 |succ a e=>
  intro c b;cases b with
  |nil=>exact .ok
  |cons f g=>
   rw[rB];split
   ·exact .bad au
   exact(IU d _).bind λa _=>e _ _
theorem IW (l:bR):(gy l).Nz:=by
 unfold gy;split
 ·exact IV _ _ _ _
 rename_i h
 exact .bad h
def Jy (a:List aq):Prop:=∀b∈a,b.t.size<=200
def PO.Hz {a:Type} (c:PO a) (n:List aq) (d:a->Prop):Prop:=∀a b,c=.ok a b->b<:+n/\d a
theorem PO.Hz.bind {b d:Type} {c:PO b} {f:b->List aq->PO d} {n:List aq} {P:b->Prop} {b:d->Prop} (h:c.Hz n P) (e:∀a ts,P a->ts<:+n->(f a ts).Hz n b):(c.bind f).Hz n b:=by
 cases c with
 |bad g a=>intro b ts h;cases h
 |ok a ts=>exact e a ts (h a ts rfl).2 (h a ts rfl).1
theorem PO.Sf.hz {c d:Type} {r:PO c} {f:c->List aq->PO d} {n:List aq} {c:d->Prop} (h:r.Sf n) (hf:∀a ts,ts<:+n->(f a ts).Hz n c):(r.bind f).Hz n c:=by
 exact qf
theorem PO.Hz.ok {α:Type} {a:α} {ts n:List aq} {P:α->Prop} (h:ts<:+n) (c:P a):(PO.ok a ts).Hz n P:=by
 intro d d b;injection b with e1 b
 subst b e1;exact⟨h,c⟩
theorem PO.Hz.bad {α:Type} {a b:Int} {n:List aq} {c:α->Prop}:(PO.bad a b:PO α).Hz n c:=by intro a a h;cases h
theorem PO.Hz.ite {a:Type} {b:Prop} [Decidable b] {c d:PO a} {n:List aq} {P:a->Prop} (h:c.Hz n P) (a:d.Hz n P):(if b then c else d).Hz n P:=by split<;>assumption
section
variable {n:List aq} (H:Jy n)
include H
end
open Go.ChangeShapes Go.WideShapes Go.Deep Go.RowKit
theorem JY {a:Int} (h:(Lit.int .i64 a).wf=true):-9223372036854775808<=a/\a<=9223372036854775807:=by
 simp[Lit.wf,IntKind.min,IntKind.max,IntKind.bits,IntKind.signed]at h;omega
section
variable {H:Type} {ec:TypeId×Value->H} {w:ah} {base:Nat} {spare:Nat->Bool} {held:Bool} {fuel:Nat}
theorem fW:prog.cellsOf 3=1:=am
theorem gc:prog.cellsOf 9=1:=am
theorem rJ:prog.cellsOf 66=3:=am
theorem JZ {a:ax} (h:a.size<=maxLen):aJ a:=by unfold aJ;unfold maxLen at h;omega
def pY (a:Int):Prop:=-9223372036854775808<=a/\a<=9223372036854775807
theorem gd {b:aP} {a:DataW H×List MemPlace} (h:DataW.trod ec prog w base spare held fuel 9 b=some a):∃a:ByteArray,b=cq a/\aJ a:=by
 obtain⟨a,b,_,c⟩:=DataW.trod_string underlying9 h;exact⟨a,b,JZ (by simpa[maxLen]using c)⟩
theorem fR {b:aP} {a:DataW H×List MemPlace} (h:DataW.trod ec prog w base spare held fuel 3 b=some a):∃a:Int,b=bU a/\pY a:=by
 obtain⟨a,b,_,c⟩:=DataW.trod_int underlying3 h;exact⟨a,b,JY c⟩
theorem ui {a:aP} {b:DataW H×List MemPlace} (h:DataW.trod ec prog w base spare held fuel 66 a=some b):∃v:V,a=v.cells/\aJ v.s/\pY v.k/\pY v.n:=by
 obtain⟨b,c,_,_,f,g,d⟩:=DataW.trod_struct underlying66 h;rw[rJ]at f;have e:∀e,e<3->∃m,b[e]?=some m:=λe e=>⟨_,List.getElem?_eq_getElem (by rw[g];exact e)⟩;obtain⟨g,e0⟩:=e 0 af;obtain⟨g,m⟩:=e 1 af;obtain⟨e,o⟩:=e 2 af;have e:DataW.trod ec prog w base spare held c 3 ((a.drop 0).take (prog.cellsOf 3))=b[0]?:=d 0 _ rfl;have g:DataW.trod ec prog w base spare held c 3 ((a.drop 1).take (prog.cellsOf 3))=b[1]?:=d 1 _ rfl;have b:DataW.trod ec prog w base spare held c 9 ((a.drop 2).take (prog.cellsOf 9))=b[2]?:=d 2 _ rfl;rw[fW]at e g;rw[gc]at b;obtain⟨p,i,q⟩:=fR (e.trans e0);obtain⟨r,j,t⟩:=fR (g.trans m);obtain⟨u,l,x⟩:=gd (b.trans o);match a,f with
 |[c0,c1,c2],_=>
  simp[bU,cq]at i j l;exact⟨⟨p,r,u⟩,by simp[V.cells,i,j,l],x,q,t⟩
end
section
variable {H:Type} {ec:TypeId×Value->H} {w:ah} {base:Nat} {spare:Nat->Bool} {held:Bool} {r:Reach} {b0:Nat} {v:aA} {d:DataW H} {ps:List MemPlace}
end
open Go.ChangeShapes Go.WideShapes Go.Deep Go.RowKit
theorem zQ {f:Type} {g:Nat->f->Prop}:∀b:Nat,(∀a,a<b->∃e,g a e)->∃c:List f,c.length=b/\∀a (d:a<c.length),g a c[a]
 |0,_=>⟨[],rfl,λa d=>by simp at d⟩
 |b+1,h=>by
  obtain⟨c,i,f⟩:=zQ b (λa d=>h a af);obtain⟨e,j⟩:=h b af;refine⟨c++[e],by simp[i],λa d=>?_⟩;by_cases e:a<c.length
  ·rw[List.getElem_append_left e];exact f a e
  have:a=b:=by simp at d;omega
  subst this;rw[List.getElem_append_right af];simpa[i]using j
section
variable {H:Type} {ec:TypeId×Value->H} {w:ah} {base:Nat} {spare:Nat->Bool} {held:Bool} {fuel:Nat}
theorem lT {f:Type} {enc:f->List Value} {Q:f->Prop} {u b:aX} {c:Nat} (z:prog.underlying u=some (.slice b)) (A:prog.cellsOf b=c) (B:0<c) (v:∀a:f,(enc a).length=c)
 (C:∀p j q,p<fuel->DataW.trod ec prog w base spare held p b j=some q->∃a:f,j=enc a/\Q a)
 {j:aP} {q:DataW H×List MemPlace} (h:DataW.trod ec prog w base spare held fuel u j=some q):
 ∃(h:Hd) (d:List f),j=[h.val]/\aE w c h enc d/\(∀a∈d,Q a)/\eT (·<w.heap.size) h:=by
 have E:∀{h:Hd} {d:List f},aE w c h enc d->eT (·<w.heap.size) h:=λ{h d} k e D b j=>by
  obtain⟨j,l,g,i,_⟩:=k.2.2 0 (by have:=k.1;omega);rw[b]at g;injection g with g
  injection g with g
  subst g;exact i
 rcases DataW.trod_slice z h with⟨r,_⟩|⟨n,l,x,J,K,p,L,r,_,_,M,F,N,y,_⟩
 ·exact⟨⟨none,0,0⟩,[],r,⟨rfl,by decide,λg g=>by simp at g⟩,λa g=>by simp at g,λe D b=>by cases b⟩
 rw[A]at y;have:∀g,g<l->∃a:f,(∀f i,(enc a)[f]?=some i->ae w (n.add (g*c+f)) i)/\Q a:=by
  intro g f;have f:=y g f;rw[List.getElem?_eq_getElem af]at f;obtain⟨f,i,m⟩:=Option.bind_eq_some_iff.1 f;obtain⟨a,rfl,o⟩:=C _ _ _ af m;obtain⟨_,f,j⟩:=World.cells?_some i;refine⟨a,λf i i=>?_,o⟩;have m:f<c:=by rw[<-v a];exact(List.getElem?_eq_some_iff.1 i).1
  have:=j f m;rw[AE]at this;rw[this,i]
 obtain⟨d,f,s⟩:=zQ l this;have k:aE w c ⟨some n,l,x⟩ enc d:=⟨f,show l<=_ by unfold maxLen at F;omega,λt G=>by
  obtain⟨e,m,o⟩:=n;have f:0<d.length:=af
  have j:0<(enc d[0]).length:=by rw[v];exact B
  have i:=(s 0 f).1 0 _ (List.getElem?_eq_getElem j);have I:o=none:=by
   have b:(⟨e,m,o⟩:Addr).add (0*c+0)=⟨e,m,o⟩:=by simp[Addr.add]
   rw[b]at i;cases o with
   |none=>rfl
   |some O=>
    unfold World.cell? at i;split at i
    ·simp at i
    cases i
  subst I;have f:e<w.heap.size:=by
   have:=World.block_lt_of_cell? _ _ i;rwa[uG]at this
  refine⟨e,m,rfl,f,λf i j=>?_⟩;have:=(s t G).1 f i j;have b:(⟨e,m,none⟩:Addr).add (t*c+f)=⟨e,m+t*c+f,none⟩:=by
   unfold Addr.add;split<;>simp_all [Nat.add_assoc]
  rw[b]at this;exact this⟩
 exact⟨⟨some n,l,x⟩,d,r,k,λa i=>by
  obtain⟨g,m,rfl⟩:=List.mem_iff_getElem.1 i;exact(s g m).2,E k⟩
theorem jR {a:aX} {d:Array Field} (g:prog.underlying a=some (.struct d)) {e:aP} {b:DataW H×List MemPlace} (h:DataW.trod ec prog w base spare held fuel a e=some b):
 ∃b,b<fuel/\e.length=prog.cellsOf a/\∀(c:Nat) (a:Field) (f:Nat),d[c]?=some a->prog.cellsOf a.type=f->∃i,DataW.trod ec prog w base spare held b a.type ((e.drop a.offset).take f)=some i:=by
 obtain⟨i,b,j,_,e,k,g⟩:=DataW.trod_struct g h;refine⟨b,by omega,e,λc a f b e=>?_⟩;have d:c<d.size:=(Array.getElem?_eq_some_iff.1 b).1;exact⟨_,(e▸g c a b).trans (List.getElem?_eq_getElem af)⟩
theorem J0:prog.cellsOf 4=1:=am
theorem uj:prog.cellsOf 284=6:=am
theorem zR:prog.cellsOf 57=2:=am
theorem zS:prog.cellsOf 83=1:=am
theorem J1:prog.cellsOf 86=1:=am
theorem J2:prog.cellsOf 87=1:=am
theorem J3:prog.cellsOf 88=1:=am
theorem J4:prog.cellsOf 89=1:=am
theorem zT:prog.cellsOf 90=1:=am
theorem J5:prog.cellsOf 91=1:=am
theorem uk:prog.cellsOf 93=9:=am
theorem zU:prog.cellsOf 208=5:=am
theorem zV:prog.cellsOf 260=7:=am
theorem zW:prog.cellsOf 238=4:=am
theorem zX:prog.cellsOf 133=2:=am
theorem zY:prog.cellsOf 286=14:=am
theorem zZ:prog.cellsOf 95=25:=am
theorem J6:prog.cellsOf 22=1:=am
theorem J7:prog.cellsOf 24=1:=am
theorem ul {a:V} (d:aJ a.s) (b:pY a.k) (c:pY a.n):a.fine:=⟨b.1,b.2,c.1,c.2,d⟩
theorem J8 {b:aP} {a:DataW H×List MemPlace} (h:DataW.trod ec prog w base spare held fuel 4 b=some a):∃a:Bool,b=[.bool a]:=by
 obtain⟨a,b,_⟩:=DataW.trod_bool underlying4 h;exact⟨a,b⟩
theorem z1 {a:aP} {b:DataW H×List MemPlace} (h:DataW.trod ec prog w base spare held fuel 83 a=some b):∃(h:Hd) (b:bk),a=[h.val]/\aE w 1 h cq b/\(∀a∈b,aJ a)/\eT (·<w.heap.size) h:=
 lT (enc:=cq) (Q:=aJ) underlying83 gc au (λ_=>rfl) (λ_ _ _ _ h=>gd h) h
theorem z6 {b:aP} {a:DataW H×List MemPlace} (h:DataW.trod ec prog w base spare held fuel 284 b=some a):∃a:cF,b=a.cells/\a.bo:=by
 obtain⟨g,r,c,a⟩:=jR underlying284 h;rw[uj]at c;obtain⟨_,g⟩:=a 0 _ 1 rfl gc;obtain⟨i,e0,j⟩:=gd g;obtain⟨_,g⟩:=a 1 _ 1 rfl gc;obtain⟨k,d,l⟩:=gd g;obtain⟨_,g⟩:=a 2 _ 1 rfl J0;obtain⟨m,e⟩:=J8 g;obtain⟨_,a⟩:=a 3 _ 3 rfl rJ;obtain⟨n,f,o,p,q⟩:=ui a;match b,c with
 |[c0,c1,c2,c3,c4,c5],_=>
  simp[bU,cq,V.cells,cF.cells]at e0 d e f;exact⟨⟨i,k,m,n⟩,by simp[cF.cells,e0,d,e,f],j,l,ul o p q⟩
theorem J9 {a:aP} {b:DataW H×List MemPlace} (h:DataW.trod ec prog w base spare held fuel 57 a=some b):∃b c:Int,a=[.int .i64 b,.int .i64 c]/\cb b/\cb c:=by
 obtain⟨e,k,b,c⟩:=jR underlying57 h;rw[zR]at b;obtain⟨_,e⟩:=c 0 _ 1 rfl fW;obtain⟨f,e0,g⟩:=fR e;obtain⟨_,c⟩:=c 1 _ 1 rfl fW;obtain⟨i,d,j⟩:=fR c;match a,b with
 |[c0,c1],_=>
  simp[bU,cq,V.cells,cF.cells]at e0 d;exact⟨f,i,by simp[e0,d],g,j⟩
theorem Ka {a:aP} {b:DataW H×List MemPlace} (h:DataW.trod ec prog w base spare held fuel 208 a=some b):∃b:cZ,a=b.cells/\b.bo:=by
 obtain⟨f,p,c,b⟩:=jR underlying208 h;rw[zU]at c;obtain⟨_,f⟩:=b 0 _ 1 rfl gc;obtain⟨g,e0,i⟩:=gd f;obtain⟨_,f⟩:=b 1 _ 1 rfl fW;obtain⟨j,d,k⟩:=fR f;obtain⟨_,b⟩:=b 2 _ 3 rfl rJ;obtain⟨l,e,m,n,o⟩:=ui b;match a,c with
 |[c0,c1,c2,c3,c4],_=>
  simp[bU,cq,V.cells,cF.cells]at e0 d e;exact⟨⟨g,j,l⟩,by simp[cZ.cells,e0,d,e],i,k,ul m n o⟩
theorem Kb {b:aP} {a:DataW H×List MemPlace} (h:DataW.trod ec prog w base spare held fuel 260 b=some a):∃a:ct,b=a.cells/\a.bo:=by
 obtain⟨j,z,c,a⟩:=jR underlying260 h;rw[zV]at c;obtain⟨_,j⟩:=a 0 _ 1 rfl gc;obtain⟨k,e0,l⟩:=gd j;obtain⟨_,j⟩:=a 1 _ 1 rfl fW;obtain⟨m,d,n⟩:=fR j;obtain⟨_,j⟩:=a 2 _ 1 rfl fW;obtain⟨o,e,p⟩:=fR j;obtain⟨_,j⟩:=a 3 _ 2 rfl zR;obtain⟨q,r,f,s,t⟩:=J9 j;obtain⟨_,j⟩:=a 4 _ 1 rfl fW;obtain⟨u,g,v⟩:=fR j;obtain⟨_,a⟩:=a 5 _ 1 rfl fW;obtain⟨x,i,y⟩:=fR a;match b,c with
 |[c0,c1,c2,c3,c4,c5,c6],_=>
  simp[bU,cq,V.cells,cF.cells]at e0 d e f g i;exact⟨⟨k,m,o,q,r,u,x⟩,by simp[ct.cells,e0,d,e,f,g,i],l,n,p,s,t,v,y⟩
theorem Kc {a:aP} {b:DataW H×List MemPlace} (h:DataW.trod ec prog w base spare held fuel 238 a=some b):∃b:da,a=b.cells/\b.bo:=by
 obtain⟨e,m,b,c⟩:=jR underlying238 h;rw[zW]at b;obtain⟨_,e⟩:=c 0 _ 1 rfl gc;obtain⟨f,e0,g⟩:=gd e;obtain⟨_,c⟩:=c 1 _ 3 rfl rJ;obtain⟨i,d,j,k,l⟩:=ui c;match a,b with
 |[c0,c1,c2,c3],_=>
  simp[bU,cq,V.cells,cF.cells]at e0 d;exact⟨⟨f,i⟩,by simp[da.cells,e0,d],g,ul j k l⟩
theorem Kd {a:aP} {b:DataW H×List MemPlace} (h:DataW.trod ec prog w base spare held fuel 133 a=some b):∃b:Vr,a=b.cells/\b.bo:=by
 obtain⟨e,k,b,c⟩:=jR underlying133 h;rw[zX]at b;obtain⟨_,e⟩:=c 0 _ 1 rfl gc;obtain⟨f,e0,g⟩:=gd e;obtain⟨_,c⟩:=c 1 _ 1 rfl gc;obtain⟨i,d,j⟩:=gd c;match a,b with
 |[c0,c1],_=>
  simp[bU,cq,V.cells,cF.cells]at e0 d;exact⟨⟨f,i⟩,by simp[Vr.cells,e0,d],g,j⟩
theorem Ke {b:aP} {a:DataW H×List MemPlace} (h:DataW.trod ec prog w base spare held fuel 286 b=some a):∃a:bm,b=a.cells/\a.bo:=by
 obtain⟨g,q,c,a⟩:=jR underlying286 h;rw[zY]at c;obtain⟨_,g⟩:=a 0 _ 6 rfl uj;obtain⟨i,e0,j⟩:=z6 g;obtain⟨_,g⟩:=a 1 _ 1 rfl fW;obtain⟨k,d,l⟩:=fR g;obtain⟨_,g⟩:=a 2 _ 6 rfl uj;obtain⟨m,e,n⟩:=z6 g;obtain⟨_,a⟩:=a 3 _ 1 rfl fW;obtain⟨o,f,p⟩:=fR a;match b,c with
 |[c0,c1,c2,c3,c4,c5,c6,c7,c8,c9,c10,c11,c12,c13],_=>
  simp[bU,cq,V.cells,cF.cells]at e0 d e f;exact⟨⟨i,k,m,o⟩,by simp[bm.cells,e0,d,e,f],j,l,n,p⟩
theorem Kf {a:aP} {b:DataW H×List MemPlace} (h:DataW.trod ec prog w base spare held fuel 86 a=some b):∃(h:Hd) (b:List cZ),a=[h.val]/\aE w 5 h cZ.cells b/\(∀a∈b,a.bo)/\eT (·<w.heap.size) h:=
 lT (enc:=cZ.cells) (Q:=cZ.bo) underlying86 zU au (λ_=>rfl) (λ_ _ _ _ h=>Ka h) h
theorem Kg {a:aP} {b:DataW H×List MemPlace} (h:DataW.trod ec prog w base spare held fuel 87 a=some b):∃(h:Hd) (b:List ct),a=[h.val]/\aE w 7 h ct.cells b/\(∀a∈b,a.bo)/\eT (·<w.heap.size) h:=
 lT (enc:=ct.cells) (Q:=ct.bo) underlying87 zV au (λ_=>rfl) (λ_ _ _ _ h=>Kb h) h
theorem Kh {a:aP} {b:DataW H×List MemPlace} (h:DataW.trod ec prog w base spare held fuel 88 a=some b):∃(h:Hd) (b:List da),a=[h.val]/\aE w 4 h da.cells b/\(∀a∈b,a.bo)/\eT (·<w.heap.size) h:=
 lT (enc:=da.cells) (Q:=da.bo) underlying88 zW au (λ_=>rfl) (λ_ _ _ _ h=>Kc h) h
theorem Ki {a:aP} {b:DataW H×List MemPlace} (h:DataW.trod ec prog w base spare held fuel 89 a=some b):∃(h:Hd) (b:List Vr),a=[h.val]/\aE w 2 h Vr.cells b/\(∀a∈b,a.bo)/\eT (·<w.heap.size) h:=
 lT (enc:=Vr.cells) (Q:=Vr.bo) underlying89 zX au (λ_=>rfl) (λ_ _ _ _ h=>Kd h) h
theorem z8 {a:aP} {b:DataW H×List MemPlace} (h:DataW.trod ec prog w base spare held fuel 90 a=some b):∃(h:Hd) (b:List bm),a=[h.val]/\aE w 14 h bm.cells b/\(∀a∈b,a.bo)/\eT (·<w.heap.size) h:=
 lT (enc:=bm.cells) (Q:=bm.bo) underlying90 zY au (λ_=>rfl) (λ_ _ _ _ h=>Ke h) h
end
section
variable {H:Type} {ec:TypeId×Value->H} {w:ah} {base:Nat} {spare:Nat->Bool} {held:Bool}
theorem Kj (fuel:Nat):∀{b:aP} {a:DataW H×List MemPlace},DataW.trod ec prog w base spare held fuel 93 b=some a->∃c:RE,b=c.cells/\dK w (·<w.heap.size) c:=by
 induction fuel using Nat.strongRecOn with
 |ind fuel m=>
  intro b a h;obtain⟨n,S,c,a⟩:=jR underlying93 h;rw[uk]at c;obtain⟨_,n⟩:=a 0 _ 1 rfl fW;obtain⟨o,e0,p⟩:=fR n;obtain⟨_,n⟩:=a 1 _ 1 rfl gc;obtain⟨q,d,r⟩:=gd n;obtain⟨_,n⟩:=a 2 _ 1 rfl J5;obtain⟨s,t,e,u,v,x⟩:=lT (enc:=RE.cells) (Q:=dK w (·<w.heap.size)) underlying91 uk au RE.len (λe _ _ f h=>m e af h) n;obtain⟨_,m⟩:=a 3 _ 1 rfl zT;obtain⟨y,z,f,A,B,C⟩:=z8 m;obtain⟨_,m⟩:=a 4 _ 1 rfl zS;obtain⟨D,E,g,F,G,I⟩:=z1 m;obtain⟨_,m⟩:=a 5 _ 1 rfl gc;obtain⟨J,i,K⟩:=gd m;obtain⟨_,m⟩:=a 6 _ 1 rfl gc;obtain⟨L,j,M⟩:=gd m;obtain⟨_,m⟩:=a 7 _ 1 rfl fW;obtain⟨N,k,O⟩:=fR m;obtain⟨_,a⟩:=a 8 _ 1 rfl fW;obtain⟨P,l,R⟩:=fR a;match b,c with
  |[c0,c1,c2,c3,c4,c5,c6,c7,c8],_=>
   simp[bU,cq,V.cells,cF.cells]at e0 d e f g i j k l;exact⟨.mk o q s t y z D E J L N P,by simp[RE.cells,e0,d,e,f,g,i,j,k,l],.mk u x v A C B ⟨F,G⟩ I r K M p O R⟩
theorem Kk {fuel:Nat} {b:aP} {a:DataW H×List MemPlace} (h:DataW.trod ec prog w base spare held fuel 95 b=some a):∃a:RI,b=a.cells/\cW w (·<w.heap.size) a:=by
 obtain⟨u,aA,c,a⟩:=jR underlying95 h;rw[zZ]at c;obtain⟨_,u⟩:=a 0 _ 1 rfl fW;obtain⟨v,e0,x⟩:=fR u;obtain⟨_,u⟩:=a 1 _ 1 rfl gc;obtain⟨y,d,z⟩:=gd u;obtain⟨_,u⟩:=a 2 _ 1 rfl fW;obtain⟨A,e,B⟩:=fR u;obtain⟨_,u⟩:=a 3 _ 1 rfl gc;obtain⟨C,f,D⟩:=gd u;obtain⟨_,u⟩:=a 4 _ 1 rfl gc;obtain⟨E,g,F⟩:=gd u;obtain⟨_,u⟩:=a 5 _ 1 rfl J1;obtain⟨G,I,i,J,K,L⟩:=Kf u;obtain⟨_,u⟩:=a 6 _ 1 rfl zS;obtain⟨M,N,j,O,P,Q⟩:=z1 u;obtain⟨_,u⟩:=a 7 _ 1 rfl fW;obtain⟨R,k,S⟩:=fR u;obtain⟨_,u⟩:=a 8 _ 1 rfl fW;obtain⟨T,l,U⟩:=fR u;obtain⟨_,u⟩:=a 9 _ 1 rfl fW;obtain⟨W,m,X⟩:=fR u;obtain⟨_,u⟩:=a 10 _ 1 rfl J2;obtain⟨Y,Z,n,aa,ab,ac⟩:=Kg u;obtain⟨_,u⟩:=a 11 _ 1 rfl gc;obtain⟨ad,o,ae⟩:=gd u;obtain⟨_,u⟩:=a 12 _ 1 rfl gc;obtain⟨af,p,ag⟩:=gd u;obtain⟨_,u⟩:=a 13 _ 1 rfl J3;obtain⟨ah,ai,q,aj,ak,al⟩:=Kh u;obtain⟨_,u⟩:=a 14 _ 1 rfl J4;obtain⟨am,an,r,ao,ap,aq⟩:=Ki u;obtain⟨_,u⟩:=a 15 _ 1 rfl zT;obtain⟨ar,au,s,av,aw,ax⟩:=z8 u;obtain⟨_,a⟩:=a 16 _ 9 rfl uk;obtain⟨ay,t,az⟩:=Kj _ a;match b,c with
 |[c0,c1,c2,c3,c4,c5,c6,c7,c8,c9,c10,c11,c12,c13,c14,c15,c16,c17,c18,c19,c20,c21,Lj,c23,c24],_=>
  simp[bU,cq,V.cells,cF.cells]at e0 d e f g i j k l m n o p q r s t;refine⟨⟨v,y,A,C,E,G,I,M,N,R,T,W,Y,Z,ad,af,ah,ai,am,an,ar,au,ay⟩,?_,J,L,K,⟨O,P⟩,Q,aa,ac,ab,aj,al,ak,ao,aq,ap,av,ax,aw,az,x,z,B,D,F,S,U,X,ae,ag⟩;rw[RI.cells,<-t];simp[e0,d,e,f,g,i,j,k,l,m,n,o,p,q,r,s]
theorem Kl {a:Reach} {c:Nat} {b:aA} {f:DataW H} {g:List MemPlace} (i:Value.okWide prog w a c 24 b) (h:DataW.Trod ec prog w base spare held 24 b f g):
 ∃(h:Hd) (c:List RI),b=.agg #[h.val]/\aE w 25 h RI.cells c/\(∀a∈c,cW w (·<w.heap.size) a):=by
 obtain⟨j,rfl,d⟩:=okWide_struct underlying24 i;rw[J7]at d;obtain⟨fuel,k⟩:=h;obtain⟨b,c,f,a⟩:=jR underlying24 k;obtain⟨_,a⟩:=a 0 _ 1 rfl J6;obtain⟨l,m,e,n,o,-⟩:=lT (enc:=RI.cells) (Q:=cW w (·<w.heap.size)) underlying22 zZ au RI.len (λ_ _ _ _ h=>Kk h) a;obtain⟨p⟩:=j;match p,d with
 |[c0],_=>
  simp[Value.cells]at e;exact⟨l,m,by rw[e],n,o⟩
end
end Go.Proofs.YteamkimbmdgdbaaGreatDoor

import Derived.Test.YteamkimbmdgdbaaGreatDoorK20
import Derived.Test.YteamkimbmdgdbaaGreatDoorK24
set_option linter.unusedSimpArgs false
set_option linter.unusedVariables false
set_option maxHeartbeats 16000000
set_option maxRecDepth 100000
namespace Go.Proofs.YteamkimbmdgdbaaGreatDoor
open Go.Proofs.Tryz
open Go.RowKit
theorem I0 (b:av) (a:ah) (g:aJ b) (o:bV a ⟨some ⟨0,0,none⟩,10,10⟩ fF) (q:0<a.heap.size) (e:(dp (ba b)).2.1≠0):
 Calls prog 26 #[b] a λi q=>ji a (fS (ba b)) i q:=by
 have q:∀(q:Fn) (first cap:aQ) (a:ah),(Instr.makeFunc q first cap).run prog a=.ok (.func q first cap) a:=λ_ _ _ _=>rfl;obtain⟨q,N,P,Q,R⟩:=info_parts Tryz.t7;have q:(b.size:Int)<=9223372036854775807:=by unfold aJ at g;omega
 have q:=Z o;have j:=Z (zp b (((a.alloc (.cells #[ab] 24)).alloc (.cells #[J 0] 76)).alloc (.cells #[J 0] 3)) g);have r:=Z (zw (ba b));have f:Hid (fS (ba b)=if(dp (ba b)).2.1=0 then r9 (b.size:Int) (dp (ba b)).1 else .bad (dp (ba b)).2.1 (dp (ba b)).2.2):=Z (by unfold fS;rw[dU]);have q:ag a (((a.alloc (.cells #[ab] 24)).alloc (.cells #[J 0] 76)).alloc (.cells #[J 0] 3)):=(((ag.refl a).alloc _).alloc _).alloc _;have s:=Z q;have k:=Z (show aa (((a.alloc (.cells #[ab] 24)).alloc (.cells #[J 0] 76)).alloc (.cells #[J 0] 3)) (a.heap.size) 24 #[ab]from((ir _ rfl).alloc _).alloc _);have m:=Z (show aa (((a.alloc (.cells #[ab] 24)).alloc (.cells #[J 0] 76)).alloc (.cells #[J 0] 3)) (a.heap.size+1) 76 #[J 0]from(ir _ aj).alloc _);have n:=Z (show aa (((a.alloc (.cells #[ab] 24)).alloc (.cells #[J 0] 76)).alloc (.cells #[J 0] 3)) (a.heap.size+1+1) 3 #[J 0]from ir _ aj);clear o g q;generalize fS (ba b)=u at f⊢;generalize dp (ba b)=v at j r f e;obtain⟨S,c,d⟩:=v;have w:=Z e;clear e;go_enter_defers func26,ntmps26
 go_wp2_with fail
 refine j.mono ?_;rintro i x ⟨⟨y,z,A⟩,B,t,sm⟩;obtain rfl:i=.returned (.tuple #[O y z A,c,d]):=B;have b:=Z t;have C:=Z (s.trans sm);have g:=Z (k.below sm k.lt);have i:=Z (m.below sm m.lt);have o:=Z (n.below sm n.lt);clear t sm j k m n s;have j:=λb=>aa.frozen g b;have j:=λb=>aa.frozen i b;have b:=λb=>aa.frozen o b;have b:=ay g;have b:=ay i;have b:=ay o;have e:=w.out;have b:(c==0)=false:=by simp[e]
 have D:=Z (show u=.bad c d by rw[f.out];exact if_neg e);have E:=Z (aa.far (aa.far (((aa.far (aa.far g (p:=(ac (a.heap.size+1) 0)) aG c) (p:=(ac (a.heap.size+1+1) 0)) aG d)).aP 0 ab) (p:=(ac (a.heap.size+1) 0)) aG c) (p:=(ac (a.heap.size+1+1) 0)) aG d);have F:=Z (aa.far (((aa.far (aa.far (i.aP 0 c) (p:=(ac (a.heap.size+1+1) 0)) aG d) (p:=(aq a 0)) aG ab)).aP 0 c) (p:=(ac (a.heap.size+1+1) 0)) aG d);have G:=Z (((aa.far (aa.far (((aa.far o (p:=(ac (a.heap.size+1) 0)) aG c)).aP 0 d) (p:=(aq a 0)) aG ab) (p:=(ac (a.heap.size+1) 0)) aG c)).aP 0 d);have H:=Z (Kp.aH (p:=(ac (a.heap.size+1+1) 0)) (l:=[a.heap.size,a.heap.size+1,a.heap.size+1+1]) aj (Kp.aH (p:=(ac (a.heap.size+1) 0)) (l:=[a.heap.size,a.heap.size+1,a.heap.size+1+1]) aj (Kp.aH (p:=(aq a 0)) (l:=[a.heap.size,a.heap.size+1,a.heap.size+1+1]) aj (Kp.aH (p:=(ac (a.heap.size+1+1) 0)) (l:=[a.heap.size,a.heap.size+1,a.heap.size+1+1]) aj (Kp.aH (p:=(ac (a.heap.size+1) 0)) (l:=[a.heap.size,a.heap.size+1,a.heap.size+1+1]) aj (Kp.refl _ x) c) d) ab) c) d);clear f r;go_wp2_with fail
 go_region
 all_goals
  go_wp2;have I:=D.out;subst I;refine⟨.tuple _,?_,?_,rfl⟩
  ·have K:=aa.cell E.out 0
   have L:=aa.cell F 0;have M:=aa.cell G 0;simp[results,results26,go_sem,K,L,M]
  exact(H.drew.eD C (λa a=>by simp at a;omega))
theorem I1 (b:av) (w:ah) (bU:aJ b) (cf:bV w ⟨some ⟨0,0,none⟩,10,10⟩ fF) (cg:0<w.heap.size) (bo:(dp (ba b)).2.1=0):
 Calls prog 26 #[b] w λa9 n=>ji w (fS (ba b)) a9 n:=by
 have cg:∀(cg:Fn) (first cap:aQ) (w:ah),(Instr.makeFunc cg first cap).run prog w=.ok (.func cg first cap) w:=λ_ _ _ _=>rfl;obtain⟨cy,cA,cB,cC,cD⟩:=info_parts Tryz.t7;have cg:(b.size:Int)<=9223372036854775807:=by unfold aJ at bU;omega
 have cE:=Z cf;have bW:=Z (zp b (((w.alloc (.cells #[ab] 24)).alloc (.cells #[J 0] 76)).alloc (.cells #[J 0] 3)) bU);have bX:=Z (zw (ba b));have bp:Hid (fS (ba b)=if(dp (ba b)).2.1=0 then r9 (b.size:Int) (dp (ba b)).1 else .bad (dp (ba b)).2.1 (dp (ba b)).2.2):=Z (by unfold fS;rw[dU]);have cg:ag w (((w.alloc (.cells #[ab] 24)).alloc (.cells #[J 0] 76)).alloc (.cells #[J 0] 3)):=(((ag.refl w).alloc _).alloc _).alloc _;have ch:=Z cg;have bY:=Z (show aa (((w.alloc (.cells #[ab] 24)).alloc (.cells #[J 0] 76)).alloc (.cells #[J 0] 3)) (w.heap.size) 24 #[ab]from((ir _ rfl).alloc _).alloc _);have bZ:=Z (show aa (((w.alloc (.cells #[ab] 24)).alloc (.cells #[J 0] 76)).alloc (.cells #[J 0] 3)) (w.heap.size+1) 76 #[J 0]from(ir _ aj).alloc _);have b0:=Z (show aa (((w.alloc (.cells #[ab] 24)).alloc (.cells #[J 0] 76)).alloc (.cells #[J 0] 3)) (w.heap.size+1+1) 3 #[J 0]from ir _ aj);clear cf bU cg;generalize fS (ba b)=a4 at bp⊢;generalize dp (ba b)=cF at bW bX bp bo;obtain⟨bc,a5,ci⟩:=cF;have cG:=Z bo;clear bo;go_enter_defers func26,ntmps26
 go_wp2_with fail
 refine bW.out.mono ?_;rintro a9 au ⟨⟨b2,b3,b4⟩,cH,bh,sm⟩;obtain rfl:a9=.returned (.tuple #[O b2 b3 b4,a5,ci]):=cH;have br:=Z bh;have cI:=Z (ch.trans sm);have bs:=Z (bY.below sm bY.lt);have bi:=Z (bZ.below sm bZ.lt);have a6:=Z (b0.below sm b0.lt);clear bh sm bW bY bZ b0 ch;have cK:=λc=>aa.frozen bs c;have cL:=λc=>aa.frozen bi c;have cM:=λc=>aa.frozen a6 c;have cN:=ay bs;have cO:=ay bi;have cP:=ay a6;have bo:=cG.out;subst a5;have bo:=bX rfl;subst ci;have a7:=Z (show a4=iE (b.size:Int) (bc.length+1) [] bc by rw[bp.out];exact if_pos rfl);clear bp bX;have bo:=br.lies.1;have bo:=br.cap;obtain⟨d,b5⟩:∃d,d=au.heap.size:=⟨_,rfl⟩;have bo:w.heap.size+3<=d:=by have:=a6.out.lt;omega
 have b6:Hid (hH w (((au.setCell (ac (w.heap.size+1) 0) (J 0)).setCell (ac (w.heap.size+1+1) 0) (J 0)).alloc (.cells #[O b2 b3 b4,b.size] 129)) d (b.size:Int) bc none 0 0 []):=Z (by
  have a:=(Kp.aH (p:=(ac (w.heap.size+1+1) 0)) (l:=[w.heap.size,w.heap.size+1,w.heap.size+1+1]) aj (Kp.aH (p:=(ac (w.heap.size+1) 0)) (l:=[w.heap.size,w.heap.size+1,w.heap.size+1+1]) aj (Kp.refl _ au) (J 0)) (J 0));refine⟨?_,?_,?_,?_,?_,bo,jh.none_ _ _,by omega⟩
  ·exact(a.old (l':=[]) (Kp.of_same cI.out) (λa hb a=>by simp at hb;omega)).alloc _
  ·exact((aa.far (aa.far bs.out (p:=(ac (w.heap.size+1) 0)) aG (J 0)) (p:=(ac (w.heap.size+1+1) 0)) aG (J 0))).alloc _
  ·exact((aa.far ((bi.out).aP 0 (J 0)) (p:=(ac (w.heap.size+1+1) 0)) aG (J 0))).alloc _
  ·exact((((aa.far a6.out (p:=(ac (w.heap.size+1) 0)) aG (J 0))).aP 0 (J 0))).alloc _
  have a:=(br.out.zt bi.out (J 0)).zt (aa.far a6.out (p:=(ac (w.heap.size+1) 0)) aG _) (J 0);refine⟨⟨b2,b3,b4⟩,?_,(a.same ((ag.refl _).alloc _)).up af⟩;exact ir d (by rw[b5];simp))
 rw[b5]at b6;go_wp2_with fail
 rw[<-b5]at*;go_loopg [] (bc.length+1) (λe wr=>∃(a:List ao) (g:List RI) (j:aT) (m o:Nat),Hid (hH w wr d (b.size:Int) a j m o g)/\a.length<e/\Hid (a4=iE (b.size:Int) e (g.map RI.it) a))
 case atStart=>exact⟨bc,[],none,0,0,b6,by omega,a7⟩
 obtain⟨cj,bj,bt,g,e,a,ck,a8⟩:=hrel;clear b6 a7 br bs bi a6 cK cL cM cN cO cP;obtain⟨bk,rfl⟩:∃bk,gk=bk+1:=⟨gk-1,by omega⟩;have cQ:=Z ck;clear ck;obtain⟨bv,j,bw,b7,cl,c2⟩:∃(bv:aT) (j bw:Nat),aa wr d 129 #[O bv j bw,b.size]/\cj.length=j/\j<=9223372036854775807:=by
  obtain⟨⟨bv,j,bw⟩,hb,bh⟩:=a.out.pb;exact⟨bv,j,bw,hb,bh.lies.1,bh.lies.2.1⟩
 have a6:=ay b7;have e0:ae wr (aq w 0) (O bt g e):=aa.cell a.bO 0;have a6:=a.few;have a6:=a.pb.lt;have a6:=Z b7;clear b7;cases cj with
 |nil=>
  obtain rfl:j=0:=by simpa using cl.symm
  have a7:=Z (show a4=.ok (bj.map RI.it) []from a8);clear a8;have o:ae wr (ac (w.heap.size+1) 0) (J 0):=aa.cell a.bE 0;have o:ae wr (ac (w.heap.size+1+1) 0) (J 0):=aa.cell a.bA 0;have o:=λc=>aa.frozen a.bO c;have o:=λc=>aa.frozen a.bE c;have o:=λc=>aa.frozen a.bA c;go_wp2;have m:=a7.out;subst m;refine leaves_cons (f:=45) (args:=#[ak w.heap.size,ak (w.heap.size+1),ak (w.heap.size+1+1)]) aj kN ?_;exact IP a.out.fin [] _ rfl rfl rfl
 |cons bx bl=>
  have a6:bl.length+1=j:=by simpa using cl
  have aA:(0:Int)<j:=af
  by_cases b8:g=200
  case pos=>
   have j:((g:Int)==200)=true:=by simp[b8]
   have a7:=Z (show a4=eQ (b.size:Int) (bx::bl) 3 by rw[a8.out,pU];exact if_pos (by rw[List.length_map,a.out.it.len,b8]));clear a8;go_wp2_with fail
   refine sh (w:=wr) (l:=[d]) 3 (Kp.refl _ wr) a7.out a.out.pb ?aB;intro a5 o j j m;have q:=j.out;subst q;go_wp2_with fail
   refine leaves_cons (f:=45) (args:=#[ak w.heap.size,ak (w.heap.size+1),ak (w.heap.size+1+1)]) aj kN ?_;exact zx (m.out.old a.out.k (λj hb j=>by have:=a.out.pl;simp at hb;omega)) (m.out.blk a.out.bO bb) (m.out.blk a.out.bE bb) (m.out.blk a.out.bA bb) a5 o _ rfl rfl rfl
  have j:((g:Int)==200)=false:=aF
  have cm:=Z (show a4=(iC (b.size:Int) (bx::bl)).bind λj m=>iE (b.size:Int) bk (bj.map RI.it++[j]) m by rw[a8.out,pU];exact if_neg (by rw[List.length_map,a.out.it.len];exact b8));have cR:=Z (IL (b.size:Int) bx bl);have cS:=Z (cE.same a.k.same);clear a8;go_upto_region 9 with(fail)
  refine eG 6 (S:=(λn=>ae n (aq w 0) (O bt g e))) e0 (λbz=>?_);refine ee (i:=0) (oi:=?aC) (v:=?aD) ?aI am am am am ?aL (Or.inl ⟨?aN,?aO⟩) bz ?aR
  case aI=>simp only[bd,be,bf];rfl
  case aL=>exact λe j w h=>rJ _ _ ax ax ax e j w h
  case aN=>rfl
  case aO=>
   intro n j;have aS:=j;go_simp;try with_reducible rfl
  refine aw ?_;refine ee (i:=2) (oi:=?aU) (v:=?aV) ?aW am am am am ?aX (Or.inl ⟨?aY,?aZ⟩) bz ?bg
  case aW=>simp only[bd,be,bf];rfl
  case aX=>exact λe j w h=>rJ _ _ ax ax ax e j w h
  case aY=>rfl
  case aZ=>
   intro n j;have aS:=j;go_simp;try with_reducible rfl
  refine aw ?_;refine ee (i:=1) (oi:=?bn) (v:=?bq) ?aA am am am am ?bB (Or.inl ⟨?au,?aS⟩) bz ?bC
  case aA=>simp only[bd,be,bf];rfl
  case bB=>exact λe j w h=>rJ _ _ ax ax ax e j w h
  case au=>rfl
  case aS=>
   intro n j;have aS:=j;go_simp;try with_reducible rfl
  refine aw ?_;refine aM 3 (λca o=>?_);go_simp;refine wy (w:=wr.drew) (l:=[d]) aj (Kp.refl _ _) cm.out (Ew (b.size:Int) d bx bl _ (a.out.pb.drew) (cS.out.same ((ag.refl _).drew)) af) ?bD ?bF
  case bD=>
   intro a5 q j j r;have s:=j.out;subst s;have m:=(Kp.of_same ((ag.refl wr).drew)).trans r;go_wp2_with fail
   refine leaves_cons (f:=45) (args:=#[ak w.heap.size,ak (w.heap.size+1),ak (w.heap.size+1+1)]) aj kN ?_;exact zx (m.old a.out.k (λj hb j=>by have:=a.out.pl;simp at hb;omega)) (m.blk a.out.bO bb) (m.blk a.out.bE bb) (m.blk a.out.bA bb) a5 q _ rfl rfl rfl
  intro cT cb cU m cn co bm cp cV cq cW;obtain⟨bN,cX,bm,cr⟩:=bm;have j:=cR cT cb cn;have bP:=(Kp.of_same ((ag.refl wr).drew)).trans cp;have cs:=Z (show a4=iE (b.size:Int) bk ((bj++[bN]).map RI.it) cb by rw[co.out,List.map_append,<-cX];rfl);have cc:=Z (show cz m (Bw wr.heap.size m.heap.size) bN from cr);have bR:=Z bP;have ct:=(bP.cell a.bO.lt bb).trans e0;have b:=a.pl;have b:=bP.size;obtain⟨bS,cd⟩:∃bS,bS=bN:=⟨_,rfl⟩;rw[<-cd]at cc cs;obtain⟨q,r,s,t,u,⟨x,y,z⟩,c3,⟨A,B,C⟩,c4,D,E,F,⟨G,H,I⟩,c5,K,L,⟨M,N,P⟩,c6,⟨Q,R,T⟩,c7,⟨U,V,W⟩,c8,⟨aO,X,⟨Y,ad,ai⟩,c9,⟨al,an,ap⟩,da,⟨ar,az,aE⟩,db,a0,a1,a2,a3⟩⟩:=bN;replace bm:cU=.agg #[q,r,s,t,u,O x y z,O A B C,D,E,F,O G H I,K,L,O M N P,O Q R T,O U V W,aO,X,O Y ad ai,O al an ap,O ar az aE,a0,a1,a2,a3]:=bm;have cY:=Z (show bS.cells=(#[q,r,s,t,u,O x y z,O A B C,D,E,F,O G H I,K,L,O M N P,O Q R T,O U V W,aO,X,O Y ad ai,O al an ap,O ar az aE,a0,a1,a2,a3]:Array Value).toList by rw[cd];rfl);subst bm;have cu:=Z cq.out;clear cr cp cn cm cd cV cq cW co bz bP;try go_simp
  refine o.out _ _ (λ_=>ct) ?_;refine aw ?_;refine aM 4 (λca o=>?_);go_simp;refine o.out _ _ (λ_=>(World.cell?_alloc_lt _ _ _ aG).trans ct) ?_;refine aw ?_;have ce:=Z (aK ((ag.refl m).alloc (.cells #[q,r,s,t,u,O x y z,O A B C,D,E,F,O G H I,K,L,O M N P,O Q R T,O U V W,aO,X,O Y ad ai,O al an ap,O ar az aE,a0,a1,a2,a3] 95)) (a.out.it.keep bR.out aj).own);have cv:=Z (cJ m #[q,r,s,t,u,O x y z,O A B C,D,E,F,O G H I,K,L,O M N P,O Q R T,O U V W,aO,X,O Y ad ai,O al an ap,O ar az aE,a0,a1,a2,a3] 95 25 rfl);have cw:∀b∈(#[q,r,s,t,u,O x y z,O A B C,D,E,F,O G H I,K,L,O M N P,O Q R T,O U V W,aO,X,O Y ad ai,O al an ap,O ar az aE,a0,a1,a2,a3]:Array Value).toList,b.oneCell'=true:=by simp[Value.oneCell']
  refine aM 5 (λca o=>?_);refine de (m.alloc (.cells #[q,r,s,t,u,O x y z,O A B C,D,E,F,O G H I,K,L,O M N P,O Q R T,O U V W,aO,X,O Y ad ai,O al an ap,O ar az aE,a0,a1,a2,a3] 95)) (.tmp 37) (.tmp 40) 22 rfl (d+1) 95 cy _ 25 408 underlying22 cA cB cC cD rfl ax (O bt g e) g (bj.flatMap RI.cells) rfl ce.out (m.heap.size+1) (some ⟨m.heap.size,0,none⟩) 1 1 (#[q,r,s,t,u,O x y z,O A B C,D,E,F,O G H I,K,L,O M N P,O Q R T,O U V W,aO,X,O Y ad ai,O al an ap,O ar az aE,a0,a1,a2,a3]:Array Value).toList rfl cv.out cw b9 af aF ?_;intro b b bT hg cx;obtain⟨cZ,c0,rfl,dc⟩:=bu bT;rw[<-cY.out]at bT;have c1:=Z (hH.push a af bR cu ((ag.refl m).alloc _) cc.out bT hg cx);have b:∀b,(Value.slice bt g e).ownBlock=some b->d+1<=b:=λb hg=>by
   obtain⟨_,_,_,ho⟩:=bu ce.out;exact fW
  have a:=Z (aa.grown (((bR.blk a.bO bb)).alloc _) hg (λa9=>by have:=b _ a9.symm;omega));have d:=ay a;have a:=λc=>aa.frozen a c;clear b bT hg cx ce cv cw cc cu bR;refine o.out _ _ (λ_=>d) ?_;refine aw ?_;refine b1 ?_;refine wpAny_take (i:=6) (oi:=?bG) (v:=?bH) ?bI am am am ?bJ (Or.inl ⟨?bK,?bL⟩) ?bM
  case bI=>simp only[bd,be,bf];rfl
  case bJ=>exact λe a w h=>rJ _ _ ax ax ax e a w h
  case bK=>rfl
  case bL=>
   intro n;go_simp;try with_reducible rfl
  refine aw ?_;refine dF 7 (λca o=>?_);go_simp;refine o _ _ ?_;refine aw ?_;refine bQ ?_;go_wp2_with fail
  go_roundg bk
  case measure=>omega
  exact⟨cb,bj++[bS],cZ,g+1,c0,c1,by have:=cQ.out;simp at this;omega,cs⟩
theorem zG (a:av) (w:ah) (b:aJ a) (c:bV w ⟨some ⟨0,0,none⟩,10,10⟩ fF) (d:0<w.heap.size):
 Calls prog 26 #[a] w λe f=>ji w (fS (ba a)) e f:=by
 by_cases h:(dp (ba a)).2.1=0
 ·exact I1 a w b c d h
 exact I0 a w b c d h
end Go.Proofs.YteamkimbmdgdbaaGreatDoor

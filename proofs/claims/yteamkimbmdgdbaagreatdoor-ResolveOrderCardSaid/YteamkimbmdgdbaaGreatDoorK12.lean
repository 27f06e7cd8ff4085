import Derived.Test.YteamkimbmdgdbaaGreatDoorK10
import Derived.Test.YteamkimbmdgdbaaGreatDoorK11
set_option linter.unusedSimpArgs false
set_option linter.unusedVariables false
set_option maxHeartbeats 16000000
set_option maxRecDepth 100000
namespace Go.Proofs.YteamkimbmdgdbaaGreatDoor
open Go.Proofs.Tryz
open Go.RowKit
theorem Tryz.DT:(prog.info? 260).map (λa=>(a.zero,a.size,a.bytes))=some (some (.agg #[ai,J 0,J 0,J 0,J 0,J 0,J 0]),7,64):=am
theorem ct.len (x:ct):(ct.cells x).length=7:=rfl
def nB (b:Nat) (c:aU) (a d:Nat) (l:List ct) (w:ah):Prop:=w.ownsRow b 260 7 (O c a d) a (l.flatMap ct.cells)
theorem nB.kp {a n b:Nat} {c:aU} {l:List ct} {w d:ah} (e:nB a c n b l w) {k:List Nat} (f:Kp k w d) (g:∀i∈k,i<a):nB a c n b l d:=bG e f g
theorem wn {k q:Type} {e:Nat} {l:List Nat} {w c:ah} {r:Int} {f:FuncId} {args:aQ} {m:Ending->World->Prop} {n:PO q} {i:PO k} {V:k->Value->World->Prop} {g:k->List aq->PO q} (q:e∈l) (t:Kp l w c) (j:n=i.bind g) (u:Calls prog f args c (λk b=>PP r e c i V k b))
 (o:∀er a b,Hid (n=.bad er a)->Hid (Kp l w b)->m (.panicked [{v:=gT er a,recovered:=false}]) b)
 (x:∀a d v b,i=.ok a d->Hid (n=g a d)->V a v b->Kp [e] c b->Hid (Kp l w b)->Hid (az b e r d)->w.heap.size<=b.heap.size->m (.returned v) b):Calls prog f args c m:=by
 refine u.mono ?_;rintro k b ⟨s,h⟩;have p:Kp l w b:=t.trans (s.mono (λc o=>by rw[aC o];exact q));cases hr:i with
 |bad er a=>rw[hr]at h j;subst h;exact o er a b (Z j) (Z p)
 |ok a d=>rw[hr]at h j;obtain⟨v,rfl,y,z⟩:=h;exact x a d v b hr (Z j) y s (Z p) (Z z) p.size
theorem DU (b:Int) (c:Nat) (l:List ct) (a:List aq):ir b (c+1) l a=if bB a ⟨#[125]⟩=true then .ok l a else(jg b a).bind λa d=>ir b c (l++[a]) d:=rfl
theorem DV (d:Int) (f b:Nat) (i:List aq) (w:ah) (k:Int) (m:ax) (o:Int) (a8:az w f d i) (s:aa w b 95 (RI.start k m o).cells.toArray) (bk:f<b) (bk:cb k) (bl:aJ m) (bm:cb o):
 Calls prog 92 #[ak f,ak b] w λN w'=>PL [f,b] d f w (oC d (RI.start k m o).it i) (jw w.heap.size b) N w':=by
 have cR:=a8.lt;have bp:=Z a8;have bq:=Z (Kp.refl [f,b] w);have I:=Z (And.intro bk (And.intro bl bm));have cR:=s.lt;have br:=Z (show aa w b 95 #[k,m,o,ai,ai,ab,ab,J 0,J 0,J 0,ab,ai,ai,ab,ab,ab,J 0,ai,ab,ab,ab,ai,ai,J 0,J 0]from s);clear s bk bl bm;clear a8;have bs:=Z (show oC d (RI.start k m o).it i=(aW d i [⟨#[111,110]⟩]).bind λ_ i=>(bW d i).bind λc i=>(aW d i [⟨#[97,116]⟩]).bind λ_ i=>(cu d i).bind λj i=>(aW d i [⟨#[123]⟩]).bind λ_ i=>(ir d (i.length+1) [] i).bind λq i=>.ok {(RI.start k m o).it with table:=c,n:=j,terms:=q} i from rfl);generalize oC d (RI.start k m o).it i=P at bs⊢;go_enter func92,ntmps92
 go_wp2_with fail
 refine aT (w:=w) (l:=[f,b]) aj (bq.out.alloc _) bs.out (df d f i [⟨#[111,110]⟩] _ w _ (bp.out.alloc _) (cC [⟨#[111,110]⟩] au)) aN ?_;intro a8 cg a8 a8 ch j c bt bu ci;have bx:=b6 c br;obtain rfl:=j;clear c;go_wp2_with fail
 refine aT (w:=w) (l:=[f,b]) aj bt.out ch.out (eJ d f cg _ bu.out) aN ?_;intro u cj a8 ck cl j c bz bA cm;have Q:=bn c bx;obtain⟨rfl,cn⟩:=j;clear c;obtain⟨X,Y,ad,al,am,an,ao,ap,ar,aA,R,aD,aE,aF,aH,aO,aP,aQ,aS,aV,aX,aY,aZ,a0,a1⟩:=dW Q.out;have a2:=λT=>aa.frozen Q.out T;have K:=aa.lt Q.out;have s:=bb K;go_wp2_with fail
 refine aT (w:=w) (l:=[f,b]) aj ((Kp.aI (p:=(ac b 3)) aj bz.out u).alloc _) cl.out (df d f cj [⟨#[97,116]⟩] _ (ck.setCell (ac b 3) u) _ ((az.set aG bA.out _).alloc _) (cC [⟨#[97,116]⟩] au)) aN ?_;intro a8 co a8 a8 cp j c bC bD cq;have bE:=Z (c.blk (g:=b) (t:=95) (cs:=#[k,m,o,u,ai,ab,ab,J 0,J 0,J 0,ab,ai,ai,ab,ab,ab,J 0,ai,ab,ab,ab,ai,ai,J 0,J 0]) ((Q.out.aR 3 u).alloc _) bd);obtain rfl:=j;clear c;clear X Y ad al am an ao ap ar aA R aD aE aF aH aO aP aQ aS aV aX aY aZ a0 a1 a2 K s;go_wp2_with fail
 refine aT (w:=w) (l:=[f,b]) aj bC.out cp.out (gq d f co _ bD.out) aN ?_;intro r cr a8 cv cw j c bF bH cx;have U:=bn c bE;obtain⟨rfl,bI,bJ⟩:=j;clear c;have a8:0<=r/\r<=9999999999:=⟨bI,bJ⟩;clear bI bJ;obtain⟨X,Y,ad,al,am,an,ao,ap,ar,aA,R,aD,aE,aF,aH,aO,aP,aQ,aS,aV,aX,aY,aZ,a0,a1⟩:=dW U.out;have a2:=λT=>aa.frozen U.out T;have K:=aa.lt U.out;have s:=bb K;go_wp2_with fail
 refine aT (w:=w) (l:=[f,b]) aj ((Kp.aI (p:=(ac b 8)) aj bF.out r).alloc _) cw.out (df d f cr [⟨#[123]⟩] _ (cv.setCell (ac b 8) r) _ ((az.set aG bH.out _).alloc _) (cC [⟨#[123]⟩] au)) aN ?_;intro a8 V a8 a8 bK j c bL a9 bN;have bO:=Z (c.blk (g:=b) (t:=95) (cs:=#[k,m,o,u,ai,ab,ab,J 0,r,J 0,ab,ai,ai,ab,ab,ab,J 0,ai,ab,ab,ab,ai,ai,J 0,J 0]) ((U.out.aR 8 r).alloc _) bd);obtain rfl:=j;clear c;clear X Y ad al am an ao ap ar aA R aD aE aF aH aO aP aQ aS aV aX aY aZ a0 a1 a2 K s;obtain⟨G,i⟩:∃G:List ct->List aq->PO aB,G=λq i=>.ok {(RI.start k m o).it with table:=u,n:=r,terms:=q} i:=⟨_,rfl⟩;have a3:Hid (P=(ir d (V.length+1) [] V).bind G):=Z (by rw[i];exact bK.out);have cy:=Z i;have a8:V.length<=5000:=by obtain⟨bk,bP,a⟩:=a9.out;exact a.few
 obtain⟨cz,cA,cB,cD,cE⟩:=info_parts Tryz.DT;clear i bK;go_upto_region 5 with(fail)
 go_loopg [] (V.length+1) (λx wr=>∃(q:List ct) (i:List aq) (y:aU) (v z:Nat),Hid (aa wr b 95 #[k,m,o,u,ai,ab,ab,J 0,r,J 0,O y v z,ai,ai,ab,ab,ab,J 0,ai,ab,ab,ab,ai,ai,J 0,J 0])/\q.length=v/\Hid (nB w.heap.size y v z q wr)/\Hid (az wr f d i)/\Hid (Kp [f,b] w wr)/\i.length<x/\Hid (P=(ir d x q i).bind G)/\v+i.length<=5001/\Hid (∀i∈q,i.bo)/\w.heap.size<=wr.heap.size)
 case atStart=>exact⟨[],V,none,0,0,bO,rfl,Z ⟨rfl,.inl ⟨rfl,rfl⟩⟩,a9,bL,by omega,a3,by omega,Z (λ_ h=>by cases h),bN⟩
 obtain⟨q,E,L,v,M,bQ,bR,a4,cF,cG,cS,bS,cT,bT,cU⟩:=hrel;clear br bq bp bx bt bu ci Q bz bA cm bE bC bD cq U bF bH cx bO bL a9 bN a3;obtain⟨W,rfl⟩:∃W,gk=W+1:=⟨gk-1,by omega⟩;have a3:=Z (show P=if bB E ⟨#[125]⟩=true then(PO.ok q E:PO (List ct)).bind G else((jg d E).bind λa i=>ir d W (q++[a]) i).bind G from bS.out.trans (by rw[DU];exact PO.qx _ _ _));clear bS;go_wp2_with fail
 refine so (w:=w) (us:=E) (l:=[f,b]) ⟨#[125]⟩ wr _ (cG.out.alloc _) a3.out (cF.out.alloc _) (bY _ au) ?av ?ay
 case av=>
  intro ba bc c bU bV i;have bh:=b6 c bQ;have bX:=Z (a4.out.kp (((Kp.refl [f,b] wr).alloc _).trans (c.mono aj)) bd);clear c;clear a4;replace bc:Hid (P=(jg d E).bind λa i=>(ir d W (q++[a]) i).bind G):=Z (by rw[bc.out];exact PO.bind_assoc _ _ _);have cH:=Z (BI d E);have cI:ae ba (ac b 10) (O L v M):=aa.cell bh.out 10;go_upto_region 6 with(fail)
  refine eI 9 (S:=(λw'=>ae w' (ac b 10) (O L v M))) cI (λhS=>?_);refine mn ?_;refine tk 5 hS ?_;refine tk 2 hS ?_;refine tk 3 hS ?_;refine tk 4 hS ?_;refine aM 6 (λbi H=>?_);go_simp;refine wn (w:=w) (l:=[f,b]) aj (bU.out.drew) bc.out (DS d f E _ (bV.out.drew)) aN ?_;intro b0 b1 cJ F b2 cK j c b3 b4 d;obtain⟨j,b5⟩:=j;have a5:=Z (c.blk (g:=b) (t:=95) (show aa ba.drew b 95 _ from bh.out.drew) bd);have b7:=Z (bG (aK ((ag.refl ba).drew) bX.out) c bd);have cL:=Z b5;have d:=cH.out b0 b1 b2;obtain⟨x,y,z,A,B,C,D⟩:=b0;replace j:cJ=.agg #[x,y,z,A,B,C,D]:=j;subst j;have b8:ae F (ac b 10) (O L v M):=aa.cell a5.out 10;have d:b<F.heap.size:=a5.out.lt;clear c b5 b2 bh bU bV bX hS;try go_simp
  refine H.out _ _ (λ_=>b8) ?_;refine aw ?_;refine aM 7 (λbi H=>?_);go_simp;refine H.out _ _ (λ_=>(World.cell?_alloc_lt _ _ _ aG).trans b8) ?_;refine aw ?_;have bj:=Z (aK ((ag.refl F).alloc (.cells #[x,y,z,A,B,C,D] 260)) b7.out);have b9:=Z (cO F #[x,y,z,A,B,C,D] 260 7 rfl);refine aM 8 (λbi H=>?_);refine di (F.alloc (.cells #[x,y,z,A,B,C,D] 260)) (.tmp 31) (.tmp 34) 87 rfl w.heap.size 260 cz _ 7 64 underlying87 cA cB cD cE rfl au (O L v M) v (q.flatMap ct.cells) rfl bj.out (F.heap.size+1) (some ⟨F.heap.size,0,none⟩) 1 1 (#[x,y,z,A,B,C,D]:Array Value).toList rfl b9.out bw cc af o7 ?_;intro d cM ca hg d;have a6:=Z hg;clear hg d;obtain⟨cd,ce,rfl,cV⟩:=bv ca;have i:∀d,(Value.slice L v M).ownBlock=some d->w.heap.size<=d:=λd hg=>by
   obtain⟨_,_,_,ho⟩:=bv bj.out;exact f0
  have cf:=Z ((b3.out.alloc (.cells #[x,y,z,A,B,C,D] 260)).grown a6.out (λd hg=>.inr (i d hg)));have cN:=Z ((b4.out.same ((ag.refl F).alloc (.cells #[x,y,z,A,B,C,D] 260))).grown a6.out (λd hg=>by have:=i d hg;omega));have a7:=Z (aa.grown (a5.out.alloc (.cells #[x,y,z,A,B,C,D] 260)) a6.out (λN=>by have:=i b N.symm;omega));clear i a5 b3 b4 b7 bj b9 a6;obtain⟨X,Y,ad,al,am,an,ao,ap,ar,aA,R,aD,aE,aF,aH,aO,aP,aQ,aS,aV,aX,aY,aZ,a0,a1⟩:=dW a7.out;have a2:=λT=>aa.frozen a7.out T;have K:=aa.lt a7.out;refine H.out _ _ (λ_=>R) ?_;refine aw ?_;refine bZ ?_;refine tq 9 ?_;refine tq 10 ?_;refine dt 11 (λbi H=>?_);go_simp;refine H _ _ ?_;refine aw ?_;refine bM ?_;go_wp2_with fail
  go_roundg W
  case measure=>omega
  case rel=>exact⟨q++[⟨x,y,z,A,B,C,D⟩],b1,cd,v+1,ce,Z (a7.out.aR 10 (O cd (v+1) ce)),by rw[List.length_append,bR];rfl,Z (show nB _ _ _ _ _ _ from by unfold nB;rw[List.flatMap_append];exact bG ca (Kp.aI (l:=[f,b]) (p:=(ac b 10)) aj (Kp.refl _ cM) _) bd),Z (az.set aG cN.out _),Z (Kp.aI (p:=(ac b 10)) aj cf.out _),by omega,cK,by omega,Z (by
   intro cQ s;rcases cP s with h|h
   ·exact bT.out cQ h
   rw[aC h];exact cL.out),by have:=cf.out.size;simpa using this⟩
 intro y z c A B d;have C:=b6 c bQ;have d:=Z (a4.out.kp (((Kp.refl [f,b] wr).alloc _).trans (c.mono aj)) bd);clear c;have c:=Z (d3.kY ct.len d.out bR bT.out af);clear d a4;replace z:Hid (P=.ok {(RI.start k m o).it with table:=u,n:=r,terms:=q} E):=Z (by rw[z.out,cy.out];rfl);have x:=c.out.open_;go_wp2;refine bodyPost_ret (results_none rfl _ _ _) rfl ?_;rw[z.out];have c:=C.out;have d:=(Kp.refl [f,b] y);have b:=iI y (Bw w.heap.size (y).heap.size) k m o I.out.1 I.out.2.1 I.out.2.2;exact⟨A.out,_,rfl,⟨rfl,⟨k,m,o,u,e0,aL,[],aL,[],0,r,0,⟨L,v,M⟩,q,e0,e0,aL,[],aL,[],aL,[],RE.zero⟩,rfl,c,{b with lt:=(x.1.kp d (λbP c N hb=>by have:=x.2.2 bP c N;unfold Bw at this;simp at hb;omega)),it:=(by have h:=x.2.2.low (lo':=w.heap.size) (by omega);simpa using h.e),ft:=x.2.1,ok:=⟨I.out.1,I.out.2.1,I.out.2.2,cn,b.ok.2.2.2.2.1,b.ok.2.2.2.2.2.1,⟨by show _<=r;omega,by show r<=_;omega⟩,b.ok.2.2.2.2.2.2.2.1,b.ok.2.2.2.2.2.2.2.2.1,b.ok.2.2.2.2.2.2.2.2.2⟩}⟩,B.out⟩
open Go.RowKit Go.Sort
structure tj (w:ah):Prop where
 tab:Lib.TabIs prog w "internal/strconv.uint64pow10" .u64 Lib.pow10Tab
 syn:∃t p,ae w (ac 1 0) (.iface t p)
 rng:∃t p,ae w (ac 2 0) (.iface t p)
theorem tj.same {w a:ah} (l:tj w) (s:ag w a):tj a:=by
 refine⟨?_,?_,?_⟩
 ·have h:=l.tab
  unfold Lib.TabIs World.var? at h⊢;cases hg:prog.globalNamed "internal/strconv.uint64pow10" with
  |none=>rw[hg]at h;cases h
  |some b=>
   rw[hg]at h;simp only[Option.bind_some]at h⊢;cases hh:w.heap[b]? with
   |none=>rw[hh]at h;cases h
   |some c=>
    rw[hh]at h;rw[s.block b (Array.getElem?_eq_some_iff.1 hh).1,hh];exact h
 ·obtain⟨a,b,h⟩:=l.syn
  exact⟨a,b,(s.cells _ _ (World.block_lt_of_cell? _ _ h)).trans h⟩
 obtain⟨a,b,h⟩:=l.rng;exact⟨a,b,(s.cells _ _ (World.block_lt_of_cell? _ _ h)).trans h⟩
end Go.Proofs.YteamkimbmdgdbaaGreatDoor

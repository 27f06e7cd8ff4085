import Derived.Test.YteamkimbmdgdbaaGreatDoorK10
import Derived.Test.YteamkimbmdgdbaaGreatDoorK11
set_option linter.unusedSimpArgs false
set_option linter.unusedVariables false
set_option maxHeartbeats 16000000
set_option maxRecDepth 100000
namespace Go.Proofs.YteamkimbmdgdbaaGreatDoor
open Go.RowKit
theorem Tryz.AX:(Tryz.prog.info? 260).map (λa=>(a.zero,a.size,a.bytes))=some (some (.agg #[ah,O 0,O 0,O 0,O 0,O 0,O 0]),7,64):=ak
theorem cL.len (x:cL):(cL.cells x).length=7:=rfl
def mO (b:Nat) (c:aX) (a d:Nat) (l:List cL) (w:af):Prop:=w.ownsRow b 260 7 (U c a d) a (l.flatMap cL.cells)
theorem mO.kp {a n b:Nat} {c:aX} {l:List cL} {w d:af} (e:mO a c n b l w) {k:List Nat} (f:Kp k w d) (g:∀i∈k,i<a):mO a c n b l d:=bC e f g
theorem ud {k q:Type} {e:Nat} {l:List Nat} {w c:af} {r:Int} {f:FuncId} {args:aO} {m:Ending->World->Prop} {n:PO q} {i:PO k} {V:k->Value->World->Prop} {g:k->List ao->PO q} (q:e∈l) (t:Kp l w c) (j:n=i.bind g) (u:Calls Tryz.prog f args c (λk b=>PP r e c i V k b))
 (o:∀er a b,Hid (n=.bad er a)->Hid (Kp l w b)->m (.panicked [{v:=gI er a,recovered:=false}]) b)
 (x:∀a d v b,i=.ok a d->Hid (n=g a d)->V a v b->Kp [e] c b->Hid (Kp l w b)->Hid (ax b e r d)->w.heap.size<=b.heap.size->m (.returned v) b):Calls Tryz.prog f args c m:=by
 refine u.mono ?_;rintro k b ⟨s,h⟩;have p:Kp l w b:=t.trans (s.mono (λc o=>by rw[aA o];exact q));cases hr:i with
 |bad er a=>rw[hr]at h j;subst h;exact o er a b (Z j) (Z p)
 |ok a d=>rw[hr]at h j;obtain⟨v,rfl,y,z⟩:=h;exact x a d v b hr (Z j) y s (Z p) (Z z) p.size
theorem AY (b:Int) (c:Nat) (l:List cL) (a:List ao):hV b (c+1) l a=if bu a ⟨#[125]⟩=true then .ok l a else(iU b a).bind λa d=>hV b c (l++[a]) d:=rfl
theorem AZ (d:Int) (e b:Nat) (f:List ao) (w:af) (j:Int) (k:aw) (m:Int) (a9:ax w e d f) (r:J w b 95 (RI.start j k m).cells.toArray) (bj:e<b) (bj:b8 j) (bm:aG k) (bn:b8 m):
 Calls Tryz.prog 92 #[aj e,aj b] w λM w'=>PL [e,b] d e w (nu d (RI.start j k m).it f) (jf w.heap.size b) M w':=by
 have cP:=a9.lt;have bp:=Z a9;have bq:=Z (Kp.refl [e,b] w);have H:=Z (And.intro bj (And.intro bm bn));have cP:=r.lt;have br:=Z (show J w b 95 #[j,k,m,ah,ah,aa,aa,O 0,O 0,O 0,aa,ah,ah,aa,aa,aa,O 0,ah,aa,aa,aa,ah,ah,O 0,O 0]from r);clear r bj bm bn;clear a9;have bs:=Z (show nu d (RI.start j k m).it f=(aR d f [⟨#[111,110]⟩]).bind λ_ f=>(bW d f).bind λc f=>(aR d f [⟨#[97,116]⟩]).bind λ_ f=>(cq d f).bind λi f=>(aR d f [⟨#[123]⟩]).bind λ_ f=>(hV d (f.length+1) [] f).bind λo f=>.ok {(RI.start j k m).it with table:=c,n:=i,terms:=o} f from rfl);generalize nu d (RI.start j k m).it f=N at bs⊢;go_enter Tryz.func92,Tryz.ntmps92
 go_wp2_with fail
 refine aQ (w:=w) (l:=[e,b]) ai (bq.out.alloc _) bs.out (cU d e f [⟨#[111,110]⟩] _ w _ (bp.out.alloc _) (cA [⟨#[111,110]⟩] au)) aM ?_;intro a9 cf a9 a9 cg i c bt bv ch;have bw:=b0 c br;obtain rfl:=i;clear c;go_wp2_with fail
 refine aQ (w:=w) (l:=[e,b]) ai bt.out cg.out (eq d e cf _ bv.out) aM ?_;intro s ci a9 cj ck i c bx bz cl;have P:=bk c bw;obtain⟨rfl,cm⟩:=i;clear c;obtain⟨X,Y,ad,al,am,an,ap,aq,ar,az,Q,aB,aC,aF,aL,aN,aO,aS,aT,aV,aY,aZ,a0,a1,a2⟩:=dI P.out;have a3:=λR=>J.frozen P.out R;have I:=J.lt P.out;have r:=aW I;go_wp2_with fail
 refine aQ (w:=w) (l:=[e,b]) ai ((Kp.aE (p:=(ab b 3)) ai bx.out s).alloc _) ck.out (cU d e ci [⟨#[97,116]⟩] _ (cj.setCell (ab b 3) s) _ ((ax.set aD bz.out _).alloc _) (cA [⟨#[97,116]⟩] au)) aM ?_;intro a9 cn a9 a9 co i c bA bB cp;have bD:=Z (c.blk (g:=b) (t:=95) (cs:=#[j,k,m,s,ah,aa,aa,O 0,O 0,O 0,aa,ah,ah,aa,aa,aa,O 0,ah,aa,aa,aa,ah,ah,O 0,O 0]) ((P.out.aP 3 s).alloc _) aU);obtain rfl:=i;clear c;clear X Y ad al am an ap aq ar az Q aB aC aF aL aN aO aS aT aV aY aZ a0 a1 a2 a3 I r;go_wp2_with fail
 refine aQ (w:=w) (l:=[e,b]) ai bA.out co.out (fT d e cn _ bB.out) aM ?_;intro q cr a9 ct cu i c bE bF cv;have T:=bk c bD;obtain⟨rfl,bG,bH⟩:=i;clear c;have a9:0<=q/\q<=9999999999:=⟨bG,bH⟩;clear bG bH;obtain⟨X,Y,ad,al,am,an,ap,aq,ar,az,Q,aB,aC,aF,aL,aN,aO,aS,aT,aV,aY,aZ,a0,a1,a2⟩:=dI T.out;have a3:=λR=>J.frozen T.out R;have I:=J.lt T.out;have r:=aW I;go_wp2_with fail
 refine aQ (w:=w) (l:=[e,b]) ai ((Kp.aE (p:=(ab b 8)) ai bE.out q).alloc _) cu.out (cU d e cr [⟨#[123]⟩] _ (ct.setCell (ab b 8) q) _ ((ax.set aD bF.out _).alloc _) (cA [⟨#[123]⟩] au)) aM ?_;intro a9 V a9 a9 bI i c bJ ba bK;have bL:=Z (c.blk (g:=b) (t:=95) (cs:=#[j,k,m,s,ah,aa,aa,O 0,q,O 0,aa,ah,ah,aa,aa,aa,O 0,ah,aa,aa,aa,ah,ah,O 0,O 0]) ((T.out.aP 8 q).alloc _) aU);obtain rfl:=i;clear c;clear X Y ad al am an ap aq ar az Q aB aC aF aL aN aO aS aT aV aY aZ a0 a1 a2 a3 I r;obtain⟨F,f⟩:∃F:List cL->List ao->PO aI,F=λo f=>.ok {(RI.start j k m).it with table:=s,n:=q,terms:=o} f:=⟨_,rfl⟩;have a4:Hid (N=(hV d (V.length+1) [] V).bind F):=Z (by rw[f];exact bI.out);have cw:=Z f;have a9:V.length<=5000:=by obtain⟨bj,bM,a⟩:=ba.out;exact a.few
 obtain⟨cx,cy,cz,cB,cD⟩:=info_parts Tryz.AX;clear f bI;go_upto_region 5 with(fail)
 go_loopg [] (V.length+1) (λv wr=>∃(o:List cL) (f:List ao) (x:aX) (u y:Nat),Hid (J wr b 95 #[j,k,m,s,ah,aa,aa,O 0,q,O 0,U x u y,ah,ah,aa,aa,aa,O 0,ah,aa,aa,aa,ah,ah,O 0,O 0])/\o.length=u/\Hid (mO w.heap.size x u y o wr)/\Hid (ax wr e d f)/\Hid (Kp [e,b] w wr)/\f.length<v/\Hid (N=(hV d v o f).bind F)/\u+f.length<=5001/\Hid (∀f∈o,f.bY)/\w.heap.size<=wr.heap.size)
 case atStart=>exact⟨[],V,none,0,0,bL,rfl,Z ⟨rfl,.inl ⟨rfl,rfl⟩⟩,ba,bJ,by omega,a4,by omega,Z (λ_ h=>by cases h),bK⟩
 obtain⟨o,D,K,u,L,bN,bO,a5,cE,cF,cQ,bP,cR,bQ,cS⟩:=hrel;clear br bq bp bw bt bv ch P bx bz cl bD bA bB cp T bE bF cv bL bJ ba bK a4;obtain⟨W,rfl⟩:∃W,gk=W+1:=⟨gk-1,by omega⟩;have a4:=Z (show N=if bu D ⟨#[125]⟩=true then(PO.ok o D:PO (List cL)).bind F else((iU d D).bind λa f=>hV d W (o++[a]) f).bind F from bP.out.trans (by rw[AY];exact PO.py _ _ _));clear bP;go_wp2_with fail
 refine q7 (w:=w) (us:=D) (l:=[e,b]) ⟨#[125]⟩ wr _ (cF.out.alloc _) a4.out (cE.out.alloc _) (bZ _ au) ?ak ?ay
 case ak=>
  intro bb bf c bR bS f;have bg:=b0 c bN;have bT:=Z (a5.out.kp (((Kp.refl [e,b] wr).alloc _).trans (c.mono ai)) aU);clear c;clear a5;replace bf:Hid (N=(iU d D).bind λa f=>(hV d W (o++[a]) f).bind F):=Z (by rw[bf.out];exact PO.bind_assoc _ _ _);have cG:=Z (yF d D);have cH:ac bb (ab b 10) (U K u L):=J.cell bg.out 10;go_upto_region 6 with(fail)
  refine ez 9 (S:=(λw'=>ac w' (ab b 10) (U K u L))) cH (λhS=>?_);refine lO ?_;refine tk 5 hS ?_;refine tk 2 hS ?_;refine gt ?_;refine aK 6 (λbh G=>?_);go_simp;refine ud (w:=w) (l:=[e,b]) ai (bR.out.drew) bf.out (AW d e D _ (bS.out.drew)) aM ?_;intro bU bX cI E b3 cJ i c b4 b5 d;obtain⟨i,b6⟩:=i;have a6:=Z (c.blk (g:=b) (t:=95) (show J bb.drew b 95 _ from bg.out.drew) aU);have b7:=Z (bC (aH ((ag.refl bb).drew) bT.out) c aU);have cK:=Z b6;have d:=cG.out bU bX b3;obtain⟨v,x,y,z,A,B,C⟩:=bU;replace i:cI=.agg #[v,x,y,z,A,B,C]:=i;subst i;have b9:ac E (ab b 10) (U K u L):=J.cell a6.out 10;have d:b<E.heap.size:=a6.out.lt;clear c b6 b3 bg bR bS bT hS;try go_simp
  refine G.out _ _ (λ_=>b9) ?_;refine av ?_;refine aK 7 (λbh G=>?_);go_simp;refine G.out _ _ (λ_=>(World.cell?_alloc_lt _ _ _ aD).trans b9) ?_;refine av ?_;have bi:=Z (aH ((ag.refl E).alloc (.cells #[v,x,y,z,A,B,C] 260)) b7.out);have ca:=Z (cC E #[v,x,y,z,A,B,C] 260 7 rfl);refine aK 8 (λbh G=>?_);refine c7 (E.alloc (.cells #[v,x,y,z,A,B,C] 260)) (.tmp 31) (.tmp 34) 87 rfl w.heap.size 260 cx _ 7 64 Tryz.underlying87 cy cz cB cD rfl au (U K u L) u (o.flatMap cL.cells) rfl bi.out (E.heap.size+1) (some ⟨E.heap.size,0,none⟩) 1 1 (#[v,x,y,z,A,B,C]:Array Value).toList rfl ca.out bl b1 ae n3 ?_;intro d cM cb hg d;have a7:=Z hg;clear hg d;obtain⟨cc,cd,rfl,cT⟩:=bo cb;have f:∀d,(Value.slice K u L).ownBlock=some d->w.heap.size<=d:=λd hg=>by
   obtain⟨_,_,_,ho⟩:=bo bi.out;exact oD
  have ce:=Z ((b4.out.alloc (.cells #[v,x,y,z,A,B,C] 260)).grown a7.out (λd hg=>.inr (f d hg)));have cN:=Z ((b5.out.same ((ag.refl E).alloc (.cells #[v,x,y,z,A,B,C] 260))).grown a7.out (λd hg=>by have:=f d hg;omega));have a8:=Z (J.grown (a6.out.alloc (.cells #[v,x,y,z,A,B,C] 260)) a7.out (λM=>by have:=f b M.symm;omega));clear f a6 b4 b5 b7 bi ca a7;obtain⟨X,Y,ad,al,am,an,ap,aq,ar,az,Q,aB,aC,aF,aL,aN,aO,aS,aT,aV,aY,aZ,a0,a1,a2⟩:=dI a8.out;have a3:=λR=>J.frozen a8.out R;have I:=J.lt a8.out;refine G.out _ _ (λ_=>Q) ?_;refine av ?_;refine b2 ?_;refine tq 9 ?_;refine tq 10 ?_;refine dp 11 (λbh G=>?_);go_simp;refine G _ _ ?_;refine av ?_;refine bV ?_;go_wp2_with fail
  go_roundg W
  case measure=>omega
  case rel=>exact⟨o++[⟨v,x,y,z,A,B,C⟩],bX,cc,u+1,cd,Z (a8.out.aP 10 (U cc (u+1) cd)),by rw[List.length_append,bO];rfl,Z (show mO _ _ _ _ _ _ from by unfold mO;rw[List.flatMap_append];exact bC cb (Kp.aE (l:=[e,b]) (p:=(ab b 10)) ai (Kp.refl _ cM) _) aU),Z (ax.set aD cN.out _),Z (Kp.aE (p:=(ab b 10)) ai ce.out _),by omega,cJ,by omega,Z (by
   intro cO r;rcases cY r with h|h
   ·exact bQ.out cO h
   rw[aA h];exact cK.out),by have:=ce.out.size;simpa using this⟩
 intro x y c z A d;have B:=b0 c bN;have d:=Z (a5.out.kp (((Kp.refl [e,b] wr).alloc _).trans (c.mono ai)) aU);clear c;have c:=Z (dM.kx cL.len d.out bO bQ.out ae);clear d a5;replace y:Hid (N=.ok {(RI.start j k m).it with table:=s,n:=q,terms:=o} D):=Z (by rw[y.out,cw.out];rfl);have v:=c.out.open_;go_wp2;refine bodyPost_ret (results_none rfl _ _ _) rfl ?_;rw[y.out];have c:=B.out;have d:=(Kp.refl [e,b] x);have b:=io x (Bw w.heap.size (x).heap.size) j k m H.out.1 H.out.2.1 H.out.2.2;exact⟨z.out,_,rfl,⟨rfl,⟨j,k,m,s,e0,aJ,[],aJ,[],0,q,0,⟨K,u,L⟩,o,e0,e0,aJ,[],aJ,[],aJ,[],RE.zero⟩,rfl,c,{b with lt:=(v.1.kp d (λbM c M hb=>by have:=v.2.2 bM c M;unfold Bw at this;simp at hb;omega)),it:=(by have h:=v.2.2.low (lo':=w.heap.size) (by omega);simpa using h),ft:=v.2.1,ok:=⟨H.out.1,H.out.2.1,H.out.2.2,cm,b.ok.2.2.2.2.1,b.ok.2.2.2.2.2.1,⟨by show _<=q;omega,by show q<=_;omega⟩,b.ok.2.2.2.2.2.2.2.1,b.ok.2.2.2.2.2.2.2.2.1,b.ok.2.2.2.2.2.2.2.2.2⟩}⟩,A.out⟩
open Go.RowKit Go.Sort
structure r2 (w:af):Prop where
 tab:Lib.TabIs Tryz.prog w "internal/strconv.uint64pow10" .u64 Lib.pow10Tab
 syn:∃t p,ac w (ab 1 0) (.iface t p)
 rng:∃t p,ac w (ab 2 0) (.iface t p)
theorem r2.same {w a:af} (l:r2 w) (s:ag w a):r2 a:=by
 refine⟨?_,?_,?_⟩
 ·have h:=l.tab
  unfold Lib.TabIs World.var? at h⊢;cases hg:Tryz.prog.globalNamed "internal/strconv.uint64pow10" with
  |none=>rw[hg]at h;cases h
  |some b=>
   rw[hg]at h;simp only[Option.bind_some]at h⊢;cases hh:w.heap[b]? with
   |none=>rw[hh]at h;cases h
   |some c=>
    rw[hh]at h;rw[s.block b (Array.getElem?_eq_some_iff.1 hh).1,hh];exact h
 ·obtain⟨a,b,h⟩:=l.syn
  exact⟨a,b,(s.cells _ _ (World.block_lt_of_cell? _ _ h)).trans h⟩
 obtain⟨a,b,h⟩:=l.rng;exact⟨a,b,(s.cells _ _ (World.block_lt_of_cell? _ _ h)).trans h⟩
end Go.Proofs.YteamkimbmdgdbaaGreatDoor

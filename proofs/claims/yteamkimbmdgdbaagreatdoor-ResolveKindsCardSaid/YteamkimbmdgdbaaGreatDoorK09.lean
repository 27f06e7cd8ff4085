import Derived.Test.YteamkimbmdgdbaaGreatDoorK07
import Derived.Test.YteamkimbmdgdbaaGreatDoorK08
set_option linter.unusedSimpArgs false
set_option linter.unusedVariables false
set_option maxHeartbeats 16000000
set_option maxRecDepth 100000
namespace Go.Proofs.YteamkimbmdgdbaaGreatDoor
open Go.RowKit
def lN (c:Int) (i:Nat) (d:Int) (e:List Ex) (a:List ao):PO Ex:=
 (em c i a).bind λb a=>(aR c a [⟨#[41]⟩]).bind λ_ a=>.ok (.mk (i+2) e0 e b.conds b.names b.attr b.cN b.agg d) a
def jV (b:Int) (e i:Nat) (c:Int) (d:Ex) (a:List ao):PO Ex:=
 if mo i=true then(aR b a [⟨#[44]⟩]).bind λ_ a=>(eb b e a).bind λe a=>lN b i c [d,e] a else lN b i c [d] a
def rb (b:Int) (c i:Nat) (d:Int) (a:List ao):PO Ex:=(eb b c a).bind λe a=>jV b c i d e a
theorem PO.bind_assoc {b c d:Type} (a:PO b) (f:b->List ao->PO c) (g:c->List ao->PO d):(a.bind f).bind g=a.bind λb c=>(f b c).bind g:=by cases a<;>rfl
theorem PO.bind_congr {d g:Type} (c:PO d) (e f:d->List ao->PO g) (h:∀a b,e a b=f a b):c.bind e=c.bind f:=by cases c with|bad=>rfl|ok a b=>exact h a b
theorem zO (b:Int) (c:Nat) (a:List ao):eb b (c+1) a=match hU a 0 fP with|none=>(bW b a).bind λd e=>.ok (.mk 1 d [] [] [] e0 e0 0 (cZ a)) e|some i=>rb b c i (cZ a) (a.drop 2):=by
 rw[eb];cases hU a 0 fP with
 |none=>rfl
 |some i=>
  refine PO.bind_congr _ _ _ λe d=>?_;show PO.bind (if mo i=true then _ else _) _=jV b c i (cZ a) e d;unfold jV;rw[PO.py];congr 1
  rw[PO.bind_assoc];refine PO.bind_congr _ _ _ λ_ d=>?_;rw[PO.bind_assoc];rfl
theorem zP (b:List ao) (a:Nat) (c:a<7):hU b a (fP.drop a)=if el b [lM a,⟨#[40]⟩]then some a else hU b (a+1) (fP.drop (a+1)):=by
 have h:fP.drop a=lM a::fP.drop (a+1):=by
  match a,c with
  |0,_=>rfl
  |1,_=>rfl
  |2,_=>rfl
  |3,_=>rfl
  |4,_=>rfl
  |5,_=>rfl
  |6,_=>rfl
  |n+7,h=>omega
 rw[h];rfl
theorem zQ (d:Int) (a:List ao) (c:aw) (h:el a [c,⟨#[40]⟩]=true):aR d a [c,⟨#[40]⟩]=.ok () (a.drop 2):=by
 cases a with
 |nil=>simp[el]at h
 |cons e a=>
  cases a with
  |nil=>simp[el]at h
  |cons b a=>
   simp only[el,Bool.and_eq_true]at h;have f:bu (e::b::a) c=true:=by rw[q2];exact h.1
   have g:bu (b::a) ⟨#[40]⟩=true:=by rw[q2];exact h.2.1
   show(if bu (e::b::a) c then aR d (b::a) [⟨#[40]⟩]else _)=_;rw[if_pos f];show(if bu (b::a) ⟨#[40]⟩then aR d a []else _)=_;rw[if_pos g];cases a<;>rfl
theorem zR (a b:Nat):∃c d e,pA a b=.func c d e:=by unfold pA;split<;>exact⟨_,_,_,rfl⟩
theorem zS (a:Nat):aG (lM a):=by
 unfold lM;rw[List.getD_eq_getElem?_getD];cases h:fP[a]? with
 |none=>exact bZ _ au
 |some b=>exact cA fP au b (List.mem_of_getElem? h)
theorem zT (a:Nat) (b:a<7):b8 ((a:Int)+2):=⟨by omega,by omega⟩
theorem zU {b:af} {a q:Addr} {c d:ay} (h:a.block≠q.block):(b.setCell a c).setCell q d=(b.setCell q d).setCell a c:=by
 unfold World.setCell;congr 1
 apply Array.ext_getElem?;intro b;simp only[Array.getElem?_modify];by_cases c:a.block=b<;>by_cases a:q.block=b<;>simp[c,a];omega
theorem mI {p:Addr} {a:ay}:∀(vs:bg) (g i:Nat) (w:af),p.block≠g->bX (w.setCell p a) g i vs=(bX w g i vs).setCell p a
 |[],_,_,_,_=>rfl
 |v::vs,g,i,w,h=>by
  show bX ((w.setCell p a).setCell (ab g i) v) g (i+1) vs=_;rw[zU (q:=⟨g,i,none⟩) h];exact mI vs g (i+1) _ h
theorem jd {w:af} {a:Nat} {t:bb} {cs:aO} {m:Nat} (h:J w a t cs) (c:cs.size=m):cu w (a+1) m (some ⟨a,0,none⟩) 1 cs.toList:=by
 refine⟨by simp[c],λ_=>⟨_,rfl,Nat.lt_succ_self _,λb c d=>?_⟩⟩;rw[show((⟨a,0,none⟩:Addr).add b)=⟨a,b,none⟩ by unfold Addr.add;split<;>simp_all];rw[J.cell h b];simpa using d
structure dr (w W:af) (P X r q p:Nat) (z:Int) (us:List ao) (cx cp:aO):Prop where
 br:J W r 93 #[O 0,ah,aa,aa,aa,ah,ah,O 0,O 0]
 bx:J W X 93 cx
 bq:J W q 127 #[aj P]
 bp:J W p 325 cp
 k:Kp [P] w W
 pb:ax W P z us
theorem dr.keep {w W f:af} {c X d e p:Nat} {g:Int} {n i:List ao} {j m:aO} (v:dr w W c X d e p g n j m) {l:List Nat} (k:Kp l W f) (b:∀a∈l,a≠X/\a≠d/\a≠e/\a≠p/\(a=c\/w.heap.size<=a)) (o:ax f c g i):dr w f c X d e p g i j m:=
 ⟨k.blk v.br (λh=>(b d h).2.1 rfl),k.blk v.bx (λh=>(b X h).1 rfl),k.blk v.bq (λh=>(b e h).2.2.1 rfl),k.blk v.bp (λh=>(b p h).2.2.2.1 rfl),k.old v.k (λa q c=>by rcases(b a q).2.2.2.2 with h|h;simp[h];omega),o⟩
theorem fA.zV {d e i f:af} {b p:Nat} {j c:aX} {a k g:Nat} {m:List RE} {n:RE} (q:fA d b j a k m) (r:Kp [p] d e) (o:ag e i) (s:p<b) (p:b<=d.heap.size) (t:a<=1)
 (u:dX e (Bw d.heap.size e.heap.size) n) (v:f.ownsRow b 93 9 (U c (a+1) g) (a+1) (m.flatMap RE.cells++ii)) (w:i.grownBy f (Value.slice j a k).ownBlock)
 (x:(Value.slice c (a+1) g).ownBlock=(Value.slice j a k).ownBlock\/(Value.slice c (a+1) g).ownBlock=some i.heap.size):
 ∃d,c=some ⟨d,0,none⟩/\b<=d/\d<f.heap.size/\fA (bX f d (a*9) n.cells) b c (a+1) g (m++[n]):=
 q.push (r.trans (Kp.of_same o)) s p t ((u.keep (Kp.of_same (l:=[]) o) (λ_ h=>by cases h)).mono (λa h=>⟨h.1,aT h.2 o.size⟩)) v w x
theorem nZ (g:Nat):∀(vs:bg) (i:Nat) (w a:af),Kp [g] w a->Kp [g] w (bX a g i vs)
 |[],_,_,_,h=>h
 |v::vs,i,w,_,h=>nZ g vs (i+1) w _ (h.setCell (p:=(ab g i)) (.inl ai) v)
theorem dr.kid {t w w6 W e:af} {c b m n p f:Nat} {u:Int} {B x:List ao} {z A:aO} {q i:aX} {a r j:Nat} {rs:List RE} {y:RE} (v:dr t w c b m n p u B z A) (F:fA w f q a r rs)
 (K:b<f) (B:m<f) (B:n<f) (B:p<f) (L:c<f) (M:f<=w.heap.size) (B:c≠b/\c≠m/\c≠n/\c≠p) (G:t.heap.size<=f) (G:t.heap.size<=b) (C:b≠m/\b≠n/\b≠p) (N:c<b) (O:a<=1)
 (G:Kp [c] w w6) (H:ax w6 c u x) (D:ag w6 W) (P:dX w6 (Bw w.heap.size w6.heap.size) y)
 (o:e.ownsRow f 93 9 (U i (a+1) j) (a+1) (rs.flatMap RE.cells++ii)) (s:W.grownBy e (Value.slice q a r).ownBlock)
 (w:(Value.slice i (a+1) j).ownBlock=(Value.slice q a r).ownBlock\/(Value.slice i (a+1) j).ownBlock=some W.heap.size):
 ∃g,i=some ⟨g,0,none⟩/\f<=g/\dr t e c b m n p u x z A/\fA ((bX e g (a*9) y.cells).setCell (ab b 2) (U i (a+1) j)) f i (a+1) j (rs++[y])/\
  dr t ((bX e g (a*9) y.cells).setCell (ab b 2) (U i (a+1) j)) c b m n p u x (z.setIfInBounds 2 (U i (a+1) j)) A:=by
 obtain⟨g,Q,R,_,S⟩:=F.zV G D L M O P o s w;have w:=v.keep G (λd h=>by rw[aA h];exact⟨B.1,B.2.1,B.2.2.1,B.2.2.2,.inl rfl⟩) H;have I:=w.keep (Kp.of_same (l:=[]) D) (λd h=>by cases h) (H.same D);have J:∀d,(Value.slice q a r).ownBlock=some d->f<=d:=by
  intro d h;obtain⟨_,_,_,T⟩:=bo F.own;rcases T with E|⟨V,E,X⟩
  ·rw[E]at h;cases h
  rw[E]at h;injection h with h;omega
 have f:Kp ((Value.slice q a r).ownBlock.toList) W e:=⟨s.os,s.tape,s.output,s.size,λd f w=>s.block d f (λf=>w (by rw[<-f];simp))⟩;have E:dr t e c b m n p u x z A:=I.keep f (λd h=>by
  have T:(Value.slice q a r).ownBlock=some d:=by
   cases gs:(Value.slice q a r).ownBlock with
   |none=>rw[gs]at h;simp at h
   |some y=>rw[gs]at h;simp at h;rw[h]
  have:=J d T;exact⟨by omega,by omega,by omega,by omega,.inr ae⟩) (I.pb.grown s (λd h=>by have:=J d h;omega))
 have f:=nZ g y.cells (a*9) e e (Kp.refl _ _);have c:ax (bX e g (a*9) y.cells) c u x:=ax.i8 ae _ _ _ E.pb;have c:=E.keep f (λd h=>by rw[aA h];exact⟨by omega,by omega,by omega,by omega,.inr ae⟩) c;have a:Kp [b] (bX e g (a*9) y.cells) ((bX e g (a*9) y.cells).setCell (ab b 2) (U i (a+1) j)):=(Kp.refl _ _).setCell (.inl ai) _;refine⟨g,Q,R,E,S.keep a (λd h=>by rw[aA h];exact K),?_⟩;exact⟨a.blk c.br (by simp;exact λh=>C.1 h.symm),c.bx.aP 2 _,a.blk c.bq (by simp;exact λh=>C.2.1 h.symm),a.blk c.bp (by simp;exact λh=>C.2.2 h.symm),a.old c.k (λd h a=>by rw[aA h]at a;omega),ax.set (p:=(ab b 2)) N c.pb _⟩
theorem dr.zW {b W:af} {c a d e p:Nat} {i:Int} {l:List ao} {m n:aO} (v:dr b W c a d e p i l m n) (f:b.heap.size<=a) (o:c<a) (f:a≠d/\a≠e/\a≠p) (j:Nat) (g:ay):dr b (W.setCell (ab a j) g) c a d e p i l (m.setIfInBounds j g) n:=by
 have b:Kp [a] W (W.setCell (ab a j) g):=(Kp.refl _ _).setCell (.inl ai) _;exact⟨b.blk v.br (by simp;exact λh=>f.1 h.symm),v.bx.aP j _,b.blk v.bq (by simp;exact λh=>f.2.1 h.symm),b.blk v.bp (by simp;exact λh=>f.2.2 h.symm),b.old v.k (λb h b=>by rw[aA h]at b;omega),ax.set (p:=(ab a j)) o v.pb _⟩
theorem dr.alloc {w W:af} {P X a b p:Nat} {c:Int} {us:List ao} {d e:aO} (v:dr w W P X a b p c us d e) (o:Obj):dr w (W.alloc o) P X a b p c us d e:=⟨v.br.alloc o,v.bx.alloc o,v.bq.alloc o,v.bp.alloc o,v.k.alloc o,v.pb.alloc o⟩
theorem dr.call {g W b:af} {P c d e p:Nat} {f:Int} {a i:List ao} {j k:aO} (v:dr g W P c d e p f a j k) (l:Kp [P] W b) (a:P≠c/\P≠d/\P≠e/\P≠p) (m:ax b P f i):dr g b P c d e p f i j k:=
 v.keep l (λb h=>by rw[aA h];exact⟨a.1,a.2.1,a.2.2.1,a.2.2.2,.inl rfl⟩) m
theorem zX (c:Int) (a:Nat) (b:List ao) (h:a=2\/a=3\/a=4):em c a b=.ok dc.zero b:=by rcases h with rfl|rfl|rfl<;>rfl
structure jW (lo:Nat) (r:dc) (w:af) (hc hn:Hd):Prop where
 lc:aF w 14 hc bB.cells r.conds
 ic:aS (Bw lo w.heap.size) hc
 fc:∀c∈r.conds,c.bY
 ln:b4 w hn r.names
 iN:aS (Bw lo w.heap.size) hn
 oa:aG r.attr
 os:aG r.cN
 og:b8 r.agg
theorem q8.ok {b X:Nat} {f g i j:ay} {c:dc} {w:af} {d e:Hd} (a:q8 b X f g i j c w d e):jW b c w d e:=⟨a.lc,a.ic,a.fc,a.ln,a.iN,a.oa,a.os,a.og⟩
theorem jW.zero (a:Nat) (w:af):jW a dc.zero w ⟨none,0,0⟩ ⟨none,0,0⟩:=⟨aF.none_ w 14 _,aS.none_ _ _ _,(λ_ h=>by cases h),jU w,aS.none_ _ _ _,bZ _ au,bZ _ au,⟨by show _<=(0:Int);omega,by show(0:Int)<=_;omega⟩⟩
theorem jW.keep {c:Nat} {d:dc} {w e:af} {f g:Hd} (a:jW c d w f g) {l:List Nat} (k:Kp l w e) (i:∀b∈l,b<c\/w.heap.size<=b):jW c d e f g:=
 ⟨a.lc.kp k (λb c d e=>by have:=a.ic b c d;have:=i b e;unfold Bw at*;omega),a.ic.mono (λb h=>⟨h.1,aT h.2 k.size⟩),a.fc,⟨a.ln.1.kp k (λb c d e=>by have:=a.iN b c d;have:=i b e;unfold Bw at*;omega),a.ln.2⟩,a.iN.mono (λb h=>⟨h.1,aT h.2 k.size⟩),a.oa,a.os,a.og⟩
theorem zY {c:af} {base i j:Nat} {d:aX} {e f:Nat} {k:List RE} {a:dc} {l m:Hd} {kind n:Int} (b:fA c i d e f k) (o:jW j a c l m) (p:base<=i) (i:base<=j) (j:b8 kind) (r:b8 n):
 dX c (Bw base c.heap.size) (.mk kind ⟨#[]⟩ ⟨d,e,f⟩ k l a.conds m a.names a.attr a.cN a.agg n):=by
 have a:=cF (h:=⟨d,e,f⟩) RE.len b.len (by have:=b.few;show e<=_;omega) b.own;refine .mk a ?_ (λa c=>(b.sub a c).mono (λa h=>⟨bR p h.1.1,h.1.2⟩)) o.lc (o.ic.low i) o.fc o.ln (o.iN.low i) (bZ _ au) o.oa o.os j o.og r;intro a c e;have q:d=some ⟨a,c,none⟩:=e;rcases b.own.2 with⟨g,_⟩|⟨w,x,s,g,u,v,_⟩
 ·subst q;cases g
 subst q;injection g with e1
 injection e1 with e1
 injection e1 with e1
 subst e1;exact⟨bR p u,J.lt (t:=93) (cs:=s) v⟩
theorem tW {c:af} {d:Nat} {e:Int} {a:List ao} (h:ax c d e a):b8 (cZ a):=by
 cases a with
 |nil=>exact⟨by show _<=(0:Int);omega,by show(0:Int)<=_;omega⟩
 |cons b f=>
  have a:=h.fine (t:=b) ai;exact⟨by show _<=b.at_;have:=a.a0;omega,by show b.at_<=_;have:=a.a1;omega⟩
theorem pB:∀a∈ii,a.oneCell'=true:=by unfold ii;simp[Value.oneCell']
theorem pC {b:af} {d a e g:Nat} {c:bg} (o:b.ownsRow d 93 9 (U (some ⟨g,0,none⟩) (a+1) e) (a+1) (c++ii)) (d:c.length=a*9) (j:Nat) (c:j<9):b.cell? (ab g (a*9+j))=ii[j]?:=by
 rw[o.cellAt _ nK,List.getElem?_append_right ae,d,Nat.add_sub_cancel_left]
theorem Tryz.zZ:(Tryz.prog.info? 93).map (λi=>(i.zero,i.size,i.bytes))=some (some (.agg #[O 0,ah,aa,aa,aa,ah,ah,O 0,O 0]),9,144):=ak
theorem z1 (a:Int) (d:Nat) (b:List ao) (e:Int) (c:af) (i:e=13) (f:ax c d a b):
 Calls Tryz.prog 176 #[aj d,e] c λj k=>PP a d c (eb a 0 b) (px c.heap.size) j k:=by
 have e:¬e<=12:=ae
 have l:=Z f;have g:=Z (show eb a 0 b=e8 a b 3 from rfl);have m:=Z (Kp.refl [d] c);clear f i;generalize eb a 0 b=p at g⊢;go_enter Tryz.func176,Tryz.ntmps176
 go_wp2_with fail
 refine qT 3 (m.alloc _) g (l.alloc _) ?ah;intro a a a n o;go_wp2;exact⟨rfl,by rw[n.out];exact⟨o.out,rfl⟩⟩
theorem z6 (b:Int) (d G:Nat) (f:List ao) (ad:Int) (e:af) (cq:ad<=12) (cq:1<=ad) (aw:ax e d b f)
 (cq:∀(F:List ao) (W:af),ax W d b F->Calls Tryz.prog 176 #[aj d,O (ad+1)] W λa4 w'=>PP b d W (eb b G F) (px W.heap.size) a4 w'):
 Calls Tryz.prog 176 #[aj d,ad] e λa4 w'=>PP b d e (eb b (G+1) f) (px e.heap.size) a4 w':=by
 have bu:=Z cq;clear cq;obtain⟨bv,bw,bz,b0,b3⟩:=info_parts Tryz.zZ;have dT:=aw.lt;have cr:=Z aw;have ct:=Z (tW aw);have bh:=Z (zO b G f);have cv:=Z (Kp.refl [d] e);obtain⟨⟨cw,al,cx⟩,u,ci⟩:=aw;have d0:al<=9223372036854775807:=ci.lies.2.1;have d1:ac e (ab d 0) (U cw al cx):=J.cell u 0;have bi:=Z ci;clear u ci;generalize eb b (G+1) f=s at bh⊢;go_enter Tryz.func176,Tryz.ntmps176
 go_upto_if 18 with(fail)
 have cy:=Z (J.new e 93 #[O 0,ah,aa,aa,aa,ah,ah,O 0,O 0]);have d2:=Z (show J ((e.alloc (.cells #[O 0,ah,aa,aa,aa,ah,ah,O 0,O 0] 93)).alloc (.cells #[O 1,ah,aa,aa,aa,ah,ah,O 0,O 0] 93)) (e.heap.size+1) 93 #[O 1,ah,aa,aa,aa,ah,ah,O 0,O 0] by simpa using J.new (e.alloc (.cells #[O 0,ah,aa,aa,aa,ah,ah,O 0,O 0] 93)) 93 #[O 1,ah,aa,aa,aa,ah,ah,O 0,O 0]);go_cut [] (λwx=>Hid (J wx e.heap.size 93 #[O 0,ah,aa,aa,aa,ah,ah,O 0,O 0]/\J wx (e.heap.size+1) 93 #[O 1,ah,aa,aa,aa,ah,ah,O 0,O (cZ f)]/\Kp [d] e wx/\ax wx d b f))
 case first=>
  cases f with
  |nil=>
   have c:0=al:=bi.lies.1;subst c;go_wp2_with fail
   go_meet;exact Z ⟨(cy.alloc _),d2,((cv.alloc _).alloc _),((cr.alloc _).alloc _)⟩
  |cons c l=>
   obtain⟨l,m,n,r,w,x,z,A,C⟩:=bi.first;have q:cw=some ⟨l,m,none⟩:=n;subst q;have l:0<al:=by have:=bi.out.lies.1;simp at this;omega
   have l:1<=al:=l;have l:al<=cx:=bi.cap;go_wp2_with fail
   go_meet;have ay:J ((e.alloc (.cells #[O 0,ah,aa,aa,aa,ah,ah,O 0,O 0] 93)).alloc (.cells #[O 1,ah,aa,aa,aa,ah,ah,O 0,c.at_] 93)) (e.heap.size+1) 93 #[O 1,ah,aa,aa,aa,ah,ah,O 0,c.at_]:=by simpa using J.new (e.alloc (.cells #[O 0,ah,aa,aa,aa,ah,ah,O 0,O 0] 93)) 93 #[O 1,ah,aa,aa,aa,ah,ah,O 0,c.at_]
   exact Z ⟨(cy.alloc _),ay,((cv.alloc _).alloc _),((cr.alloc _).alloc _)⟩
 obtain⟨am,rfl⟩:=aq wc;obtain⟨cz,b4,cD,cE⟩:=hcut.out;have a5:=b4.lt;clear hcut d1 d0 bi;obtain⟨c,bi⟩:=aq (e.heap.size+1);rw[<-bi]at b4 a5⊢;have ci:e.heap.size<c:=ae
 have V:d<c:=ae
 clear bi;go_wp2_with fail
 refine(zM d am).mono ?_;rintro a4 az ⟨rfl,aE⟩;have an:=Z (show J az e.heap.size 93 _ by rw[aE];exact(cz.alloc _).alloc _);have ap:=Z (show J az c 93 _ by rw[aE];exact(b4.alloc _).alloc _);have bj:=Z (show J az am.heap.size 127 _ by rw[aE];exact(J.new am 127 _).alloc _);have a6:=Z (show J az (am.heap.size+1) 325 (mH am.heap.size).toArray by rw[aE];simpa using J.new (am.alloc _) 325 (mH am.heap.size).toArray);have bk:=Z (show Kp [d] e az by rw[aE];exact(cD.alloc _).alloc _);have bl:=Z (show ax az d b f by rw[aE];exact(cE.alloc _).alloc _);have cF:=a6.lt;clear aE cz b4 cD cE;obtain⟨q,am⟩:=aq am.heap.size;rw[<-am]at bj a6 cF a5⊢;clear am;go_wp2;go_loopw [30] (λm wr=>∃l:Nat,l<=7/\m=.int .i64 l/\Hid (ag az wr)/\Hid (hU f 0 fP=hU f l (fP.drop l))) (λl _=>7-(intOf l).toNat)
 case atStart=>exact⟨0,by omega,rfl,Z (ag.refl _),Z rfl⟩
 obtain⟨l,n,rfl,H,b5⟩:=hrel;have d3:=H.size;by_cases cj:l<7
 ·have ck:=Z (b5.out.trans (zP f l cj))
  obtain⟨am,az,aE⟩:=zL q l cj;have d4:=Z (J.below an H an.lt);have d6:=Z (J.below ap H ap.lt);have b6:=Z (J.below a6 H a6.lt);have d7:=Z (bk.trans (Kp.of_same H));have cG:=Z (bl.same H);have cH:=(J.cell b6 _).trans (by simpa using am);have cI:=(J.cell b6 _).trans (by simpa using az);have cJ:=(J.cell b6 _).trans (by simpa using aE);have cl:=Z (zS l);clear am az aE b5;obtain⟨w,aE⟩:=aq (lM l);obtain⟨N,am⟩:=aq (mo l);obtain⟨C,D,E,az⟩:=zR q l;rw[<-aE]at cH ck cl;rw[<-am]at cI;rw[az]at cJ;have cL:=Z am;have bm:=Z az;clear aE am az;go_wp2_with fail
  have b7:=nI (wr.alloc (.cells #[w,N,.func C D E] 325)) [w,⟨#[40]⟩] 9 ai (by intro r m;simp at m;rcases m with rfl|rfl;exact cl.out;exact bZ _ (by decide));rw[show(wr.alloc (.cells #[w,N,.func C D E] 325)).heap.size=wr.heap.size+1 by simp]at b7;refine(qN b d f ⟨some ⟨wr.heap.size+1,0,none⟩,2,2⟩ [w,⟨#[40]⟩] _ ((cG.alloc _).alloc _) b7).mono ?_;rintro a4 cm ⟨rfl,b8⟩;have a0:=Z (H.trans ((((ag.refl wr).alloc _).alloc _).trans b8));cases hpk:el f [w,⟨#[40]⟩]with
  |false=>
   have m:=Z hpk;clear hpk b7 b8;go_wp2;go_roundw
   case rel=>exact⟨l+1,by omega,by go_num,a0,Z (by rw[ck.out,if_neg (by rw[m.out];simp)])⟩
   simp[intOf];omega
  |true=>
   have d8:=Z hpk;have a1:Hid (dr e cm d c e.heap.size q wr.heap.size b f #[O 1,ah,aa,aa,aa,ah,ah,O 0,O (cZ f)] #[w,N,.func C D E]):=Z
    ⟨J.below an.out a0.out an.out.lt,J.below ap.out a0.out ap.out.lt,J.below bj.out a0.out bj.out.lt,J.below ((J.new wr 325 #[w,N,.func C D E]).alloc _) b8 aC,bk.out.trans (Kp.of_same a0.out),bl.out.same a0.out⟩
   have cM:=Z (show s=rb b G l (cZ f) (f.drop 2) by have h:=bh.out;rw[ck.out,if_pos hpk]at h;exact h);have am:(d≠c/\d≠e.heap.size/\d≠q/\d≠wr.heap.size)/\(c≠e.heap.size/\c≠q/\c≠wr.heap.size):=⟨⟨by omega,by omega,by omega,by omega⟩,by omega,by omega,by omega⟩;have x:=Z am;have az:=a1.bp.lt;obtain⟨A,aw⟩:=aq wr.heap.size;have aE:q<A:=by omega
   have aE:d<A:=ae
   have aE:c<A:=ae
   rw[<-aw]at a1 x az⊢;clear hpk b7 b8 am cH cI cJ d4 d6 b6 d7 cG an ap bj a6 bk bl bh H a0 aw d3 cF;have cP:=zT l cj;obtain⟨cQ,cR,cS,cT,cV,cW,cX,cY,c0⟩:=eO a1.bx;have ea:=λP=>J.frozen a1.bx P;have ec:ac cm (ab A 0) w:=J.cell a1.bp 0;go_wp2_with fail
   have b9:=Z ((a1.zW ae V x.2 0 (O (2+(l:Int)))).alloc (.cells #[w,.string ⟨#[40]⟩] 9));refine aQ ai b9.k (show s=(aR b f [w,⟨#[40]⟩]).bind λ_ F=>rb b G l (cZ f) F by rw[zQ b f w d8.out];exact cM.out) (cU b d f [w,⟨#[40]⟩] _ (cm.setCell (ab c 0) (O (2+(l:Int)))) _ b9.out.pb (by intro r m;simp at m;rcases m with rfl|rfl;exact cl.out;exact bZ _ (by decide)) (h9:=by simp)) aM ?_;intro am ca am L bs r c1 ed c2 ee;obtain rfl:=r;have M:Hid (dr e L d c e.heap.size q A b ca #[O (2+(l:Int)),ah,aa,aa,aa,ah,ah,O 0,O (cZ f)] #[w,N,.func C D E]):=Z (b9.call c1 x.1 c2);replace bs:Hid (s=(eb b G ca).bind λa m=>jV b G l (cZ f) a m):=bs;clear c1 ed c2 b9 a1 cM cQ cR cS cT cV cW cX cY c0 ea ec;have am:=M.bp.lt;obtain⟨I,am⟩:=aq L.heap.size;have aw:A<I:=by omega
   have a2:=Z (fA.none_ L I);have ef:I<=L.heap.size:=ae
   have aw:e.heap.size<I:=ae
   clear am;go_upto_region 12 with(fail)
   go_cut [] (λwx=>∃(m:aX) (z:Nat) (y1:RE) (u1:List ao),Hid (dr e wx d c e.heap.size q A b u1 #[O (2+(l:Int)),ah,U m 1 z,aa,aa,ah,ah,O 0,O (cZ f)] #[w,N,.func C D E]/\fA wx I m 1 z [y1]/\s=jV b G l (cZ f) y1.ex u1))
   case first=>
    have am:IntKind.i64.wrap (ad+1)=ad+1:=IntWalk.i64_in _ ae;have a8:ac L (ab c 2) aa:=J.cell M.bx 2;have am:=M.bx.lt;refine nG (S:=(λw'=>ac w' (ab c 2) aa)) (B:=λm=>decide (m<8)) ak ?_;have hS:(λw'=>ac w' (ab c 2) aa) L.drew:=a8;refine lO ?_;refine tk 6 hS ?_;refine tk 2 hS ?_;refine gt ?_;refine nF (i:=5) (j:=7) (oi:=?aA) (oj:=?aB) ak ?aG ?aH ?aI ?aJ ?aK ?aL
    case aG=>simp only[bc,bd,be];rfl
    case aH=>rfl
    case aI=>simp only[bc,bd,be];rfl
    case aJ=>rfl
    case aK=>
     intro K hK;go_simp;refine aQ ai (M.k.drew) bs (bu ca _ (M.pb.drew)) aM ?_;intro am mJ di Q E6 r a7 am a9 am;obtain⟨ba,X,Y,bb⟩:=r;have T:=Kp.trans ((Kp.refl [d] L).drew) a7;have bt:=Z T;have cb:=Z (bb.mono (S':=Bw L.heap.size Q.heap.size) (λm u=>⟨bR (by simp[d5]) u.1,u.2⟩));have cc:=Z (M.call T x.1 a9);obtain⟨Y6,ar⟩:=aq ba;rw[<-ar]at cb X;obtain⟨cd,ce,⟨cf,cg,ch⟩,dk,⟨cn,co,cp⟩,dl,⟨c3,c4,c5⟩,dm,c6,c8,c9,da⟩:=ba;replace Y:di=.agg #[cd,ce,U cf cg ch,U cn co cp,U c3 c4 c5,c6,c8,c9,da]:=Y;have pD:Hid (Y6.cells=[.int .i64 cd,.string ce,.slice cf cg ch,.slice cn co cp,.slice c3 c4 c5,.string c6,.string c8,.int .i64 c9,.int .i64 da]):=Z (by rw[ar];rfl);subst Y;replace E6:Hid (s=jV b G l (cZ f) Y6.ex mJ):=by rw[X];exact E6
     have db:ac Q (ab c 2) aa:=J.cell cc.bx 2;have Y:=cc.bx.lt;have Y:=T.size;clear T a7 bb X ar;try go_simp
     refine hK _ _ (λ_=>db) ?_;refine av ?_;refine jM (i:=7) (o:=?aN) ak ?aO ?aP ?aT
     case aO=>simp only[bc,bd,be];rfl
     case aP=>rfl
     intro K hK;go_simp;refine hK _ _ (λ_=>(World.cell?_alloc_lt _ _ _ aD).trans db) ?_;refine av ?_;refine jM (i:=8) (o:=?aU) ak ?aV ?aW ?aY
     case aV=>simp only[bc,bd,be];rfl
     case aW=>rfl
     intro K hK;refine c7 (Q.alloc _) (.tmp 50) (.tmp 56) 91 rfl I 93 bv _ 9 144 Tryz.underlying91 bw bz b0 b3 rfl au aa 0 ((([]:List RE)).flatMap RE.cells) rfl (bC a2.own (bt.alloc _) aC) (Q.heap.size+1) _ 1 1 ii rfl (cC Q _ 93 9 rfl) pB b1 ae n3 ?_;intro T m R dd de;obtain⟨dq,ds,rfl,_⟩:=bo R;obtain⟨z,rfl,dt,a3,df,dg⟩:=dr.kid (W:=(Q.alloc _)) (w6:=Q) (y:=Y6) M a2 ae ae ae ae ae ae x.1 ae ae x.2 V ae bt a9 ((ag.refl Q).alloc _) cb R dd de;have Q:=λT Q=>pC R (by rw[nY,a2.out.len]) T Q;have u0:ac m (ab z 0) (O 0):=Q 0 ae;have u1:ac m (ab z 1) ah:=Q 1 ae;have u2:ac m (ab z 2) aa:=Q 2 ae;have u3:ac m (ab z 3) aa:=Q 3 ae;have u4:ac m (ab z 4) aa:=Q 4 ae;have u5:ac m (ab z 5) ah:=Q 5 ae;have u6:ac m (ab z 6) ah:=Q 6 ae;have u7:ac m (ab z 7) (O 0):=Q 7 ae;have u8:ac m (ab z 8) (O 0):=Q 8 ae;have T:=λT=>R.frozenAt T;have m:ac m (ab c 2) aa:=J.cell a3.bx 2;have m:=λP=>J.frozen a3.bx P;have dj:c≠z:=by omega
     have fV:=Z df;have fW:=Z dg;clear R dd de a3 df dg Q;refine hK _ _ (λh=>absurd h au) ?_;refine av ?_;refine b2 ?_;refine tq 9 ?_;refine tq 11 ?_;refine wpAny_ready (rs:=[10,12]) ak ai ?_;refine AllReady.cons (o:=?aZ) ?bf (λK hK=>?bg) (AllReady.cons (o:=?bn) ?bA (λK hK=>?bB) AllReady.nil)
     case bf=>simp only[bc,bd,be];rfl
     case bA=>simp only[bc,bd,be];rfl
     case bg=>
      exact tV
     go_simp;refine hK _ _ ?_;refine av ?_;refine dp 10 (λK hK=>?_);go_simp;refine hK _ _ ?_;refine av ?_;refine bV ?_;have e1:=fW.out;have e2:=fV.out;rw[<-mI (p:=(ab c 2)) _ _ _ _ dj]at e1 e2;rw[pD.out]at e1 e2;simp only[bX,Nat.zero_mul,Nat.one_mul,Nat.zero_add,Nat.reduceAdd,Nat.reduceMul]at e1 e2;have ij:=Z e1;have HE2:=Z e2;clear e1 e2 fW fV;go_wp2_with fail
     go_meet;exact⟨_,_,Y6,mJ,Z ⟨ij,HE2,E6⟩⟩
    intro K hK;go_simp;refine hK _ _ (λ_=>(World.cell?_alloc_lt _ _ _ cB).trans a8) ?_;refine av ?_;refine jM (i:=5) (o:=?bD) ak ?bE ?bF ?bG
    case bE=>simp only[bc,bd,be];rfl
    case bF=>rfl
    intro K hK;go_simp;refine aQ ai (M.k.drew.alloc _) bs (bu ca _ (M.pb.drew.alloc _)) aM ?_;intro am mJ dg Q E6 r X am a9 am;obtain⟨ba,Y,ar,bb⟩:=r;have T:=Kp.trans ((Kp.refl [d] L).drew.alloc _) X;have bt:=Z T;have cb:=Z (bb.mono (S':=Bw L.heap.size Q.heap.size) (λm u=>⟨bR (by simp[d5]) u.1,u.2⟩));have cc:=Z (M.call T x.1 a9);obtain⟨Y6,a3⟩:=aq ba;rw[<-a3]at cb Y;obtain⟨cd,ce,⟨cf,cg,ch⟩,dl,⟨cn,co,cp⟩,dm,⟨c3,c4,c5⟩,dq,c6,c8,c9,da⟩:=ba;replace ar:dg=.agg #[cd,ce,U cf cg ch,U cn co cp,U c3 c4 c5,c6,c8,c9,da]:=ar;have pD:Hid (Y6.cells=[.int .i64 cd,.string ce,.slice cf cg ch,.slice cn co cp,.slice c3 c4 c5,.string c6,.string c8,.int .i64 c9,.int .i64 da]):=Z (by rw[a3];rfl);subst ar;replace E6:Hid (s=jV b G l (cZ f) Y6.ex mJ):=by rw[Y];exact E6
    have di:ac Q (ab c 2) aa:=J.cell cc.bx 2;have am:=cc.bx.lt;have am:=T.size;have dj:=Z (X.blk (g:=L.heap.size) (t:=93) (cs:=_) (J.new L.drew 93 _) aC);clear T X bb Y a3;try go_simp
    refine hK _ _ (λ_=>di) ?_;refine av ?_;refine jM (i:=8) (o:=?bH) ak ?bI ?bJ ?bK
    case bI=>simp only[bc,bd,be];rfl
    case bJ=>rfl
    intro K hK;refine c7 Q (.tmp 50) (.tmp 56) 91 rfl I 93 bv _ 9 144 Tryz.underlying91 bw bz b0 b3 rfl au aa 0 ((([]:List RE)).flatMap RE.cells) rfl (bC a2.own bt aC) (Q.heap.size+1) _ 1 1 ii rfl ((jd dj rfl).more ae) pB b1 ae n3 ?_;intro L m R db dd;obtain⟨ds,dt,rfl,_⟩:=bo R;obtain⟨z,rfl,du,a7,de,df⟩:=dr.kid (W:=Q) (w6:=Q) (y:=Y6) M a2 ae ae ae ae ae ae x.1 ae ae x.2 V ae bt a9 (ag.refl Q) cb R db dd;have L:=λQ L=>pC R (by rw[nY,a2.out.len]) Q L;have u0:ac m (ab z 0) (O 0):=L 0 ae;have u1:ac m (ab z 1) ah:=L 1 ae;have u2:ac m (ab z 2) aa:=L 2 ae;have u3:ac m (ab z 3) aa:=L 3 ae;have u4:ac m (ab z 4) aa:=L 4 ae;have u5:ac m (ab z 5) ah:=L 5 ae;have u6:ac m (ab z 6) ah:=L 6 ae;have u7:ac m (ab z 7) (O 0):=L 7 ae;have u8:ac m (ab z 8) (O 0):=L 8 ae;have Q:=λQ=>R.frozenAt Q;have m:ac m (ab c 2) aa:=J.cell a7.bx 2;have m:=λP=>J.frozen a7.bx P;have dk:c≠z:=by omega
    have fV:=Z de;have fW:=Z df;clear R db dd a7 de df L;refine hK _ _ (λh=>absurd h au) ?_;refine av ?_;refine b2 ?_;refine tq 9 ?_;refine tq 11 ?_;refine wpAny_ready (rs:=[10,12]) ak ai ?_;refine AllReady.cons (o:=?bL) ?bM (λK hK=>?bN) (AllReady.cons (o:=?bO) ?bP (λK hK=>?bQ) AllReady.nil)
    case bM=>simp only[bc,bd,be];rfl
    case bP=>simp only[bc,bd,be];rfl
    case bN=>
     exact tV
    go_simp;refine hK _ _ ?_;refine av ?_;refine dp 10 (λK hK=>?_);go_simp;refine hK _ _ ?_;refine av ?_;refine bV ?_;have e1:=fW.out;have e2:=fV.out;rw[<-mI (p:=(ab c 2)) _ _ _ _ dk]at e1 e2;rw[pD.out]at e1 e2;simp only[bX,Nat.zero_mul,Nat.one_mul,Nat.zero_add,Nat.reduceAdd,Nat.reduceMul]at e1 e2;have ij:=Z e1;have HE2:=Z e2;clear e1 e2 fW fV;go_wp2_with fail
    go_meet;exact⟨_,_,Y6,mJ,Z ⟨ij,HE2,E6⟩⟩
   obtain⟨Q,R,y1,u1,HX⟩:=hcut;obtain⟨cb,rfl⟩:=aq wc;obtain⟨X,bt,L⟩:=HX.out;have E6:=Z L;have am:=X.k.size;have am:=X.bp.lt;have eg:I<=cb.heap.size:=by obtain⟨am,aw,_,az,dT⟩:=bt.own.form ae;omega
   clear HX L M a2 bs ef ee;have c3:ac cb (ab A 1) N:=J.cell X.bp 1;go_upto_if 61 with(fail)
   go_cut [] (λwx=>∃(m:aX) (z L:Nat) (M:List RE) (u2:List ao),Hid (dr e wx d c e.heap.size q A b u2 #[O (2+(l:Int)),ah,U m z L,aa,aa,ah,ah,O 0,O (cZ f)] #[w,N,.func C D E]/\fA wx I m z L M/\s=lN b l (cZ f) (RE.exs M) u2))
   case first=>
    cases N
    case false=>
     go_wp2_with fail
     go_meet;refine⟨Q,1,R,[y1],u1,Z ⟨X,bt,?_⟩⟩;rw[E6.out,jV,if_neg (by rw[<-cL.out];simp)];rfl
    go_wp2_with fail
    refine aQ ai (X.k.alloc _) (show s=(aR b u1 [⟨#[44]⟩]).bind λ_ m=>(eb b G m).bind λm F=>lN b l (cZ f) [y1.ex,m] F by rw[E6.out,jV,if_pos cL.out.symm]) (cU b d u1 [⟨#[44]⟩] _ cb _ (X.pb.alloc _) (cA [⟨#[44]⟩] au)) aM ?_;intro L bb L Y a8 r a9 eh ch L;obtain rfl:=r;have m:=Z ((X.alloc _).call a9 x.1 ch);have a3:=Z (bt.keep (((Kp.refl [d] cb).alloc _).trans a9) aC);replace a8:Hid (s=(eb b G bb).bind λz F=>lN b l (cZ f) [y1.ex,z] F):=a8;have G:I<=Y.heap.size:=bR eg (by have:=a9.size;simp at this;omega);clear a9 eh ch X bt E6 c3;go_upto_region 15 with(fail)
    have G:IntKind.i64.wrap (ad+1)=ad+1:=IntWalk.i64_in _ ae;have cn:ac Y (ab c 2) (U Q 1 R):=J.cell m.bx 2;have G:=m.bx.lt;refine nG (S:=(λw'=>ac w' (ab c 2) (U Q 1 R))) (B:=λz=>decide (z<8)) ak ?_;have hS:(λw'=>ac w' (ab c 2) (U Q 1 R)) Y.drew:=cn;refine lO ?_;refine tk 6 hS ?_;refine tk 2 hS ?_;refine gt ?_;refine nF (i:=5) (j:=7) (oi:=?bS) (oj:=?bT) ak ?bU ?bY ?cu ?cK ?cO ?dh
    case bU=>simp only[bc,bd,be];rfl
    case bY=>rfl
    case cu=>simp only[bc,bd,be];rfl
    case cK=>rfl
    case cO=>
     intro K hK;go_simp;refine aQ ai (m.k.drew) a8 (bu bb _ (m.pb.drew)) aM ?_;intro G mK ei ar kL r cg G co G;obtain⟨cp,cc,cd,c4⟩:=r;have ba:=Kp.trans ((Kp.refl [d] Y).drew) cg;have c5:=Z ba;have c6:=Z (c4.mono (S':=Bw Y.heap.size ar.heap.size) (λz u=>⟨bR (by simp[d5]) u.1,u.2⟩));have c8:=Z (m.call ba x.1 co);obtain⟨je,ce⟩:=aq cp;rw[<-ce]at c6 cc;obtain⟨c9,da,⟨db,dd,de⟩,ek,⟨df,dg,di⟩,en,⟨dj,dk,dl⟩,eo,dm,dq,ds,dt⟩:=cp;replace cd:ei=.agg #[c9,da,U db dd de,U df dg di,U dj dk dl,dm,dq,ds,dt]:=cd;have pE:Hid (je.cells=[.int .i64 c9,.string da,.slice db dd de,.slice df dg di,.slice dj dk dl,.string dm,.string dq,.int .i64 ds,.int .i64 dt]):=Z (by rw[ce];rfl);subst cd;replace kL:Hid (s=(λz=>lN b l (cZ f) [y1.ex,z]) je.ex mK):=by rw[cc];exact kL
     have du:ac ar (ab c 2) (U Q 1 R):=J.cell c8.bx 2;have G:=c8.bx.lt;have G:=ba.size;clear ba cg c4 cc ce;try go_simp
     refine hK _ _ (λ_=>du) ?_;refine av ?_;refine jM (i:=7) (o:=?dn) ak ?dw ?dx ?dz
     case dw=>simp only[bc,bd,be];rfl
     case dx=>rfl
     intro K hK;go_simp;refine hK _ _ (λ_=>(World.cell?_alloc_lt _ _ _ aD).trans du) ?_;refine av ?_;refine jM (i:=8) (o:=?dA) ak ?dB ?dD ?dF
     case dB=>simp only[bc,bd,be];rfl
     case dD=>rfl
     intro K hK;refine c7 (ar.alloc _) (.tmp 66) (.tmp 72) 91 rfl I 93 bv _ 9 144 Tryz.underlying91 bw bz b0 b3 rfl au (U Q 1 R) 1 (([y1]).flatMap RE.cells) rfl (bC a3.own (c5.alloc _) aC) (ar.heap.size+1) _ 1 1 ii rfl (cC ar _ 93 9 rfl) pB b1 ae n3 ?_;intro G z a7 dv dy;obtain⟨ep,es,rfl,_⟩:=bo a7;obtain⟨T,rfl,et,cf,dC,dE⟩:=dr.kid (W:=(ar.alloc _)) (w6:=ar) (y:=je) m a3 ae ae ae ae ae ae x.1 ae ae x.2 V ae c5 co ((ag.refl ar).alloc _) c6 a7 dv dy;have G:=λL G=>pC a7 (by rw[nY,a3.out.len]) L G;have u0:ac z (ab T 9) (O 0):=G 0 ae;have u1:ac z (ab T 10) ah:=G 1 ae;have u2:ac z (ab T 11) aa:=G 2 ae;have u3:ac z (ab T 12) aa:=G 3 ae;have u4:ac z (ab T 13) aa:=G 4 ae;have u5:ac z (ab T 14) ah:=G 5 ae;have u6:ac z (ab T 15) ah:=G 6 ae;have u7:ac z (ab T 16) (O 0):=G 7 ae;have u8:ac z (ab T 17) (O 0):=G 8 ae;have L:=λL=>a7.frozenAt L;have z:ac z (ab c 2) (U Q 1 R):=J.cell cf.bx 2;have z:=λP=>J.frozen cf.bx P;have ej:c≠T:=by omega
     have fV:=Z dC;have fW:=Z dE;clear a7 dv dy cf dC dE G;refine hK _ _ (λh=>absurd h au) ?_;refine av ?_;refine b2 ?_;refine tq 9 ?_;refine tq 11 ?_;refine wpAny_ready (rs:=[10,12]) ak ai ?_;refine AllReady.cons (o:=?dG) ?dH (λK hK=>?dI) (AllReady.cons (o:=?dJ) ?dK (λK hK=>?dL) AllReady.nil)
     case dH=>simp only[bc,bd,be];rfl
     case dK=>simp only[bc,bd,be];rfl
     case dI=>
      exact qD
     go_simp;refine hK _ _ ?_;refine av ?_;refine dp 10 (λK hK=>?_);go_simp;refine hK _ _ ?_;refine av ?_;refine bV ?_;have e1:=fW.out;have e2:=fV.out;rw[<-mI (p:=(ab c 2)) _ _ _ _ ej]at e1 e2;rw[pE.out]at e1 e2;simp only[bX,Nat.zero_mul,Nat.one_mul,Nat.zero_add,Nat.reduceAdd,Nat.reduceMul]at e1 e2;have ij:=Z e1;have HE2:=Z e2;clear e1 e2 fW fV;go_wp2_with fail
     go_meet;exact⟨_,2,_,[y1,je],mK,Z ⟨ij,HE2,kL⟩⟩
    intro K hK;go_simp;refine hK _ _ (λ_=>(World.cell?_alloc_lt _ _ _ cB).trans cn) ?_;refine av ?_;refine jM (i:=5) (o:=?dM) ak ?dN ?dO ?dP
    case dN=>simp only[bc,bd,be];rfl
    case dO=>rfl
    intro K hK;go_simp;refine aQ ai (m.k.drew.alloc _) a8 (bu bb _ (m.pb.drew.alloc _)) aM ?_;intro G mK dE ar kL r cc G co G;obtain⟨cp,cd,ce,c4⟩:=r;have ba:=Kp.trans ((Kp.refl [d] Y).drew.alloc _) cc;have c5:=Z ba;have c6:=Z (c4.mono (S':=Bw Y.heap.size ar.heap.size) (λz u=>⟨bR (by simp[d5]) u.1,u.2⟩));have c8:=Z (m.call ba x.1 co);obtain⟨je,cf⟩:=aq cp;rw[<-cf]at c6 cd;obtain⟨c9,da,⟨db,dd,de⟩,en,⟨df,dg,di⟩,eo,⟨dj,dk,dl⟩,ep,dm,dq,ds,dt⟩:=cp;replace ce:dE=.agg #[c9,da,U db dd de,U df dg di,U dj dk dl,dm,dq,ds,dt]:=ce;have pE:Hid (je.cells=[.int .i64 c9,.string da,.slice db dd de,.slice df dg di,.slice dj dk dl,.string dm,.string dq,.int .i64 ds,.int .i64 dt]):=Z (by rw[cf];rfl);subst ce;replace kL:Hid (s=(λz=>lN b l (cZ f) [y1.ex,z]) je.ex mK):=by rw[cd];exact kL
    have ei:ac ar (ab c 2) (U Q 1 R):=J.cell c8.bx 2;have G:=c8.bx.lt;have G:=ba.size;have ej:=Z (cc.blk (g:=Y.heap.size) (t:=93) (cs:=_) (J.new Y.drew 93 _) aC);clear ba cc c4 cd cf;try go_simp
    refine hK _ _ (λ_=>ei) ?_;refine av ?_;refine jM (i:=8) (o:=?dQ) ak ?dR ?dS ?dU
    case dR=>simp only[bc,bd,be];rfl
    case dS=>rfl
    intro K hK;refine c7 ar (.tmp 66) (.tmp 72) 91 rfl I 93 bv _ 9 144 Tryz.underlying91 bw bz b0 b3 rfl au (U Q 1 R) 1 (([y1]).flatMap RE.cells) rfl (bC a3.own c5 aC) (ar.heap.size+1) _ 1 1 ii rfl ((jd ej rfl).more ae) pB b1 ae n3 ?_;intro G z a7 du dv;obtain⟨es,et,rfl,_⟩:=bo a7;obtain⟨T,rfl,ev,cg,dy,dC⟩:=dr.kid (W:=ar) (w6:=ar) (y:=je) m a3 ae ae ae ae ae ae x.1 ae ae x.2 V ae c5 co (ag.refl ar) c6 a7 du dv;have m:=λG m=>pC a7 (by rw[nY,a3.out.len]) G m;have u0:ac z (ab T 9) (O 0):=m 0 ae;have u1:ac z (ab T 10) ah:=m 1 ae;have u2:ac z (ab T 11) aa:=m 2 ae;have u3:ac z (ab T 12) aa:=m 3 ae;have u4:ac z (ab T 13) aa:=m 4 ae;have u5:ac z (ab T 14) ah:=m 5 ae;have u6:ac z (ab T 15) ah:=m 6 ae;have u7:ac z (ab T 16) (O 0):=m 7 ae;have u8:ac z (ab T 17) (O 0):=m 8 ae;have G:=λG=>a7.frozenAt G;have z:ac z (ab c 2) (U Q 1 R):=J.cell cg.bx 2;have z:=λP=>J.frozen cg.bx P;have ek:c≠T:=by omega
    have fV:=Z dy;have fW:=Z dC;clear a7 du dv cg dy dC m;refine hK _ _ (λh=>absurd h au) ?_;refine av ?_;refine b2 ?_;refine tq 9 ?_;refine tq 11 ?_;refine wpAny_ready (rs:=[10,12]) ak ai ?_;refine AllReady.cons (o:=?dV) ?dX (λK hK=>?dY) (AllReady.cons (o:=?dZ) ?d9 (λK hK=>?eu) AllReady.nil)
    case dX=>simp only[bc,bd,be];rfl
    case d9=>simp only[bc,bd,be];rfl
    case dY=>
     exact qD
    go_simp;refine hK _ _ ?_;refine av ?_;refine dp 10 (λK hK=>?_);go_simp;refine hK _ _ ?_;refine av ?_;refine bV ?_;have e1:=fW.out;have e2:=fV.out;rw[<-mI (p:=(ab c 2)) _ _ _ _ ek]at e1 e2;rw[pE.out]at e1 e2;simp only[bX,Nat.zero_mul,Nat.one_mul,Nat.zero_add,Nat.reduceAdd,Nat.reduceMul]at e1 e2;have ij:=Z e1;have HE2:=Z e2;clear e1 e2 fW fV;go_wp2_with fail
    go_meet;exact⟨_,2,_,[y1,je],mK,Z ⟨ij,HE2,kL⟩⟩
   obtain⟨a8,a7,a9,cn,u2,HX⟩:=hcut;obtain⟨ar,rfl⟩:=aq wc;obtain⟨m,ba,G⟩:=HX.out;have Y:=Z G;have L:=m.k.size;have L:=m.bp.lt;clear HX G X bt E6 c3;obtain⟨T,G⟩:∃T:dc->List ao->PO Ex,T=λG F=>(aR b F [⟨#[41]⟩]).bind λ_ F=>.ok (.mk ((l:Int)+2) e0 (RE.exs cn) G.conds G.names G.attr G.cN G.agg (cZ f)) F:=⟨_,rfl⟩;replace Y:Hid (s=(em b l u2).bind T):=Z (by rw[Y.out,G];rfl);have c4:=Z G;clear G;have df:ac ar (ab A 2) (.func C D E):=J.cell m.bp 2;go_upto_region 16 with(fail)
   go_cut [] (λwx=>∃(z:dc) (G L:Hd) (u3:List ao),Hid (dr e wx d c e.heap.size q A b u3 #[O (2+(l:Int)),ah,U a8 a7 a9,G.val,L.val,z.attr,z.cN,z.agg,O (cZ f)] #[w,N,.func C D E]/\fA wx I a8 a7 a9 cn/\jW ar.heap.size z wx G L/\s=T z u3))
   case first=>
    have ce:l=0\/l=1\/l=5\/l=6\/(l=2\/l=3\/l=4):=ae
    have a3:=Z (show∀z∈[d,c],z∈[d]\/e.heap.size<=z by intro z u;simp at u;rcases u with rfl|rfl;exact .inl ai;exact .inr ae);rcases ce with n|n|n|n|n
    ·have cf:Value.func (.func 300) #[] #[aj q]=.func C D E:=by rw[<-bm.out,n];rfl
     injection cf with f1 f2 f3
     subst f1 f2 f3;have cg:=Z (show s=(em b 0 u2).bind T by rw[Y.out,n]);clear n;go_wp2_with fail
     refine nX (l2:=[d,c]) a3 m.k cg (zH b d c q u2 ar _ _ _ _ m.pb m.bx m.bq V a5) ?eB ?eD
     case eB=>intro er a wx HX KX;go_wp2;exact⟨rfl,by rw[HX.out];exact⟨KX.out,rfl⟩⟩
     intro ch u3 u wx co r z cc cd u;obtain⟨rfl,c5,cp,bb⟩:=r;have c6:=Z (show dr e wx d c e.heap.size q A b u3 _ _ from⟨z.blk m.br aC,bb.blk,z.blk m.bq aC,z.blk m.bp aC,cc,cd⟩);have c8:=Z (ba.keep z aC);have c9:=Z bb.ok;clear z cc cd bb;go_wp2_with fail
     go_meet;exact⟨ch,c5,cp,u3,Z ⟨c6,c8,c9,co⟩⟩
    ·have cf:Value.func (.func 301) #[] #[aj q]=.func C D E:=by rw[<-bm.out,n];rfl
     injection cf with f1 f2 f3
     subst f1 f2 f3;have cg:=Z (show s=(em b 1 u2).bind T by rw[Y.out,n]);clear n;go_wp2_with fail
     refine nX (l2:=[d,c]) a3 m.k cg (zI b d c q u2 ar _ _ _ _ m.pb m.bx m.bq V a5) ?eF ?eG
     case eF=>intro er a wx HX KX;go_wp2;exact⟨rfl,by rw[HX.out];exact⟨KX.out,rfl⟩⟩
     intro ch u3 u wx co r z cc cd u;obtain⟨rfl,c5,cp,bb⟩:=r;have c6:=Z (show dr e wx d c e.heap.size q A b u3 _ _ from⟨z.blk m.br aC,bb.blk,z.blk m.bq aC,z.blk m.bp aC,cc,cd⟩);have c8:=Z (ba.keep z aC);have c9:=Z bb.ok;clear z cc cd bb;go_wp2_with fail
     go_meet;exact⟨ch,c5,cp,u3,Z ⟨c6,c8,c9,co⟩⟩
    ·have cf:Value.func (.func 302) #[] #[aj q]=.func C D E:=by rw[<-bm.out,n];rfl
     injection cf with f1 f2 f3
     subst f1 f2 f3;have cg:=Z (show s=(em b 5 u2).bind T by rw[Y.out,n]);clear n;go_wp2_with fail
     refine nX (l2:=[d,c]) a3 m.k cg (zJ b d c q u2 ar _ _ _ _ m.pb m.bx m.bq V a5) ?eH ?eP
     case eH=>intro er a wx HX KX;go_wp2;exact⟨rfl,by rw[HX.out];exact⟨KX.out,rfl⟩⟩
     intro ch u3 u wx co r z cc cd u;obtain⟨rfl,c5,cp,bb⟩:=r;have c6:=Z (show dr e wx d c e.heap.size q A b u3 _ _ from⟨z.blk m.br aC,bb.blk,z.blk m.bq aC,z.blk m.bp aC,cc,cd⟩);have c8:=Z (ba.keep z aC);have c9:=Z bb.ok;clear z cc cd bb;go_wp2_with fail
     go_meet;exact⟨ch,c5,cp,u3,Z ⟨c6,c8,c9,co⟩⟩
    ·have cf:Value.func (.func 303) #[] #[aj q]=.func C D E:=by rw[<-bm.out,n];rfl
     injection cf with f1 f2 f3
     subst f1 f2 f3;have cg:=Z (show s=(em b 6 u2).bind T by rw[Y.out,n]);clear n;go_wp2_with fail
     refine nX (l2:=[d,c]) a3 m.k cg (zK b d c q u2 ar _ _ _ _ m.pb m.bx m.bq V a5) ?eT ?eU
     case eT=>intro er a wx HX KX;go_wp2;exact⟨rfl,by rw[HX.out];exact⟨KX.out,rfl⟩⟩
     intro ch u3 u wx co r z cc cd u;obtain⟨rfl,c5,cp,bb⟩:=r;have c6:=Z (show dr e wx d c e.heap.size q A b u3 _ _ from⟨z.blk m.br aC,bb.blk,z.blk m.bq aC,z.blk m.bp aC,cc,cd⟩);have c8:=Z (ba.keep z aC);have c9:=Z bb.ok;clear z cc cd bb;go_wp2_with fail
     go_meet;exact⟨ch,c5,cp,u3,Z ⟨c6,c8,c9,co⟩⟩
    have z:Value.func (.func 299) #[] #[]=.func C D E:=by rw[<-bm.out];rcases n with n|n|n<;>rw[n]<;>rfl
    injection z with f1 f2 f3
    subst f1 f2 f3;have bb:=Z (show s=T dc.zero u2 by rw[Y.out,zX b l u2 n];rfl);clear n;go_wp2_with fail
    refine(zN c ar).mono ?_;rintro a4 w' ⟨rfl,rfl⟩;go_wp2_with fail
    go_meet;exact⟨dc.zero,⟨none,0,0⟩,⟨none,0,0⟩,u2,Z ⟨m,ba,jW.zero _ _,bb⟩⟩
   obtain⟨z,di,dg,u3,HX⟩:=hcut;obtain⟨co,rfl⟩:=aq wc;obtain⟨a3,c5,c6,n⟩:=HX.out;have dj:=Z (show s=(aR b u3 [⟨#[41]⟩]).bind λ_ F=>.ok (.mk ((l:Int)+2) e0 (RE.exs cn) z.conds z.names z.attr z.cN z.agg (cZ f)) F by rw[n,c4.out]);have u:=a3.k.size;clear HX n m ba Y df c4;obtain⟨cc,cd,ce⟩:=di;obtain⟨cf,cg,ch⟩:=dg;replace a3:Hid (dr e co d c e.heap.size q A b u3 #[O (2+(l:Int)),ah,U a8 a7 a9,U cc cd ce,U cf cg ch,z.attr,z.cN,z.agg,O (cZ f)] #[w,N,.func C D E]):=a3;go_wp2_with fail
   refine aQ ai (a3.k.alloc _) dj (cU b d u3 [⟨#[41]⟩] _ co _ (a3.pb.alloc _) (cA [⟨#[41]⟩] au)) aM ?_;intro m m m c8 dk r cp dl c9 m;obtain rfl:=r;have m:=((Kp.refl [d] co).alloc _).trans cp;have bb:=Z ((a3.alloc _).call cp x.1 c9);have dm:=Z (c5.keep m aC);have dq:=Z (c6.keep m aC);clear cp m a3 c5 c6 dl c9;obtain⟨cQ,cR,cS,cT,cV,cW,cX,cY,c0⟩:=eO bb.bx;obtain⟨m,n,q,r,u,w,x,A,C⟩:=eO bb.br;have m:=λP=>J.frozen bb.br P;go_wp2;have ds:=dW bb.br bb.k bb.pb [.int .i64 (2+(l:Int)),.string ⟨#[]⟩,.slice a8 a7 a9,.slice cc cd ce,.slice cf cg ch,.string z.attr,.string z.cN,.int .i64 z.agg,.int .i64 (cZ f)] rfl (Nat.le_refl _) ae;have m:=nZ e.heap.size [.int .i64 (2+(l:Int)),.string ⟨#[]⟩,.slice a8 a7 a9,.slice cc cd ce,.slice cf cg ch,.string z.attr,.string z.cN,.int .i64 z.agg,.int .i64 (cZ f)] 0 c8 c8 (Kp.refl _ _);have n:=dm.keep m aC;have m:=dq.keep m aC;have da:=zY (base:=e.heap.size) n m ae ae (kind:=2+(l:Int)) ⟨by have:=cP.1;omega,by have:=cP.2;omega⟩ ct.out;obtain⟨db,dd,de⟩:=ds;simp only[bX,Nat.zero_add,Nat.reduceAdd]at db dd de da;obtain⟨dt,du,dv,dy,dC,dE,eh,ei,ej⟩:=eO db;refine bodyPost_ret (v:=.agg #[O (2+(l:Int)),ah,U a8 a7 a9,U cc cd ce,U cf cg ch,z.attr,z.cN,z.agg,O (cZ f)]) ?_ rfl ?_
   ·simp[results,Tryz.results176,go_sem,dt,du,dv,dy,dC,dE,eh,ei,ej]
   rw[dk.out];exact⟨dd,_,rfl,⟨_,by rw[Int.add_comm];rfl,rfl,da⟩,de⟩
 obtain rfl:l=7:=ae
 have L:=Z (show s=(bW b f).bind λal l=>.ok (.mk 1 al [] [] [] e0 e0 0 (cZ f)) l by have h:=bh.out;rw[b5.out]at h;exact h);have x:=Z (J.below an H an.lt);have z:=Z (J.below ap H ap.lt);have A:=Z (bk.trans (Kp.of_same H));have C:=Z (bl.same H);clear an ap bj a6 bk bl b5 H bh;go_wp2_with fail
 refine aQ ai A L (eq b d f wr C) ?ay ?eX
 case ay=>intro er a wx HX KX;go_wp2;exact⟨rfl,by rw[HX.out];exact⟨KX.out,rfl⟩⟩
 intro m b b b M N r P Q b;obtain⟨rfl,R⟩:=N;have w:=Z (r.blk x aC);have d:=Z (r.blk z aC);clear r x z A C;obtain⟨b,l,n,q,r,s,u,x,z⟩:=eO d;obtain⟨b,l,n,q,r,s,u,x,z⟩:=eO w;have l:=λb=>J.frozen w b;have b:=λb=>J.frozen d b;have b:e.heap.size≠c:=ae
 go_wp2;have T:=dW (t:=93) (J.far w (p:=(ab c 1)) aD m) (Kp.set (p:=(ab c 1)) aD P m) (ax.set (p:=(ab c 1)) aD Q m) [.int .i64 1,.string m,.slice none 0 0,.slice none 0 0,.slice none 0 0,.string ⟨#[]⟩,.string ⟨#[]⟩,.int .i64 0,.int .i64 (cZ f)] rfl (Nat.le_refl _) ae;obtain⟨D,E,I⟩:=T;simp only[bX,Nat.zero_add,Nat.reduceAdd]at D E I;obtain⟨X,Y,ar,a0,a1,a2,a3,a7,a8⟩:=eO D;refine bodyPost_ret (v:=.agg #[O 1,m,aa,aa,aa,ah,ah,O 0,O (cZ f)]) ?_ rfl ?_
 ·simp[results,Tryz.results176,go_sem,X,Y,ar,a0,a1,a2,a3,a7,a8]
 rw[M.out];refine⟨E,_,rfl,⟨.mk 1 m ⟨none,0,0⟩ [] ⟨none,0,0⟩ [] ⟨none,0,0⟩ [] e0 e0 0 (cZ f),rfl,rfl,?_⟩,I⟩;exact .mk (aF.none_ _ 9 _) (aS.none_ _ _ _) (λ_ h=>by cases h) (aF.none_ _ 14 _) (aS.none_ _ _ _) (λ_ h=>by cases h) (jU _) (aS.none_ _ _ _) R (bZ _ au) (bZ _ au) ⟨by omega,by omega⟩ ⟨by omega,by omega⟩ ct.out
theorem z8 (e:Int) (f:Nat):∀(c:Nat) (d:List ao) (a:Int) (b:af),a+c=13->1<=a->ax b f e d->
 Calls Tryz.prog 176 #[aj f,a] b λg i=>PP e f b (eb e c d) (px b.heap.size) g i:=by
 intro c;induction c with
 |zero=>intro d a b g g g;exact z1 e f d a b ae g
 |succ c j=>intro d a b g g i;exact z6 e f c d a b ae g i (λb c h=>j b (a+1) c ae ae h)
structure RI where
 kind:Int
 name:ByteArray
 at_:Int
 table:ByteArray
 attr:ByteArray
 pF:Hd
 cD:List dl
 il:Hd
 names:List ByteArray
 bf:Int
 n:Int
 m:Int
 n4:Hd
 terms:List cL
 other:ByteArray
 kA:ByteArray
 n5:Hd
 fixed:List du
 hvars:Hd
 vars:List Vr
 hconds:Hd
 conds:List bB
 e:RE
def RI.cells (r:RI):List Value:=
 [.int .i64 r.kind,.string r.name,.int .i64 r.at_,.string r.table,.string r.attr,r.pF.val,r.il.val,.int .i64 r.bf,.int .i64 r.n,.int .i64 r.m,r.n4.val,.string r.other,.string r.kA,r.n5.val,r.hvars.val,r.hconds.val]++r.e.cells
def RI.it (a:RI):aI:=⟨a.kind,a.name,a.at_,a.table,a.attr,a.cD,a.names,a.bf,a.n,a.m,a.terms,a.other,a.kA,a.fixed,a.vars,a.conds,a.e.ex⟩
theorem RI.len (a:RI):a.cells.length=25:=by unfold RI.cells;rw[List.length_append,RE.len];rfl
def aJ:Hd:=⟨none,0,0⟩
structure df (w:af) (S:Nat->Prop) (r:RI):Prop where
 lc:aF w 5 r.pF dl.cells r.cD
 ic:aS S r.pF
 fc:∀c∈r.cD,c.bY
 ln:b4 w r.il r.names
 iN:aS S r.il
 lt:aF w 7 r.n4 cL.cells r.terms
 it:aS S r.n4
 ft:∀c∈r.terms,c.bY
 lf:aF w 4 r.n5 du.cells r.fixed
 iF:aS S r.n5
 ff:∀c∈r.fixed,c.bY
 lv:aF w 2 r.hvars Vr.cells r.vars
 iv:aS S r.hvars
 fv:∀c∈r.vars,c.bY
 ld:aF w 14 r.hconds bB.cells r.conds
 iD:aS S r.hconds
 fd:∀c∈r.conds,c.bY
 ex:dX w S r.e
 ok:b8 r.kind/\aG r.name/\b8 r.at_/\aG r.table/\aG r.attr/\b8 r.bf/\b8 r.n/\b8 r.m/\aG r.other/\aG r.kA
theorem df.mono {w:af} {S S':Nat->Prop} {r:RI} (a:df w S r) (b:∀c,S c->S' c):df w S' r:=
 ⟨a.lc,a.ic.mono b,a.fc,a.ln,a.iN.mono b,a.lt,a.it.mono b,a.ft,a.lf,a.iF.mono b,a.ff,a.lv,a.iv.mono b,a.fv,a.ld,a.iD.mono b,a.fd,a.ex.mono b,a.ok⟩
theorem df.keep {w d:af} {S:Nat->Prop} {e:RI} (a:df w S e) {l:List Nat} (k:Kp l w d) (c:∀b∈l,¬S b):df d S e:=
 ⟨a.lc.kp k (λb d e f=>c b f (a.ic b d e)),a.ic,a.fc,⟨a.ln.1.kp k (λb d e f=>c b f (a.iN b d e)),a.ln.2⟩,a.iN,a.lt.kp k (λb d e f=>c b f (a.it b d e)),a.it,a.ft,a.lf.kp k (λb d e f=>c b f (a.iF b d e)),a.iF,a.ff,
  a.lv.kp k (λb d e f=>c b f (a.iv b d e)),a.iv,a.fv,a.ld.kp k (λb d e f=>c b f (a.iD b d e)),a.iD,a.fd,a.ex.keep k c,a.ok⟩
def RI.start (a:Int) (b:aw) (c:Int):RI:=⟨a,b,c,e0,e0,aJ,[],aJ,[],0,0,0,aJ,[],e0,e0,aJ,[],aJ,[],aJ,[],RE.zero⟩
theorem Aa (a:af) (b:Nat->Prop):dX a b RE.zero:=
 .mk (aF.none_ a 9 _) (aS.none_ _ _ _) (λ_ h=>by cases h) (aF.none_ a 14 _) (aS.none_ _ _ _) (λ_ h=>by cases h) (jU a) (aS.none_ _ _ _) (bZ _ au) (bZ _ au) (bZ _ au) ⟨by omega,by omega⟩ ⟨by omega,by omega⟩ ⟨by omega,by omega⟩
theorem io (w:af) (S:Nat->Prop) (a:Int) (b:aw) (c:Int) (d:b8 a) (e:aG b) (f:b8 c):df w S (RI.start a b c):=
 ⟨aF.none_ w 5 _,aS.none_ _ _ _,(λ_ h=>by cases h),jU w,aS.none_ _ _ _,aF.none_ w 7 _,aS.none_ _ _ _,(λ_ h=>by cases h),aF.none_ w 4 _,aS.none_ _ _ _,(λ_ h=>by cases h),aF.none_ w 2 _,aS.none_ _ _ _,(λ_ h=>by cases h),
  aF.none_ w 14 _,aS.none_ _ _ _,(λ_ h=>by cases h),Aa w S,d,e,f,bZ _ au,bZ _ au,⟨by show _<=(0:Int);omega,by show(0:Int)<=_;omega⟩,⟨by show _<=(0:Int);omega,by show(0:Int)<=_;omega⟩,⟨by show _<=(0:Int);omega,by show(0:Int)<=_;omega⟩,bZ _ au,bZ _ au⟩
def jf (b c:Nat) (d:aI) (a:ay) (w:af):Prop:=a=.tuple #[]/\∃a:RI,a.it=d/\J w c 95 a.cells.toArray/\df w (Bw b w.heap.size) a
def tZ (c:af) (a:Nat) (d:List (Int×Nat)) (b:cI×Int) (i:Int) (e:Ending) (f:af):Prop:=
 Kp (dm a d) c f/\(∃g,dT f a g b.1/\∀f∈dm a g,f∈dm a d\/c.heap.size<=f)/\((b.2=0/\e=.returned (.tuple #[]))\/(b.2≠0/\e=.panicked [{v:=eY b.2 i,recovered:=false}]))
theorem dT.more {q j:af} {f g:Nat} {c:List (Int×Nat)} {r:cI} (h:dT q f c r) (k:Int) (m:∀p∈c,p.1≠k) (v:f≠g) (s:∀p∈c,p.2≠g) (w:Kp [f] q j) (q:cH (.int .i64) j f ((c.map λp=>(.int .i64 p.1,.map (some p.2)))++[(.int .i64 k,.map (some g))])) (x:cH .string j g []):dT j f (c++[(k,g)]) r:=by
 refine⟨by rw[List.map_append];exact q,λp a=>?_,λn l p o e d b=>?_,λp a=>?_,λy t i=>?_⟩
 ·rcases cY a with a|a
  ·obtain⟨f,g,j⟩:=h.inner p a
   exact⟨f,g.kp w (by simpa using h.out p a),j⟩
  rw[aA a];refine⟨[],x,λt=>⟨λi=>(by cases i),λi=>?_⟩⟩;obtain⟨p,a,b⟩:=h.all _ _ i;exact absurd b (m p a)
 ·by_cases f:n<c.length
  ·rw[List.getElem?_append_left f]at e
   by_cases f:l<c.length
   ·rw[List.getElem?_append_left f]at d
    exact h.one n l p o e d b
   rw[List.getElem?_append_right ae]at d;have u:=aA (List.mem_of_getElem? d);subst u;have a:=List.mem_of_getElem? e;rcases b with b|b
   ·exact absurd b (m p a)
   exact absurd b (s p a)
  rw[List.getElem?_append_right ae]at e;have a:=aA (List.mem_of_getElem? e);have f:n-c.length<1:=by
   have:=(List.getElem?_eq_some_iff.1 e).1;simpa using this
  subst a;by_cases e:l<c.length
  ·rw[List.getElem?_append_left e]at d
   have u:=List.mem_of_getElem? d;rcases b with b|b
   ·exact absurd b.symm (m o u)
   exact absurd b.symm (s o u)
  rw[List.getElem?_append_right ae]at d;have c:l-c.length<1:=by
   have:=(List.getElem?_eq_some_iff.1 d).1;simpa using this
  omega
 ·rcases cY a with a|a
  ·exact h.out p a
  rw[aA a];exact λc=>v c.symm
 obtain⟨p,a,b⟩:=h.all y t i;exact⟨p,jX (.inl a),b⟩
theorem dT.add {p g:af} {q b:Nat} {l:List (Int×Nat)} {i:cI} (h:dT p q l i) {c:Int} (f:(c,b)∈l) {j:bm} (u:∀a,a∈j↔(c,a)∈i) (k:aw) (r:Kp [b] p g) (v:cH .string g b ((j.map λa=>(.string a,.bool true))++[(.string k,.bool true)])):dT g q l ((c,k)::i):=by
 refine⟨h.m.kp r (by simpa using λd=>h.out _ f d.symm),λd n=>?_,h.one,h.out,λw a x=>?_⟩
 ·by_cases o:d.2=b
  ·obtain⟨g,i,s⟩:=List.mem_iff_getElem.1 n
   obtain⟨p,q,t⟩:=List.mem_iff_getElem.1 f;have y:=h.one g p d (c,b) (by rw[List.getElem?_eq_getElem i,s]) (by rw[List.getElem?_eq_getElem q,t]) (.inr o);subst y;have z:d=(c,b):=by rw[<-s,t]
   subst z;refine⟨j++[k],by rw[List.map_append];exact v,λa=>?_⟩;rw[List.mem_append,List.mem_singleton,u a,List.mem_cons];constructor
   ·rintro(e|rfl)
    ·exact .inr e
    exact .inl rfl
   rintro(e|e)
   ·injection e with _ e;exact .inr e
   exact .inl e
  obtain⟨i,g,j⟩:=h.inner d n;refine⟨i,g.kp r (by simpa using o),λa=>?_⟩;rw[j a,List.mem_cons];constructor
  ·exact .inr
  rintro(e|e)
  ·injection e with e _
   obtain⟨g,i,s⟩:=List.mem_iff_getElem.1 n;obtain⟨j,k,t⟩:=List.mem_iff_getElem.1 f;have y:=h.one g j d (c,b) (by rw[List.getElem?_eq_getElem i,s]) (by rw[List.getElem?_eq_getElem k,t]) (.inl e);subst y;have b:d=(c,b):=by rw[<-s,t]
   exact absurd (by rw[b]) o
  exact e
 rcases dd x with e|e
 ·injection e with e _
  exact⟨_,f,e.symm⟩
 exact h.all w a e
theorem t6 (a:cI) (b:Int) (c:aw):ec a b c=true↔(b,c)∈a:=by
 unfold ec;rw[List.any_eq_true];constructor
 ·rintro⟨a,a,h⟩
  simp at h;rw[<-h.1,<-h.2];exact a
 intro h;exact⟨_,h,by simp⟩
theorem Ab (a:af):(binOp BinOp.eql 206 (.map none) (.map none)).run Tryz.prog a=.ok (.bool true) a:=ak
theorem Ac (a:af) (b:Nat):(binOp BinOp.eql 206 (.map (some b)) (.map none)).run Tryz.prog a=.ok (.bool false) a:=ak
theorem dT.mark {e:af} {s c:Nat} {j:List (Int×Nat)} {b:cI} (h:dT e s j b) {k:Int} (f:(k,c)∈j) (a:aw):
 ∃d t,(Instr.lookup 206 (.map (some c)) a false).run Tryz.prog e=.ok (.bool (ec b k a)) e/\(Instr.mapUpdate 206 (.map (some c)) a (.bool true)).run Tryz.prog e=.ok () d/\Kp [c] e d/\dT d s j t/\
  (if ec b k a then(b,9)else((k,a)::b,(0:Int)))=(t,if ec b k a then 9 else 0):=by
 obtain⟨B,l,g⟩:=h.inner _ f;rcases l.look (P:=Tryz.prog) (T:=206) Tryz.underlying206 Tryz.underlying9 (.bool false) Tryz.zeroValue4 a trivial with⟨u,n⟩|⟨v,F,o,n⟩
 ·have i:¬(k,a)∈b:=λe=>u (.string a,.bool true) (List.mem_map.2 ⟨a,(g a).2 e,rfl⟩) rfl
  have p:ec b k a=false:=by
   cases hq:ec b k a with
   |false=>rfl
   |true=>exact absurd ((t6 b k a).1 hq) i
  obtain⟨d,i,j,e⟩:=l.push (P:=Tryz.prog) (T:=206) Tryz.underlying206 Tryz.underlying9 a (.bool true) trivial u;rw[p];exact⟨d,_,n false,i,e,h.add f g a e j,rfl⟩
 have w:=List.mem_of_getElem? o;obtain⟨p,C,q⟩:=List.mem_map.1 w;injection q with e1 e2
 injection e1 with e1
 subst e1 e2;have a:=(g p).1 C;rw[(t6 b k p).2 a];obtain⟨d,a,D,r⟩:=l.again (P:=Tryz.prog) (T:=206) Tryz.underlying206 Tryz.underlying9 p (.bool true) trivial ⟨_,w,rfl⟩ (λa a _=>by obtain⟨e,_,a⟩:=List.mem_map.1 a;rw[<-a]);refine⟨d,b,n false,a,r,⟨h.m.kp r (by simpa using λa=>h.out _ f a.symm),λi x=>?_,h.one,h.out,h.all⟩,rfl⟩;by_cases y:i.2=c
 ·obtain⟨a,b,z⟩:=List.mem_iff_getElem.1 x
  obtain⟨v,o,A⟩:=List.mem_iff_getElem.1 f;have E:=h.one a v i (k,c) (by rw[List.getElem?_eq_getElem b,z]) (by rw[List.getElem?_eq_getElem o,A]) (.inr y);subst E;have q:i=(k,c):=by rw[<-z,A]
  subst q;exact⟨B,D,g⟩
 obtain⟨a,b,c⟩:=h.inner i x;exact⟨a,b.kp r (by simpa using y),c⟩
theorem Ad (x b:Nat) (D:RI) (aI aJ aL aM aN aO aP:ay) (j:Int) (l:List (Int×Nat)) (a:cI) (i:af) (I:J i x 157 #[aI,aJ,aL,aM,aN,aO,aP,.map (some b),j]) (K:dT i b l a) (aQ:aG D.name):
 Calls Tryz.prog 61 #[aj x,.agg D.cells.toArray] i λd w'=>tZ i b l (eo a D.it) j d w':=by
 obtain⟨u,al⟩:=aq (eo a D.it);rw[<-al];obtain⟨e,g,aR,aS,aT,⟨aU,aV,aX⟩,bU,⟨a0,a1,a2⟩,ca,a3,a4,a5,⟨a6,a7,a8⟩,cb,a9,ba,⟨bb,bf,bg⟩,cc,⟨bh,bi,bj⟩,cd,⟨bl,bm,bn⟩,ce,⟨bo,bp,⟨bq,br,bs⟩,cf,⟨bt,bu,bv⟩,cg,⟨bw,bx,bz⟩,ch,bA,bB,bC,bE⟩⟩:=D;have L:Hid (u=if aZ e 1 10 then if e=5 then(a,0)else if bD g then(if ec a (fQ e) g then(a,9)else((fQ e,g)::a,0))else(a,1)else(a,1)):=Z al;have D:=aQ;have bS:=Z D;have M:=Z K;have bT:=Z I;have bU:=I.lt;have bF:∀c∈dm b l,c≠x:=λc q d=>K.sW q (t:=157) (cs:=#[aI,aJ,aL,aM,aN,aO,aP,.map (some b),j]) (by rw[d];exact I);have an:=K.lt;clear al aQ D K I;have D:=aW bU;have D:i.heap.size<=i.heap.size:=Nat.le_refl _;have bV:=Z (Kp.refl [] i);have ao:=Z (λ(p:af) (w:Kp [] i p) (f:cI×Int) (n:Ending) (y:f.1=a) (z:(f.2=0/\n=.returned (.tuple #[]))\/(f.2≠0/\n=.panicked [{v:=eY f.2 j,recovered:=false}]))=>(show tZ i b l f j n p from⟨w.mono (λ_ h=>by cases h),⟨l,by rw[y];exact M.out.kp w (λ_ h=>by cases h),λc q=>.inl q⟩,z⟩));show Calls Tryz.prog 61 #[aj x,.agg #[e,g,aR,aS,aT,U aU aV aX,U a0 a1 a2,a3,a4,a5,U a6 a7 a8,a9,ba,U bb bf bg,U bh bi bj,U bl bm bn,bo,bp,U bq br bs,U bt bu bv,U bw bx bz,bA,bB,bC,bE]] i _;go_enter Tryz.func61,Tryz.ntmps61
 go_upto_region 1 with(fail)
 obtain⟨p,D,y,f,I⟩:=nb i 95 _;rw[D];clear D;have n:=qk bV f;have z:=qb f bT;have D:=n.size;clear f;have bG:=az y;have bW:=J.lt y;have N:=bN z;have bX:=J.lt z;clear I;have O:=Z (fj e 1 10 p);obtain⟨bY,D⟩:=aq (aZ e 1 10);rw[<-D]at O L;clear D;cases bY
 case false=>
  go_wp2_with fail
  refine O.mono ?_;rintro d w' ⟨rfl,rfl⟩;go_wp2_with fail
  refine fk (R:=RO.ap false 1 j (.ok ())) n rfl N ?_ (λ_ h=>by cases h);intro _ _;go_wp2;refine⟨rfl,?_⟩;rw[show u=(a,1)from L.out];exact ao _ n _ _ rfl (.inr ⟨ai,rfl⟩)
 go_wp2_with fail
 refine O.mono ?_;rintro d w' ⟨rfl,rfl⟩;go_wp2_with fail
 refine fk (R:=RO.ap true 1 j (.ok ())) n rfl N (λ_ h=>by cases h) ?_;intro _ _;clear O;have Q:Hid (u=if e=5 then(a,0)else if bD g then(if ec a (fQ e) g then(a,9)else((fQ e,g)::a,0))else(a,1)):=L;clear L;by_cases A:e=5
 case pos=>
  have B:(e==5)=true:=by simp[A]
  have w:=Z (show u=(a,0) by rw[Q.out,if_pos A]);clear A Q;go_wp2;refine bodyPost_ret (results_none rfl _ _ _) rfl ?_;rw[w.out];exact ao _ n _ _ rfl (.inl ⟨rfl,rfl⟩)
 have bZ:(e==5)=false:=by simp[A]
 have S:=Z (show u=if bD g then(if ec a (fQ e) g then(a,9)else((fQ e,g)::a,0))else(a,1) by rw[Q.out,if_neg A]);clear A Q;have A:=aY y;have bW:=J.lt y;have V:=Z (pu g p bS);obtain⟨b0,A⟩:=aq (bD g);rw[<-A]at V S;clear A;cases b0
 case false=>
  go_wp2_with fail
  refine V.mono ?_;rintro d w' ⟨rfl,rfl⟩;go_wp2_with fail
  refine fk (R:=RO.ap false 1 j (.ok ())) n rfl N ?_ (λ_ h=>by cases h);intro _ _;go_wp2;refine⟨rfl,?_⟩;rw[show u=(a,1)from S.out];exact ao _ n _ _ rfl (.inr ⟨ai,rfl⟩)
 go_wp2_with fail
 refine V.mono ?_;rintro d w' ⟨rfl,rfl⟩;go_wp2_with fail
 refine fk (R:=RO.ap true 1 j (.ok ())) n rfl N (λ_ h=>by cases h) ?_;intro _ _;have ar:Hid (u=if ec a (fQ e) g then(a,9)else((fQ e,g)::a,0)):=S;clear S V bZ;obtain⟨sk,u⟩:=aq (fQ e);have bH:Hid (Rq 110 #[e] (.int .i64 sk)):=Z (λw=>by rw[u];exact zm e w);rw[<-u]at ar;clear u;go_upto_region 4 with(fail)
 have bI:=b7 z;have bX:=J.lt z;refine dB 9 bI bG λhS=>?_;refine cJ ?_;refine gt ?_;refine tk 5 hS ?_;refine dV 6 (λaw w=>?_);go_simp;refine(bH _).mono ?_;rintro d w' ⟨rfl,rfl⟩;try go_simp
 refine w _ _ (λ_=>hS) ?_;refine av ?_;have b1:=Z (M.kp (k:=[]) n.drew (λ_ h=>by cases h));rcases b1.out.m.look (P:=Tryz.prog) (T:=155) Tryz.underlying155 Tryz.underlying3 (.map none) Tryz.zeroValue206 sk rfl with⟨ax,W⟩|⟨ci,b2,b3,W⟩
 case' inl=>
  have aH:(Instr.lookup 155 (.map (some b)) sk false).run Tryz.prog p.drew=.ok (.map none) p.drew:=W false
 case' inr=>
  have q:∃c,b2=.map (some c)/\(sk,c)∈l:=by
   have u:=List.mem_of_getElem? b3;obtain⟨B,X,Y⟩:=List.mem_map.1 u;injection Y with e1 e2
   injection e1 with _ e1
   exact⟨B.2,e2.symm,by rw[<-e1];exact X⟩
  obtain⟨c,rfl,bR⟩:=q;have aH:(Instr.lookup 155 (.map (some b)) sk false).run Tryz.prog p.drew=.ok (.map (some c)) p.drew:=W false
 all_goals
  clear W;refine aK 7 (λaw w=>?_);go_simp;refine w _ _ (λ_=>hS) ?_;refine av ?_;refine tk 8 hS ?_;refine gH ak ?_ _;clear aH hS bI bG
 case' inl=>
  have f:=Z ((ag.refl p).drew);obtain⟨B,u⟩:=aq p.drew;rw[<-u]at f⊢;clear u;have bJ:=qk n f;have b4:=qb f z;have b5:=qb f y;have u:=bJ.size;clear f;have b6:=@run_makeMap Tryz.prog;have b8:=Ab;go_upto_region 7 with(fail)
  clear b6 b8;have M3:=Z (cH.made .string B);have f:=Z (show ag B (B.alloc (.map #[] 0))from(ag.refl B).alloc _);obtain⟨bK,u⟩:=aq (B.alloc (.map #[] 0));rw[<-u]at M3 f⊢;clear u;have aB:=qk bJ f;have aC:=qb f b4;have aD:=qb f b5;have u:=aB.size;obtain⟨c,q⟩:=aq B.heap.size;rw[<-q]at M3⊢;have u:i.heap.size<=c:=ae
  clear q f;have bL:=b7 aC;have q:=J.lt aC;have bM:=az aD;have q:=J.lt aD;refine dB 8 bL bM λhS=>?_;refine cJ ?_;refine gt ?_;refine tk 5 hS ?_;refine tk 7 hS ?_;refine dV 6 (λaw w=>?_);go_simp;refine(bH _).mono ?_;rintro d w' ⟨rfl,rfl⟩;try go_simp
  refine w _ _ (λ_=>hS) ?_;refine av ?_;have aE:=Z (M.kp (k:=[]) aB.drew (λ_ h=>by cases h));have bO:∀q∈l,q.1≠sk:=λq u d=>ax (.int .i64 q.1,.map (some q.2)) (List.mem_map.2 ⟨q,u,rfl⟩) (by rw[d]);obtain⟨E,b9,bP,X⟩:=aE.m.push (P:=Tryz.prog) (T:=155) Tryz.underlying155 Tryz.underlying3 sk (.map (some c)) rfl ax;have aF:b≠c:=λd=>by have:=an b (List.mem_cons_self ..);omega
  have bQ:∀q∈l,q.2≠c:=λq u d=>by have:=an q.2 (List.mem_cons_of_mem _ (List.mem_map.2 ⟨q,u,rfl⟩));omega
  obtain⟨o,Y⟩:=aq (l++[(sk,c)]);have r:Hid (dT E b o a):=Z (by rw[Y];exact aE.out.more sk bO aF bQ X bP (M3.out.kp (k:=[b]) (((Kp.refl [b] bK).drew).trans X) (by simpa using λd=>aF d.symm)));have F:(sk,c)∈o:=by rw[Y];simp
  have aa:=((Kp.refl [b] bK).drew).trans X;have G:=Z ((aB.mono (l':=dm b l) (λ_ h=>by cases h)).trans (aa.mono (λq q=>by rw[aA q];exact List.mem_cons_self ..)));have C:∀ad∈dm b o,ad∈dm b l\/i.heap.size<=ad:=by
   intro ad ah;rw[Y]at ah;unfold dm at ah;rw[List.map_append]at ah;rcases dd ah with h|h
   ·exact .inl (by rw[h];exact List.mem_cons_self ..)
   rcases cY h with h|h
   ·exact .inl (List.mem_cons_of_mem _ h)
   have:ad=c:=by simpa using h
   exact .inr ae
  have q:=bF b (List.mem_cons_self ..);have u:=an b (List.mem_cons_self ..);have H:=Z (aa.blk aC (by simp;exact λd=>q d.symm));have s:=bk aa aD;refine aK 8 (λaw w=>?_);go_simp;refine w _ _ (λh=>absurd h au) ?_;refine av ?_;refine gH ak ?_ _;clear b9 bP X aa Y ax bO aE bQ aF hS bL bM M3
 case' inr=>
  have f:=Z ((ag.refl p).drew);obtain⟨aa,p⟩:=aq p.drew;rw[<-p]at f⊢;clear p;have X:=qk n f;have ad:=qb f z;have ah:=qb f y;have n:=X.size;clear f;have aB:=Ac;go_upto_region 8 with(fail)
  clear aB;obtain⟨E,Y⟩:=aq aa;obtain⟨o,B⟩:=aq l;have F:(sk,c)∈o:=by rw[B];exact bR
  have r:=Z (M.kp X (λ_ h=>by cases h));have G:=Z (X.mono (l':=dm b l) (λ_ h=>by cases h));have C:∀f∈dm b o,f∈dm b l\/i.heap.size<=f:=λf f=>.inl (by rw[B]at f;exact f);have H:=ad;have s:=ah;rw[<-Y]at r G H s⊢;have f:Hid (dT E b o a):=by rw[B];exact r
  clear Y B r;have r:=f;clear f
 all_goals
  obtain⟨ad,u5,ah,bK,B,aB,aC⟩:=r.mark F g;have Y:=Z (ar.trans aC);obtain⟨bL,aD⟩:=aq (ec a sk g);rw[<-aD]at ah Y;have aa:c∈dm b o:=List.mem_cons_of_mem _ (List.mem_map.2 ⟨_,F,rfl⟩);have bM:c≠x:=by
   rcases C c aa with h|h
   ·exact bF c h
   omega
  have X:=Z (B.old G.out (λa a b=>by
   rw[aA a]at b⊢;exact(C c aa).resolve_right ae))
  have aE:ac ad (ab x 8) j:=J.cell (B.blk H (by simpa using λd=>bM d.symm)) 8;have a:=aY s;have a:=J.lt s;have a:c≠i.heap.size:=λd=>by
   have b:¬J E c 95 #[e,g,aR,aS,aT,U aU aV aX,U a0 a1 a2,a3,a4,a5,U a6 a7 a8,a9,ba,U bb bf bg,U bh bi bj,U bl bm bn,bo,bp,U bq br bs,U bt bu bv,U bw bx bz,bA,bB,bC,bE]:=r.sW aa;exact b (by rw[d];exact s.out)
  have a:ac ad (am i 1) g:=J.cell (B.blk s (by simpa using λd=>a d.symm)) 1;have aF:=Z aB;have bJ:=Z C;clear C aD aC aB B ar r F G H s;go_upto_region 10 with(fail)
  clear ah bK;cases bL
  case true=>
   go_wp2_with fail
   refine fk (R:=RO.ap false 9 j (.ok ())) X rfl aE ?_ (λ_ h=>by cases h);intro _ _;go_wp2;refine⟨rfl,?_⟩;rw[Y.out];exact⟨X,⟨o,aF,bJ⟩,.inr ⟨ai,rfl⟩⟩
  go_wp2_with fail
  refine fk (R:=RO.ap true 9 j (.ok ())) X rfl aE (λ_ h=>by cases h) ?_;intro _ _;go_wp2;refine bodyPost_ret (results_none rfl _ _ _) rfl ?_;rw[Y.out];exact⟨X,⟨o,aF,bJ⟩,.inl ⟨rfl,rfl⟩⟩
def lP:List (Value×Value):=[(.int .i64 2,.func (.func 114) #[] #[]),(.int .i64 3,.func (.func 115) #[] #[]),(.int .i64 4,.func (.func 116) #[] #[]),(.int .i64 5,.func (.func 117) #[] #[]),(.int .i64 6,.func (.func 118) #[] #[]),(.int .i64 7,.func (.func 119) #[] #[]),(.int .i64 8,.func (.func 120) #[] #[]),(.int .i64 9,.func (.func 121) #[] #[]),(.int .i64 10,.func (.func 122) #[] #[])]
def gu (a:Int):Option Value:=
 if a=2 then some (.func (.func 114) #[] #[])else if a=3 then some (.func (.func 115) #[] #[])else if a=4 then some (.func (.func 116) #[] #[])else if a=5 then some (.func (.func 117) #[] #[])else if a=6 then some (.func (.func 118) #[] #[])else if a=7 then some (.func (.func 119) #[] #[])else if a=8 then some (.func (.func 120) #[] #[])else if a=9 then some (.func (.func 121) #[] #[])else if a=10 then some (.func (.func 122) #[] #[])else none
def sm (a:Nat):Array MapEntry:=(([114,115,116,117,118,119,120,121,122].take a).zipIdx.map λ(b,a)=>(⟨.int .i64 (a+2:Nat),.func (.func b) #[] #[],a⟩:MapEntry)).toArray
theorem Ae (a:af):(Instr.mapUpdate 160 (.map (some a.heap.size)) (O 2) (.func (.func 114) #[] #[])).run Tryz.prog (a.alloc (.map #[] 0))=.ok () (a.alloc (.map (sm 1) 1)):=
 dL (P:=Tryz.prog) (T:=160) Tryz.underlying160 Tryz.underlying3 a #[] 0 _ _ rfl rfl
theorem Af (a:af):(Instr.mapUpdate 160 (.map (some a.heap.size)) (O 3) (.func (.func 115) #[] #[])).run Tryz.prog (a.alloc (.map (sm 1) 1))=.ok () (a.alloc (.map (sm 2) 2)):=
 dL (P:=Tryz.prog) (T:=160) Tryz.underlying160 Tryz.underlying3 a (sm 1) 1 _ _ rfl rfl
theorem Ag (a:af):(Instr.mapUpdate 160 (.map (some a.heap.size)) (O 4) (.func (.func 116) #[] #[])).run Tryz.prog (a.alloc (.map (sm 2) 2))=.ok () (a.alloc (.map (sm 3) 3)):=
 dL (P:=Tryz.prog) (T:=160) Tryz.underlying160 Tryz.underlying3 a (sm 2) 2 _ _ rfl rfl
theorem Ah (a:af):(Instr.mapUpdate 160 (.map (some a.heap.size)) (O 5) (.func (.func 117) #[] #[])).run Tryz.prog (a.alloc (.map (sm 3) 3))=.ok () (a.alloc (.map (sm 4) 4)):=
 dL (P:=Tryz.prog) (T:=160) Tryz.underlying160 Tryz.underlying3 a (sm 3) 3 _ _ rfl rfl
theorem Ai (a:af):(Instr.mapUpdate 160 (.map (some a.heap.size)) (O 6) (.func (.func 118) #[] #[])).run Tryz.prog (a.alloc (.map (sm 4) 4))=.ok () (a.alloc (.map (sm 5) 5)):=
 dL (P:=Tryz.prog) (T:=160) Tryz.underlying160 Tryz.underlying3 a (sm 4) 4 _ _ rfl rfl
theorem Aj (a:af):(Instr.mapUpdate 160 (.map (some a.heap.size)) (O 7) (.func (.func 119) #[] #[])).run Tryz.prog (a.alloc (.map (sm 5) 5))=.ok () (a.alloc (.map (sm 6) 6)):=
 dL (P:=Tryz.prog) (T:=160) Tryz.underlying160 Tryz.underlying3 a (sm 5) 5 _ _ rfl rfl
theorem Ak (a:af):(Instr.mapUpdate 160 (.map (some a.heap.size)) (O 8) (.func (.func 120) #[] #[])).run Tryz.prog (a.alloc (.map (sm 6) 6))=.ok () (a.alloc (.map (sm 7) 7)):=
 dL (P:=Tryz.prog) (T:=160) Tryz.underlying160 Tryz.underlying3 a (sm 6) 6 _ _ rfl rfl
theorem Al (a:af):(Instr.mapUpdate 160 (.map (some a.heap.size)) (O 9) (.func (.func 121) #[] #[])).run Tryz.prog (a.alloc (.map (sm 7) 7))=.ok () (a.alloc (.map (sm 8) 8)):=
 dL (P:=Tryz.prog) (T:=160) Tryz.underlying160 Tryz.underlying3 a (sm 7) 7 _ _ rfl rfl
theorem Am (a:af):(Instr.mapUpdate 160 (.map (some a.heap.size)) (O 10) (.func (.func 122) #[] #[])).run Tryz.prog (a.alloc (.map (sm 8) 8))=.ok () (a.alloc (.map (sm 9) 9)):=
 dL (P:=Tryz.prog) (T:=160) Tryz.underlying160 Tryz.underlying3 a (sm 8) 8 _ _ rfl rfl
theorem An (a:af):cH (.int .i64) (a.alloc (.map (sm 9) 9)) a.heap.size lP:=
 ⟨(sm 9),9,fx _ _,rfl,(List.forall_mem_cons.2 ⟨rfl,(List.forall_mem_cons.2 ⟨rfl,(List.forall_mem_cons.2 ⟨rfl,(List.forall_mem_cons.2 ⟨rfl,(List.forall_mem_cons.2 ⟨rfl,(List.forall_mem_cons.2 ⟨rfl,(List.forall_mem_cons.2 ⟨rfl,(List.forall_mem_cons.2 ⟨rfl,(List.forall_mem_cons.2 ⟨rfl,(λ_ h=>by cases h)⟩)⟩)⟩)⟩)⟩)⟩)⟩)⟩)⟩)⟩
theorem Ao {b:af} {d:Nat} (h:cH (.int .i64) b d lP) (c:Int):
 (gu c=none/\(Instr.lookup 160 (.map (some d)) c false).run Tryz.prog b=.ok .nilFunc b)\/
 ∃v,gu c=some v/\(Instr.lookup 160 (.map (some d)) c false).run Tryz.prog b=.ok v b:=by
 rcases h.look (P:=Tryz.prog) (T:=160) Tryz.underlying160 Tryz.underlying3 .nilFunc Tryz.zeroValue162 c rfl with⟨e,a⟩|⟨g,v,e,a⟩
 ·refine .inl ⟨?_,a false⟩
  simp[lP]at e;unfold gu;rw[if_neg ae,if_neg ae,if_neg ae,if_neg ae,if_neg ae,if_neg ae,if_neg ae,if_neg ae,if_neg ae]
 refine .inr ?_;have f:=List.mem_of_getElem? e;simp[lP]at f;rcases f with⟨rfl,rfl⟩|⟨rfl,rfl⟩|⟨rfl,rfl⟩|⟨rfl,rfl⟩|⟨rfl,rfl⟩|⟨rfl,rfl⟩|⟨rfl,rfl⟩|⟨rfl,rfl⟩|⟨rfl,rfl⟩
 ·exact⟨_,rfl,a false⟩
 ·exact⟨_,rfl,a false⟩
 ·exact⟨_,rfl,a false⟩
 ·exact⟨_,rfl,a false⟩
 ·exact⟨_,rfl,a false⟩
 ·exact⟨_,rfl,a false⟩
 ·exact⟨_,rfl,a false⟩
 ·exact⟨_,rfl,a false⟩
 exact⟨_,rfl,a false⟩
theorem Ap (a:af):Calls Tryz.prog 63 #[] a λc b=>c=.returned (.map (some a.heap.size))/\ag a b/\cH (.int .i64) b a.heap.size lP:=by
 have b:=@run_makeMap Tryz.prog;have b:=Ae a;have b:=Af a;have b:=Ag a;have b:=Ah a;have b:=Ai a;have b:=Aj a;have b:=Ak a;have b:=Al a;have b:=Am a;have M3:=Z (An a);have d:=Z (show ag a (a.alloc (.map (sm 9) 9))from(ag.refl a).alloc _);go_enter Tryz.func63,Tryz.ntmps63
 go_wp2;refine⟨rfl,.map (some a.heap.size),?_,rfl,d.out,M3.out⟩;simp[results,Tryz.results63,go_sem]
theorem Aq (a:af):(binOp BinOp.neq 162 .nilFunc .nilFunc).run Tryz.prog a=.ok (.bool false) a:=ak
theorem Ar (a:af) (b:Fn) (c d:aO):(binOp BinOp.neq 162 (.func b c d) .nilFunc).run Tryz.prog a=.ok (.bool true) a:=ak
def Og.cells (o:Og):List Value:=[.string o.name,.int .i64 o.trust]
def Bk.cells (a:Bk):List Value:=[.string a.name,.int .i64 a.table,.int .i64 a.col,.int .i64 a.bf,.int .i64 a.n,.int .i64 a.m]
def Wg.cells (x:Wg):List Value:=[.int .i64 x.col,.int .i64 x.meas,.int .i64 x.jE,.int .i64 x.num,.int .i64 x.den,.int .i64 x.gives,.int .i64 x.takes]
def dR.cells (k:dR):List Value:=[.int .i64 k.table,.int .i64 k.col,.int .i64 k.bf]
def Sd.cells (s:Sd):List Value:=[.int .i64 s.var,.int .i64 s.col,.int .i64 s.v.k,.int .i64 s.v.n,.string s.v.s]
def cT.cells (t:cT):List Value:=t.l.cells++(.int .i64 t.op::(t.r.cells++[.int .i64 t.add]))
def Fx.cells (f:Fx):List Value:=[.int .i64 f.col,.int .i64 f.v.k,.int .i64 f.v.n,.string f.v.s]
theorem b3 {w:af} {d m n:Nat} {e:bb} {v:ay} {xs:bg} (f:w.ownsRow d e m v n xs):∀b,v.ownBlock=some b->d<=b/\b<w.heap.size:=by
 intro b a;rcases f.2 with⟨c,_⟩|⟨k,l,g,c,i,j,_⟩
 ·rw[c]at a;cases a
 rw[c]at a;injection a with a
 subst a;exact⟨i,J.lt (t:=e) (cs:=g) j⟩
theorem fm {w a b:af} {row:Option Nat} (h:Kp [] w a) (c:a.grownBy b row):Kp row.toList w b:=
 (h.mono (λ_ h=>by cases h)).grown c (λa a=>.inl (by rw[a];simp))
theorem cR {w b:af} {row:Option Nat} {a:Addr} {c:ay} (d:Kp row.toList w b) (e:a.block<w.heap.size) (f:some a.block≠row) (h:ac w a c):ac b a c:=
 (
  d.cell e (by
  cases row with
  |none=>simp
  |some g=>simp;exact λa=>f (by rw[a]))).trans h
theorem bw {a b:af} {row:Option Nat} {p:Addr} {v:ay} (k:Kp row.toList a b) (h:ac a p v) (c:p.block<a.heap.size:=by(show _<_;dsimp only;omega)) (a:some p.block≠row:=by(intro e;have h:=hrow _ e.symm;dsimp only at h;omega)):ac b p v:=cR k c a h
def fo {b:Type} (w d:af) (e i:Nat) (j:bb) (k:Nat) (enc:b->List Value) (f:aX) (a g:Nat) (l:List b) (x:b) (m:Value->Array Value):Prop:=
 ∃b c,J d e 157 (m (U b (a+1) c))/\d.ownsRow i j k (U b (a+1) c) (a+1) ((l++[x]).flatMap enc)/\Kp (e::(Value.slice f a g).ownBlock.toList) w d/\
  ((Value.slice b (a+1) c).ownBlock=(Value.slice f a g).ownBlock\/∃d,(Value.slice b (a+1) c).ownBlock=some d/\w.heap.size<=d)
theorem fo.jg {j:Type} {w m g:af} {b n o a e c i:Nat} {q:bb} {enc:j->List Value} {f d:aX} {r:List j} {x:j} {j:Value->Array Value} (s:ag w m) (t:J g b 157 (j (U f a e))) (u:g.ownsRow n q o (U d (a+1) c) (a+1) (r.flatMap enc++enc x))
 (k:Kp (Value.slice f a e).ownBlock.toList m g) (v:b<n) (v:(j (U f a e)).setIfInBounds i (U d (a+1) c)=j (U d (a+1) c))
 (y:(Value.slice d (a+1) c).ownBlock=(Value.slice f a e).ownBlock\/∃k,(Value.slice d (a+1) c).ownBlock=some k/\m.heap.size<=k):
 fo w (g.setCell (ab b i) (U d (a+1) c)) b n q o enc f a e r x j:=by
 refine⟨d,c,?_,?_,?_,?_⟩
 ·have:=t.aP i (U d (a+1) c)
  rw[v]at this;exact this
 ·rw[List.flatMap_append]
  have c:[x].flatMap enc=enc x:=ai
  rw[c];exact bC u (Kp.aE (l:=[b]) (p:=(ab b i)) ai (Kp.refl _ g) _) aC
 ·exact Kp.aE (p:=(ab b i)) ai (((Kp.of_same (l:=b::(Value.slice f a e).ownBlock.toList) s)).trans (k.mono (λa a=>List.mem_cons_of_mem _ a))) _
 rcases y with h|⟨z,h,A⟩
 ·exact .inl h
 exact .inr ⟨z,h,bR s.size A⟩
def jh {b:Type} (w:af) (e:RO b) (P:b->World->Prop) (c:Ending) (d:af):Prop:=
 match e with
 |.ok x=>c=.returned (.tuple #[])/\P x d
 |.bad er a=>c=.panicked [{v:=eY er a,recovered:=false}]/\ag w d
end Go.Proofs.YteamkimbmdgdbaaGreatDoor

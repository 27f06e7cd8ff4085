import Derived.Test.YteamkimbmdgdbaaGreatDoorK07
import Derived.Test.YteamkimbmdgdbaaGreatDoorK08
set_option linter.unusedSimpArgs false
set_option linter.unusedVariables false
set_option maxHeartbeats 16000000
set_option maxRecDepth 100000
namespace Go.Proofs.YteamkimbmdgdbaaGreatDoor
open Go.Proofs.Tryz
open Go.RowKit
def mm (c:Int) (i:Nat) (d:Int) (e:List Ex) (a:List aq):PO Ex:=
 (eG c i a).bind λb a=>(aW c a [⟨#[41]⟩]).bind λ_ a=>.ok (.mk (i+2) e0 e b.conds b.names b.attr b.cU b.agg d) a
def ki (b:Int) (e i:Nat) (c:Int) (d:Ex) (a:List aq):PO Ex:=
 if m7 i=true then(aW b a [⟨#[44]⟩]).bind λ_ a=>(ev b e a).bind λe a=>mm b i c [d,e] a else mm b i c [d] a
def st (b:Int) (c i:Nat) (d:Int) (a:List aq):PO Ex:=(ev b c a).bind λe a=>ki b c i d e a
theorem PO.bind_assoc {b c d:Type} (a:PO b) (f:b->List aq->PO c) (g:c->List aq->PO d):(a.bind f).bind g=a.bind λb c=>(f b c).bind g:=by cases a<;>rfl
theorem PO.bind_congr {d g:Type} (c:PO d) (e f:d->List aq->PO g) (h:∀a b,e a b=f a b):c.bind e=c.bind f:=by cases c with|bad=>rfl|ok a b=>exact h a b
theorem CS (b:Int) (c:Nat) (a:List aq):ev b (c+1) a=match iq a 0 gp with|none=>(bW b a).bind λd e=>.ok (.mk 1 d [] [] [] e0 e0 0 (db a)) e|some i=>st b c i (db a) (a.drop 2):=by
 rw[ev];cases iq a 0 gp with
 |none=>rfl
 |some i=>
  refine PO.bind_congr _ _ _ λe d=>?_;show PO.bind (if m7 i=true then _ else _) _=ki b c i (db a) e d;unfold ki;rw[PO.qx];congr 1
  rw[PO.bind_assoc];refine PO.bind_congr _ _ _ λ_ d=>?_;rw[PO.bind_assoc];rfl
theorem CT (b:List aq) (a:Nat) (c:a<7):iq b a (gp.drop a)=if eF b [ml a,⟨#[40]⟩]then some a else iq b (a+1) (gp.drop (a+1)):=by
 have h:gp.drop a=ml a::gp.drop (a+1):=by
  match a,c with
  |0,_=>rfl
  |1,_=>rfl
  |2,_=>rfl
  |3,_=>rfl
  |4,_=>rfl
  |5,_=>rfl
  |6,_=>rfl
  |n+7,h=>omega
 rw[h];rfl
theorem CU (d:Int) (a:List aq) (c:ax) (h:eF a [c,⟨#[40]⟩]=true):aW d a [c,⟨#[40]⟩]=.ok () (a.drop 2):=by
 cases a with
 |nil=>simp[eF]at h
 |cons e a=>
  cases a with
  |nil=>simp[eF]at h
  |cons b a=>
   simp only[eF,Bool.and_eq_true]at h;have f:bB (e::b::a) c=true:=by rw[sf];exact h.1
   have g:bB (b::a) ⟨#[40]⟩=true:=by rw[sf];exact h.2.1
   show(if bB (e::b::a) c then aW d (b::a) [⟨#[40]⟩]else _)=_;rw[if_pos f];show(if bB (b::a) ⟨#[40]⟩then aW d a []else _)=_;rw[if_pos g];cases a<;>rfl
theorem CV (a b:Nat):∃c d e,qA a b=.func c d e:=by unfold qA;split<;>exact⟨_,_,_,rfl⟩
theorem CW (a:Nat):aJ (ml a):=by
 unfold ml;rw[List.getD_eq_getElem?_getD];cases h:gp[a]? with
 |none=>exact bY _ au
 |some b=>exact cC gp au b (List.mem_of_getElem? h)
theorem CX (a:Nat) (b:a<7):cb ((a:Int)+2):=⟨by omega,by omega⟩
theorem CY {b:ah} {a q:Addr} {c d:aA} (h:a.block≠q.block):(b.setCell a c).setCell q d=(b.setCell q d).setCell a c:=by
 unfold World.setCell;congr 1
 apply Array.ext_getElem?;intro b;simp only[Array.getElem?_modify];by_cases c:a.block=b<;>by_cases a:q.block=b<;>simp[c,a];omega
theorem np {p:Addr} {a:aA}:∀(vs:aP) (g i:Nat) (w:ah),p.block≠g->bX (w.setCell p a) g i vs=(bX w g i vs).setCell p a
 |[],_,_,_,_=>rfl
 |v::vs,g,i,w,h=>by
  show bX ((w.setCell p a).setCell (ac g i) v) g (i+1) vs=_;rw[CY (q:=⟨g,i,none⟩) h];exact np vs g (i+1) _ h
theorem ju {w:ah} {a:Nat} {t:aX} {cs:aQ} {m:Nat} (h:aa w a t cs) (c:cs.size=m):cA w (a+1) m (some ⟨a,0,none⟩) 1 cs.toList:=by
 refine⟨by simp[c],λ_=>⟨_,rfl,Nat.lt_succ_self _,λb c d=>?_⟩⟩;rw[show((⟨a,0,none⟩:Addr).add b)=⟨a,b,none⟩ by unfold Addr.add;split<;>simp_all];rw[aa.cell h b];simpa using d
structure dE (w W:ah) (P X r q p:Nat) (z:Int) (us:List aq) (cx cp:aQ):Prop where
 br:aa W r 93 #[J 0,ai,ab,ab,ab,ai,ai,J 0,J 0]
 bx:aa W X 93 cx
 bq:aa W q 127 #[ak P]
 bp:aa W p 325 cp
 k:Kp [P] w W
 pb:az W P z us
theorem dE.keep {w W f:ah} {c X d e p:Nat} {g:Int} {n i:List aq} {j m:aQ} (v:dE w W c X d e p g n j m) {l:List Nat} (k:Kp l W f) (b:∀a∈l,a≠X/\a≠d/\a≠e/\a≠p/\(a=c\/w.heap.size<=a)) (o:az f c g i):dE w f c X d e p g i j m:=
 ⟨k.blk v.br (λh=>(b d h).2.1 rfl),k.blk v.bx (λh=>(b X h).1 rfl),k.blk v.bq (λh=>(b e h).2.2.1 rfl),k.blk v.bp (λh=>(b p h).2.2.2.1 rfl),k.old v.k (λa q c=>by rcases(b a q).2.2.2.2 with h|h;simp[h];omega),o⟩
theorem fU.CZ {d e i f:ah} {b p:Nat} {j c:aU} {a k g:Nat} {m:List RE} {n:RE} (q:fU d b j a k m) (r:Kp [p] d e) (o:ag e i) (s:p<b) (p:b<=d.heap.size) (t:a<=1)
 (u:dK e (Bw d.heap.size e.heap.size) n) (v:f.ownsRow b 93 9 (O c (a+1) g) (a+1) (m.flatMap RE.cells++iG)) (w:i.grownBy f (Value.slice j a k).ownBlock)
 (x:(Value.slice c (a+1) g).ownBlock=(Value.slice j a k).ownBlock\/(Value.slice c (a+1) g).ownBlock=some i.heap.size):
 ∃d,c=some ⟨d,0,none⟩/\b<=d/\d<f.heap.size/\fU (bX f d (a*9) n.cells) b c (a+1) g (m++[n]):=
 q.push (r.trans (Kp.of_same o)) s p t ((u.keep (Kp.of_same (l:=[]) o) (λ_ h=>by cases h)).mono (λa h=>⟨h.1,aV h.2 o.size⟩)) v w x
theorem o6 (g:Nat):∀(vs:aP) (i:Nat) (w a:ah),Kp [g] w a->Kp [g] w (bX a g i vs)
 |[],_,_,_,h=>h
 |v::vs,i,w,_,h=>o6 g vs (i+1) w _ (h.setCell (p:=(ac g i)) (.inl aj) v)
theorem dE.kid {t w w6 W e:ah} {c b m n p f:Nat} {u:Int} {B x:List aq} {z A:aQ} {q i:aU} {a r j:Nat} {rs:List RE} {y:RE} (v:dE t w c b m n p u B z A) (F:fU w f q a r rs)
 (K:b<f) (B:m<f) (B:n<f) (B:p<f) (L:c<f) (M:f<=w.heap.size) (B:c≠b/\c≠m/\c≠n/\c≠p) (G:t.heap.size<=f) (G:t.heap.size<=b) (C:b≠m/\b≠n/\b≠p) (N:c<b) (P:a<=1)
 (G:Kp [c] w w6) (H:az w6 c u x) (D:ag w6 W) (Q:dK w6 (Bw w.heap.size w6.heap.size) y)
 (o:e.ownsRow f 93 9 (O i (a+1) j) (a+1) (rs.flatMap RE.cells++iG)) (s:W.grownBy e (Value.slice q a r).ownBlock)
 (w:(Value.slice i (a+1) j).ownBlock=(Value.slice q a r).ownBlock\/(Value.slice i (a+1) j).ownBlock=some W.heap.size):
 ∃g,i=some ⟨g,0,none⟩/\f<=g/\dE t e c b m n p u x z A/\fU ((bX e g (a*9) y.cells).setCell (ac b 2) (O i (a+1) j)) f i (a+1) j (rs++[y])/\
  dE t ((bX e g (a*9) y.cells).setCell (ac b 2) (O i (a+1) j)) c b m n p u x (z.setIfInBounds 2 (O i (a+1) j)) A:=by
 obtain⟨g,R,S,_,T⟩:=F.CZ G D L M P Q o s w;have w:=v.keep G (λd h=>by rw[aC h];exact⟨B.1,B.2.1,B.2.2.1,B.2.2.2,.inl rfl⟩) H;have I:=w.keep (Kp.of_same (l:=[]) D) (λd h=>by cases h) (H.same D);have J:∀d,(Value.slice q a r).ownBlock=some d->f<=d:=by
  intro d h;obtain⟨_,_,_,U⟩:=bv F.own;rcases U with E|⟨V,E,X⟩
  ·rw[E]at h;cases h
  rw[E]at h;injection h with h;omega
 have f:Kp ((Value.slice q a r).ownBlock.toList) W e:=⟨s.os,s.tape,s.output,s.size,λd f w=>s.block d f (λf=>w (by rw[<-f];simp))⟩;have E:dE t e c b m n p u x z A:=I.keep f (λd h=>by
  have U:(Value.slice q a r).ownBlock=some d:=by
   cases fE:(Value.slice q a r).ownBlock with
   |none=>rw[fE]at h;simp at h
   |some y=>rw[fE]at h;simp at h;rw[h]
  have:=J d U;exact⟨by omega,by omega,by omega,by omega,.inr af⟩) (I.pb.grown s (λd h=>by have:=J d h;omega))
 have f:=o6 g y.cells (a*9) e e (Kp.refl _ _);have c:az (bX e g (a*9) y.cells) c u x:=az.jq af _ _ _ E.pb;have c:=E.keep f (λd h=>by rw[aC h];exact⟨by omega,by omega,by omega,by omega,.inr af⟩) c;have a:Kp [b] (bX e g (a*9) y.cells) ((bX e g (a*9) y.cells).setCell (ac b 2) (O i (a+1) j)):=(Kp.refl _ _).setCell (.inl aj) _;refine⟨g,R,S,E,T.keep a (λd h=>by rw[aC h];exact K),?_⟩;exact⟨a.blk c.br (by simp;exact λh=>C.1 h.symm),c.bx.aR 2 _,a.blk c.bq (by simp;exact λh=>C.2.1 h.symm),a.blk c.bp (by simp;exact λh=>C.2.2 h.symm),a.old c.k (λd h a=>by rw[aC h]at a;omega),az.set (p:=(ac b 2)) N c.pb _⟩
theorem dE.C0 {b W:ah} {c a d e p:Nat} {i:Int} {l:List aq} {m n:aQ} (v:dE b W c a d e p i l m n) (f:b.heap.size<=a) (o:c<a) (f:a≠d/\a≠e/\a≠p) (j:Nat) (g:aA):dE b (W.setCell (ac a j) g) c a d e p i l (m.setIfInBounds j g) n:=by
 have b:Kp [a] W (W.setCell (ac a j) g):=(Kp.refl _ _).setCell (.inl aj) _;exact⟨b.blk v.br (by simp;exact λh=>f.1 h.symm),v.bx.aR j _,b.blk v.bq (by simp;exact λh=>f.2.1 h.symm),b.blk v.bp (by simp;exact λh=>f.2.2 h.symm),b.old v.k (λb h b=>by rw[aC h]at b;omega),az.set (p:=(ac a j)) o v.pb _⟩
theorem dE.alloc {w W:ah} {P X a b p:Nat} {c:Int} {us:List aq} {d e:aQ} (v:dE w W P X a b p c us d e) (o:Obj):dE w (W.alloc o) P X a b p c us d e:=⟨v.br.alloc o,v.bx.alloc o,v.bq.alloc o,v.bp.alloc o,v.k.alloc o,v.pb.alloc o⟩
theorem dE.call {g W b:ah} {P c d e p:Nat} {f:Int} {a i:List aq} {j k:aQ} (v:dE g W P c d e p f a j k) (l:Kp [P] W b) (a:P≠c/\P≠d/\P≠e/\P≠p) (m:az b P f i):dE g b P c d e p f i j k:=
 v.keep l (λb h=>by rw[aC h];exact⟨a.1,a.2.1,a.2.2.1,a.2.2.2,.inl rfl⟩) m
theorem C1 (c:Int) (a:Nat) (b:List aq) (h:a=2\/a=3\/a=4):eG c a b=.ok dq.zero b:=by rcases h with rfl|rfl|rfl<;>rfl
structure kj (lo:Nat) (r:dq) (w:ah) (hc hn:Hd):Prop where
 lc:aE w 14 hc bm.cells r.conds
 ic:bc (Bw lo w.heap.size) hc
 fc:∀c∈r.conds,c.bo
 ln:b5 w hn r.names
 iN:bc (Bw lo w.heap.size) hn
 oa:aJ r.attr
 os:aJ r.cU
 og:cb r.agg
theorem sq.ok {b X:Nat} {f g i j:aA} {c:dq} {w:ah} {d e:Hd} (a:sq b X f g i j c w d e):kj b c w d e:=⟨a.lc,a.ic,a.fc,a.ln,a.iN,a.oa,a.os,a.og⟩
theorem kj.zero (a:Nat) (w:ah):kj a dq.zero w ⟨none,0,0⟩ ⟨none,0,0⟩:=⟨aE.none_ w 14 _,bc.none_ _ _ _,(λ_ h=>by cases h),kh w,bc.none_ _ _ _,bY _ au,bY _ au,⟨by show _<=(0:Int);omega,by show(0:Int)<=_;omega⟩⟩
theorem kj.keep {c:Nat} {d:dq} {w e:ah} {f g:Hd} (a:kj c d w f g) {l:List Nat} (k:Kp l w e) (i:∀b∈l,b<c\/w.heap.size<=b):kj c d e f g:=
 ⟨a.lc.kp k (λb c d e=>by have:=a.ic b c d;have:=i b e;unfold Bw at*;omega),a.ic.mono (λb h=>⟨h.1,aV h.2 k.size⟩),a.fc,⟨a.ln.1.kp k (λb c d e=>by have:=a.iN b c d;have:=i b e;unfold Bw at*;omega),a.ln.2⟩,a.iN.mono (λb h=>⟨h.1,aV h.2 k.size⟩),a.oa,a.os,a.og⟩
theorem C2 {c:ah} {base i j:Nat} {d:aU} {e f:Nat} {k:List RE} {a:dq} {l m:Hd} {kind n:Int} (b:fU c i d e f k) (o:kj j a c l m) (p:base<=i) (i:base<=j) (j:cb kind) (r:cb n):
 dK c (Bw base c.heap.size) (.mk kind ⟨#[]⟩ ⟨d,e,f⟩ k l a.conds m a.names a.attr a.cU a.agg n):=by
 have a:=cJ (h:=⟨d,e,f⟩) RE.len b.len (by have:=b.few;show e<=_;omega) b.own;refine .mk a ?_ (λa c=>(b.sub a c).mono (λa h=>⟨bJ p h.1.1,h.1.2⟩)) o.lc (o.ic.low i) o.fc o.ln (o.iN.low i) (bY _ au) o.oa o.os j o.og r;intro a c e _;have q:d=some ⟨a,c,none⟩:=e;rcases b.own.2 with⟨g,_⟩|⟨w,x,s,g,u,v,_⟩
 ·subst q;cases g
 subst q;injection g with e1
 injection e1 with e1
 injection e1 with e1
 subst e1;exact⟨bJ p u,aa.lt (t:=93) (cs:=s) v⟩
theorem wa {c:ah} {d:Nat} {e:Int} {a:List aq} (h:az c d e a):cb (db a):=by
 cases a with
 |nil=>exact⟨by show _<=(0:Int);omega,by show(0:Int)<=_;omega⟩
 |cons b f=>
  have a:=h.fine (t:=b) aj;exact⟨by show _<=b.at_;have:=a.a0;omega,by show b.at_<=_;have:=a.a1;omega⟩
theorem qB:∀a∈iG,a.oneCell'=true:=by unfold iG;simp[Value.oneCell']
theorem qC {b:ah} {d a e g:Nat} {c:aP} (o:b.ownsRow d 93 9 (O (some ⟨g,0,none⟩) (a+1) e) (a+1) (c++iG)) (d:c.length=a*9) (j:Nat) (c:j<9):b.cell? (ac g (a*9+j))=iG[j]?:=by
 rw[o.cellAt _ oR,List.getElem?_append_right af,d,Nat.add_sub_cancel_left]
theorem Tryz.C3:(prog.info? 93).map (λi=>(i.zero,i.size,i.bytes))=some (some (.agg #[J 0,ai,ab,ab,ab,ai,ai,J 0,J 0]),9,144):=am
theorem C4 (a:Int) (d:Nat) (b:List aq) (e:Int) (c:ah) (i:e=13) (f:az c d a b):
 Calls prog 176 #[ak d,e] c λj k=>PP a d c (ev a 0 b) (qw c.heap.size) j k:=by
 have e:¬e<=12:=af
 have l:=Z f;have g:=Z (show ev a 0 b=fI a b 3 from rfl);have m:=Z (Kp.refl [d] c);clear f i;generalize ev a 0 b=p at g⊢;go_enter func176,ntmps176
 go_wp2_with fail
 refine r6 3 (m.alloc _) g (l.alloc _) ?aj;intro a a a n o;go_wp2;exact⟨rfl,by rw[n.out];exact⟨o.out,rfl⟩⟩
theorem C5 (b:Int) (d G:Nat) (f:List aq) (Y:Int) (e:ah) (cp:Y<=12) (cp:1<=Y) (ar:az e d b f)
 (cp:∀(F:List aq) (W:ah),az W d b F->Calls prog 176 #[ak d,J (Y+1)] W λa5 w'=>PP b d W (ev b G F) (qw W.heap.size) a5 w'):
 Calls prog 176 #[ak d,Y] e λa5 w'=>PP b d e (ev b (G+1) f) (qw e.heap.size) a5 w':=by
 have bt:=Z cp;clear cp;obtain⟨bu,bw,bz,b0,b1⟩:=info_parts Tryz.C3;have dC:=ar.lt;have cq:=Z ar;have cr:=Z (wa ar);have bh:=Z (CS b G f);have ct:=Z (Kp.refl [d] e);obtain⟨⟨cv,ad,cw⟩,u,ch⟩:=ar;have dT:ad<=9223372036854775807:=ch.lies.2.1;have d0:ae e (ac d 0) (O cv ad cw):=aa.cell u 0;have bi:=Z ch;clear u ch;generalize ev b (G+1) f=s at bh⊢;go_enter func176,ntmps176
 go_upto_if 18 with(fail)
 have cx:=Z (aa.new e 93 #[J 0,ai,ab,ab,ab,ai,ai,J 0,J 0]);have d1:=Z (show aa ((e.alloc (.cells #[J 0,ai,ab,ab,ab,ai,ai,J 0,J 0] 93)).alloc (.cells #[J 1,ai,ab,ab,ab,ai,ai,J 0,J 0] 93)) (e.heap.size+1) 93 #[J 1,ai,ab,ab,ab,ai,ai,J 0,J 0] by simpa using aa.new (e.alloc (.cells #[J 0,ai,ab,ab,ab,ai,ai,J 0,J 0] 93)) 93 #[J 1,ai,ab,ab,ab,ai,ai,J 0,J 0]);go_cut [] (λwx=>Hid (aa wx e.heap.size 93 #[J 0,ai,ab,ab,ab,ai,ai,J 0,J 0]/\aa wx (e.heap.size+1) 93 #[J 1,ai,ab,ab,ab,ai,ai,J 0,J (db f)]/\Kp [d] e wx/\az wx d b f))
 case first=>
  cases f with
  |nil=>
   have c:0=ad:=bi.lies.1;subst c;go_wp2_with fail
   go_meet;exact Z ⟨(cx.alloc _),d1,((ct.alloc _).alloc _),((cq.alloc _).alloc _)⟩
  |cons c l=>
   obtain⟨l,m,n,r,w,x,z,A,C⟩:=bi.first;have q:cv=some ⟨l,m,none⟩:=n;subst q;have l:0<ad:=by have:=bi.out.lies.1;simp at this;omega
   have l:1<=ad:=l;have l:ad<=cw:=bi.cap;go_wp2_with fail
   go_meet;have ay:aa ((e.alloc (.cells #[J 0,ai,ab,ab,ab,ai,ai,J 0,J 0] 93)).alloc (.cells #[J 1,ai,ab,ab,ab,ai,ai,J 0,c.at_] 93)) (e.heap.size+1) 93 #[J 1,ai,ab,ab,ab,ai,ai,J 0,c.at_]:=by simpa using aa.new (e.alloc (.cells #[J 0,ai,ab,ab,ab,ai,ai,J 0,J 0] 93)) 93 #[J 1,ai,ab,ab,ab,ai,ai,J 0,c.at_]
   exact Z ⟨(cx.alloc _),ay,((ct.alloc _).alloc _),((cq.alloc _).alloc _)⟩
 obtain⟨al,rfl⟩:=av wc;obtain⟨cy,b2,cz,cA⟩:=hcut.out;have a6:=b2.lt;clear hcut d0 dT bi;obtain⟨c,bi⟩:=av (e.heap.size+1);rw[<-bi]at b2 a6⊢;have ch:e.heap.size<c:=af
 have U:d<c:=af
 clear bi;go_wp2_with fail
 refine(CQ d al).mono ?_;rintro a5 ax ⟨rfl,a0⟩;have an:=Z (show aa ax e.heap.size 93 _ by rw[a0];exact(cy.alloc _).alloc _);have ao:=Z (show aa ax c 93 _ by rw[a0];exact(b2.alloc _).alloc _);have bj:=Z (show aa ax al.heap.size 127 _ by rw[a0];exact(aa.new al 127 _).alloc _);have a7:=Z (show aa ax (al.heap.size+1) 325 (no al.heap.size).toArray by rw[a0];simpa using aa.new (al.alloc _) 325 (no al.heap.size).toArray);have bk:=Z (show Kp [d] e ax by rw[a0];exact(cz.alloc _).alloc _);have bl:=Z (show az ax d b f by rw[a0];exact(cA.alloc _).alloc _);have cD:=a7.lt;clear a0 cy b2 cz cA;obtain⟨q,al⟩:=av al.heap.size;rw[<-al]at bj a7 cD a6⊢;clear al;go_wp2;go_loopw [30] (λm wr=>∃l:Nat,l<=7/\m=.int .i64 l/\Hid (ag ax wr)/\Hid (iq f 0 gp=iq f l (gp.drop l))) (λl _=>7-(intOf l).toNat)
 case atStart=>exact⟨0,by omega,rfl,Z (ag.refl _),Z rfl⟩
 obtain⟨l,n,rfl,H,b3⟩:=hrel;have d2:=H.size;by_cases ci:l<7
 ·have cj:=Z (b3.out.trans (CT f l ci))
  obtain⟨al,ax,a0⟩:=CP q l ci;have d3:=Z (aa.below an H an.lt);have d4:=Z (aa.below ao H ao.lt);have b4:=Z (aa.below a7 H a7.lt);have d5:=Z (bk.trans (Kp.of_same H));have cE:=Z (bl.same H);have cF:=(aa.cell b4 _).trans (by simpa using al);have cG:=(aa.cell b4 _).trans (by simpa using ax);have cH:=(aa.cell b4 _).trans (by simpa using a0);have ck:=Z (CW l);clear al ax a0 b3;obtain⟨w,a0⟩:=av (ml l);obtain⟨N,al⟩:=av (m7 l);obtain⟨C,D,E,ax⟩:=CV q l;rw[<-a0]at cF cj ck;rw[<-al]at cG;rw[ax]at cH;have cI:=Z al;have bm:=Z ax;clear a0 al ax;go_wp2_with fail
  have b5:=oP (wr.alloc (.cells #[w,N,.func C D E] 325)) [w,⟨#[40]⟩] 9 aj (by intro r m;simp at m;rcases m with rfl|rfl;exact ck.out;exact bY _ (by decide));rw[show(wr.alloc (.cells #[w,N,.func C D E] 325)).heap.size=wr.heap.size+1 by simp]at b5;refine(r0 b d f ⟨some ⟨wr.heap.size+1,0,none⟩,2,2⟩ [w,⟨#[40]⟩] _ ((cE.alloc _).alloc _) b5).mono ?_;rintro a5 cl ⟨rfl,b6⟩;have a1:=Z (H.trans ((((ag.refl wr).alloc _).alloc _).trans b6));cases hpk:eF f [w,⟨#[40]⟩]with
  |false=>
   have m:=Z hpk;clear hpk b5 b6;go_wp2;go_roundw
   case rel=>exact⟨l+1,by omega,by go_num,a1,Z (by rw[cj.out,if_neg (by rw[m.out];simp)])⟩
   simp[intOf];omega
  |true=>
   have d6:=Z hpk;have a2:Hid (dE e cl d c e.heap.size q wr.heap.size b f #[J 1,ai,ab,ab,ab,ai,ai,J 0,J (db f)] #[w,N,.func C D E]):=Z
    ⟨aa.below an.out a1.out an.out.lt,aa.below ao.out a1.out ao.out.lt,aa.below bj.out a1.out bj.out.lt,aa.below ((aa.new wr 325 #[w,N,.func C D E]).alloc _) b6 aF,bk.out.trans (Kp.of_same a1.out),bl.out.same a1.out⟩
   have cJ:=Z (show s=st b G l (db f) (f.drop 2) by have h:=bh.out;rw[cj.out,if_pos hpk]at h;exact h);have al:(d≠c/\d≠e.heap.size/\d≠q/\d≠wr.heap.size)/\(c≠e.heap.size/\c≠q/\c≠wr.heap.size):=⟨⟨by omega,by omega,by omega,by omega⟩,by omega,by omega,by omega⟩;have x:=Z al;have ax:=a2.bp.lt;obtain⟨A,ar⟩:=av wr.heap.size;have a0:q<A:=by omega
   have a0:d<A:=af
   have a0:c<A:=af
   rw[<-ar]at a2 x ax⊢;clear hpk b5 b6 al cF cG cH d3 d4 b4 d5 cE an ao bj a7 bk bl bh H a1 ar d2 cD;have cL:=CX l ci;obtain⟨cM,cN,cP,cQ,cR,cS,cT,cV,cW⟩:=fg a2.bx;have d7:=λP=>aa.frozen a2.bx P;have d8:ae cl (ac A 0) w:=aa.cell a2.bp 0;go_wp2_with fail
   have b7:=Z ((a2.C0 af U x.2 0 (J (2+(l:Int)))).alloc (.cells #[w,.string ⟨#[40]⟩] 9));refine aT aj b7.k (show s=(aW b f [w,⟨#[40]⟩]).bind λ_ F=>st b G l (db f) F by rw[CU b f w d6.out];exact cJ.out) (df b d f [w,⟨#[40]⟩] _ (cl.setCell (ac c 0) (J (2+(l:Int)))) _ b7.out.pb (by intro r m;simp at m;rcases m with rfl|rfl;exact ck.out;exact bY _ (by decide)) (h9:=by simp)) aN ?_;intro al b8 al L bo r cX ea cY eb;obtain rfl:=r;have M:Hid (dE e L d c e.heap.size q A b b8 #[J (2+(l:Int)),ai,ab,ab,ab,ai,ai,J 0,J (db f)] #[w,N,.func C D E]):=Z (b7.call cX x.1 cY);replace bo:Hid (s=(ev b G b8).bind λa m=>ki b G l (db f) a m):=bo;clear cX ea cY b7 a2 cJ cM cN cP cQ cR cS cT cV cW d7 d8;have al:=M.bp.lt;obtain⟨I,al⟩:=av L.heap.size;have ar:A<I:=by omega
   have a3:=Z (fU.none_ L I);have ec:I<=L.heap.size:=af
   have ar:e.heap.size<I:=af
   clear al;go_upto_region 12 with(fail)
   go_cut [] (λwx=>∃(m:aU) (z:Nat) (y1:RE) (u1:List aq),Hid (dE e wx d c e.heap.size q A b u1 #[J (2+(l:Int)),ai,O m 1 z,ab,ab,ai,ai,J 0,J (db f)] #[w,N,.func C D E]/\fU wx I m 1 z [y1]/\s=ki b G l (db f) y1.ex u1))
   case first=>
    have al:IntKind.i64.wrap (Y+1)=Y+1:=IntWalk.i64_in _ af;have a9:ae L (ac c 2) ab:=aa.cell M.bx 2;have al:=M.bx.lt;refine oN (S:=(λw'=>ae w' (ac c 2) ab)) (B:=λm=>decide (m<8)) am ?_;have hS:(λw'=>ae w' (ac c 2) ab) L.drew:=a9;refine mn ?_;refine tk 6 hS ?_;refine tk 2 hS ?_;refine tk 3 hS ?_;refine tk 4 hS ?_;refine oM (i:=5) (j:=7) (oi:=?aA) (oj:=?aB) am ?aC ?aD ?aH ?aI ?aJ ?aK
    case aC=>simp only[be,bf,bg];rfl
    case aD=>rfl
    case aH=>simp only[be,bf,bg];rfl
    case aI=>rfl
    case aJ=>
     intro K hK;go_simp;refine aT aj (M.k.drew) bo (bt b8 _ (M.pb.drew)) aN ?_;intro al nr dd Q E6 r a8 al ba al;obtain⟨bb,V,X,bd⟩:=r;have T:=Kp.trans ((Kp.refl [d] L).drew) a8;have bs:=Z T;have b9:=Z (bd.mono (S':=Bw L.heap.size Q.heap.size) (λm u=>⟨bJ (by simp[eo]) u.1,u.2⟩));have ca:=Z (M.call T x.1 ba);obtain⟨Y6,ap⟩:=av bb;rw[<-ap]at b9 V;obtain⟨cb,cd,⟨ce,cf,cg⟩,dg,⟨cm,cn,co⟩,dj,⟨c0,c1,c2⟩,dk,c3,c4,c5,c6⟩:=bb;replace X:dd=.agg #[cb,cd,O ce cf cg,O cm cn co,O c0 c1 c2,c3,c4,c5,c6]:=X;have qD:Hid (Y6.cells=[.int .i64 cb,.string cd,.slice ce cf cg,.slice cm cn co,.slice c0 c1 c2,.string c3,.string c4,.int .i64 c5,.int .i64 c6]):=Z (by rw[ap];rfl);subst X;replace E6:Hid (s=ki b G l (db f) Y6.ex nr):=by rw[V];exact E6
     have c7:ae Q (ac c 2) ab:=aa.cell ca.bx 2;have X:=ca.bx.lt;have X:=T.size;clear T a8 bd V ap;try go_simp
     refine hK _ _ (λ_=>c7) ?_;refine aw ?_;refine j7 (i:=7) (o:=?aL) am ?aM ?aO ?aP
     case aM=>simp only[be,bf,bg];rfl
     case aO=>rfl
     intro K hK;go_simp;refine hK _ _ (λ_=>(World.cell?_alloc_lt _ _ _ aG).trans c7) ?_;refine aw ?_;refine j7 (i:=8) (o:=?aQ) am ?aR ?aS ?aV
     case aR=>simp only[be,bf,bg];rfl
     case aS=>rfl
     intro K hK;refine di (Q.alloc _) (.tmp 50) (.tmp 56) 91 rfl I 93 bu _ 9 144 underlying91 bw bz b0 b1 rfl au ab 0 ((([]:List RE)).flatMap RE.cells) rfl (bG a3.own (bs.alloc _) aF) (Q.heap.size+1) _ 1 1 iG rfl (cO Q _ 93 9 rfl) qB cc af o7 ?_;intro T m R c8 c9;obtain⟨dl,dm,rfl,_⟩:=bv R;obtain⟨z,rfl,dp,a4,da,dc⟩:=dE.kid (W:=(Q.alloc _)) (w6:=Q) (y:=Y6) M a3 af af af af af af x.1 af af x.2 U af bs ba ((ag.refl Q).alloc _) b9 R c8 c9;have Q:=λT Q=>qC R (by rw[o5,a3.out.len]) T Q;have u0:ae m (ac z 0) (J 0):=Q 0 af;have u1:ae m (ac z 1) ai:=Q 1 af;have u2:ae m (ac z 2) ab:=Q 2 af;have u3:ae m (ac z 3) ab:=Q 3 af;have u4:ae m (ac z 4) ab:=Q 4 af;have u5:ae m (ac z 5) ai:=Q 5 af;have u6:ae m (ac z 6) ai:=Q 6 af;have u7:ae m (ac z 7) (J 0):=Q 7 af;have u8:ae m (ac z 8) (J 0):=Q 8 af;have T:=λT=>R.frozenAt T;have m:ae m (ac c 2) ab:=aa.cell a4.bx 2;have m:=λP=>aa.frozen a4.bx P;have de:c≠z:=by omega
     have gs:=Z da;have gt:=Z dc;clear R c8 c9 a4 da dc Q;refine hK _ _ (λh=>absurd h au) ?_;refine aw ?_;refine bZ ?_;refine tq 9 ?_;refine tq 11 ?_;refine wpAny_ready (rs:=[10,12]) am aj ?_;refine AllReady.cons (o:=?aX) ?aY (λK hK=>?aZ) (AllReady.cons (o:=?bn) ?bA (λK hK=>?bB) AllReady.nil)
     case aY=>simp only[be,bf,bg];rfl
     case bA=>simp only[be,bf,bg];rfl
     case aZ=>
      exact wb
     go_simp;refine hK _ _ ?_;refine aw ?_;refine dt 10 (λK hK=>?_);go_simp;refine hK _ _ ?_;refine aw ?_;refine bM ?_;have e1:=gt.out;have e2:=gs.out;rw[<-np (p:=(ac c 2)) _ _ _ _ de]at e1 e2;rw[qD.out]at e1 e2;simp only[bX,Nat.zero_mul,Nat.one_mul,Nat.zero_add,Nat.reduceAdd,Nat.reduceMul]at e1 e2;have iH:=Z e1;have HE2:=Z e2;clear e1 e2 gt gs;go_wp2_with fail
     go_meet;exact⟨_,_,Y6,nr,Z ⟨iH,HE2,E6⟩⟩
    intro K hK;go_simp;refine hK _ _ (λ_=>(World.cell?_alloc_lt _ _ _ cK).trans a9) ?_;refine aw ?_;refine j7 (i:=5) (o:=?bC) am ?bD ?bE ?bF
    case bD=>simp only[be,bf,bg];rfl
    case bE=>rfl
    intro K hK;go_simp;refine aT aj (M.k.drew.alloc _) bo (bt b8 _ (M.pb.drew.alloc _)) aN ?_;intro al nr dc Q E6 r V al ba al;obtain⟨bb,X,ap,bd⟩:=r;have T:=Kp.trans ((Kp.refl [d] L).drew.alloc _) V;have bs:=Z T;have b9:=Z (bd.mono (S':=Bw L.heap.size Q.heap.size) (λm u=>⟨bJ (by simp[eo]) u.1,u.2⟩));have ca:=Z (M.call T x.1 ba);obtain⟨Y6,a4⟩:=av bb;rw[<-a4]at b9 X;obtain⟨cb,cd,⟨ce,cf,cg⟩,dj,⟨cm,cn,co⟩,dk,⟨c0,c1,c2⟩,dl,c3,c4,c5,c6⟩:=bb;replace ap:dc=.agg #[cb,cd,O ce cf cg,O cm cn co,O c0 c1 c2,c3,c4,c5,c6]:=ap;have qD:Hid (Y6.cells=[.int .i64 cb,.string cd,.slice ce cf cg,.slice cm cn co,.slice c0 c1 c2,.string c3,.string c4,.int .i64 c5,.int .i64 c6]):=Z (by rw[a4];rfl);subst ap;replace E6:Hid (s=ki b G l (db f) Y6.ex nr):=by rw[X];exact E6
    have dd:ae Q (ac c 2) ab:=aa.cell ca.bx 2;have al:=ca.bx.lt;have al:=T.size;have de:=Z (V.blk (g:=L.heap.size) (t:=93) (cs:=_) (aa.new L.drew 93 _) aF);clear T V bd X a4;try go_simp
    refine hK _ _ (λ_=>dd) ?_;refine aw ?_;refine j7 (i:=8) (o:=?bH) am ?bI ?bK ?bL
    case bI=>simp only[be,bf,bg];rfl
    case bK=>rfl
    intro K hK;refine di Q (.tmp 50) (.tmp 56) 91 rfl I 93 bu _ 9 144 underlying91 bw bz b0 b1 rfl au ab 0 ((([]:List RE)).flatMap RE.cells) rfl (bG a3.own bs aF) (Q.heap.size+1) _ 1 1 iG rfl ((ju de rfl).more af) qB cc af o7 ?_;intro L m R c7 c8;obtain⟨dm,dp,rfl,_⟩:=bv R;obtain⟨z,rfl,dr,a8,c9,da⟩:=dE.kid (W:=Q) (w6:=Q) (y:=Y6) M a3 af af af af af af x.1 af af x.2 U af bs ba (ag.refl Q) b9 R c7 c8;have L:=λQ L=>qC R (by rw[o5,a3.out.len]) Q L;have u0:ae m (ac z 0) (J 0):=L 0 af;have u1:ae m (ac z 1) ai:=L 1 af;have u2:ae m (ac z 2) ab:=L 2 af;have u3:ae m (ac z 3) ab:=L 3 af;have u4:ae m (ac z 4) ab:=L 4 af;have u5:ae m (ac z 5) ai:=L 5 af;have u6:ae m (ac z 6) ai:=L 6 af;have u7:ae m (ac z 7) (J 0):=L 7 af;have u8:ae m (ac z 8) (J 0):=L 8 af;have Q:=λQ=>R.frozenAt Q;have m:ae m (ac c 2) ab:=aa.cell a8.bx 2;have m:=λP=>aa.frozen a8.bx P;have dg:c≠z:=by omega
    have gs:=Z c9;have gt:=Z da;clear R c7 c8 a8 c9 da L;refine hK _ _ (λh=>absurd h au) ?_;refine aw ?_;refine bZ ?_;refine tq 9 ?_;refine tq 11 ?_;refine wpAny_ready (rs:=[10,12]) am aj ?_;refine AllReady.cons (o:=?bN) ?bO (λK hK=>?bP) (AllReady.cons (o:=?bQ) ?bR (λK hK=>?bS) AllReady.nil)
    case bO=>simp only[be,bf,bg];rfl
    case bR=>simp only[be,bf,bg];rfl
    case bP=>
     exact wb
    go_simp;refine hK _ _ ?_;refine aw ?_;refine dt 10 (λK hK=>?_);go_simp;refine hK _ _ ?_;refine aw ?_;refine bM ?_;have e1:=gt.out;have e2:=gs.out;rw[<-np (p:=(ac c 2)) _ _ _ _ dg]at e1 e2;rw[qD.out]at e1 e2;simp only[bX,Nat.zero_mul,Nat.one_mul,Nat.zero_add,Nat.reduceAdd,Nat.reduceMul]at e1 e2;have iH:=Z e1;have HE2:=Z e2;clear e1 e2 gt gs;go_wp2_with fail
    go_meet;exact⟨_,_,Y6,nr,Z ⟨iH,HE2,E6⟩⟩
   obtain⟨Q,R,y1,u1,HX⟩:=hcut;obtain⟨b9,rfl⟩:=av wc;obtain⟨V,bs,L⟩:=HX.out;have E6:=Z L;have al:=V.k.size;have al:=V.bp.lt;have ee:I<=b9.heap.size:=by obtain⟨al,ar,_,ax,dC⟩:=bs.own.form af;omega
   clear HX L M a3 bo ec eb;have c0:ae b9 (ac A 1) N:=aa.cell V.bp 1;go_upto_if 61 with(fail)
   go_cut [] (λwx=>∃(m:aU) (z L:Nat) (M:List RE) (u2:List aq),Hid (dE e wx d c e.heap.size q A b u2 #[J (2+(l:Int)),ai,O m z L,ab,ab,ai,ai,J 0,J (db f)] #[w,N,.func C D E]/\fU wx I m z L M/\s=mm b l (db f) (RE.exs M) u2))
   case first=>
    cases N
    case false=>
     go_wp2_with fail
     go_meet;refine⟨Q,1,R,[y1],u1,Z ⟨V,bs,?_⟩⟩;rw[E6.out,ki,if_neg (by rw[<-cI.out];simp)];rfl
    go_wp2_with fail
    refine aT aj (V.k.alloc _) (show s=(aW b u1 [⟨#[44]⟩]).bind λ_ m=>(ev b G m).bind λm F=>mm b l (db f) [y1.ex,m] F by rw[E6.out,ki,if_pos cI.out.symm]) (df b d u1 [⟨#[44]⟩] _ b9 _ (V.pb.alloc _) (cC [⟨#[44]⟩] au)) aN ?_;intro L bd L X a9 r ba ef cg L;obtain rfl:=r;have m:=Z ((V.alloc _).call ba x.1 cg);have a4:=Z (bs.keep (((Kp.refl [d] b9).alloc _).trans ba) aF);replace a9:Hid (s=(ev b G bd).bind λz F=>mm b l (db f) [y1.ex,z] F):=a9;have G:I<=X.heap.size:=bJ ee (by have:=ba.size;simp at this;omega);clear ba ef cg V bs E6 c0;go_upto_region 15 with(fail)
    have G:IntKind.i64.wrap (Y+1)=Y+1:=IntWalk.i64_in _ af;have cm:ae X (ac c 2) (O Q 1 R):=aa.cell m.bx 2;have G:=m.bx.lt;refine oN (S:=(λw'=>ae w' (ac c 2) (O Q 1 R))) (B:=λz=>decide (z<8)) am ?_;have hS:(λw'=>ae w' (ac c 2) (O Q 1 R)) X.drew:=cm;refine mn ?_;refine tk 6 hS ?_;refine tk 2 hS ?_;refine tk 3 hS ?_;refine tk 4 hS ?_;refine oM (i:=5) (j:=7) (oi:=?bT) (oj:=?bU) am ?bV ?cu ?cB ?cZ ?dh ?dn
    case bV=>simp only[be,bf,bg];rfl
    case cu=>rfl
    case cB=>simp only[be,bf,bg];rfl
    case cZ=>rfl
    case dh=>
     intro K hK;go_simp;refine aT aj (m.k.drew) a9 (bt bd _ (m.pb.drew)) aN ?_;intro G nt eg ap lr r cf G cn G;obtain⟨co,ca,cb,c1⟩:=r;have bb:=Kp.trans ((Kp.refl [d] X).drew) cf;have c2:=Z bb;have c3:=Z (c1.mono (S':=Bw X.heap.size ap.heap.size) (λz u=>⟨bJ (by simp[eo]) u.1,u.2⟩));have c4:=Z (m.call bb x.1 cn);obtain⟨jv,cd⟩:=av co;rw[<-cd]at c3 ca;obtain⟨c5,c6,⟨c7,c8,c9⟩,ei,⟨da,dc,dd⟩,ej,⟨de,dg,dj⟩,ek,dk,dl,dm,dp⟩:=co;replace cb:eg=.agg #[c5,c6,O c7 c8 c9,O da dc dd,O de dg dj,dk,dl,dm,dp]:=cb;have qE:Hid (jv.cells=[.int .i64 c5,.string c6,.slice c7 c8 c9,.slice da dc dd,.slice de dg dj,.string dk,.string dl,.int .i64 dm,.int .i64 dp]):=Z (by rw[cd];rfl);subst cb;replace lr:Hid (s=(λz=>mm b l (db f) [y1.ex,z]) jv.ex nt):=by rw[ca];exact lr
     have dr:ae ap (ac c 2) (O Q 1 R):=aa.cell c4.bx 2;have G:=c4.bx.lt;have G:=bb.size;clear bb cf c1 ca cd;try go_simp
     refine hK _ _ (λ_=>dr) ?_;refine aw ?_;refine j7 (i:=7) (o:=?dw) am ?dx ?dz ?dA
     case dx=>simp only[be,bf,bg];rfl
     case dz=>rfl
     intro K hK;go_simp;refine hK _ _ (λ_=>(World.cell?_alloc_lt _ _ _ aG).trans dr) ?_;refine aw ?_;refine j7 (i:=8) (o:=?dB) am ?dD ?dF ?dG
     case dD=>simp only[be,bf,bg];rfl
     case dF=>rfl
     intro K hK;refine di (ap.alloc _) (.tmp 66) (.tmp 72) 91 rfl I 93 bu _ 9 144 underlying91 bw bz b0 b1 rfl au (O Q 1 R) 1 (([y1]).flatMap RE.cells) rfl (bG a4.own (c2.alloc _) aF) (ap.heap.size+1) _ 1 1 iG rfl (cO ap _ 93 9 rfl) qB cc af o7 ?_;intro G z a8 ds du;obtain⟨el,em,rfl,_⟩:=bv a8;obtain⟨T,rfl,en,ce,dv,dy⟩:=dE.kid (W:=(ap.alloc _)) (w6:=ap) (y:=jv) m a4 af af af af af af x.1 af af x.2 U af c2 cn ((ag.refl ap).alloc _) c3 a8 ds du;have G:=λL G=>qC a8 (by rw[o5,a4.out.len]) L G;have u0:ae z (ac T 9) (J 0):=G 0 af;have u1:ae z (ac T 10) ai:=G 1 af;have u2:ae z (ac T 11) ab:=G 2 af;have u3:ae z (ac T 12) ab:=G 3 af;have u4:ae z (ac T 13) ab:=G 4 af;have u5:ae z (ac T 14) ai:=G 5 af;have u6:ae z (ac T 15) ai:=G 6 af;have u7:ae z (ac T 16) (J 0):=G 7 af;have u8:ae z (ac T 17) (J 0):=G 8 af;have L:=λL=>a8.frozenAt L;have z:ae z (ac c 2) (O Q 1 R):=aa.cell ce.bx 2;have z:=λP=>aa.frozen ce.bx P;have eh:c≠T:=by omega
     have gs:=Z dv;have gt:=Z dy;clear a8 ds du ce dv dy G;refine hK _ _ (λh=>absurd h au) ?_;refine aw ?_;refine bZ ?_;refine tq 9 ?_;refine tq 11 ?_;refine wpAny_ready (rs:=[10,12]) am aj ?_;refine AllReady.cons (o:=?dH) ?dI (λK hK=>?dJ) (AllReady.cons (o:=?dK) ?dL (λK hK=>?dM) AllReady.nil)
     case dI=>simp only[be,bf,bg];rfl
     case dL=>simp only[be,bf,bg];rfl
     case dJ=>
      exact wd
     go_simp;refine hK _ _ ?_;refine aw ?_;refine dt 10 (λK hK=>?_);go_simp;refine hK _ _ ?_;refine aw ?_;refine bM ?_;have e1:=gt.out;have e2:=gs.out;rw[<-np (p:=(ac c 2)) _ _ _ _ eh]at e1 e2;rw[qE.out]at e1 e2;simp only[bX,Nat.zero_mul,Nat.one_mul,Nat.zero_add,Nat.reduceAdd,Nat.reduceMul]at e1 e2;have iH:=Z e1;have HE2:=Z e2;clear e1 e2 gt gs;go_wp2_with fail
     go_meet;exact⟨_,2,_,[y1,jv],nt,Z ⟨iH,HE2,lr⟩⟩
    intro K hK;go_simp;refine hK _ _ (λ_=>(World.cell?_alloc_lt _ _ _ cK).trans cm) ?_;refine aw ?_;refine j7 (i:=5) (o:=?dN) am ?dO ?dP ?dQ
    case dO=>simp only[be,bf,bg];rfl
    case dP=>rfl
    intro K hK;go_simp;refine aT aj (m.k.drew.alloc _) a9 (bt bd _ (m.pb.drew.alloc _)) aN ?_;intro G nt dy ap lr r ca G cn G;obtain⟨co,cb,cd,c1⟩:=r;have bb:=Kp.trans ((Kp.refl [d] X).drew.alloc _) ca;have c2:=Z bb;have c3:=Z (c1.mono (S':=Bw X.heap.size ap.heap.size) (λz u=>⟨bJ (by simp[eo]) u.1,u.2⟩));have c4:=Z (m.call bb x.1 cn);obtain⟨jv,ce⟩:=av co;rw[<-ce]at c3 cb;obtain⟨c5,c6,⟨c7,c8,c9⟩,ej,⟨da,dc,dd⟩,ek,⟨de,dg,dj⟩,el,dk,dl,dm,dp⟩:=co;replace cd:dy=.agg #[c5,c6,O c7 c8 c9,O da dc dd,O de dg dj,dk,dl,dm,dp]:=cd;have qE:Hid (jv.cells=[.int .i64 c5,.string c6,.slice c7 c8 c9,.slice da dc dd,.slice de dg dj,.string dk,.string dl,.int .i64 dm,.int .i64 dp]):=Z (by rw[ce];rfl);subst cd;replace lr:Hid (s=(λz=>mm b l (db f) [y1.ex,z]) jv.ex nt):=by rw[cb];exact lr
    have eg:ae ap (ac c 2) (O Q 1 R):=aa.cell c4.bx 2;have G:=c4.bx.lt;have G:=bb.size;have eh:=Z (ca.blk (g:=X.heap.size) (t:=93) (cs:=_) (aa.new X.drew 93 _) aF);clear bb ca c1 cb ce;try go_simp
    refine hK _ _ (λ_=>eg) ?_;refine aw ?_;refine j7 (i:=8) (o:=?dR) am ?dS ?dU ?dV
    case dS=>simp only[be,bf,bg];rfl
    case dU=>rfl
    intro K hK;refine di ap (.tmp 66) (.tmp 72) 91 rfl I 93 bu _ 9 144 underlying91 bw bz b0 b1 rfl au (O Q 1 R) 1 (([y1]).flatMap RE.cells) rfl (bG a4.own c2 aF) (ap.heap.size+1) _ 1 1 iG rfl ((ju eh rfl).more af) qB cc af o7 ?_;intro G z a8 dr ds;obtain⟨em,en,rfl,_⟩:=bv a8;obtain⟨T,rfl,ep,cf,du,dv⟩:=dE.kid (W:=ap) (w6:=ap) (y:=jv) m a4 af af af af af af x.1 af af x.2 U af c2 cn (ag.refl ap) c3 a8 dr ds;have m:=λG m=>qC a8 (by rw[o5,a4.out.len]) G m;have u0:ae z (ac T 9) (J 0):=m 0 af;have u1:ae z (ac T 10) ai:=m 1 af;have u2:ae z (ac T 11) ab:=m 2 af;have u3:ae z (ac T 12) ab:=m 3 af;have u4:ae z (ac T 13) ab:=m 4 af;have u5:ae z (ac T 14) ai:=m 5 af;have u6:ae z (ac T 15) ai:=m 6 af;have u7:ae z (ac T 16) (J 0):=m 7 af;have u8:ae z (ac T 17) (J 0):=m 8 af;have G:=λG=>a8.frozenAt G;have z:ae z (ac c 2) (O Q 1 R):=aa.cell cf.bx 2;have z:=λP=>aa.frozen cf.bx P;have ei:c≠T:=by omega
    have gs:=Z du;have gt:=Z dv;clear a8 dr ds cf du dv m;refine hK _ _ (λh=>absurd h au) ?_;refine aw ?_;refine bZ ?_;refine tq 9 ?_;refine tq 11 ?_;refine wpAny_ready (rs:=[10,12]) am aj ?_;refine AllReady.cons (o:=?dW) ?dX (λK hK=>?dY) (AllReady.cons (o:=?dZ) ?d9 (λK hK=>?eu) AllReady.nil)
    case dX=>simp only[be,bf,bg];rfl
    case d9=>simp only[be,bf,bg];rfl
    case dY=>
     exact wd
    go_simp;refine hK _ _ ?_;refine aw ?_;refine dt 10 (λK hK=>?_);go_simp;refine hK _ _ ?_;refine aw ?_;refine bM ?_;have e1:=gt.out;have e2:=gs.out;rw[<-np (p:=(ac c 2)) _ _ _ _ ei]at e1 e2;rw[qE.out]at e1 e2;simp only[bX,Nat.zero_mul,Nat.one_mul,Nat.zero_add,Nat.reduceAdd,Nat.reduceMul]at e1 e2;have iH:=Z e1;have HE2:=Z e2;clear e1 e2 gt gs;go_wp2_with fail
    go_meet;exact⟨_,2,_,[y1,jv],nt,Z ⟨iH,HE2,lr⟩⟩
   obtain⟨a9,a8,ba,cm,u2,HX⟩:=hcut;obtain⟨ap,rfl⟩:=av wc;obtain⟨m,bb,G⟩:=HX.out;have X:=Z G;have L:=m.k.size;have L:=m.bp.lt;clear HX G V bs E6 c0;obtain⟨T,G⟩:∃T:dq->List aq->PO Ex,T=λG F=>(aW b F [⟨#[41]⟩]).bind λ_ F=>.ok (.mk ((l:Int)+2) e0 (RE.exs cm) G.conds G.names G.attr G.cU G.agg (db f)) F:=⟨_,rfl⟩;replace X:Hid (s=(eG b l u2).bind T):=Z (by rw[X.out,G];rfl);have c1:=Z G;clear G;have da:ae ap (ac A 2) (.func C D E):=aa.cell m.bp 2;go_upto_region 16 with(fail)
   go_cut [] (λwx=>∃(z:dq) (G L:Hd) (u3:List aq),Hid (dE e wx d c e.heap.size q A b u3 #[J (2+(l:Int)),ai,O a9 a8 ba,G.val,L.val,z.attr,z.cU,z.agg,J (db f)] #[w,N,.func C D E]/\fU wx I a9 a8 ba cm/\kj ap.heap.size z wx G L/\s=T z u3))
   case first=>
    have cd:l=0\/l=1\/l=5\/l=6\/(l=2\/l=3\/l=4):=af
    have a4:=Z (show∀z∈[d,c],z∈[d]\/e.heap.size<=z by intro z u;simp at u;rcases u with rfl|rfl;exact .inl aj;exact .inr af);rcases cd with n|n|n|n|n
    ·have ce:Value.func (.func 300) #[] #[ak q]=.func C D E:=by rw[<-bm.out,n];rfl
     injection ce with f1 f2 f3
     subst f1 f2 f3;have cf:=Z (show s=(eG b 0 u2).bind T by rw[X.out,n]);clear n;go_wp2_with fail
     refine o4 (l2:=[d,c]) a4 m.k cf (CL b d c q u2 ap _ _ _ _ m.pb m.bx m.bq U a6) ?eB ?eD
     case eB=>intro er a wx HX KX;go_wp2;exact⟨rfl,by rw[HX.out];exact⟨KX.out,rfl⟩⟩
     intro cg u3 u wx cn r z ca cb u;obtain⟨rfl,c2,co,bd⟩:=r;have c3:=Z (show dE e wx d c e.heap.size q A b u3 _ _ from⟨z.blk m.br aF,bd.blk,z.blk m.bq aF,z.blk m.bp aF,ca,cb⟩);have c4:=Z (bb.keep z aF);have c5:=Z bd.ok;clear z ca cb bd;go_wp2_with fail
     go_meet;exact⟨cg,c2,co,u3,Z ⟨c3,c4,c5,cn⟩⟩
    ·have ce:Value.func (.func 301) #[] #[ak q]=.func C D E:=by rw[<-bm.out,n];rfl
     injection ce with f1 f2 f3
     subst f1 f2 f3;have cf:=Z (show s=(eG b 1 u2).bind T by rw[X.out,n]);clear n;go_wp2_with fail
     refine o4 (l2:=[d,c]) a4 m.k cf (CM b d c q u2 ap _ _ _ _ m.pb m.bx m.bq U a6) ?eH ?eO
     case eH=>intro er a wx HX KX;go_wp2;exact⟨rfl,by rw[HX.out];exact⟨KX.out,rfl⟩⟩
     intro cg u3 u wx cn r z ca cb u;obtain⟨rfl,c2,co,bd⟩:=r;have c3:=Z (show dE e wx d c e.heap.size q A b u3 _ _ from⟨z.blk m.br aF,bd.blk,z.blk m.bq aF,z.blk m.bp aF,ca,cb⟩);have c4:=Z (bb.keep z aF);have c5:=Z bd.ok;clear z ca cb bd;go_wp2_with fail
     go_meet;exact⟨cg,c2,co,u3,Z ⟨c3,c4,c5,cn⟩⟩
    ·have ce:Value.func (.func 302) #[] #[ak q]=.func C D E:=by rw[<-bm.out,n];rfl
     injection ce with f1 f2 f3
     subst f1 f2 f3;have cf:=Z (show s=(eG b 5 u2).bind T by rw[X.out,n]);clear n;go_wp2_with fail
     refine o4 (l2:=[d,c]) a4 m.k cf (CN b d c q u2 ap _ _ _ _ m.pb m.bx m.bq U a6) ?eP ?eT
     case eP=>intro er a wx HX KX;go_wp2;exact⟨rfl,by rw[HX.out];exact⟨KX.out,rfl⟩⟩
     intro cg u3 u wx cn r z ca cb u;obtain⟨rfl,c2,co,bd⟩:=r;have c3:=Z (show dE e wx d c e.heap.size q A b u3 _ _ from⟨z.blk m.br aF,bd.blk,z.blk m.bq aF,z.blk m.bp aF,ca,cb⟩);have c4:=Z (bb.keep z aF);have c5:=Z bd.ok;clear z ca cb bd;go_wp2_with fail
     go_meet;exact⟨cg,c2,co,u3,Z ⟨c3,c4,c5,cn⟩⟩
    ·have ce:Value.func (.func 303) #[] #[ak q]=.func C D E:=by rw[<-bm.out,n];rfl
     injection ce with f1 f2 f3
     subst f1 f2 f3;have cf:=Z (show s=(eG b 6 u2).bind T by rw[X.out,n]);clear n;go_wp2_with fail
     refine o4 (l2:=[d,c]) a4 m.k cf (CO b d c q u2 ap _ _ _ _ m.pb m.bx m.bq U a6) ?eU ?eX
     case eU=>intro er a wx HX KX;go_wp2;exact⟨rfl,by rw[HX.out];exact⟨KX.out,rfl⟩⟩
     intro cg u3 u wx cn r z ca cb u;obtain⟨rfl,c2,co,bd⟩:=r;have c3:=Z (show dE e wx d c e.heap.size q A b u3 _ _ from⟨z.blk m.br aF,bd.blk,z.blk m.bq aF,z.blk m.bp aF,ca,cb⟩);have c4:=Z (bb.keep z aF);have c5:=Z bd.ok;clear z ca cb bd;go_wp2_with fail
     go_meet;exact⟨cg,c2,co,u3,Z ⟨c3,c4,c5,cn⟩⟩
    have z:Value.func (.func 299) #[] #[]=.func C D E:=by rw[<-bm.out];rcases n with n|n|n<;>rw[n]<;>rfl
    injection z with f1 f2 f3
    subst f1 f2 f3;have bd:=Z (show s=T dq.zero u2 by rw[X.out,C1 b l u2 n];rfl);clear n;go_wp2_with fail
    refine(CR c ap).mono ?_;rintro a5 w' ⟨rfl,rfl⟩;go_wp2_with fail
    go_meet;exact⟨dq.zero,⟨none,0,0⟩,⟨none,0,0⟩,u2,Z ⟨m,bb,kj.zero _ _,bd⟩⟩
   obtain⟨z,dd,dc,u3,HX⟩:=hcut;obtain⟨cn,rfl⟩:=av wc;obtain⟨a4,c2,c3,n⟩:=HX.out;have de:=Z (show s=(aW b u3 [⟨#[41]⟩]).bind λ_ F=>.ok (.mk ((l:Int)+2) e0 (RE.exs cm) z.conds z.names z.attr z.cU z.agg (db f)) F by rw[n,c1.out]);have u:=a4.k.size;clear HX n m bb X da c1;obtain⟨ca,cb,cd⟩:=dd;obtain⟨ce,cf,cg⟩:=dc;replace a4:Hid (dE e cn d c e.heap.size q A b u3 #[J (2+(l:Int)),ai,O a9 a8 ba,O ca cb cd,O ce cf cg,z.attr,z.cU,z.agg,J (db f)] #[w,N,.func C D E]):=a4;go_wp2_with fail
   refine aT aj (a4.k.alloc _) de (df b d u3 [⟨#[41]⟩] _ cn _ (a4.pb.alloc _) (cC [⟨#[41]⟩] au)) aN ?_;intro m m m c4 dg r co dj c5 m;obtain rfl:=r;have m:=((Kp.refl [d] cn).alloc _).trans co;have bd:=Z ((a4.alloc _).call co x.1 c5);have dk:=Z (c2.keep m aF);have dl:=Z (c3.keep m aF);clear co m a4 c2 c3 dj c5;obtain⟨cM,cN,cP,cQ,cR,cS,cT,cV,cW⟩:=fg bd.bx;obtain⟨m,n,q,r,u,w,x,A,C⟩:=fg bd.br;have m:=λP=>aa.frozen bd.br P;go_wp2;have dm:=ed bd.br bd.k bd.pb [.int .i64 (2+(l:Int)),.string ⟨#[]⟩,.slice a9 a8 ba,.slice ca cb cd,.slice ce cf cg,.string z.attr,.string z.cU,.int .i64 z.agg,.int .i64 (db f)] rfl (Nat.le_refl _) af;have m:=o6 e.heap.size [.int .i64 (2+(l:Int)),.string ⟨#[]⟩,.slice a9 a8 ba,.slice ca cb cd,.slice ce cf cg,.string z.attr,.string z.cU,.int .i64 z.agg,.int .i64 (db f)] 0 c4 c4 (Kp.refl _ _);have n:=dk.keep m aF;have m:=dl.keep m aF;have c6:=C2 (base:=e.heap.size) n m af af (kind:=2+(l:Int)) ⟨by have:=cL.1;omega,by have:=cL.2;omega⟩ cr.out;obtain⟨c7,c8,c9⟩:=dm;simp only[bX,Nat.zero_add,Nat.reduceAdd]at c7 c8 c9 c6;obtain⟨dp,dr,ds,du,dv,dy,ef,eg,eh⟩:=fg c7;refine bodyPost_ret (v:=.agg #[J (2+(l:Int)),ai,O a9 a8 ba,O ca cb cd,O ce cf cg,z.attr,z.cU,z.agg,J (db f)]) ?_ rfl ?_
   ·simp[results,results176,go_sem,dp,dr,ds,du,dv,dy,ef,eg,eh]
   rw[dg.out];exact⟨c8,_,rfl,⟨_,by rw[Int.add_comm];rfl,rfl,c6⟩,c9⟩
 obtain rfl:l=7:=af
 have L:=Z (show s=(bW b f).bind λad l=>.ok (.mk 1 ad [] [] [] e0 e0 0 (db f)) l by have h:=bh.out;rw[b3.out]at h;exact h);have x:=Z (aa.below an H an.lt);have z:=Z (aa.below ao H ao.lt);have A:=Z (bk.trans (Kp.of_same H));have C:=Z (bl.same H);clear an ao bj a7 bk bl b3 H bh;go_wp2_with fail
 refine aT aj A L (eJ b d f wr C) ?ay ?eY
 case ay=>intro er a wx HX KX;go_wp2;exact⟨rfl,by rw[HX.out];exact⟨KX.out,rfl⟩⟩
 intro m b b b M N r P Q b;obtain⟨rfl,R⟩:=N;have w:=Z (r.blk x aF);have d:=Z (r.blk z aF);clear r x z A C;obtain⟨b,l,n,q,r,s,u,x,z⟩:=fg d;obtain⟨b,l,n,q,r,s,u,x,z⟩:=fg w;have l:=λb=>aa.frozen w b;have b:=λb=>aa.frozen d b;have b:e.heap.size≠c:=af
 go_wp2;have T:=ed (t:=93) (aa.far w (p:=(ac c 1)) aG m) (Kp.set (p:=(ac c 1)) aG P m) (az.set (p:=(ac c 1)) aG Q m) [.int .i64 1,.string m,.slice none 0 0,.slice none 0 0,.slice none 0 0,.string ⟨#[]⟩,.string ⟨#[]⟩,.int .i64 0,.int .i64 (db f)] rfl (Nat.le_refl _) af;obtain⟨D,E,I⟩:=T;simp only[bX,Nat.zero_add,Nat.reduceAdd]at D E I;obtain⟨V,X,ap,a1,a2,a3,a4,a8,a9⟩:=fg D;refine bodyPost_ret (v:=.agg #[J 1,m,ab,ab,ab,ai,ai,J 0,J (db f)]) ?_ rfl ?_
 ·simp[results,results176,go_sem,V,X,ap,a1,a2,a3,a4,a8,a9]
 rw[M.out];refine⟨E,_,rfl,⟨.mk 1 m ⟨none,0,0⟩ [] ⟨none,0,0⟩ [] ⟨none,0,0⟩ [] e0 e0 0 (db f),rfl,rfl,?_⟩,I⟩;exact .mk (aE.none_ _ 9 _) (bc.none_ _ _ _) (λ_ h=>by cases h) (aE.none_ _ 14 _) (bc.none_ _ _ _) (λ_ h=>by cases h) (kh _) (bc.none_ _ _ _) R (bY _ au) (bY _ au) ⟨by omega,by omega⟩ ⟨by omega,by omega⟩ cr.out
theorem C6 (e:Int) (f:Nat):∀(c:Nat) (d:List aq) (a:Int) (b:ah),a+c=13->1<=a->az b f e d->
 Calls prog 176 #[ak f,a] b λg i=>PP e f b (ev e c d) (qw b.heap.size) g i:=by
 intro c;induction c with
 |zero=>intro d a b g g g;exact C4 e f d a b af g
 |succ c j=>intro d a b g g i;exact C5 e f c d a b af g i (λb c h=>j b (a+1) c af af h)
structure RI where
 kind:Int
 name:ByteArray
 at_:Int
 table:ByteArray
 attr:ByteArray
 qF:Hd
 cQ:List cZ
 hQ:Hd
 names:List ByteArray
 bh:Int
 n:Int
 m:Int
 o8:Hd
 terms:List ct
 other:ByteArray
 k6:ByteArray
 nu:Hd
 fixed:List da
 hvars:Hd
 vars:List Vr
 hconds:Hd
 conds:List bm
 e:RE
def RI.cells (r:RI):List Value:=
 [.int .i64 r.kind,.string r.name,.int .i64 r.at_,.string r.table,.string r.attr,r.qF.val,r.hQ.val,.int .i64 r.bh,.int .i64 r.n,.int .i64 r.m,r.o8.val,.string r.other,.string r.k6,r.nu.val,r.hvars.val,r.hconds.val]++r.e.cells
def RI.it (a:RI):aB:=⟨a.kind,a.name,a.at_,a.table,a.attr,a.cQ,a.names,a.bh,a.n,a.m,a.terms,a.other,a.k6,a.fixed,a.vars,a.conds,a.e.ex⟩
theorem RI.len (a:RI):a.cells.length=25:=by unfold RI.cells;rw[List.length_append,RE.len];rfl
def aL:Hd:=⟨none,0,0⟩
structure cW (w:ah) (S:Nat->Prop) (r:RI):Prop where
 lc:aE w 5 r.qF cZ.cells r.cQ
 ic:eT S r.qF
 fc:∀c∈r.cQ,c.bo
 ln:b5 w r.hQ r.names
 iN:eT S r.hQ
 lt:aE w 7 r.o8 ct.cells r.terms
 it:eT S r.o8
 ft:∀c∈r.terms,c.bo
 lf:aE w 4 r.nu da.cells r.fixed
 iF:eT S r.nu
 ff:∀c∈r.fixed,c.bo
 lv:aE w 2 r.hvars Vr.cells r.vars
 iv:eT S r.hvars
 fv:∀c∈r.vars,c.bo
 ld:aE w 14 r.hconds bm.cells r.conds
 iD:eT S r.hconds
 fd:∀c∈r.conds,c.bo
 ex:dK w S r.e
 ok:cb r.kind/\aJ r.name/\cb r.at_/\aJ r.table/\aJ r.attr/\cb r.bh/\cb r.n/\cb r.m/\aJ r.other/\aJ r.k6
theorem cW.mono {w:ah} {S S':Nat->Prop} {r:RI} (a:cW w S r) (b:∀c,S c->S' c):cW w S' r:=
 ⟨a.lc,a.ic.mono b,a.fc,a.ln,a.iN.mono b,a.lt,a.it.mono b,a.ft,a.lf,a.iF.mono b,a.ff,a.lv,a.iv.mono b,a.fv,a.ld,a.iD.mono b,a.fd,a.ex.mono b,a.ok⟩
theorem cW.keep {w d:ah} {S:Nat->Prop} {e:RI} (a:cW w S e) {l:List Nat} (k:Kp l w d) (c:∀b∈l,¬S b):cW d S e:=
 ⟨a.lc.kg k (λb d e f g=>c b g (a.ic b d e f)),a.ic,a.fc,⟨a.ln.1.kg k (λb d e f g=>c b g (a.iN b d e f)),a.ln.2⟩,a.iN,a.lt.kg k (λb d e f g=>c b g (a.it b d e f)),a.it,a.ft,a.lf.kg k (λb d e f g=>c b g (a.iF b d e f)),a.iF,a.ff,
  a.lv.kg k (λb d e f g=>c b g (a.iv b d e f)),a.iv,a.fv,a.ld.kg k (λb d e f g=>c b g (a.iD b d e f)),a.iD,a.fd,a.ex.keep k c,a.ok⟩
def RI.start (a:Int) (b:ax) (c:Int):RI:=⟨a,b,c,e0,e0,aL,[],aL,[],0,0,0,aL,[],e0,e0,aL,[],aL,[],aL,[],RE.zero⟩
theorem C7 (a:ah) (b:Nat->Prop):dK a b RE.zero:=
 .mk (aE.none_ a 9 _) (bc.none_ _ _ _) (λ_ h=>by cases h) (aE.none_ a 14 _) (bc.none_ _ _ _) (λ_ h=>by cases h) (kh a) (bc.none_ _ _ _) (bY _ au) (bY _ au) (bY _ au) ⟨by omega,by omega⟩ ⟨by omega,by omega⟩ ⟨by omega,by omega⟩
theorem iI (w:ah) (S:Nat->Prop) (a:Int) (b:ax) (c:Int) (d:cb a) (e:aJ b) (f:cb c):cW w S (RI.start a b c):=
 ⟨aE.none_ w 5 _,bc.none_ _ _ _,(λ_ h=>by cases h),kh w,bc.none_ _ _ _,aE.none_ w 7 _,bc.none_ _ _ _,(λ_ h=>by cases h),aE.none_ w 4 _,bc.none_ _ _ _,(λ_ h=>by cases h),aE.none_ w 2 _,bc.none_ _ _ _,(λ_ h=>by cases h),
  aE.none_ w 14 _,bc.none_ _ _ _,(λ_ h=>by cases h),C7 w S,d,e,f,bY _ au,bY _ au,⟨by show _<=(0:Int);omega,by show(0:Int)<=_;omega⟩,⟨by show _<=(0:Int);omega,by show(0:Int)<=_;omega⟩,⟨by show _<=(0:Int);omega,by show(0:Int)<=_;omega⟩,bY _ au,bY _ au⟩
def jw (b c:Nat) (d:aB) (a:aA) (w:ah):Prop:=a=.tuple #[]/\∃a:RI,a.it=d/\aa w c 95 a.cells.toArray/\cW w (Bw b w.heap.size) a
def we (c:ah) (a:Nat) (d:List (Int×Nat)) (b:ce×Int) (i:Int) (e:Ending) (f:ah):Prop:=
 Kp (dC a d) c f/\(∃g,ea f a g b.1/\∀f∈dC a g,f∈dC a d\/c.heap.size<=f)/\((b.2=0/\e=.returned (.tuple #[]))\/(b.2≠0/\e=.panicked [{v:=fD b.2 i,recovered:=false}]))
theorem ea.more {q j:ah} {f g:Nat} {c:List (Int×Nat)} {r:ce} (h:ea q f c r) (k:Int) (m:∀p∈c,p.1≠k) (v:f≠g) (s:∀p∈c,p.2≠g) (w:Kp [f] q j) (q:cR (.int .i64) j f ((c.map λp=>(.int .i64 p.1,.map (some p.2)))++[(.int .i64 k,.map (some g))])) (x:cR .string j g []):ea j f (c++[(k,g)]) r:=by
 refine⟨by rw[List.map_append];exact q,λp a=>?_,λn l p o e d b=>?_,λp a=>?_,λy t i=>?_⟩
 ·rcases cP a with a|a
  ·obtain⟨f,g,j⟩:=h.inner p a
   exact⟨f,g.kp w (by simpa using h.out p a),j⟩
  rw[aC a];refine⟨[],x,λt=>⟨λi=>(by cases i),λi=>?_⟩⟩;obtain⟨p,a,b⟩:=h.all _ _ i;exact absurd b (m p a)
 ·by_cases f:n<c.length
  ·rw[List.getElem?_append_left f]at e
   by_cases f:l<c.length
   ·rw[List.getElem?_append_left f]at d
    exact h.one n l p o e d b
   rw[List.getElem?_append_right af]at d;have u:=aC (List.mem_of_getElem? d);subst u;have a:=List.mem_of_getElem? e;rcases b with b|b
   ·exact absurd b (m p a)
   exact absurd b (s p a)
  rw[List.getElem?_append_right af]at e;have a:=aC (List.mem_of_getElem? e);have f:n-c.length<1:=by
   have:=(List.getElem?_eq_some_iff.1 e).1;simpa using this
  subst a;by_cases e:l<c.length
  ·rw[List.getElem?_append_left e]at d
   have u:=List.mem_of_getElem? d;rcases b with b|b
   ·exact absurd b.symm (m o u)
   exact absurd b.symm (s o u)
  rw[List.getElem?_append_right af]at d;have c:l-c.length<1:=by
   have:=(List.getElem?_eq_some_iff.1 d).1;simpa using this
  omega
 ·rcases cP a with a|a
  ·exact h.out p a
  rw[aC a];exact λc=>v c.symm
 obtain⟨p,a,b⟩:=h.all y t i;exact⟨p,kk (.inl a),b⟩
theorem ea.add {p g:ah} {q b:Nat} {l:List (Int×Nat)} {i:ce} (h:ea p q l i) {c:Int} (f:(c,b)∈l) {j:bk} (u:∀a,a∈j↔(c,a)∈i) (k:ax) (r:Kp [b] p g) (v:cR .string g b ((j.map λa=>(.string a,.bool true))++[(.string k,.bool true)])):ea g q l ((c,k)::i):=by
 refine⟨h.m.kp r (by simpa using λd=>h.out _ f d.symm),λd n=>?_,h.one,h.out,λw a x=>?_⟩
 ·by_cases o:d.2=b
  ·obtain⟨g,i,s⟩:=List.mem_iff_getElem.1 n
   obtain⟨p,q,t⟩:=List.mem_iff_getElem.1 f;have y:=h.one g p d (c,b) (by rw[List.getElem?_eq_getElem i,s]) (by rw[List.getElem?_eq_getElem q,t]) (.inr o);subst y;have z:d=(c,b):=by rw[<-s,t]
   subst z;refine⟨j++[k],by rw[List.map_append];exact v,λa=>?_⟩;rw[List.mem_append,List.mem_singleton,u a,List.mem_cons];constructor
   ·rintro(e|rfl)
    ·exact .inr e
    exact .inl rfl
   rintro(e|e)
   ·injection e with _ e;exact .inr e
   exact .inl e
  obtain⟨i,g,j⟩:=h.inner d n;refine⟨i,g.kp r (by simpa using o),λa=>?_⟩;rw[j a,List.mem_cons];constructor
  ·exact .inr
  rintro(e|e)
  ·injection e with e _
   obtain⟨g,i,s⟩:=List.mem_iff_getElem.1 n;obtain⟨j,k,t⟩:=List.mem_iff_getElem.1 f;have y:=h.one g j d (c,b) (by rw[List.getElem?_eq_getElem i,s]) (by rw[List.getElem?_eq_getElem k,t]) (.inl e);subst y;have b:d=(c,b):=by rw[<-s,t]
   exact absurd (by rw[b]) o
  exact e
 rcases de x with e|e
 ·injection e with e _
  exact⟨_,f,e.symm⟩
 exact h.all w a e
theorem wg (a:ce) (b:Int) (c:ax):dd a b c=true↔(b,c)∈a:=by
 unfold dd;rw[List.any_eq_true];constructor
 ·rintro⟨a,a,h⟩
  simp at h;rw[<-h.1,<-h.2];exact a
 intro h;exact⟨_,h,by simp⟩
theorem C8 (a:ah):(binOp BinOp.eql 206 (.map none) (.map none)).run prog a=.ok (.bool true) a:=am
theorem C9 (a:ah) (b:Nat):(binOp BinOp.eql 206 (.map (some b)) (.map none)).run prog a=.ok (.bool false) a:=am
theorem ea.mark {e:ah} {s c:Nat} {j:List (Int×Nat)} {b:ce} (h:ea e s j b) {k:Int} (f:(k,c)∈j) (a:ax):
 ∃d t,(Instr.lookup 206 (.map (some c)) a false).run prog e=.ok (.bool (dd b k a)) e/\(Instr.mapUpdate 206 (.map (some c)) a (.bool true)).run prog e=.ok () d/\Kp [c] e d/\ea d s j t/\
  (if dd b k a then(b,9)else((k,a)::b,(0:Int)))=(t,if dd b k a then 9 else 0):=by
 obtain⟨B,l,g⟩:=h.inner _ f;rcases l.look (P:=prog) (T:=206) underlying206 underlying9 (.bool false) zeroValue4 a trivial with⟨u,n⟩|⟨v,F,o,n⟩
 ·have i:¬(k,a)∈b:=λe=>u (.string a,.bool true) (List.mem_map.2 ⟨a,(g a).2 e,rfl⟩) rfl
  have p:dd b k a=false:=by
   cases hq:dd b k a with
   |false=>rfl
   |true=>exact absurd ((wg b k a).1 hq) i
  obtain⟨d,i,j,e⟩:=l.push (P:=prog) (T:=206) underlying206 underlying9 a (.bool true) trivial u;rw[p];exact⟨d,_,n false,i,e,h.add f g a e j,rfl⟩
 have w:=List.mem_of_getElem? o;obtain⟨p,C,q⟩:=List.mem_map.1 w;injection q with e1 e2
 injection e1 with e1
 subst e1 e2;have a:=(g p).1 C;rw[(wg b k p).2 a];obtain⟨d,a,D,r⟩:=l.again (P:=prog) (T:=206) underlying206 underlying9 p (.bool true) trivial ⟨_,w,rfl⟩ (λa a _=>by obtain⟨e,_,a⟩:=List.mem_map.1 a;rw[<-a]);refine⟨d,b,n false,a,r,⟨h.m.kp r (by simpa using λa=>h.out _ f a.symm),λi x=>?_,h.one,h.out,h.all⟩,rfl⟩;by_cases y:i.2=c
 ·obtain⟨a,b,z⟩:=List.mem_iff_getElem.1 x
  obtain⟨v,o,A⟩:=List.mem_iff_getElem.1 f;have E:=h.one a v i (k,c) (by rw[List.getElem?_eq_getElem b,z]) (by rw[List.getElem?_eq_getElem o,A]) (.inr y);subst E;have q:i=(k,c):=by rw[<-z,A]
  subst q;exact⟨B,D,g⟩
 obtain⟨a,b,c⟩:=h.inner i x;exact⟨a,b.kp r (by simpa using y),c⟩
theorem Da (x b:Nat) (D:RI) (aH aI aK aL aN aO aP:aA) (j:Int) (l:List (Int×Nat)) (a:ce) (i:ah) (I:aa i x 157 #[aH,aI,aK,aL,aN,aO,aP,.map (some b),j]) (J:ea i b l a) (aQ:aJ D.name):
 Calls prog 61 #[ak x,.agg D.cells.toArray] i λd w'=>we i b l (bL a D.it) j d w':=by
 obtain⟨u,ai⟩:=av (bL a D.it);rw[<-ai];obtain⟨e,g,aR,aT,aU,⟨aV,aW,aX⟩,bU,⟨aZ,a0,a1⟩,cb,a2,a3,a4,⟨a5,a6,a7⟩,cc,a8,a9,⟨ba,bc,bd⟩,cd,⟨bh,bi,bj⟩,cf,⟨bk,bl,bm⟩,cg,⟨bo,bp,⟨bq,br,bs⟩,ch,⟨bt,bu,bv⟩,ci,⟨bw,bx,bz⟩,cj,bA,bB,bD,bE⟩⟩:=D;have K:Hid (u=if aY e 1 10 then if e=5 then(a,0)else if bC g then(if dd a (ei e) g then(a,9)else((ei e,g)::a,0))else(a,1)else(a,1)):=Z ai;have D:=aQ;have bS:=Z D;have L:=Z J;have bT:=Z I;have bU:=I.lt;have bF:∀c∈dC b l,c≠x:=λc q d=>J.vi q (t:=157) (cs:=#[aH,aI,aK,aL,aN,aO,aP,.map (some b),j]) (by rw[d];exact I);have al:=J.lt;clear ai aQ D J I;have D:=bb bU;have D:i.heap.size<=i.heap.size:=Nat.le_refl _;have bV:=Z (Kp.refl [] i);have an:=Z (λ(p:ah) (w:Kp [] i p) (f:ce×Int) (n:Ending) (y:f.1=a) (z:(f.2=0/\n=.returned (.tuple #[]))\/(f.2≠0/\n=.panicked [{v:=fD f.2 j,recovered:=false}]))=>(show we i b l f j n p from⟨w.mono (λ_ h=>by cases h),⟨l,by rw[y];exact L.out.kp w (λ_ h=>by cases h),λc q=>.inl q⟩,z⟩));show Calls prog 61 #[ak x,.agg #[e,g,aR,aT,aU,O aV aW aX,O aZ a0 a1,a2,a3,a4,O a5 a6 a7,a8,a9,O ba bc bd,O bh bi bj,O bk bl bm,bo,bp,O bq br bs,O bt bu bv,O bw bx bz,bA,bB,bD,bE]] i _;go_enter func61,ntmps61
 go_upto_region 1 with(fail)
 obtain⟨p,D,y,f,I⟩:=nb i 95 _;rw[D];clear D;have n:=qk bV f;have z:=qb f bT;have D:=n.size;clear f;have bG:=ay y;have bW:=aa.lt y;have M:=b4 z;have bX:=aa.lt z;clear I;have N:=Z (fM e 1 10 p);obtain⟨bY,D⟩:=av (aY e 1 10);rw[<-D]at N K;clear D;cases bY
 case false=>
  go_wp2_with fail
  refine N.mono ?_;rintro d w' ⟨rfl,rfl⟩;go_wp2_with fail
  refine fN (R:=RO.ap false 1 j (.ok ())) n rfl M ?_ (λ_ h=>by cases h);intro _ _;go_wp2;refine⟨rfl,?_⟩;rw[show u=(a,1)from K.out];exact an _ n _ _ rfl (.inr ⟨aj,rfl⟩)
 go_wp2_with fail
 refine N.mono ?_;rintro d w' ⟨rfl,rfl⟩;go_wp2_with fail
 refine fN (R:=RO.ap true 1 j (.ok ())) n rfl M (λ_ h=>by cases h) ?_;intro _ _;clear N;have Q:Hid (u=if e=5 then(a,0)else if bC g then(if dd a (ei e) g then(a,9)else((ei e,g)::a,0))else(a,1)):=K;clear K;by_cases A:e=5
 case pos=>
  have B:(e==5)=true:=by simp[A]
  have w:=Z (show u=(a,0) by rw[Q.out,if_pos A]);clear A Q;go_wp2;refine bodyPost_ret (results_none rfl _ _ _) rfl ?_;rw[w.out];exact an _ n _ _ rfl (.inl ⟨rfl,rfl⟩)
 have bZ:(e==5)=false:=by simp[A]
 have S:=Z (show u=if bC g then(if dd a (ei e) g then(a,9)else((ei e,g)::a,0))else(a,1) by rw[Q.out,if_neg A]);clear A Q;have A:=aS y;have bW:=aa.lt y;have U:=Z (qt g p bS);obtain⟨b0,A⟩:=av (bC g);rw[<-A]at U S;clear A;cases b0
 case false=>
  go_wp2_with fail
  refine U.mono ?_;rintro d w' ⟨rfl,rfl⟩;go_wp2_with fail
  refine fN (R:=RO.ap false 1 j (.ok ())) n rfl M ?_ (λ_ h=>by cases h);intro _ _;go_wp2;refine⟨rfl,?_⟩;rw[show u=(a,1)from S.out];exact an _ n _ _ rfl (.inr ⟨aj,rfl⟩)
 go_wp2_with fail
 refine U.mono ?_;rintro d w' ⟨rfl,rfl⟩;go_wp2_with fail
 refine fN (R:=RO.ap true 1 j (.ok ())) n rfl M (λ_ h=>by cases h) ?_;intro _ _;have aq:Hid (u=if dd a (ei e) g then(a,9)else((ei e,g)::a,0)):=S;clear S U bZ;obtain⟨sk,u⟩:=av (ei e);have bH:Hid (Rq 110 #[e] (.int .i64 sk)):=Z (λw=>by rw[u];exact Cr e w);rw[<-u]at aq;clear u;go_upto_region 4 with(fail)
 have bI:=b7 z;have bX:=aa.lt z;refine dP 9 bI bG λhS=>?_;refine dX ?_;refine mo ?_;refine eb 6 (λar w=>?_);go_simp;refine(bH _).mono ?_;rintro d w' ⟨rfl,rfl⟩;try go_simp
 refine w _ _ (λ_=>hS) ?_;refine aw ?_;have b1:=Z (L.kp (k:=[]) n.drew (λ_ h=>by cases h));rcases b1.out.m.look (P:=prog) (T:=155) underlying155 underlying3 (.map none) zeroValue206 sk rfl with⟨ax,V⟩|⟨ck,b2,b3,V⟩
 case' inl=>
  have aG:(Instr.lookup 155 (.map (some b)) sk false).run prog p.drew=.ok (.map none) p.drew:=V false
 case' inr=>
  have q:∃c,b2=.map (some c)/\(sk,c)∈l:=by
   have u:=List.mem_of_getElem? b3;obtain⟨B,W,X⟩:=List.mem_map.1 u;injection X with e1 e2
   injection e1 with _ e1
   exact⟨B.2,e2.symm,by rw[<-e1];exact W⟩
  obtain⟨c,rfl,bR⟩:=q;have aG:(Instr.lookup 155 (.map (some b)) sk false).run prog p.drew=.ok (.map (some c)) p.drew:=V false
 all_goals
  clear V;refine aM 7 (λar w=>?_);go_simp;refine w _ _ (λ_=>hS) ?_;refine aw ?_;refine tk 8 hS ?_;refine gS am ?_ _;clear aG hS bI bG
 case' inl=>
  have f:=Z ((ag.refl p).drew);obtain⟨B,u⟩:=av p.drew;rw[<-u]at f⊢;clear u;have bJ:=qk n f;have b5:=qb f z;have b6:=qb f y;have u:=bJ.size;clear f;have b8:=@run_makeMap prog;have b9:=C8;go_upto_region 7 with(fail)
  clear b8 b9;have M3:=Z (cR.made .string B);have f:=Z (show ag B (B.alloc (.map #[] 0))from(ag.refl B).alloc _);obtain⟨bK,u⟩:=av (B.alloc (.map #[] 0));rw[<-u]at M3 f⊢;clear u;have az:=qk bJ f;have aB:=qb f b5;have aD:=qb f b6;have u:=az.size;obtain⟨c,q⟩:=av B.heap.size;rw[<-q]at M3⊢;have u:i.heap.size<=c:=af
  clear q f;have bM:=b7 aB;have q:=aa.lt aB;have bN:=ay aD;have q:=aa.lt aD;refine dP 8 bM bN λhS=>?_;refine dX ?_;refine mo ?_;refine tk 7 hS ?_;refine eb 6 (λar w=>?_);go_simp;refine(bH _).mono ?_;rintro d w' ⟨rfl,rfl⟩;try go_simp
  refine w _ _ (λ_=>hS) ?_;refine aw ?_;have aE:=Z (L.kp (k:=[]) az.drew (λ_ h=>by cases h));have bO:∀q∈l,q.1≠sk:=λq u d=>ax (.int .i64 q.1,.map (some q.2)) (List.mem_map.2 ⟨q,u,rfl⟩) (by rw[d]);obtain⟨E,ca,bP,W⟩:=aE.m.push (P:=prog) (T:=155) underlying155 underlying3 sk (.map (some c)) rfl ax;have aF:b≠c:=λd=>by have:=al b (List.mem_cons_self ..);omega
  have bQ:∀q∈l,q.2≠c:=λq u d=>by have:=al q.2 (List.mem_cons_of_mem _ (List.mem_map.2 ⟨q,u,rfl⟩));omega
  obtain⟨o,X⟩:=av (l++[(sk,c)]);have r:Hid (ea E b o a):=Z (by rw[X];exact aE.out.more sk bO aF bQ W bP (M3.out.kp (k:=[b]) (((Kp.refl [b] bK).drew).trans W) (by simpa using λd=>aF d.symm)));have F:(sk,c)∈o:=by rw[X];simp
  have Y:=((Kp.refl [b] bK).drew).trans W;have G:=Z ((az.mono (l':=dC b l) (λ_ h=>by cases h)).trans (Y.mono (λq q=>by rw[aC q];exact List.mem_cons_self ..)));have C:∀ab∈dC b o,ab∈dC b l\/i.heap.size<=ab:=by
   intro ab ad;rw[X]at ad;unfold dC at ad;rw[List.map_append]at ad;rcases de ad with h|h
   ·exact .inl (by rw[h];exact List.mem_cons_self ..)
   rcases cP h with h|h
   ·exact .inl (List.mem_cons_of_mem _ h)
   have:ab=c:=by simpa using h
   exact .inr af
  have q:=bF b (List.mem_cons_self ..);have u:=al b (List.mem_cons_self ..);have H:=Z (Y.blk aB (by simp;exact λd=>q d.symm));have s:=bn Y aD;refine aM 8 (λar w=>?_);go_simp;refine w _ _ (λh=>absurd h au) ?_;refine aw ?_;refine gS am ?_ _;clear ca bP W Y X ax bO aE bQ aF hS bM bN M3
 case' inr=>
  have f:=Z ((ag.refl p).drew);obtain⟨Y,p⟩:=av p.drew;rw[<-p]at f⊢;clear p;have W:=qk n f;have ab:=qb f z;have ad:=qb f y;have n:=W.size;clear f;have az:=C9;go_upto_region 8 with(fail)
  clear az;obtain⟨E,X⟩:=av Y;obtain⟨o,B⟩:=av l;have F:(sk,c)∈o:=by rw[B];exact bR
  have r:=Z (L.kp W (λ_ h=>by cases h));have G:=Z (W.mono (l':=dC b l) (λ_ h=>by cases h));have C:∀f∈dC b o,f∈dC b l\/i.heap.size<=f:=λf f=>.inl (by rw[B]at f;exact f);have H:=ab;have s:=ad;rw[<-X]at r G H s⊢;have f:Hid (ea E b o a):=by rw[B];exact r
  clear X B r;have r:=f;clear f
 all_goals
  obtain⟨ab,u5,ad,bK,B,az,aB⟩:=r.mark F g;have X:=Z (aq.trans aB);obtain⟨bM,aD⟩:=av (dd a sk g);rw[<-aD]at ad X;have Y:c∈dC b o:=List.mem_cons_of_mem _ (List.mem_map.2 ⟨_,F,rfl⟩);have bN:c≠x:=by
   rcases C c Y with h|h
   ·exact bF c h
   omega
  have W:=Z (B.old G.out (λa a b=>by
   rw[aC a]at b⊢;exact(C c Y).resolve_right af))
  have aE:ae ab (ac x 8) j:=aa.cell (B.blk H (by simpa using λd=>bN d.symm)) 8;have a:=aS s;have a:=aa.lt s;have a:c≠i.heap.size:=λd=>by
   have b:¬aa E c 95 #[e,g,aR,aT,aU,O aV aW aX,O aZ a0 a1,a2,a3,a4,O a5 a6 a7,a8,a9,O ba bc bd,O bh bi bj,O bk bl bm,bo,bp,O bq br bs,O bt bu bv,O bw bx bz,bA,bB,bD,bE]:=r.vi Y;exact b (by rw[d];exact s.out)
  have a:ae ab (ao i 1) g:=aa.cell (B.blk s (by simpa using λd=>a d.symm)) 1;have aF:=Z az;have bJ:=Z C;clear C aD aB az B aq r F G H s;go_upto_region 10 with(fail)
  clear ad bK;cases bM
  case true=>
   go_wp2_with fail
   refine fN (R:=RO.ap false 9 j (.ok ())) W rfl aE ?_ (λ_ h=>by cases h);intro _ _;go_wp2;refine⟨rfl,?_⟩;rw[X.out];exact⟨W,⟨o,aF,bJ⟩,.inr ⟨aj,rfl⟩⟩
  go_wp2_with fail
  refine fN (R:=RO.ap true 9 j (.ok ())) W rfl aE (λ_ h=>by cases h) ?_;intro _ _;go_wp2;refine bodyPost_ret (results_none rfl _ _ _) rfl ?_;rw[X.out];exact⟨W,⟨o,aF,bJ⟩,.inl ⟨rfl,rfl⟩⟩
def mq:List (Value×Value):=[(.int .i64 2,.func (.func 114) #[] #[]),(.int .i64 3,.func (.func 115) #[] #[]),(.int .i64 4,.func (.func 116) #[] #[]),(.int .i64 5,.func (.func 117) #[] #[]),(.int .i64 6,.func (.func 118) #[] #[]),(.int .i64 7,.func (.func 119) #[] #[]),(.int .i64 8,.func (.func 120) #[] #[]),(.int .i64 9,.func (.func 121) #[] #[]),(.int .i64 10,.func (.func 122) #[] #[])]
def gI (a:Int):Option Value:=
 if a=2 then some (.func (.func 114) #[] #[])else if a=3 then some (.func (.func 115) #[] #[])else if a=4 then some (.func (.func 116) #[] #[])else if a=5 then some (.func (.func 117) #[] #[])else if a=6 then some (.func (.func 118) #[] #[])else if a=7 then some (.func (.func 119) #[] #[])else if a=8 then some (.func (.func 120) #[] #[])else if a=9 then some (.func (.func 121) #[] #[])else if a=10 then some (.func (.func 122) #[] #[])else none
def sm (a:Nat):Array MapEntry:=(([114,115,116,117,118,119,120,121,122].take a).zipIdx.map λ(b,a)=>(⟨.int .i64 (a+2:Nat),.func (.func b) #[] #[],a⟩:MapEntry)).toArray
theorem Db (a:ah):(Instr.mapUpdate 160 (.map (some a.heap.size)) (J 2) (.func (.func 114) #[] #[])).run prog (a.alloc (.map #[] 0))=.ok () (a.alloc (.map (sm 1) 1)):=
 d0 (P:=prog) (T:=160) underlying160 underlying3 a #[] 0 _ _ rfl rfl
theorem Dc (a:ah):(Instr.mapUpdate 160 (.map (some a.heap.size)) (J 3) (.func (.func 115) #[] #[])).run prog (a.alloc (.map (sm 1) 1))=.ok () (a.alloc (.map (sm 2) 2)):=
 d0 (P:=prog) (T:=160) underlying160 underlying3 a (sm 1) 1 _ _ rfl rfl
theorem Dd (a:ah):(Instr.mapUpdate 160 (.map (some a.heap.size)) (J 4) (.func (.func 116) #[] #[])).run prog (a.alloc (.map (sm 2) 2))=.ok () (a.alloc (.map (sm 3) 3)):=
 d0 (P:=prog) (T:=160) underlying160 underlying3 a (sm 2) 2 _ _ rfl rfl
theorem De (a:ah):(Instr.mapUpdate 160 (.map (some a.heap.size)) (J 5) (.func (.func 117) #[] #[])).run prog (a.alloc (.map (sm 3) 3))=.ok () (a.alloc (.map (sm 4) 4)):=
 d0 (P:=prog) (T:=160) underlying160 underlying3 a (sm 3) 3 _ _ rfl rfl
theorem Df (a:ah):(Instr.mapUpdate 160 (.map (some a.heap.size)) (J 6) (.func (.func 118) #[] #[])).run prog (a.alloc (.map (sm 4) 4))=.ok () (a.alloc (.map (sm 5) 5)):=
 d0 (P:=prog) (T:=160) underlying160 underlying3 a (sm 4) 4 _ _ rfl rfl
theorem Dg (a:ah):(Instr.mapUpdate 160 (.map (some a.heap.size)) (J 7) (.func (.func 119) #[] #[])).run prog (a.alloc (.map (sm 5) 5))=.ok () (a.alloc (.map (sm 6) 6)):=
 d0 (P:=prog) (T:=160) underlying160 underlying3 a (sm 5) 5 _ _ rfl rfl
theorem Dh (a:ah):(Instr.mapUpdate 160 (.map (some a.heap.size)) (J 8) (.func (.func 120) #[] #[])).run prog (a.alloc (.map (sm 6) 6))=.ok () (a.alloc (.map (sm 7) 7)):=
 d0 (P:=prog) (T:=160) underlying160 underlying3 a (sm 6) 6 _ _ rfl rfl
theorem Di (a:ah):(Instr.mapUpdate 160 (.map (some a.heap.size)) (J 9) (.func (.func 121) #[] #[])).run prog (a.alloc (.map (sm 7) 7))=.ok () (a.alloc (.map (sm 8) 8)):=
 d0 (P:=prog) (T:=160) underlying160 underlying3 a (sm 7) 7 _ _ rfl rfl
theorem Dj (a:ah):(Instr.mapUpdate 160 (.map (some a.heap.size)) (J 10) (.func (.func 122) #[] #[])).run prog (a.alloc (.map (sm 8) 8))=.ok () (a.alloc (.map (sm 9) 9)):=
 d0 (P:=prog) (T:=160) underlying160 underlying3 a (sm 8) 8 _ _ rfl rfl
theorem Dk (a:ah):cR (.int .i64) (a.alloc (.map (sm 9) 9)) a.heap.size mq:=
 ⟨(sm 9),9,fK _ _,rfl,(List.forall_mem_cons.2 ⟨rfl,(List.forall_mem_cons.2 ⟨rfl,(List.forall_mem_cons.2 ⟨rfl,(List.forall_mem_cons.2 ⟨rfl,(List.forall_mem_cons.2 ⟨rfl,(List.forall_mem_cons.2 ⟨rfl,(List.forall_mem_cons.2 ⟨rfl,(List.forall_mem_cons.2 ⟨rfl,(List.forall_mem_cons.2 ⟨rfl,(λ_ h=>by cases h)⟩)⟩)⟩)⟩)⟩)⟩)⟩)⟩)⟩)⟩
theorem Dl {b:ah} {d:Nat} (h:cR (.int .i64) b d mq) (c:Int):
 (gI c=none/\(Instr.lookup 160 (.map (some d)) c false).run prog b=.ok .nilFunc b)\/
 ∃v,gI c=some v/\(Instr.lookup 160 (.map (some d)) c false).run prog b=.ok v b:=by
 rcases h.look (P:=prog) (T:=160) underlying160 underlying3 .nilFunc zeroValue162 c rfl with⟨e,a⟩|⟨g,v,e,a⟩
 ·refine .inl ⟨?_,a false⟩
  simp[mq]at e;unfold gI;rw[if_neg af,if_neg af,if_neg af,if_neg af,if_neg af,if_neg af,if_neg af,if_neg af,if_neg af]
 refine .inr ?_;have f:=List.mem_of_getElem? e;simp[mq]at f;rcases f with⟨rfl,rfl⟩|⟨rfl,rfl⟩|⟨rfl,rfl⟩|⟨rfl,rfl⟩|⟨rfl,rfl⟩|⟨rfl,rfl⟩|⟨rfl,rfl⟩|⟨rfl,rfl⟩|⟨rfl,rfl⟩
 ·exact⟨_,rfl,a false⟩
 ·exact⟨_,rfl,a false⟩
 ·exact⟨_,rfl,a false⟩
 ·exact⟨_,rfl,a false⟩
 ·exact⟨_,rfl,a false⟩
 ·exact⟨_,rfl,a false⟩
 ·exact⟨_,rfl,a false⟩
 ·exact⟨_,rfl,a false⟩
 exact⟨_,rfl,a false⟩
theorem Dm (a:ah):Calls prog 63 #[] a λc b=>c=.returned (.map (some a.heap.size))/\ag a b/\cR (.int .i64) b a.heap.size mq:=by
 have b:=@run_makeMap prog;have b:=Db a;have b:=Dc a;have b:=Dd a;have b:=De a;have b:=Df a;have b:=Dg a;have b:=Dh a;have b:=Di a;have b:=Dj a;have M3:=Z (Dk a);have d:=Z (show ag a (a.alloc (.map (sm 9) 9))from(ag.refl a).alloc _);go_enter func63,ntmps63
 go_wp2;refine⟨rfl,.map (some a.heap.size),?_,rfl,d.out,M3.out⟩;simp[results,results63,go_sem]
theorem Dn (a:ah):(binOp BinOp.neq 162 .nilFunc .nilFunc).run prog a=.ok (.bool false) a:=am
theorem Do (a:ah) (b:Fn) (c d:aQ):(binOp BinOp.neq 162 (.func b c d) .nilFunc).run prog a=.ok (.bool true) a:=am
def Og.cells (o:Og):List Value:=[.string o.name,.int .i64 o.trust]
def Bk.cells (a:Bk):List Value:=[.string a.name,.int .i64 a.table,.int .i64 a.col,.int .i64 a.bh,.int .i64 a.n,.int .i64 a.m]
def Wg.cells (x:Wg):List Value:=[.int .i64 x.col,.int .i64 x.meas,.int .i64 x.jW,.int .i64 x.num,.int .i64 x.den,.int .i64 x.gives,.int .i64 x.takes]
def dV.cells (k:dV):List Value:=[.int .i64 k.table,.int .i64 k.col,.int .i64 k.bh]
def Sd.cells (s:Sd):List Value:=[.int .i64 s.var,.int .i64 s.col,.int .i64 s.v.k,.int .i64 s.v.n,.string s.v.s]
def cG.cells (t:cG):List Value:=t.l.cells++(.int .i64 t.op::(t.r.cells++[.int .i64 t.add]))
def Fx.cells (f:Fx):List Value:=[.int .i64 f.col,.int .i64 f.v.k,.int .i64 f.v.n,.string f.v.s]
theorem b2 {w:ah} {d m n:Nat} {e:aX} {v:aA} {xs:aP} (f:w.ownsRow d e m v n xs):∀b,v.ownBlock=some b->d<=b/\b<w.heap.size:=by
 intro b a;rcases f.2 with⟨c,_⟩|⟨k,l,g,c,i,j,_⟩
 ·rw[c]at a;cases a
 rw[c]at a;injection a with a
 subst a;exact⟨i,aa.lt (t:=e) (cs:=g) j⟩
theorem fO {w a b:ah} {row:Option Nat} (h:Kp [] w a) (c:a.grownBy b row):Kp row.toList w b:=
 (h.mono (λ_ h=>by cases h)).grown c (λa a=>.inl (by rw[a];simp))
theorem cX {w b:ah} {row:Option Nat} {a:Addr} {c:aA} (d:Kp row.toList w b) (e:a.block<w.heap.size) (f:some a.block≠row) (h:ae w a c):ae b a c:=
 (
  d.cell e (by
  cases row with
  |none=>simp
  |some g=>simp;exact λa=>f (by rw[a]))).trans h
theorem bD {a b:ah} {row:Option Nat} {p:Addr} {v:aA} (k:Kp row.toList a b) (h:ae a p v) (c:p.block<a.heap.size:=by(show _<_;dsimp only;omega)) (a:some p.block≠row:=by(intro e;have h:=hrow _ e.symm;dsimp only at h;omega)):ae b p v:=cX k c a h
def fP {b:Type} (w d:ah) (e i:Nat) (j:aX) (k:Nat) (enc:b->List Value) (f:aU) (a g:Nat) (l:List b) (x:b) (m:Value->Array Value):Prop:=
 ∃b c,aa d e 157 (m (O b (a+1) c))/\d.ownsRow i j k (O b (a+1) c) (a+1) ((l++[x]).flatMap enc)/\Kp (e::(Value.slice f a g).ownBlock.toList) w d/\
  ((Value.slice b (a+1) c).ownBlock=(Value.slice f a g).ownBlock\/∃d,(Value.slice b (a+1) c).ownBlock=some d/\w.heap.size<=d)
theorem fP.jx {j:Type} {w m g:ah} {b n o a e c i:Nat} {q:aX} {enc:j->List Value} {f d:aU} {r:List j} {x:j} {j:Value->Array Value} (s:ag w m) (t:aa g b 157 (j (O f a e))) (u:g.ownsRow n q o (O d (a+1) c) (a+1) (r.flatMap enc++enc x))
 (k:Kp (Value.slice f a e).ownBlock.toList m g) (v:b<n) (v:(j (O f a e)).setIfInBounds i (O d (a+1) c)=j (O d (a+1) c))
 (y:(Value.slice d (a+1) c).ownBlock=(Value.slice f a e).ownBlock\/∃k,(Value.slice d (a+1) c).ownBlock=some k/\m.heap.size<=k):
 fP w (g.setCell (ac b i) (O d (a+1) c)) b n q o enc f a e r x j:=by
 refine⟨d,c,?_,?_,?_,?_⟩
 ·have:=t.aR i (O d (a+1) c)
  rw[v]at this;exact this
 ·rw[List.flatMap_append]
  have c:[x].flatMap enc=enc x:=aj
  rw[c];exact bG u (Kp.aI (l:=[b]) (p:=(ac b i)) aj (Kp.refl _ g) _) aF
 ·exact Kp.aI (p:=(ac b i)) aj (((Kp.of_same (l:=b::(Value.slice f a e).ownBlock.toList) s)).trans (k.mono (λa a=>List.mem_cons_of_mem _ a))) _
 rcases y with h|⟨z,h,A⟩
 ·exact .inl h
 exact .inr ⟨z,h,bJ s.size A⟩
def jy {b:Type} (w:ah) (e:RO b) (P:b->World->Prop) (c:Ending) (d:ah):Prop:=
 match e with
 |.ok x=>c=.returned (.tuple #[])/\P x d
 |.bad er a=>c=.panicked [{v:=fD er a,recovered:=false}]/\ag w d
end Go.Proofs.YteamkimbmdgdbaaGreatDoor

import Derived.Test.YteamkimbmdgdbaaGreatDoorK07
import Derived.Test.YteamkimbmdgdbaaGreatDoorK08
set_option linter.unusedSimpArgs false
set_option linter.unusedVariables false
set_option maxHeartbeats 16000000
set_option maxRecDepth 100000
namespace Go.Proofs.YteamkimbmdgdbaaGreatDoor
open Go.Proofs.Tryz
open Go.RowKit
def mw (c:Int) (i:Nat) (d:Int) (e:List Ex) (a:List ao):PO Ex:=
 (eA c i a).bind λb a=>(aW c a [⟨#[41]⟩]).bind λ_ a=>.ok (.mk (i+2) e0 e b.conds b.names b.attr b.cN b.agg d) a
def kg (b:Int) (e i:Nat) (c:Int) (d:Ex) (a:List ao):PO Ex:=
 if nk i=true then(aW b a [⟨#[44]⟩]).bind λ_ a=>(d7 b e a).bind λe a=>mw b i c [d,e] a else mw b i c [d] a
def sF (b:Int) (c i:Nat) (d:Int) (a:List ao):PO Ex:=(d7 b c a).bind λe a=>kg b c i d e a
theorem PO.bind_assoc {b c d:Type} (a:PO b) (f:b->List ao->PO c) (g:c->List ao->PO d):(a.bind f).bind g=a.bind λb c=>(f b c).bind g:=by cases a<;>rfl
theorem PO.bind_congr {d g:Type} (c:PO d) (e f:d->List ao->PO g) (h:∀a b,e a b=f a b):c.bind e=c.bind f:=by cases c with|bad=>rfl|ok a b=>exact h a b
theorem C2 (b:Int) (c:Nat) (a:List ao):d7 b (c+1) a=match hQ a 0 f8 with|none=>(bN b a).bind λd e=>.ok (.mk 1 d [] [] [] e0 e0 0 (cY a)) e|some i=>sF b c i (cY a) (a.drop 2):=by
 rw[d7];cases hQ a 0 f8 with
 |none=>rfl
 |some i=>
  refine PO.bind_congr _ _ _ λe d=>?_;show PO.bind (if nk i=true then _ else _) _=kg b c i (cY a) e d;unfold kg;rw[PO.qH];congr 1
  rw[PO.bind_assoc];refine PO.bind_congr _ _ _ λ_ d=>?_;rw[PO.bind_assoc];rfl
theorem C3 (b:List ao) (a:Nat) (c:a<7):hQ b a (f8.drop a)=if eJ b [mv a,⟨#[40]⟩]then some a else hQ b (a+1) (f8.drop (a+1)):=by
 have h:f8.drop a=mv a::f8.drop (a+1):=by
  match a,c with
  |0,_=>rfl
  |1,_=>rfl
  |2,_=>rfl
  |3,_=>rfl
  |4,_=>rfl
  |5,_=>rfl
  |6,_=>rfl
  |n+7,h=>omega
 rw[h];rfl
theorem C4 (d:Int) (a:List ao) (c:av) (h:eJ a [c,⟨#[40]⟩]=true):aW d a [c,⟨#[40]⟩]=.ok () (a.drop 2):=by
 cases a with
 |nil=>simp[eJ]at h
 |cons e a=>
  cases a with
  |nil=>simp[eJ]at h
  |cons b a=>
   simp only[eJ,Bool.and_eq_true]at h;have f:bB (e::b::a) c=true:=by rw[sw];exact h.1
   have g:bB (b::a) ⟨#[40]⟩=true:=by rw[sw];exact h.2.1
   show(if bB (e::b::a) c then aW d (b::a) [⟨#[40]⟩]else _)=_;rw[if_pos f];show(if bB (b::a) ⟨#[40]⟩then aW d a []else _)=_;rw[if_pos g];cases a<;>rfl
theorem C5 (a b:Nat):∃c d e,qJ a b=.func c d e:=by unfold qJ;split<;>exact⟨_,_,_,rfl⟩
theorem C6 (a:Nat):aJ (mv a):=by
 unfold mv;rw[List.getD_eq_getElem?_getD];cases h:f8[a]? with
 |none=>exact b2 _ ax
 |some b=>exact cG f8 ax b (List.mem_of_getElem? h)
theorem C7 (a:Nat) (b:a<7):bY ((a:Int)+2):=⟨by omega,by omega⟩
theorem C8 {b:ah} {a q:Addr} {c d:aA} (h:a.block≠q.block):(b.setCell a c).setCell q d=(b.setCell q d).setCell a c:=by
 unfold World.setCell;congr 1
 apply Array.ext_getElem?;intro b;simp only[Array.getElem?_modify];by_cases c:a.block=b<;>by_cases a:q.block=b<;>simp[c,a];omega
theorem nz {p:Addr} {a:aA}:∀(vs:bg) (g i:Nat) (w:ah),p.block≠g->bZ (w.setCell p a) g i vs=(bZ w g i vs).setCell p a
 |[],_,_,_,_=>rfl
 |v::vs,g,i,w,h=>by
  show bZ ((w.setCell p a).setCell (ac g i) v) g (i+1) vs=_;rw[C8 (q:=⟨g,i,none⟩) h];exact nz vs g (i+1) _ h
theorem jz {w:ah} {a:Nat} {t:aX} {cs:aQ} {m:Nat} (h:aa w a t cs) (c:cs.size=m):cD w (a+1) m (some ⟨a,0,none⟩) 1 cs.toList:=by
 refine⟨by simp[c],λ_=>⟨_,rfl,Nat.lt_succ_self _,λb c d=>?_⟩⟩;rw[show((⟨a,0,none⟩:Addr).add b)=⟨a,b,none⟩ by unfold Addr.add;split<;>simp_all];rw[aa.cell h b];simpa using d
structure dH (w W:ah) (P X r q p:Nat) (z:Int) (us:List ao) (cx cp:aQ):Prop where
 br:aa W r 93 #[J 0,ai,ab,ab,ab,ai,ai,J 0,J 0]
 bx:aa W X 93 cx
 bq:aa W q 127 #[ak P]
 bp:aa W p 325 cp
 k:Kp [P] w W
 pb:az W P z us
theorem dH.keep {w W f:ah} {c X d e p:Nat} {g:Int} {n i:List ao} {j m:aQ} (v:dH w W c X d e p g n j m) {l:List Nat} (k:Kp l W f) (b:∀a∈l,a≠X/\a≠d/\a≠e/\a≠p/\(a=c\/w.heap.size<=a)) (o:az f c g i):dH w f c X d e p g i j m:=
 ⟨k.blk v.br (λh=>(b d h).2.1 rfl),k.blk v.bx (λh=>(b X h).1 rfl),k.blk v.bq (λh=>(b e h).2.2.1 rfl),k.blk v.bp (λh=>(b p h).2.2.2.1 rfl),k.old v.k (λa q c=>by rcases(b a q).2.2.2.2 with h|h;simp[h];omega),o⟩
theorem fQ.C9 {d e i f:ah} {b p:Nat} {j c:aT} {a k g:Nat} {m:List RE} {n:RE} (q:fQ d b j a k m) (r:Kp [p] d e) (o:ag e i) (s:p<b) (p:b<=d.heap.size) (t:a<=1)
 (u:dG e (Bw d.heap.size e.heap.size) n) (v:f.ownsRow b 93 9 (O c (a+1) g) (a+1) (m.flatMap RE.cells++iM)) (w:i.grownBy f (Value.slice j a k).ownBlock)
 (x:(Value.slice c (a+1) g).ownBlock=(Value.slice j a k).ownBlock\/(Value.slice c (a+1) g).ownBlock=some i.heap.size):
 ∃d,c=some ⟨d,0,none⟩/\b<=d/\d<f.heap.size/\fQ (bZ f d (a*9) n.cells) b c (a+1) g (m++[n]):=
 q.push (r.trans (Kp.of_same o)) s p t ((u.keep (Kp.of_same (l:=[]) o) (λ_ h=>by cases h)).mono (λa h=>⟨h.1,aR h.2 o.size⟩)) v w x
theorem pd (g:Nat):∀(vs:bg) (i:Nat) (w a:ah),Kp [g] w a->Kp [g] w (bZ a g i vs)
 |[],_,_,_,h=>h
 |v::vs,i,w,_,h=>pd g vs (i+1) w _ (h.setCell (p:=(ac g i)) (.inl aj) v)
theorem dH.kid {t w w6 W e:ah} {c b m n p f:Nat} {u:Int} {B x:List ao} {z A:aQ} {q i:aT} {a r j:Nat} {rs:List RE} {y:RE} (v:dH t w c b m n p u B z A) (F:fQ w f q a r rs)
 (K:b<f) (B:m<f) (B:n<f) (B:p<f) (L:c<f) (M:f<=w.heap.size) (B:c≠b/\c≠m/\c≠n/\c≠p) (G:t.heap.size<=f) (G:t.heap.size<=b) (C:b≠m/\b≠n/\b≠p) (N:c<b) (P:a<=1)
 (G:Kp [c] w w6) (H:az w6 c u x) (D:ag w6 W) (Q:dG w6 (Bw w.heap.size w6.heap.size) y)
 (o:e.ownsRow f 93 9 (O i (a+1) j) (a+1) (rs.flatMap RE.cells++iM)) (s:W.grownBy e (Value.slice q a r).ownBlock)
 (w:(Value.slice i (a+1) j).ownBlock=(Value.slice q a r).ownBlock\/(Value.slice i (a+1) j).ownBlock=some W.heap.size):
 ∃g,i=some ⟨g,0,none⟩/\f<=g/\dH t e c b m n p u x z A/\fQ ((bZ e g (a*9) y.cells).setCell (ac b 2) (O i (a+1) j)) f i (a+1) j (rs++[y])/\
  dH t ((bZ e g (a*9) y.cells).setCell (ac b 2) (O i (a+1) j)) c b m n p u x (z.setIfInBounds 2 (O i (a+1) j)) A:=by
 obtain⟨g,R,S,_,T⟩:=F.C9 G D L M P Q o s w;have w:=v.keep G (λd h=>by rw[aB h];exact⟨B.1,B.2.1,B.2.2.1,B.2.2.2,.inl rfl⟩) H;have I:=w.keep (Kp.of_same (l:=[]) D) (λd h=>by cases h) (H.same D);have J:∀d,(Value.slice q a r).ownBlock=some d->f<=d:=by
  intro d h;obtain⟨_,_,_,U⟩:=bu F.own;rcases U with E|⟨V,E,X⟩
  ·rw[E]at h;cases h
  rw[E]at h;injection h with h;omega
 have f:Kp ((Value.slice q a r).ownBlock.toList) W e:=⟨s.os,s.tape,s.output,s.size,λd f w=>s.block d f (λf=>w (by rw[<-f];simp))⟩;have E:dH t e c b m n p u x z A:=I.keep f (λd h=>by
  have U:(Value.slice q a r).ownBlock=some d:=by
   cases fD:(Value.slice q a r).ownBlock with
   |none=>rw[fD]at h;simp at h
   |some y=>rw[fD]at h;simp at h;rw[h]
  have:=J d U;exact⟨by omega,by omega,by omega,by omega,.inr af⟩) (I.pb.grown s (λd h=>by have:=J d h;omega))
 have f:=pd g y.cells (a*9) e e (Kp.refl _ _);have c:az (bZ e g (a*9) y.cells) c u x:=az.jv af _ _ _ E.pb;have c:=E.keep f (λd h=>by rw[aB h];exact⟨by omega,by omega,by omega,by omega,.inr af⟩) c;have a:Kp [b] (bZ e g (a*9) y.cells) ((bZ e g (a*9) y.cells).setCell (ac b 2) (O i (a+1) j)):=(Kp.refl _ _).setCell (.inl aj) _;refine⟨g,R,S,E,T.keep a (λd h=>by rw[aB h];exact K),?_⟩;exact⟨a.blk c.br (by simp;exact λh=>C.1 h.symm),c.bx.aP 2 _,a.blk c.bq (by simp;exact λh=>C.2.1 h.symm),a.blk c.bp (by simp;exact λh=>C.2.2 h.symm),a.old c.k (λd h a=>by rw[aB h]at a;omega),az.set (p:=(ac b 2)) N c.pb _⟩
theorem dH.Da {b W:ah} {c a d e p:Nat} {i:Int} {l:List ao} {m n:aQ} (v:dH b W c a d e p i l m n) (f:b.heap.size<=a) (o:c<a) (f:a≠d/\a≠e/\a≠p) (j:Nat) (g:aA):dH b (W.setCell (ac a j) g) c a d e p i l (m.setIfInBounds j g) n:=by
 have b:Kp [a] W (W.setCell (ac a j) g):=(Kp.refl _ _).setCell (.inl aj) _;exact⟨b.blk v.br (by simp;exact λh=>f.1 h.symm),v.bx.aP j _,b.blk v.bq (by simp;exact λh=>f.2.1 h.symm),b.blk v.bp (by simp;exact λh=>f.2.2 h.symm),b.old v.k (λb h b=>by rw[aB h]at b;omega),az.set (p:=(ac a j)) o v.pb _⟩
theorem dH.alloc {w W:ah} {P X a b p:Nat} {c:Int} {us:List ao} {d e:aQ} (v:dH w W P X a b p c us d e) (o:Obj):dH w (W.alloc o) P X a b p c us d e:=⟨v.br.alloc o,v.bx.alloc o,v.bq.alloc o,v.bp.alloc o,v.k.alloc o,v.pb.alloc o⟩
theorem dH.call {g W b:ah} {P c d e p:Nat} {f:Int} {a i:List ao} {j k:aQ} (v:dH g W P c d e p f a j k) (l:Kp [P] W b) (a:P≠c/\P≠d/\P≠e/\P≠p) (m:az b P f i):dH g b P c d e p f i j k:=
 v.keep l (λb h=>by rw[aB h];exact⟨a.1,a.2.1,a.2.2.1,a.2.2.2,.inl rfl⟩) m
theorem Db (c:Int) (a:Nat) (b:List ao) (h:a=2\/a=3\/a=4):eA c a b=.ok dv.zero b:=by rcases h with rfl|rfl|rfl<;>rfl
structure kh (lo:Nat) (r:dv) (w:ah) (hc hn:Hd):Prop where
 lc:aD w 14 hc bv.cells r.conds
 ic:aV (Bw lo w.heap.size) hc
 fc:∀c∈r.conds,c.bW
 ln:bV w hn r.names
 iN:aV (Bw lo w.heap.size) hn
 oa:aJ r.attr
 os:aJ r.cN
 og:bY r.agg
theorem sD.ok {b X:Nat} {f g i j:aA} {c:dv} {w:ah} {d e:Hd} (a:sD b X f g i j c w d e):kh b c w d e:=⟨a.lc,a.ic,a.fc,a.ln,a.iN,a.oa,a.os,a.og⟩
theorem kh.zero (a:Nat) (w:ah):kh a dv.zero w ⟨none,0,0⟩ ⟨none,0,0⟩:=⟨aD.none_ w 14 _,aV.none_ _ _ _,(λ_ h=>by cases h),kf w,aV.none_ _ _ _,b2 _ ax,b2 _ ax,⟨by show _<=(0:Int);omega,by show(0:Int)<=_;omega⟩⟩
theorem kh.keep {c:Nat} {d:dv} {w e:ah} {f g:Hd} (a:kh c d w f g) {l:List Nat} (k:Kp l w e) (i:∀b∈l,b<c\/w.heap.size<=b):kh c d e f g:=
 ⟨a.lc.kp k (λb c d e=>by have:=a.ic b c d;have:=i b e;unfold Bw at*;omega),a.ic.mono (λb h=>⟨h.1,aR h.2 k.size⟩),a.fc,⟨a.ln.1.kp k (λb c d e=>by have:=a.iN b c d;have:=i b e;unfold Bw at*;omega),a.ln.2⟩,a.iN.mono (λb h=>⟨h.1,aR h.2 k.size⟩),a.oa,a.os,a.og⟩
theorem Dc {c:ah} {base i j:Nat} {d:aT} {e f:Nat} {k:List RE} {a:dv} {l m:Hd} {kind n:Int} (b:fQ c i d e f k) (o:kh j a c l m) (p:base<=i) (i:base<=j) (j:bY kind) (r:bY n):
 dG c (Bw base c.heap.size) (.mk kind ⟨#[]⟩ ⟨d,e,f⟩ k l a.conds m a.names a.attr a.cN a.agg n):=by
 have a:=cI (h:=⟨d,e,f⟩) RE.len b.len (by have:=b.few;show e<=_;omega) b.own;refine .mk a ?_ (λa c=>(b.sub a c).mono (λa h=>⟨bL p h.1.1,h.1.2⟩)) o.lc (o.ic.low i) o.fc o.ln (o.iN.low i) (b2 _ ax) o.oa o.os j o.og r;intro a c e;have q:d=some ⟨a,c,none⟩:=e;rcases b.own.2 with⟨g,_⟩|⟨w,x,s,g,u,v,_⟩
 ·subst q;cases g
 subst q;injection g with e1
 injection e1 with e1
 injection e1 with e1
 subst e1;exact⟨bL p u,aa.lt (t:=93) (cs:=s) v⟩
theorem wi {c:ah} {d:Nat} {e:Int} {a:List ao} (h:az c d e a):bY (cY a):=by
 cases a with
 |nil=>exact⟨by show _<=(0:Int);omega,by show(0:Int)<=_;omega⟩
 |cons b f=>
  have a:=h.fine (t:=b) aj;exact⟨by show _<=b.at_;have:=a.a0;omega,by show b.at_<=_;have:=a.a1;omega⟩
theorem qK:∀a∈iM,a.oneCell'=true:=by unfold iM;simp[Value.oneCell']
theorem qL {b:ah} {d a e g:Nat} {c:bg} (o:b.ownsRow d 93 9 (O (some ⟨g,0,none⟩) (a+1) e) (a+1) (c++iM)) (d:c.length=a*9) (j:Nat) (c:j<9):b.cell? (ac g (a*9+j))=iM[j]?:=by
 rw[o.cellAt _ oW,List.getElem?_append_right af,d,Nat.add_sub_cancel_left]
theorem Tryz.wj:(prog.info? 93).map (λi=>(i.zero,i.size,i.bytes))=some (some (.agg #[J 0,ai,ab,ab,ab,ai,ai,J 0,J 0]),9,144):=am
theorem Dd (a:Int) (d:Nat) (b:List ao) (e:Int) (c:ah) (i:e=13) (f:az c d a b):
 Calls prog 176 #[ak d,e] c λj k=>PP a d c (d7 a 0 b) (qG c.heap.size) j k:=by
 have e:¬e<=12:=af
 have l:=Z f;have g:=Z (show d7 a 0 b=eQ a b 3 from rfl);have m:=Z (Kp.refl [d] c);clear f i;generalize d7 a 0 b=p at g⊢;go_enter func176,ntmps176
 go_wp2_with fail
 refine sh 3 (m.alloc _) g (l.alloc _) ?aj;intro a a a n o;go_wp2;exact⟨rfl,by rw[n.out];exact⟨o.out,rfl⟩⟩
theorem De (b:Int) (d G:Nat) (f:List ao) (Y:Int) (e:ah) (cr:Y<=12) (cr:1<=Y) (ar:az e d b f)
 (cr:∀(F:List ao) (W:ah),az W d b F->Calls prog 176 #[ak d,J (Y+1)] W λa5 w'=>PP b d W (d7 b G F) (qG W.heap.size) a5 w'):
 Calls prog 176 #[ak d,Y] e λa5 w'=>PP b d e (d7 b (G+1) f) (qG e.heap.size) a5 w':=by
 have bt:=Z cr;clear cr;obtain⟨bv,bw,bz,b0,b3⟩:=info_parts Tryz.wj;have dT:=ar.lt;have ct:=Z ar;have cv:=Z (wi ar);have bh:=Z (C2 b G f);have cw:=Z (Kp.refl [d] e);obtain⟨⟨cx,ad,cy⟩,u,cj⟩:=ar;have d0:ad<=9223372036854775807:=cj.lies.2.1;have d1:ae e (ac d 0) (O cx ad cy):=aa.cell u 0;have bi:=Z cj;clear u cj;generalize d7 b (G+1) f=s at bh⊢;go_enter func176,ntmps176
 go_upto_if 18 with(fail)
 have cz:=Z (aa.new e 93 #[J 0,ai,ab,ab,ab,ai,ai,J 0,J 0]);have d2:=Z (show aa ((e.alloc (.cells #[J 0,ai,ab,ab,ab,ai,ai,J 0,J 0] 93)).alloc (.cells #[J 1,ai,ab,ab,ab,ai,ai,J 0,J 0] 93)) (e.heap.size+1) 93 #[J 1,ai,ab,ab,ab,ai,ai,J 0,J 0] by simpa using aa.new (e.alloc (.cells #[J 0,ai,ab,ab,ab,ai,ai,J 0,J 0] 93)) 93 #[J 1,ai,ab,ab,ab,ai,ai,J 0,J 0]);go_cut [] (λwx=>Hid (aa wx e.heap.size 93 #[J 0,ai,ab,ab,ab,ai,ai,J 0,J 0]/\aa wx (e.heap.size+1) 93 #[J 1,ai,ab,ab,ab,ai,ai,J 0,J (cY f)]/\Kp [d] e wx/\az wx d b f))
 case first=>
  cases f with
  |nil=>
   have c:0=ad:=bi.lies.1;subst c;go_wp2_with fail
   go_meet;exact Z ⟨(cz.alloc _),d2,((cw.alloc _).alloc _),((ct.alloc _).alloc _)⟩
  |cons c l=>
   obtain⟨l,m,n,r,w,x,z,A,C⟩:=bi.first;have q:cx=some ⟨l,m,none⟩:=n;subst q;have l:0<ad:=by have:=bi.out.lies.1;simp at this;omega
   have l:1<=ad:=l;have l:ad<=cy:=bi.cap;go_wp2_with fail
   go_meet;have av:aa ((e.alloc (.cells #[J 0,ai,ab,ab,ab,ai,ai,J 0,J 0] 93)).alloc (.cells #[J 1,ai,ab,ab,ab,ai,ai,J 0,c.at_] 93)) (e.heap.size+1) 93 #[J 1,ai,ab,ab,ab,ai,ai,J 0,c.at_]:=by simpa using aa.new (e.alloc (.cells #[J 0,ai,ab,ab,ab,ai,ai,J 0,J 0] 93)) 93 #[J 1,ai,ab,ab,ab,ai,ai,J 0,c.at_]
   exact Z ⟨(cz.alloc _),av,((cw.alloc _).alloc _),((ct.alloc _).alloc _)⟩
 obtain⟨al,rfl⟩:=au wc;obtain⟨cA,b4,cC,cD⟩:=hcut.out;have a6:=b4.lt;clear hcut d1 d0 bi;obtain⟨c,bi⟩:=au (e.heap.size+1);rw[<-bi]at b4 a6⊢;have cj:e.heap.size<c:=af
 have U:d<c:=af
 clear bi;go_wp2_with fail
 refine(C0 d al).mono ?_;rintro a5 aE ⟨rfl,a0⟩;have an:=Z (show aa aE e.heap.size 93 _ by rw[a0];exact(cA.alloc _).alloc _);have ap:=Z (show aa aE c 93 _ by rw[a0];exact(b4.alloc _).alloc _);have bj:=Z (show aa aE al.heap.size 127 _ by rw[a0];exact(aa.new al 127 _).alloc _);have a7:=Z (show aa aE (al.heap.size+1) 325 (ny al.heap.size).toArray by rw[a0];simpa using aa.new (al.alloc _) 325 (ny al.heap.size).toArray);have bk:=Z (show Kp [d] e aE by rw[a0];exact(cC.alloc _).alloc _);have bl:=Z (show az aE d b f by rw[a0];exact(cD.alloc _).alloc _);have cE:=a7.lt;clear a0 cA b4 cC cD;obtain⟨q,al⟩:=au al.heap.size;rw[<-al]at bj a7 cE a6⊢;clear al;go_wp2;go_loopw [30] (λm wr=>∃l:Nat,l<=7/\m=.int .i64 l/\Hid (ag aE wr)/\Hid (hQ f 0 f8=hQ f l (f8.drop l))) (λl _=>7-(intOf l).toNat)
 case atStart=>exact⟨0,by omega,rfl,Z (ag.refl _),Z rfl⟩
 obtain⟨l,n,rfl,H,b5⟩:=hrel;have d3:=H.size;by_cases ck:l<7
 ·have cl:=Z (b5.out.trans (C3 f l ck))
  obtain⟨al,aE,a0⟩:=CZ q l ck;have d4:=Z (aa.below an H an.lt);have d5:=Z (aa.below ap H ap.lt);have b6:=Z (aa.below a7 H a7.lt);have d6:=Z (bk.trans (Kp.of_same H));have cF:=Z (bl.same H);have cH:=(aa.cell b6 _).trans (by simpa using al);have cI:=(aa.cell b6 _).trans (by simpa using aE);have cL:=(aa.cell b6 _).trans (by simpa using a0);have cm:=Z (C6 l);clear al aE a0 b5;obtain⟨w,a0⟩:=au (mv l);obtain⟨N,al⟩:=au (nk l);obtain⟨C,D,E,aE⟩:=C5 q l;rw[<-a0]at cH cl cm;rw[<-al]at cI;rw[aE]at cL;have cM:=Z al;have bm:=Z aE;clear a0 al aE;go_wp2_with fail
  have b7:=oU (wr.alloc (.cells #[w,N,.func C D E] 325)) [w,⟨#[40]⟩] 9 aj (by intro r m;simp at m;rcases m with rfl|rfl;exact cm.out;exact b2 _ (by decide));rw[show(wr.alloc (.cells #[w,N,.func C D E] 325)).heap.size=wr.heap.size+1 by simp]at b7;refine(sb b d f ⟨some ⟨wr.heap.size+1,0,none⟩,2,2⟩ [w,⟨#[40]⟩] _ ((cF.alloc _).alloc _) b7).mono ?_;rintro a5 cn ⟨rfl,b8⟩;have a1:=Z (H.trans ((((ag.refl wr).alloc _).alloc _).trans b8));cases hpk:eJ f [w,⟨#[40]⟩]with
  |false=>
   have m:=Z hpk;clear hpk b7 b8;go_wp2;go_roundw
   case rel=>exact⟨l+1,by omega,by go_num,a1,Z (by rw[cl.out,if_neg (by rw[m.out];simp)])⟩
   simp[intOf];omega
  |true=>
   have d8:=Z hpk;have a2:Hid (dH e cn d c e.heap.size q wr.heap.size b f #[J 1,ai,ab,ab,ab,ai,ai,J 0,J (cY f)] #[w,N,.func C D E]):=Z
    ⟨aa.below an.out a1.out an.out.lt,aa.below ap.out a1.out ap.out.lt,aa.below bj.out a1.out bj.out.lt,aa.below ((aa.new wr 325 #[w,N,.func C D E]).alloc _) b8 aF,bk.out.trans (Kp.of_same a1.out),bl.out.same a1.out⟩
   have cP:=Z (show s=sF b G l (cY f) (f.drop 2) by have h:=bh.out;rw[cl.out,if_pos hpk]at h;exact h);have al:(d≠c/\d≠e.heap.size/\d≠q/\d≠wr.heap.size)/\(c≠e.heap.size/\c≠q/\c≠wr.heap.size):=⟨⟨by omega,by omega,by omega,by omega⟩,by omega,by omega,by omega⟩;have x:=Z al;have aE:=a2.bp.lt;obtain⟨A,ar⟩:=au wr.heap.size;have a0:q<A:=by omega
   have a0:d<A:=af
   have a0:c<A:=af
   rw[<-ar]at a2 x aE⊢;clear hpk b7 b8 al cH cI cL d4 d5 b6 d6 cF an ap bj a7 bk bl bh H a1 ar d3 cE;have cQ:=C7 l ck;obtain⟨cR,cS,cT,cU,cV,cW,cX,c0,c1⟩:=fh a2.bx;have ea:=λP=>aa.frozen a2.bx P;have eb:ae cn (ac A 0) w:=aa.cell a2.bp 0;go_wp2_with fail
   have ca:=Z ((a2.Da af U x.2 0 (J (2+(l:Int)))).alloc (.cells #[w,.string ⟨#[40]⟩] 9));refine aU aj ca.k (show s=(aW b f [w,⟨#[40]⟩]).bind λ_ F=>sF b G l (cY f) F by rw[C4 b f w d8.out];exact cP.out) (c6 b d f [w,⟨#[40]⟩] _ (cn.setCell (ac c 0) (J (2+(l:Int)))) _ ca.out.pb (by intro r m;simp at m;rcases m with rfl|rfl;exact cm.out;exact b2 _ (by decide)) (h9:=by simp)) aN ?_;intro al cb al L bo r c2 ec c3 ed;obtain rfl:=r;have M:Hid (dH e L d c e.heap.size q A b cb #[J (2+(l:Int)),ai,ab,ab,ab,ai,ai,J 0,J (cY f)] #[w,N,.func C D E]):=Z (ca.call c2 x.1 c3);replace bo:Hid (s=(d7 b G cb).bind λa m=>kg b G l (cY f) a m):=bo;clear c2 ec c3 ca a2 cP cR cS cT cU cV cW cX c0 c1 ea eb;have al:=M.bp.lt;obtain⟨I,al⟩:=au L.heap.size;have ar:A<I:=by omega
   have a3:=Z (fQ.none_ L I);have ee:I<=L.heap.size:=af
   have ar:e.heap.size<I:=af
   clear al;go_upto_region 12 with(fail)
   go_cut [] (λwx=>∃(m:aT) (z:Nat) (y1:RE) (u1:List ao),Hid (dH e wx d c e.heap.size q A b u1 #[J (2+(l:Int)),ai,O m 1 z,ab,ab,ai,ai,J 0,J (cY f)] #[w,N,.func C D E]/\fQ wx I m 1 z [y1]/\s=kg b G l (cY f) y1.ex u1))
   case first=>
    have al:IntKind.i64.wrap (Y+1)=Y+1:=IntWalk.i64_in _ af;have a9:ae L (ac c 2) ab:=aa.cell M.bx 2;have al:=M.bx.lt;refine oS (S:=(λw'=>ae w' (ac c 2) ab)) (B:=λm=>decide (m<8)) am ?_;have hS:(λw'=>ae w' (ac c 2) ab) L.drew:=a9;refine mx ?_;refine tk 6 hS ?_;refine tk 2 hS ?_;refine gl ?_;refine oR (i:=5) (j:=7) (oi:=?ay) (oj:=?aA) am ?aB ?aC ?aH ?aI ?aJ ?aK
    case aB=>simp only[bd,be,bf];rfl
    case aC=>rfl
    case aH=>simp only[bd,be,bf];rfl
    case aI=>rfl
    case aJ=>
     intro K hK;go_simp;refine aU aj (M.k.drew) bo (bt cb _ (M.pb.drew)) aN ?_;intro al nA dj Q E6 r a8 al ba al;obtain⟨bb,V,X,bc⟩:=r;have T:=Kp.trans ((Kp.refl [d] L).drew) a8;have bs:=Z T;have cc:=Z (bc.mono (S':=Bw L.heap.size Q.heap.size) (λm u=>⟨bL (by simp[eu]) u.1,u.2⟩));have cd:=Z (M.call T x.1 ba);obtain⟨Y6,aq⟩:=au bb;rw[<-aq]at cc V;obtain⟨ce,cf,⟨cg,ch,ci⟩,dl,⟨co,cp,cq⟩,dm,⟨c4,c5,c7⟩,dp,c8,c9,da,db⟩:=bb;replace X:dj=.agg #[ce,cf,O cg ch ci,O co cp cq,O c4 c5 c7,c8,c9,da,db]:=X;have qM:Hid (Y6.cells=[.int .i64 ce,.string cf,.slice cg ch ci,.slice co cp cq,.slice c4 c5 c7,.string c8,.string c9,.int .i64 da,.int .i64 db]):=Z (by rw[aq];rfl);subst X;replace E6:Hid (s=kg b G l (cY f) Y6.ex nA):=by rw[V];exact E6
     have dc:ae Q (ac c 2) ab:=aa.cell cd.bx 2;have X:=cd.bx.lt;have X:=T.size;clear T a8 bc V aq;try go_simp
     refine hK _ _ (λ_=>dc) ?_;refine aw ?_;refine j8 (i:=7) (o:=?aL) am ?aM ?aO ?aP
     case aM=>simp only[bd,be,bf];rfl
     case aO=>rfl
     intro K hK;go_simp;refine hK _ _ (λ_=>(World.cell?_alloc_lt _ _ _ aG).trans dc) ?_;refine aw ?_;refine j8 (i:=8) (o:=?aQ) am ?aR ?aS ?aX
     case aR=>simp only[bd,be,bf];rfl
     case aS=>rfl
     intro K hK;refine de (Q.alloc _) (.tmp 50) (.tmp 56) 91 rfl I 93 bv _ 9 144 underlying91 bw bz b0 b3 rfl ax ab 0 ((([]:List RE)).flatMap RE.cells) rfl (bD a3.own (bs.alloc _) aF) (Q.heap.size+1) _ 1 1 iM rfl (cJ Q _ 93 9 rfl) qK b9 af pe ?_;intro T m R dd df;obtain⟨dq,dr,rfl,_⟩:=bu R;obtain⟨z,rfl,ds,a4,dg,di⟩:=dH.kid (W:=(Q.alloc _)) (w6:=Q) (y:=Y6) M a3 af af af af af af x.1 af af x.2 U af bs ba ((ag.refl Q).alloc _) cc R dd df;have Q:=λT Q=>qL R (by rw[pa,a3.out.len]) T Q;have u0:ae m (ac z 0) (J 0):=Q 0 af;have u1:ae m (ac z 1) ai:=Q 1 af;have u2:ae m (ac z 2) ab:=Q 2 af;have u3:ae m (ac z 3) ab:=Q 3 af;have u4:ae m (ac z 4) ab:=Q 4 af;have u5:ae m (ac z 5) ai:=Q 5 af;have u6:ae m (ac z 6) ai:=Q 6 af;have u7:ae m (ac z 7) (J 0):=Q 7 af;have u8:ae m (ac z 8) (J 0):=Q 8 af;have T:=λT=>R.frozenAt T;have m:ae m (ac c 2) ab:=aa.cell a4.bx 2;have m:=λP=>aa.frozen a4.bx P;have dk:c≠z:=by omega
     have gm:=Z dg;have gn:=Z di;clear R dd df a4 dg di Q;refine hK _ _ (λh=>absurd h ax) ?_;refine aw ?_;refine b1 ?_;refine tq 9 ?_;refine tq 11 ?_;refine wpAny_ready (rs:=[10,12]) am aj ?_;refine AllReady.cons (o:=?aY) ?aZ (λK hK=>?bg) (AllReady.cons (o:=?bn) ?bA (λK hK=>?bB) AllReady.nil)
     case aZ=>simp only[bd,be,bf];rfl
     case bA=>simp only[bd,be,bf];rfl
     case bg=>
      exact wl
     go_simp;refine hK _ _ ?_;refine aw ?_;refine dF 10 (λK hK=>?_);go_simp;refine hK _ _ ?_;refine aw ?_;refine bQ ?_;have e1:=gn.out;have e2:=gm.out;rw[<-nz (p:=(ac c 2)) _ _ _ _ dk]at e1 e2;rw[qM.out]at e1 e2;simp only[bZ,Nat.zero_mul,Nat.one_mul,Nat.zero_add,Nat.reduceAdd,Nat.reduceMul]at e1 e2;have iO:=Z e1;have HE2:=Z e2;clear e1 e2 gn gm;go_wp2_with fail
     go_meet;exact⟨_,_,Y6,nA,Z ⟨iO,HE2,E6⟩⟩
    intro K hK;go_simp;refine hK _ _ (λ_=>(World.cell?_alloc_lt _ _ _ cK).trans a9) ?_;refine aw ?_;refine j8 (i:=5) (o:=?bC) am ?bE ?bF ?bG
    case bE=>simp only[bd,be,bf];rfl
    case bF=>rfl
    intro K hK;go_simp;refine aU aj (M.k.drew.alloc _) bo (bt cb _ (M.pb.drew.alloc _)) aN ?_;intro al nA di Q E6 r V al ba al;obtain⟨bb,X,aq,bc⟩:=r;have T:=Kp.trans ((Kp.refl [d] L).drew.alloc _) V;have bs:=Z T;have cc:=Z (bc.mono (S':=Bw L.heap.size Q.heap.size) (λm u=>⟨bL (by simp[eu]) u.1,u.2⟩));have cd:=Z (M.call T x.1 ba);obtain⟨Y6,a4⟩:=au bb;rw[<-a4]at cc X;obtain⟨ce,cf,⟨cg,ch,ci⟩,dm,⟨co,cp,cq⟩,dp,⟨c4,c5,c7⟩,dq,c8,c9,da,db⟩:=bb;replace aq:di=.agg #[ce,cf,O cg ch ci,O co cp cq,O c4 c5 c7,c8,c9,da,db]:=aq;have qM:Hid (Y6.cells=[.int .i64 ce,.string cf,.slice cg ch ci,.slice co cp cq,.slice c4 c5 c7,.string c8,.string c9,.int .i64 da,.int .i64 db]):=Z (by rw[a4];rfl);subst aq;replace E6:Hid (s=kg b G l (cY f) Y6.ex nA):=by rw[X];exact E6
    have dj:ae Q (ac c 2) ab:=aa.cell cd.bx 2;have al:=cd.bx.lt;have al:=T.size;have dk:=Z (V.blk (g:=L.heap.size) (t:=93) (cs:=_) (aa.new L.drew 93 _) aF);clear T V bc X a4;try go_simp
    refine hK _ _ (λ_=>dj) ?_;refine aw ?_;refine j8 (i:=8) (o:=?bH) am ?bI ?bJ ?bK
    case bI=>simp only[bd,be,bf];rfl
    case bJ=>rfl
    intro K hK;refine de Q (.tmp 50) (.tmp 56) 91 rfl I 93 bv _ 9 144 underlying91 bw bz b0 b3 rfl ax ab 0 ((([]:List RE)).flatMap RE.cells) rfl (bD a3.own bs aF) (Q.heap.size+1) _ 1 1 iM rfl ((jz dk rfl).more af) qK b9 af pe ?_;intro L m R dc dd;obtain⟨dr,ds,rfl,_⟩:=bu R;obtain⟨z,rfl,dt,a8,df,dg⟩:=dH.kid (W:=Q) (w6:=Q) (y:=Y6) M a3 af af af af af af x.1 af af x.2 U af bs ba (ag.refl Q) cc R dc dd;have L:=λQ L=>qL R (by rw[pa,a3.out.len]) Q L;have u0:ae m (ac z 0) (J 0):=L 0 af;have u1:ae m (ac z 1) ai:=L 1 af;have u2:ae m (ac z 2) ab:=L 2 af;have u3:ae m (ac z 3) ab:=L 3 af;have u4:ae m (ac z 4) ab:=L 4 af;have u5:ae m (ac z 5) ai:=L 5 af;have u6:ae m (ac z 6) ai:=L 6 af;have u7:ae m (ac z 7) (J 0):=L 7 af;have u8:ae m (ac z 8) (J 0):=L 8 af;have Q:=λQ=>R.frozenAt Q;have m:ae m (ac c 2) ab:=aa.cell a8.bx 2;have m:=λP=>aa.frozen a8.bx P;have dl:c≠z:=by omega
    have gm:=Z df;have gn:=Z dg;clear R dc dd a8 df dg L;refine hK _ _ (λh=>absurd h ax) ?_;refine aw ?_;refine b1 ?_;refine tq 9 ?_;refine tq 11 ?_;refine wpAny_ready (rs:=[10,12]) am aj ?_;refine AllReady.cons (o:=?bM) ?bO (λK hK=>?bP) (AllReady.cons (o:=?bR) ?bS (λK hK=>?bT) AllReady.nil)
    case bO=>simp only[bd,be,bf];rfl
    case bS=>simp only[bd,be,bf];rfl
    case bP=>
     exact wl
    go_simp;refine hK _ _ ?_;refine aw ?_;refine dF 10 (λK hK=>?_);go_simp;refine hK _ _ ?_;refine aw ?_;refine bQ ?_;have e1:=gn.out;have e2:=gm.out;rw[<-nz (p:=(ac c 2)) _ _ _ _ dl]at e1 e2;rw[qM.out]at e1 e2;simp only[bZ,Nat.zero_mul,Nat.one_mul,Nat.zero_add,Nat.reduceAdd,Nat.reduceMul]at e1 e2;have iO:=Z e1;have HE2:=Z e2;clear e1 e2 gn gm;go_wp2_with fail
    go_meet;exact⟨_,_,Y6,nA,Z ⟨iO,HE2,E6⟩⟩
   obtain⟨Q,R,y1,u1,HX⟩:=hcut;obtain⟨cc,rfl⟩:=au wc;obtain⟨V,bs,L⟩:=HX.out;have E6:=Z L;have al:=V.k.size;have al:=V.bp.lt;have ef:I<=cc.heap.size:=by obtain⟨al,ar,_,aE,dT⟩:=bs.own.form af;omega
   clear HX L M a3 bo ee ed;have c4:ae cc (ac A 1) N:=aa.cell V.bp 1;go_upto_if 61 with(fail)
   go_cut [] (λwx=>∃(m:aT) (z L:Nat) (M:List RE) (u2:List ao),Hid (dH e wx d c e.heap.size q A b u2 #[J (2+(l:Int)),ai,O m z L,ab,ab,ai,ai,J 0,J (cY f)] #[w,N,.func C D E]/\fQ wx I m z L M/\s=mw b l (cY f) (RE.exs M) u2))
   case first=>
    cases N
    case false=>
     go_wp2_with fail
     go_meet;refine⟨Q,1,R,[y1],u1,Z ⟨V,bs,?_⟩⟩;rw[E6.out,kg,if_neg (by rw[<-cM.out];simp)];rfl
    go_wp2_with fail
    refine aU aj (V.k.alloc _) (show s=(aW b u1 [⟨#[44]⟩]).bind λ_ m=>(d7 b G m).bind λm F=>mw b l (cY f) [y1.ex,m] F by rw[E6.out,kg,if_pos cM.out.symm]) (c6 b d u1 [⟨#[44]⟩] _ cc _ (V.pb.alloc _) (cG [⟨#[44]⟩] ax)) aN ?_;intro L bc L X a9 r ba eh ci L;obtain rfl:=r;have m:=Z ((V.alloc _).call ba x.1 ci);have a4:=Z (bs.keep (((Kp.refl [d] cc).alloc _).trans ba) aF);replace a9:Hid (s=(d7 b G bc).bind λz F=>mw b l (cY f) [y1.ex,z] F):=a9;have G:I<=X.heap.size:=bL ef (by have:=ba.size;simp at this;omega);clear ba eh ci V bs E6 c4;go_upto_region 15 with(fail)
    have G:IntKind.i64.wrap (Y+1)=Y+1:=IntWalk.i64_in _ af;have co:ae X (ac c 2) (O Q 1 R):=aa.cell m.bx 2;have G:=m.bx.lt;refine oS (S:=(λw'=>ae w' (ac c 2) (O Q 1 R))) (B:=λz=>decide (z<8)) am ?_;have hS:(λw'=>ae w' (ac c 2) (O Q 1 R)) X.drew:=co;refine mx ?_;refine tk 6 hS ?_;refine tk 2 hS ?_;refine gl ?_;refine oR (i:=5) (j:=7) (oi:=?bU) (oj:=?bV) am ?bW ?bX ?bY ?cu ?cB ?cO
    case bW=>simp only[bd,be,bf];rfl
    case bX=>rfl
    case bY=>simp only[bd,be,bf];rfl
    case cu=>rfl
    case cB=>
     intro K hK;go_simp;refine aU aj (m.k.drew) a9 (bt bc _ (m.pb.drew)) aN ?_;intro G nB ei aq lx r ch G cp G;obtain⟨cq,cd,ce,c5⟩:=r;have bb:=Kp.trans ((Kp.refl [d] X).drew) ch;have c7:=Z bb;have c8:=Z (c5.mono (S':=Bw X.heap.size aq.heap.size) (λz u=>⟨bL (by simp[eu]) u.1,u.2⟩));have c9:=Z (m.call bb x.1 cp);obtain⟨jA,cf⟩:=au cq;rw[<-cf]at c8 cd;obtain⟨da,db,⟨dc,dd,df⟩,ek,⟨dg,di,dj⟩,el,⟨dk,dl,dm⟩,em,dp,dq,dr,ds⟩:=cq;replace ce:ei=.agg #[da,db,O dc dd df,O dg di dj,O dk dl dm,dp,dq,dr,ds]:=ce;have qN:Hid (jA.cells=[.int .i64 da,.string db,.slice dc dd df,.slice dg di dj,.slice dk dl dm,.string dp,.string dq,.int .i64 dr,.int .i64 ds]):=Z (by rw[cf];rfl);subst ce;replace lx:Hid (s=(λz=>mw b l (cY f) [y1.ex,z]) jA.ex nB):=by rw[cd];exact lx
     have dt:ae aq (ac c 2) (O Q 1 R):=aa.cell c9.bx 2;have G:=c9.bx.lt;have G:=bb.size;clear bb ch c5 cd cf;try go_simp
     refine hK _ _ (λ_=>dt) ?_;refine aw ?_;refine j8 (i:=7) (o:=?cZ) am ?dh ?dn ?dw
     case dh=>simp only[bd,be,bf];rfl
     case dn=>rfl
     intro K hK;go_simp;refine hK _ _ (λ_=>(World.cell?_alloc_lt _ _ _ aG).trans dt) ?_;refine aw ?_;refine j8 (i:=8) (o:=?dx) am ?dz ?dA ?dB
     case dz=>simp only[bd,be,bf];rfl
     case dA=>rfl
     intro K hK;refine de (aq.alloc _) (.tmp 66) (.tmp 72) 91 rfl I 93 bv _ 9 144 underlying91 bw bz b0 b3 rfl ax (O Q 1 R) 1 (([y1]).flatMap RE.cells) rfl (bD a4.own (c7.alloc _) aF) (aq.heap.size+1) _ 1 1 iM rfl (cJ aq _ 93 9 rfl) qK b9 af pe ?_;intro G z a8 du dy;obtain⟨en,eo,rfl,_⟩:=bu a8;obtain⟨T,rfl,ep,cg,dC,dE⟩:=dH.kid (W:=(aq.alloc _)) (w6:=aq) (y:=jA) m a4 af af af af af af x.1 af af x.2 U af c7 cp ((ag.refl aq).alloc _) c8 a8 du dy;have G:=λL G=>qL a8 (by rw[pa,a4.out.len]) L G;have u0:ae z (ac T 9) (J 0):=G 0 af;have u1:ae z (ac T 10) ai:=G 1 af;have u2:ae z (ac T 11) ab:=G 2 af;have u3:ae z (ac T 12) ab:=G 3 af;have u4:ae z (ac T 13) ab:=G 4 af;have u5:ae z (ac T 14) ai:=G 5 af;have u6:ae z (ac T 15) ai:=G 6 af;have u7:ae z (ac T 16) (J 0):=G 7 af;have u8:ae z (ac T 17) (J 0):=G 8 af;have L:=λL=>a8.frozenAt L;have z:ae z (ac c 2) (O Q 1 R):=aa.cell cg.bx 2;have z:=λP=>aa.frozen cg.bx P;have ej:c≠T:=by omega
     have gm:=Z dC;have gn:=Z dE;clear a8 du dy cg dC dE G;refine hK _ _ (λh=>absurd h ax) ?_;refine aw ?_;refine b1 ?_;refine tq 9 ?_;refine tq 11 ?_;refine wpAny_ready (rs:=[10,12]) am aj ?_;refine AllReady.cons (o:=?dD) ?dG (λK hK=>?dI) (AllReady.cons (o:=?dJ) ?dK (λK hK=>?dL) AllReady.nil)
     case dG=>simp only[bd,be,bf];rfl
     case dK=>simp only[bd,be,bf];rfl
     case dI=>
      exact wm
     go_simp;refine hK _ _ ?_;refine aw ?_;refine dF 10 (λK hK=>?_);go_simp;refine hK _ _ ?_;refine aw ?_;refine bQ ?_;have e1:=gn.out;have e2:=gm.out;rw[<-nz (p:=(ac c 2)) _ _ _ _ ej]at e1 e2;rw[qN.out]at e1 e2;simp only[bZ,Nat.zero_mul,Nat.one_mul,Nat.zero_add,Nat.reduceAdd,Nat.reduceMul]at e1 e2;have iO:=Z e1;have HE2:=Z e2;clear e1 e2 gn gm;go_wp2_with fail
     go_meet;exact⟨_,2,_,[y1,jA],nB,Z ⟨iO,HE2,lx⟩⟩
    intro K hK;go_simp;refine hK _ _ (λ_=>(World.cell?_alloc_lt _ _ _ cK).trans co) ?_;refine aw ?_;refine j8 (i:=5) (o:=?dM) am ?dN ?dO ?dP
    case dN=>simp only[bd,be,bf];rfl
    case dO=>rfl
    intro K hK;go_simp;refine aU aj (m.k.drew.alloc _) a9 (bt bc _ (m.pb.drew.alloc _)) aN ?_;intro G nB dE aq lx r cd G cp G;obtain⟨cq,ce,cf,c5⟩:=r;have bb:=Kp.trans ((Kp.refl [d] X).drew.alloc _) cd;have c7:=Z bb;have c8:=Z (c5.mono (S':=Bw X.heap.size aq.heap.size) (λz u=>⟨bL (by simp[eu]) u.1,u.2⟩));have c9:=Z (m.call bb x.1 cp);obtain⟨jA,cg⟩:=au cq;rw[<-cg]at c8 ce;obtain⟨da,db,⟨dc,dd,df⟩,el,⟨dg,di,dj⟩,em,⟨dk,dl,dm⟩,en,dp,dq,dr,ds⟩:=cq;replace cf:dE=.agg #[da,db,O dc dd df,O dg di dj,O dk dl dm,dp,dq,dr,ds]:=cf;have qN:Hid (jA.cells=[.int .i64 da,.string db,.slice dc dd df,.slice dg di dj,.slice dk dl dm,.string dp,.string dq,.int .i64 dr,.int .i64 ds]):=Z (by rw[cg];rfl);subst cf;replace lx:Hid (s=(λz=>mw b l (cY f) [y1.ex,z]) jA.ex nB):=by rw[ce];exact lx
    have ei:ae aq (ac c 2) (O Q 1 R):=aa.cell c9.bx 2;have G:=c9.bx.lt;have G:=bb.size;have ej:=Z (cd.blk (g:=X.heap.size) (t:=93) (cs:=_) (aa.new X.drew 93 _) aF);clear bb cd c5 ce cg;try go_simp
    refine hK _ _ (λ_=>ei) ?_;refine aw ?_;refine j8 (i:=8) (o:=?dQ) am ?dR ?dS ?dU
    case dR=>simp only[bd,be,bf];rfl
    case dS=>rfl
    intro K hK;refine de aq (.tmp 66) (.tmp 72) 91 rfl I 93 bv _ 9 144 underlying91 bw bz b0 b3 rfl ax (O Q 1 R) 1 (([y1]).flatMap RE.cells) rfl (bD a4.own c7 aF) (aq.heap.size+1) _ 1 1 iM rfl ((jz ej rfl).more af) qK b9 af pe ?_;intro G z a8 dt du;obtain⟨eo,ep,rfl,_⟩:=bu a8;obtain⟨T,rfl,eq,ch,dy,dC⟩:=dH.kid (W:=aq) (w6:=aq) (y:=jA) m a4 af af af af af af x.1 af af x.2 U af c7 cp (ag.refl aq) c8 a8 dt du;have m:=λG m=>qL a8 (by rw[pa,a4.out.len]) G m;have u0:ae z (ac T 9) (J 0):=m 0 af;have u1:ae z (ac T 10) ai:=m 1 af;have u2:ae z (ac T 11) ab:=m 2 af;have u3:ae z (ac T 12) ab:=m 3 af;have u4:ae z (ac T 13) ab:=m 4 af;have u5:ae z (ac T 14) ai:=m 5 af;have u6:ae z (ac T 15) ai:=m 6 af;have u7:ae z (ac T 16) (J 0):=m 7 af;have u8:ae z (ac T 17) (J 0):=m 8 af;have G:=λG=>a8.frozenAt G;have z:ae z (ac c 2) (O Q 1 R):=aa.cell ch.bx 2;have z:=λP=>aa.frozen ch.bx P;have ek:c≠T:=by omega
    have gm:=Z dy;have gn:=Z dC;clear a8 dt du ch dy dC m;refine hK _ _ (λh=>absurd h ax) ?_;refine aw ?_;refine b1 ?_;refine tq 9 ?_;refine tq 11 ?_;refine wpAny_ready (rs:=[10,12]) am aj ?_;refine AllReady.cons (o:=?dV) ?dW (λK hK=>?dX) (AllReady.cons (o:=?dY) ?dZ (λK hK=>?d9) AllReady.nil)
    case dW=>simp only[bd,be,bf];rfl
    case dZ=>simp only[bd,be,bf];rfl
    case dX=>
     exact wm
    go_simp;refine hK _ _ ?_;refine aw ?_;refine dF 10 (λK hK=>?_);go_simp;refine hK _ _ ?_;refine aw ?_;refine bQ ?_;have e1:=gn.out;have e2:=gm.out;rw[<-nz (p:=(ac c 2)) _ _ _ _ ek]at e1 e2;rw[qN.out]at e1 e2;simp only[bZ,Nat.zero_mul,Nat.one_mul,Nat.zero_add,Nat.reduceAdd,Nat.reduceMul]at e1 e2;have iO:=Z e1;have HE2:=Z e2;clear e1 e2 gn gm;go_wp2_with fail
    go_meet;exact⟨_,2,_,[y1,jA],nB,Z ⟨iO,HE2,lx⟩⟩
   obtain⟨a9,a8,ba,co,u2,HX⟩:=hcut;obtain⟨aq,rfl⟩:=au wc;obtain⟨m,bb,G⟩:=HX.out;have X:=Z G;have L:=m.k.size;have L:=m.bp.lt;clear HX G V bs E6 c4;obtain⟨T,G⟩:∃T:dv->List ao->PO Ex,T=λG F=>(aW b F [⟨#[41]⟩]).bind λ_ F=>.ok (.mk ((l:Int)+2) e0 (RE.exs co) G.conds G.names G.attr G.cN G.agg (cY f)) F:=⟨_,rfl⟩;replace X:Hid (s=(eA b l u2).bind T):=Z (by rw[X.out,G];rfl);have c5:=Z G;clear G;have dg:ae aq (ac A 2) (.func C D E):=aa.cell m.bp 2;go_upto_region 16 with(fail)
   go_cut [] (λwx=>∃(z:dv) (G L:Hd) (u3:List ao),Hid (dH e wx d c e.heap.size q A b u3 #[J (2+(l:Int)),ai,O a9 a8 ba,G.val,L.val,z.attr,z.cN,z.agg,J (cY f)] #[w,N,.func C D E]/\fQ wx I a9 a8 ba co/\kh aq.heap.size z wx G L/\s=T z u3))
   case first=>
    have cf:l=0\/l=1\/l=5\/l=6\/(l=2\/l=3\/l=4):=af
    have a4:=Z (show∀z∈[d,c],z∈[d]\/e.heap.size<=z by intro z u;simp at u;rcases u with rfl|rfl;exact .inl aj;exact .inr af);rcases cf with n|n|n|n|n
    ·have cg:Value.func (.func 300) #[] #[ak q]=.func C D E:=by rw[<-bm.out,n];rfl
     injection cg with f1 f2 f3
     subst f1 f2 f3;have ch:=Z (show s=(eA b 0 u2).bind T by rw[X.out,n]);clear n;go_wp2_with fail
     refine o9 (l2:=[d,c]) a4 m.k ch (CV b d c q u2 aq _ _ _ _ m.pb m.bx m.bq U a6) ?eB ?eD
     case eB=>intro er a wx HX KX;go_wp2;exact⟨rfl,by rw[HX.out];exact⟨KX.out,rfl⟩⟩
     intro ci u3 u wx cp r z cd ce u;obtain⟨rfl,c7,cq,bc⟩:=r;have c8:=Z (show dH e wx d c e.heap.size q A b u3 _ _ from⟨z.blk m.br aF,bc.blk,z.blk m.bq aF,z.blk m.bp aF,cd,ce⟩);have c9:=Z (bb.keep z aF);have da:=Z bc.ok;clear z cd ce bc;go_wp2_with fail
     go_meet;exact⟨ci,c7,cq,u3,Z ⟨c8,c9,da,cp⟩⟩
    ·have cg:Value.func (.func 301) #[] #[ak q]=.func C D E:=by rw[<-bm.out,n];rfl
     injection cg with f1 f2 f3
     subst f1 f2 f3;have ch:=Z (show s=(eA b 1 u2).bind T by rw[X.out,n]);clear n;go_wp2_with fail
     refine o9 (l2:=[d,c]) a4 m.k ch (CW b d c q u2 aq _ _ _ _ m.pb m.bx m.bq U a6) ?eF ?eG
     case eF=>intro er a wx HX KX;go_wp2;exact⟨rfl,by rw[HX.out];exact⟨KX.out,rfl⟩⟩
     intro ci u3 u wx cp r z cd ce u;obtain⟨rfl,c7,cq,bc⟩:=r;have c8:=Z (show dH e wx d c e.heap.size q A b u3 _ _ from⟨z.blk m.br aF,bc.blk,z.blk m.bq aF,z.blk m.bp aF,cd,ce⟩);have c9:=Z (bb.keep z aF);have da:=Z bc.ok;clear z cd ce bc;go_wp2_with fail
     go_meet;exact⟨ci,c7,cq,u3,Z ⟨c8,c9,da,cp⟩⟩
    ·have cg:Value.func (.func 302) #[] #[ak q]=.func C D E:=by rw[<-bm.out,n];rfl
     injection cg with f1 f2 f3
     subst f1 f2 f3;have ch:=Z (show s=(eA b 5 u2).bind T by rw[X.out,n]);clear n;go_wp2_with fail
     refine o9 (l2:=[d,c]) a4 m.k ch (CX b d c q u2 aq _ _ _ _ m.pb m.bx m.bq U a6) ?eH ?eO
     case eH=>intro er a wx HX KX;go_wp2;exact⟨rfl,by rw[HX.out];exact⟨KX.out,rfl⟩⟩
     intro ci u3 u wx cp r z cd ce u;obtain⟨rfl,c7,cq,bc⟩:=r;have c8:=Z (show dH e wx d c e.heap.size q A b u3 _ _ from⟨z.blk m.br aF,bc.blk,z.blk m.bq aF,z.blk m.bp aF,cd,ce⟩);have c9:=Z (bb.keep z aF);have da:=Z bc.ok;clear z cd ce bc;go_wp2_with fail
     go_meet;exact⟨ci,c7,cq,u3,Z ⟨c8,c9,da,cp⟩⟩
    ·have cg:Value.func (.func 303) #[] #[ak q]=.func C D E:=by rw[<-bm.out,n];rfl
     injection cg with f1 f2 f3
     subst f1 f2 f3;have ch:=Z (show s=(eA b 6 u2).bind T by rw[X.out,n]);clear n;go_wp2_with fail
     refine o9 (l2:=[d,c]) a4 m.k ch (CY b d c q u2 aq _ _ _ _ m.pb m.bx m.bq U a6) ?eP ?eT
     case eP=>intro er a wx HX KX;go_wp2;exact⟨rfl,by rw[HX.out];exact⟨KX.out,rfl⟩⟩
     intro ci u3 u wx cp r z cd ce u;obtain⟨rfl,c7,cq,bc⟩:=r;have c8:=Z (show dH e wx d c e.heap.size q A b u3 _ _ from⟨z.blk m.br aF,bc.blk,z.blk m.bq aF,z.blk m.bp aF,cd,ce⟩);have c9:=Z (bb.keep z aF);have da:=Z bc.ok;clear z cd ce bc;go_wp2_with fail
     go_meet;exact⟨ci,c7,cq,u3,Z ⟨c8,c9,da,cp⟩⟩
    have z:Value.func (.func 299) #[] #[]=.func C D E:=by rw[<-bm.out];rcases n with n|n|n<;>rw[n]<;>rfl
    injection z with f1 f2 f3
    subst f1 f2 f3;have bc:=Z (show s=T dv.zero u2 by rw[X.out,Db b l u2 n];rfl);clear n;go_wp2_with fail
    refine(C1 c aq).mono ?_;rintro a5 w' ⟨rfl,rfl⟩;go_wp2_with fail
    go_meet;exact⟨dv.zero,⟨none,0,0⟩,⟨none,0,0⟩,u2,Z ⟨m,bb,kh.zero _ _,bc⟩⟩
   obtain⟨z,dj,di,u3,HX⟩:=hcut;obtain⟨cp,rfl⟩:=au wc;obtain⟨a4,c7,c8,n⟩:=HX.out;have dk:=Z (show s=(aW b u3 [⟨#[41]⟩]).bind λ_ F=>.ok (.mk ((l:Int)+2) e0 (RE.exs co) z.conds z.names z.attr z.cN z.agg (cY f)) F by rw[n,c5.out]);have u:=a4.k.size;clear HX n m bb X dg c5;obtain⟨cd,ce,cf⟩:=dj;obtain⟨cg,ch,ci⟩:=di;replace a4:Hid (dH e cp d c e.heap.size q A b u3 #[J (2+(l:Int)),ai,O a9 a8 ba,O cd ce cf,O cg ch ci,z.attr,z.cN,z.agg,J (cY f)] #[w,N,.func C D E]):=a4;go_wp2_with fail
   refine aU aj (a4.k.alloc _) dk (c6 b d u3 [⟨#[41]⟩] _ cp _ (a4.pb.alloc _) (cG [⟨#[41]⟩] ax)) aN ?_;intro m m m c9 dl r cq dm da m;obtain rfl:=r;have m:=((Kp.refl [d] cp).alloc _).trans cq;have bc:=Z ((a4.alloc _).call cq x.1 da);have dp:=Z (c7.keep m aF);have dq:=Z (c8.keep m aF);clear cq m a4 c7 c8 dm da;obtain⟨cR,cS,cT,cU,cV,cW,cX,c0,c1⟩:=fh bc.bx;obtain⟨m,n,q,r,u,w,x,A,C⟩:=fh bc.br;have m:=λP=>aa.frozen bc.br P;go_wp2;have dr:=eg bc.br bc.k bc.pb [.int .i64 (2+(l:Int)),.string ⟨#[]⟩,.slice a9 a8 ba,.slice cd ce cf,.slice cg ch ci,.string z.attr,.string z.cN,.int .i64 z.agg,.int .i64 (cY f)] rfl (Nat.le_refl _) af;have m:=pd e.heap.size [.int .i64 (2+(l:Int)),.string ⟨#[]⟩,.slice a9 a8 ba,.slice cd ce cf,.slice cg ch ci,.string z.attr,.string z.cN,.int .i64 z.agg,.int .i64 (cY f)] 0 c9 c9 (Kp.refl _ _);have n:=dp.keep m aF;have m:=dq.keep m aF;have db:=Dc (base:=e.heap.size) n m af af (kind:=2+(l:Int)) ⟨by have:=cQ.1;omega,by have:=cQ.2;omega⟩ cv.out;obtain⟨dc,dd,df⟩:=dr;simp only[bZ,Nat.zero_add,Nat.reduceAdd]at dc dd df db;obtain⟨ds,dt,du,dy,dC,dE,eh,ei,ej⟩:=fh dc;refine bodyPost_ret (v:=.agg #[J (2+(l:Int)),ai,O a9 a8 ba,O cd ce cf,O cg ch ci,z.attr,z.cN,z.agg,J (cY f)]) ?_ rfl ?_
   ·simp[results,results176,go_sem,ds,dt,du,dy,dC,dE,eh,ei,ej]
   rw[dl.out];exact⟨dd,_,rfl,⟨_,by rw[Int.add_comm];rfl,rfl,db⟩,df⟩
 obtain rfl:l=7:=af
 have L:=Z (show s=(bN b f).bind λad l=>.ok (.mk 1 ad [] [] [] e0 e0 0 (cY f)) l by have h:=bh.out;rw[b5.out]at h;exact h);have x:=Z (aa.below an H an.lt);have z:=Z (aa.below ap H ap.lt);have A:=Z (bk.trans (Kp.of_same H));have C:=Z (bl.same H);clear an ap bj a7 bk bl b5 H bh;go_wp2_with fail
 refine aU aj A L (eM b d f wr C) ?av ?eU
 case av=>intro er a wx HX KX;go_wp2;exact⟨rfl,by rw[HX.out];exact⟨KX.out,rfl⟩⟩
 intro m b b b M N r P Q b;obtain⟨rfl,R⟩:=N;have w:=Z (r.blk x aF);have d:=Z (r.blk z aF);clear r x z A C;obtain⟨b,l,n,q,r,s,u,x,z⟩:=fh d;obtain⟨b,l,n,q,r,s,u,x,z⟩:=fh w;have l:=λb=>aa.frozen w b;have b:=λb=>aa.frozen d b;have b:e.heap.size≠c:=af
 go_wp2;have T:=eg (t:=93) (aa.far w (p:=(ac c 1)) aG m) (Kp.set (p:=(ac c 1)) aG P m) (az.set (p:=(ac c 1)) aG Q m) [.int .i64 1,.string m,.slice none 0 0,.slice none 0 0,.slice none 0 0,.string ⟨#[]⟩,.string ⟨#[]⟩,.int .i64 0,.int .i64 (cY f)] rfl (Nat.le_refl _) af;obtain⟨D,E,I⟩:=T;simp only[bZ,Nat.zero_add,Nat.reduceAdd]at D E I;obtain⟨V,X,aq,a1,a2,a3,a4,a8,a9⟩:=fh D;refine bodyPost_ret (v:=.agg #[J 1,m,ab,ab,ab,ai,ai,J 0,J (cY f)]) ?_ rfl ?_
 ·simp[results,results176,go_sem,V,X,aq,a1,a2,a3,a4,a8,a9]
 rw[M.out];refine⟨E,_,rfl,⟨.mk 1 m ⟨none,0,0⟩ [] ⟨none,0,0⟩ [] ⟨none,0,0⟩ [] e0 e0 0 (cY f),rfl,rfl,?_⟩,I⟩;exact .mk (aD.none_ _ 9 _) (aV.none_ _ _ _) (λ_ h=>by cases h) (aD.none_ _ 14 _) (aV.none_ _ _ _) (λ_ h=>by cases h) (kf _) (aV.none_ _ _ _) R (b2 _ ax) (b2 _ ax) ⟨by omega,by omega⟩ ⟨by omega,by omega⟩ cv.out
theorem Df (e:Int) (f:Nat):∀(c:Nat) (d:List ao) (a:Int) (b:ah),a+c=13->1<=a->az b f e d->
 Calls prog 176 #[ak f,a] b λg i=>PP e f b (d7 e c d) (qG b.heap.size) g i:=by
 intro c;induction c with
 |zero=>intro d a b g g g;exact Dd e f d a b af g
 |succ c j=>intro d a b g g i;exact De e f c d a b af g i (λb c h=>j b (a+1) c af af h)
structure RI where
 kind:Int
 name:ByteArray
 at_:Int
 table:ByteArray
 attr:ByteArray
 qO:Hd
 cH:List dB
 iP:Hd
 names:List ByteArray
 bh:Int
 n:Int
 m:Int
 pf:Hd
 terms:List cL
 other:ByteArray
 k4:ByteArray
 pg:Hd
 fixed:List du
 hvars:Hd
 vars:List Vr
 hconds:Hd
 conds:List bv
 e:RE
def RI.cells (r:RI):List Value:=
 [.int .i64 r.kind,.string r.name,.int .i64 r.at_,.string r.table,.string r.attr,r.qO.val,r.iP.val,.int .i64 r.bh,.int .i64 r.n,.int .i64 r.m,r.pf.val,.string r.other,.string r.k4,r.pg.val,r.hvars.val,r.hconds.val]++r.e.cells
def RI.it (a:RI):aE:=⟨a.kind,a.name,a.at_,a.table,a.attr,a.cH,a.names,a.bh,a.n,a.m,a.terms,a.other,a.k4,a.fixed,a.vars,a.conds,a.e.ex⟩
theorem RI.len (a:RI):a.cells.length=25:=by unfold RI.cells;rw[List.length_append,RE.len];rfl
def aL:Hd:=⟨none,0,0⟩
structure cz (w:ah) (S:Nat->Prop) (r:RI):Prop where
 lc:aD w 5 r.qO dB.cells r.cH
 ic:aV S r.qO
 fc:∀c∈r.cH,c.bW
 ln:bV w r.iP r.names
 iN:aV S r.iP
 lt:aD w 7 r.pf cL.cells r.terms
 it:aV S r.pf
 ft:∀c∈r.terms,c.bW
 lf:aD w 4 r.pg du.cells r.fixed
 iF:aV S r.pg
 ff:∀c∈r.fixed,c.bW
 lv:aD w 2 r.hvars Vr.cells r.vars
 iv:aV S r.hvars
 fv:∀c∈r.vars,c.bW
 ld:aD w 14 r.hconds bv.cells r.conds
 iD:aV S r.hconds
 fd:∀c∈r.conds,c.bW
 ex:dG w S r.e
 ok:bY r.kind/\aJ r.name/\bY r.at_/\aJ r.table/\aJ r.attr/\bY r.bh/\bY r.n/\bY r.m/\aJ r.other/\aJ r.k4
theorem cz.mono {w:ah} {S S':Nat->Prop} {r:RI} (a:cz w S r) (b:∀c,S c->S' c):cz w S' r:=
 ⟨a.lc,a.ic.mono b,a.fc,a.ln,a.iN.mono b,a.lt,a.it.mono b,a.ft,a.lf,a.iF.mono b,a.ff,a.lv,a.iv.mono b,a.fv,a.ld,a.iD.mono b,a.fd,a.ex.mono b,a.ok⟩
theorem cz.keep {w d:ah} {S:Nat->Prop} {e:RI} (a:cz w S e) {l:List Nat} (k:Kp l w d) (c:∀b∈l,¬S b):cz d S e:=
 ⟨a.lc.kp k (λb d e f=>c b f (a.ic b d e)),a.ic,a.fc,⟨a.ln.1.kp k (λb d e f=>c b f (a.iN b d e)),a.ln.2⟩,a.iN,a.lt.kp k (λb d e f=>c b f (a.it b d e)),a.it,a.ft,a.lf.kp k (λb d e f=>c b f (a.iF b d e)),a.iF,a.ff,
  a.lv.kp k (λb d e f=>c b f (a.iv b d e)),a.iv,a.fv,a.ld.kp k (λb d e f=>c b f (a.iD b d e)),a.iD,a.fd,a.ex.keep k c,a.ok⟩
def RI.start (a:Int) (b:av) (c:Int):RI:=⟨a,b,c,e0,e0,aL,[],aL,[],0,0,0,aL,[],e0,e0,aL,[],aL,[],aL,[],RE.zero⟩
theorem Dg (a:ah) (b:Nat->Prop):dG a b RE.zero:=
 .mk (aD.none_ a 9 _) (aV.none_ _ _ _) (λ_ h=>by cases h) (aD.none_ a 14 _) (aV.none_ _ _ _) (λ_ h=>by cases h) (kf a) (aV.none_ _ _ _) (b2 _ ax) (b2 _ ax) (b2 _ ax) ⟨by omega,by omega⟩ ⟨by omega,by omega⟩ ⟨by omega,by omega⟩
theorem iQ (w:ah) (S:Nat->Prop) (a:Int) (b:av) (c:Int) (d:bY a) (e:aJ b) (f:bY c):cz w S (RI.start a b c):=
 ⟨aD.none_ w 5 _,aV.none_ _ _ _,(λ_ h=>by cases h),kf w,aV.none_ _ _ _,aD.none_ w 7 _,aV.none_ _ _ _,(λ_ h=>by cases h),aD.none_ w 4 _,aV.none_ _ _ _,(λ_ h=>by cases h),aD.none_ w 2 _,aV.none_ _ _ _,(λ_ h=>by cases h),
  aD.none_ w 14 _,aV.none_ _ _ _,(λ_ h=>by cases h),Dg w S,d,e,f,b2 _ ax,b2 _ ax,⟨by show _<=(0:Int);omega,by show(0:Int)<=_;omega⟩,⟨by show _<=(0:Int);omega,by show(0:Int)<=_;omega⟩,⟨by show _<=(0:Int);omega,by show(0:Int)<=_;omega⟩,b2 _ ax,b2 _ ax⟩
def jB (b c:Nat) (d:aE) (a:aA) (w:ah):Prop:=a=.tuple #[]/\∃a:RI,a.it=d/\aa w c 95 a.cells.toArray/\cz w (Bw b w.heap.size) a
def wn (c:ah) (a:Nat) (d:List (Int×Nat)) (b:ch×Int) (i:Int) (e:Ending) (f:ah):Prop:=
 Kp (dE a d) c f/\(∃g,ed f a g b.1/\∀f∈dE a g,f∈dE a d\/c.heap.size<=f)/\((b.2=0/\e=.returned (.tuple #[]))\/(b.2≠0/\e=.panicked [{v:=fC b.2 i,recovered:=false}]))
theorem ed.more {q j:ah} {f g:Nat} {c:List (Int×Nat)} {r:ch} (h:ed q f c r) (k:Int) (m:∀p∈c,p.1≠k) (v:f≠g) (s:∀p∈c,p.2≠g) (w:Kp [f] q j) (q:cQ (.int .i64) j f ((c.map λp=>(.int .i64 p.1,.map (some p.2)))++[(.int .i64 k,.map (some g))])) (x:cQ .string j g []):ed j f (c++[(k,g)]) r:=by
 refine⟨by rw[List.map_append];exact q,λp a=>?_,λn l p o e d b=>?_,λp a=>?_,λy t i=>?_⟩
 ·rcases cP a with a|a
  ·obtain⟨f,g,j⟩:=h.inner p a
   exact⟨f,g.kp w (by simpa using h.out p a),j⟩
  rw[aB a];refine⟨[],x,λt=>⟨λi=>(by cases i),λi=>?_⟩⟩;obtain⟨p,a,b⟩:=h.all _ _ i;exact absurd b (m p a)
 ·by_cases f:n<c.length
  ·rw[List.getElem?_append_left f]at e
   by_cases f:l<c.length
   ·rw[List.getElem?_append_left f]at d
    exact h.one n l p o e d b
   rw[List.getElem?_append_right af]at d;have u:=aB (List.mem_of_getElem? d);subst u;have a:=List.mem_of_getElem? e;rcases b with b|b
   ·exact absurd b (m p a)
   exact absurd b (s p a)
  rw[List.getElem?_append_right af]at e;have a:=aB (List.mem_of_getElem? e);have f:n-c.length<1:=by
   have:=(List.getElem?_eq_some_iff.1 e).1;simpa using this
  subst a;by_cases e:l<c.length
  ·rw[List.getElem?_append_left e]at d
   have u:=List.mem_of_getElem? d;rcases b with b|b
   ·exact absurd b.symm (m o u)
   exact absurd b.symm (s o u)
  rw[List.getElem?_append_right af]at d;have c:l-c.length<1:=by
   have:=(List.getElem?_eq_some_iff.1 d).1;simpa using this
  omega
 ·rcases cP a with a|a
  ·exact h.out p a
  rw[aB a];exact λc=>v c.symm
 obtain⟨p,a,b⟩:=h.all y t i;exact⟨p,ie (.inl a),b⟩
theorem ed.add {p g:ah} {q b:Nat} {l:List (Int×Nat)} {i:ch} (h:ed p q l i) {c:Int} (f:(c,b)∈l) {j:bk} (u:∀a,a∈j↔(c,a)∈i) (k:av) (r:Kp [b] p g) (v:cQ .string g b ((j.map λa=>(.string a,.bool true))++[(.string k,.bool true)])):ed g q l ((c,k)::i):=by
 refine⟨h.m.kp r (by simpa using λd=>h.out _ f d.symm),λd n=>?_,h.one,h.out,λw a x=>?_⟩
 ·by_cases o:d.2=b
  ·obtain⟨g,i,s⟩:=List.mem_iff_getElem.1 n
   obtain⟨p,q,t⟩:=List.mem_iff_getElem.1 f;have y:=h.one g p d (c,b) (by rw[List.getElem?_eq_getElem i,s]) (by rw[List.getElem?_eq_getElem q,t]) (.inr o);subst y;have z:d=(c,b):=by rw[<-s,t]
   subst z;refine⟨j++[k],by rw[List.map_append];exact v,λa=>?_⟩;rw[List.mem_append,List.mem_singleton,u a,List.mem_cons];constructor
   ·rintro(e|rfl)
    ·exact .inr e
    exact .inl rfl
   rintro(e|e)
   ·injection e with _ e;exact .inr e
   exact .inl e
  obtain⟨i,g,j⟩:=h.inner d n;refine⟨i,g.kp r (by simpa using o),λa=>?_⟩;rw[j a,List.mem_cons];constructor
  ·exact .inr
  rintro(e|e)
  ·injection e with e _
   obtain⟨g,i,s⟩:=List.mem_iff_getElem.1 n;obtain⟨j,k,t⟩:=List.mem_iff_getElem.1 f;have y:=h.one g j d (c,b) (by rw[List.getElem?_eq_getElem i,s]) (by rw[List.getElem?_eq_getElem k,t]) (.inl e);subst y;have b:d=(c,b):=by rw[<-s,t]
   exact absurd (by rw[b]) o
  exact e
 rcases dh x with e|e
 ·injection e with e _
  exact⟨_,f,e.symm⟩
 exact h.all w a e
theorem wo (a:ch) (b:Int) (c:av):dD a b c=true↔(b,c)∈a:=by
 unfold dD;rw[List.any_eq_true];constructor
 ·rintro⟨a,a,h⟩
  simp at h;rw[<-h.1,<-h.2];exact a
 intro h;exact⟨_,h,by simp⟩
theorem Dh (a:ah):(binOp BinOp.eql 206 (.map none) (.map none)).run prog a=.ok (.bool true) a:=am
theorem Di (a:ah) (b:Nat):(binOp BinOp.eql 206 (.map (some b)) (.map none)).run prog a=.ok (.bool false) a:=am
theorem ed.mark {e:ah} {s c:Nat} {j:List (Int×Nat)} {b:ch} (h:ed e s j b) {k:Int} (f:(k,c)∈j) (a:av):
 ∃d t,(Instr.lookup 206 (.map (some c)) a false).run prog e=.ok (.bool (dD b k a)) e/\(Instr.mapUpdate 206 (.map (some c)) a (.bool true)).run prog e=.ok () d/\Kp [c] e d/\ed d s j t/\
  (if dD b k a then(b,9)else((k,a)::b,(0:Int)))=(t,if dD b k a then 9 else 0):=by
 obtain⟨B,l,g⟩:=h.inner _ f;rcases l.look (P:=prog) (T:=206) underlying206 underlying9 (.bool false) zeroValue4 a trivial with⟨u,n⟩|⟨v,F,o,n⟩
 ·have i:¬(k,a)∈b:=λe=>u (.string a,.bool true) (List.mem_map.2 ⟨a,(g a).2 e,rfl⟩) rfl
  have p:dD b k a=false:=by
   cases hq:dD b k a with
   |false=>rfl
   |true=>exact absurd ((wo b k a).1 hq) i
  obtain⟨d,i,j,e⟩:=l.push (P:=prog) (T:=206) underlying206 underlying9 a (.bool true) trivial u;rw[p];exact⟨d,_,n false,i,e,h.add f g a e j,rfl⟩
 have w:=List.mem_of_getElem? o;obtain⟨p,C,q⟩:=List.mem_map.1 w;injection q with e1 e2
 injection e1 with e1
 subst e1 e2;have a:=(g p).1 C;rw[(wo b k p).2 a];obtain⟨d,a,D,r⟩:=l.again (P:=prog) (T:=206) underlying206 underlying9 p (.bool true) trivial ⟨_,w,rfl⟩ (λa a _=>by obtain⟨e,_,a⟩:=List.mem_map.1 a;rw[<-a]);refine⟨d,b,n false,a,r,⟨h.m.kp r (by simpa using λa=>h.out _ f a.symm),λi x=>?_,h.one,h.out,h.all⟩,rfl⟩;by_cases y:i.2=c
 ·obtain⟨a,b,z⟩:=List.mem_iff_getElem.1 x
  obtain⟨v,o,A⟩:=List.mem_iff_getElem.1 f;have E:=h.one a v i (k,c) (by rw[List.getElem?_eq_getElem b,z]) (by rw[List.getElem?_eq_getElem o,A]) (.inr y);subst E;have q:i=(k,c):=by rw[<-z,A]
  subst q;exact⟨B,D,g⟩
 obtain⟨a,b,c⟩:=h.inner i x;exact⟨a,b.kp r (by simpa using y),c⟩
theorem Dj (x b:Nat) (D:RI) (aH aI aK aL aN aO aP:aA) (j:Int) (l:List (Int×Nat)) (a:ch) (i:ah) (I:aa i x 157 #[aH,aI,aK,aL,aN,aO,aP,.map (some b),j]) (J:ed i b l a) (aQ:aJ D.name):
 Calls prog 61 #[ak x,.agg D.cells.toArray] i λd w'=>wn i b l (dm a D.it) j d w':=by
 obtain⟨u,ai⟩:=au (dm a D.it);rw[<-ai];obtain⟨e,g,aR,aT,aU,⟨aV,aW,aX⟩,bT,⟨a0,a1,a2⟩,ca,a3,a4,a5,⟨a6,a7,a8⟩,cb,a9,ba,⟨bb,bc,bg⟩,cc,⟨bh,bi,bj⟩,cd,⟨bk,bm,bn⟩,ce,⟨bo,bp,⟨bq,br,bs⟩,cf,⟨bt,bu,bv⟩,cg,⟨bw,bx,bA⟩,ci,bB,bC,bD,bE⟩⟩:=D;have K:Hid (u=if aY e 1 10 then if e=5 then(a,0)else if bz g then(if dD a (eK e) g then(a,9)else((eK e,g)::a,0))else(a,1)else(a,1)):=Z ai;have D:=aQ;have bR:=Z D;have L:=Z J;have bS:=Z I;have bT:=I.lt;have bF:∀c∈dE b l,c≠x:=λc q d=>J.vn q (t:=157) (cs:=#[aH,aI,aK,aL,aN,aO,aP,.map (some b),j]) (by rw[d];exact I);have al:=J.lt;clear ai aQ D J I;have D:=aZ bT;have D:i.heap.size<=i.heap.size:=Nat.le_refl _;have bU:=Z (Kp.refl [] i);have an:=Z (λ(p:ah) (w:Kp [] i p) (f:ch×Int) (n:Ending) (y:f.1=a) (z:(f.2=0/\n=.returned (.tuple #[]))\/(f.2≠0/\n=.panicked [{v:=fC f.2 j,recovered:=false}]))=>(show wn i b l f j n p from⟨w.mono (λ_ h=>by cases h),⟨l,by rw[y];exact L.out.kp w (λ_ h=>by cases h),λc q=>.inl q⟩,z⟩));show Calls prog 61 #[ak x,.agg #[e,g,aR,aT,aU,O aV aW aX,O a0 a1 a2,a3,a4,a5,O a6 a7 a8,a9,ba,O bb bc bg,O bh bi bj,O bk bm bn,bo,bp,O bq br bs,O bt bu bv,O bw bx bA,bB,bC,bD,bE]] i _;go_enter func61,ntmps61
 go_upto_region 1 with(fail)
 obtain⟨p,D,y,f,I⟩:=nb i 95 _;rw[D];clear D;have n:=qk bU f;have z:=qb f bS;have D:=n.size;clear f;have bG:=ay y;have bV:=aa.lt y;have M:=b4 z;have bW:=aa.lt z;clear I;have N:=Z (fI e 1 10 p);obtain⟨bX,D⟩:=au (aY e 1 10);rw[<-D]at N K;clear D;cases bX
 case false=>
  go_wp2_with fail
  refine N.mono ?_;rintro d w' ⟨rfl,rfl⟩;go_wp2_with fail
  refine fJ (R:=RO.ap false 1 j (.ok ())) n rfl M ?_ (λ_ h=>by cases h);intro _ _;go_wp2;refine⟨rfl,?_⟩;rw[show u=(a,1)from K.out];exact an _ n _ _ rfl (.inr ⟨aj,rfl⟩)
 go_wp2_with fail
 refine N.mono ?_;rintro d w' ⟨rfl,rfl⟩;go_wp2_with fail
 refine fJ (R:=RO.ap true 1 j (.ok ())) n rfl M (λ_ h=>by cases h) ?_;intro _ _;clear N;have Q:Hid (u=if e=5 then(a,0)else if bz g then(if dD a (eK e) g then(a,9)else((eK e,g)::a,0))else(a,1)):=K;clear K;by_cases A:e=5
 case pos=>
  have B:(e==5)=true:=by simp[A]
  have w:=Z (show u=(a,0) by rw[Q.out,if_pos A]);clear A Q;go_wp2;refine bodyPost_ret (results_none rfl _ _ _) rfl ?_;rw[w.out];exact an _ n _ _ rfl (.inl ⟨rfl,rfl⟩)
 have bY:(e==5)=false:=by simp[A]
 have S:=Z (show u=if bz g then(if dD a (eK e) g then(a,9)else((eK e,g)::a,0))else(a,1) by rw[Q.out,if_neg A]);clear A Q;have A:=aS y;have bV:=aa.lt y;have U:=Z (qD g p bR);obtain⟨bZ,A⟩:=au (bz g);rw[<-A]at U S;clear A;cases bZ
 case false=>
  go_wp2_with fail
  refine U.mono ?_;rintro d w' ⟨rfl,rfl⟩;go_wp2_with fail
  refine fJ (R:=RO.ap false 1 j (.ok ())) n rfl M ?_ (λ_ h=>by cases h);intro _ _;go_wp2;refine⟨rfl,?_⟩;rw[show u=(a,1)from S.out];exact an _ n _ _ rfl (.inr ⟨aj,rfl⟩)
 go_wp2_with fail
 refine U.mono ?_;rintro d w' ⟨rfl,rfl⟩;go_wp2_with fail
 refine fJ (R:=RO.ap true 1 j (.ok ())) n rfl M (λ_ h=>by cases h) ?_;intro _ _;have ao:Hid (u=if dD a (eK e) g then(a,9)else((eK e,g)::a,0)):=S;clear S U bY;obtain⟨sk,u⟩:=au (eK e);have bH:Hid (Rq 110 #[e] (.int .i64 sk)):=Z (λw=>by rw[u];exact CB e w);rw[<-u]at ao;clear u;go_upto_region 4 with(fail)
 have bI:=b7 z;have bW:=aa.lt z;refine dQ 9 bI bG λhS=>?_;refine cR ?_;refine gl ?_;refine tk 5 hS ?_;refine ef 6 (λar w=>?_);go_simp;refine(bH _).mono ?_;rintro d w' ⟨rfl,rfl⟩;try go_simp
 refine w _ _ (λ_=>hS) ?_;refine aw ?_;have b0:=Z (L.kp (k:=[]) n.drew (λ_ h=>by cases h));rcases b0.out.m.look (P:=prog) (T:=155) underlying155 underlying3 (.map none) zeroValue206 sk rfl with⟨av,V⟩|⟨cj,b1,b2,V⟩
 case' inl=>
  have aG:(Instr.lookup 155 (.map (some b)) sk false).run prog p.drew=.ok (.map none) p.drew:=V false
 case' inr=>
  have q:∃c,b1=.map (some c)/\(sk,c)∈l:=by
   have u:=List.mem_of_getElem? b2;obtain⟨B,W,X⟩:=List.mem_map.1 u;injection X with e1 e2
   injection e1 with _ e1
   exact⟨B.2,e2.symm,by rw[<-e1];exact W⟩
  obtain⟨c,rfl,bQ⟩:=q;have aG:(Instr.lookup 155 (.map (some b)) sk false).run prog p.drew=.ok (.map (some c)) p.drew:=V false
 all_goals
  clear V;refine aM 7 (λar w=>?_);go_simp;refine w _ _ (λ_=>hS) ?_;refine aw ?_;refine tk 8 hS ?_;refine gS am ?_ _;clear aG hS bI bG
 case' inl=>
  have f:=Z ((ag.refl p).drew);obtain⟨B,u⟩:=au p.drew;rw[<-u]at f⊢;clear u;have bJ:=qk n f;have b3:=qb f z;have b5:=qb f y;have u:=bJ.size;clear f;have b6:=@run_makeMap prog;have b8:=Dh;go_upto_region 7 with(fail)
  clear b6 b8;have M3:=Z (cQ.made .string B);have f:=Z (show ag B (B.alloc (.map #[] 0))from(ag.refl B).alloc _);obtain⟨bK,u⟩:=au (B.alloc (.map #[] 0));rw[<-u]at M3 f⊢;clear u;have az:=qk bJ f;have aC:=qb f b3;have aD:=qb f b5;have u:=az.size;obtain⟨c,q⟩:=au B.heap.size;rw[<-q]at M3⊢;have u:i.heap.size<=c:=af
  clear q f;have bL:=b7 aC;have q:=aa.lt aC;have bM:=ay aD;have q:=aa.lt aD;refine dQ 8 bL bM λhS=>?_;refine cR ?_;refine gl ?_;refine tk 5 hS ?_;refine tk 7 hS ?_;refine ef 6 (λar w=>?_);go_simp;refine(bH _).mono ?_;rintro d w' ⟨rfl,rfl⟩;try go_simp
  refine w _ _ (λ_=>hS) ?_;refine aw ?_;have aE:=Z (L.kp (k:=[]) az.drew (λ_ h=>by cases h));have bN:∀q∈l,q.1≠sk:=λq u d=>av (.int .i64 q.1,.map (some q.2)) (List.mem_map.2 ⟨q,u,rfl⟩) (by rw[d]);obtain⟨E,b9,bO,W⟩:=aE.m.push (P:=prog) (T:=155) underlying155 underlying3 sk (.map (some c)) rfl av;have aF:b≠c:=λd=>by have:=al b (List.mem_cons_self ..);omega
  have bP:∀q∈l,q.2≠c:=λq u d=>by have:=al q.2 (List.mem_cons_of_mem _ (List.mem_map.2 ⟨q,u,rfl⟩));omega
  obtain⟨o,X⟩:=au (l++[(sk,c)]);have r:Hid (ed E b o a):=Z (by rw[X];exact aE.out.more sk bN aF bP W bO (M3.out.kp (k:=[b]) (((Kp.refl [b] bK).drew).trans W) (by simpa using λd=>aF d.symm)));have F:(sk,c)∈o:=by rw[X];simp
  have Y:=((Kp.refl [b] bK).drew).trans W;have G:=Z ((az.mono (l':=dE b l) (λ_ h=>by cases h)).trans (Y.mono (λq q=>by rw[aB q];exact List.mem_cons_self ..)));have C:∀ab∈dE b o,ab∈dE b l\/i.heap.size<=ab:=by
   intro ab ad;rw[X]at ad;unfold dE at ad;rw[List.map_append]at ad;rcases dh ad with h|h
   ·exact .inl (by rw[h];exact List.mem_cons_self ..)
   rcases cP h with h|h
   ·exact .inl (List.mem_cons_of_mem _ h)
   have:ab=c:=by simpa using h
   exact .inr af
  have q:=bF b (List.mem_cons_self ..);have u:=al b (List.mem_cons_self ..);have H:=Z (Y.blk aC (by simp;exact λd=>q d.symm));have s:=bl Y aD;refine aM 8 (λar w=>?_);go_simp;refine w _ _ (λh=>absurd h ax) ?_;refine aw ?_;refine gS am ?_ _;clear b9 bO W Y X av bN aE bP aF hS bL bM M3
 case' inr=>
  have f:=Z ((ag.refl p).drew);obtain⟨Y,p⟩:=au p.drew;rw[<-p]at f⊢;clear p;have W:=qk n f;have ab:=qb f z;have ad:=qb f y;have n:=W.size;clear f;have az:=Di;go_upto_region 8 with(fail)
  clear az;obtain⟨E,X⟩:=au Y;obtain⟨o,B⟩:=au l;have F:(sk,c)∈o:=by rw[B];exact bQ
  have r:=Z (L.kp W (λ_ h=>by cases h));have G:=Z (W.mono (l':=dE b l) (λ_ h=>by cases h));have C:∀f∈dE b o,f∈dE b l\/i.heap.size<=f:=λf f=>.inl (by rw[B]at f;exact f);have H:=ab;have s:=ad;rw[<-X]at r G H s⊢;have f:Hid (ed E b o a):=by rw[B];exact r
  clear X B r;have r:=f;clear f
 all_goals
  obtain⟨ab,u5,ad,bK,B,az,aC⟩:=r.mark F g;have X:=Z (ao.trans aC);obtain⟨bL,aD⟩:=au (dD a sk g);rw[<-aD]at ad X;have Y:c∈dE b o:=List.mem_cons_of_mem _ (List.mem_map.2 ⟨_,F,rfl⟩);have bM:c≠x:=by
   rcases C c Y with h|h
   ·exact bF c h
   omega
  have W:=Z (B.old G.out (λa a b=>by
   rw[aB a]at b⊢;exact(C c Y).resolve_right af))
  have aE:ae ab (ac x 8) j:=aa.cell (B.blk H (by simpa using λd=>bM d.symm)) 8;have a:=aS s;have a:=aa.lt s;have a:c≠i.heap.size:=λd=>by
   have b:¬aa E c 95 #[e,g,aR,aT,aU,O aV aW aX,O a0 a1 a2,a3,a4,a5,O a6 a7 a8,a9,ba,O bb bc bg,O bh bi bj,O bk bm bn,bo,bp,O bq br bs,O bt bu bv,O bw bx bA,bB,bC,bD,bE]:=r.vn Y;exact b (by rw[d];exact s.out)
  have a:ae ab (aq i 1) g:=aa.cell (B.blk s (by simpa using λd=>a d.symm)) 1;have aF:=Z az;have bJ:=Z C;clear C aD aC az B ao r F G H s;go_upto_region 10 with(fail)
  clear ad bK;cases bL
  case true=>
   go_wp2_with fail
   refine fJ (R:=RO.ap false 9 j (.ok ())) W rfl aE ?_ (λ_ h=>by cases h);intro _ _;go_wp2;refine⟨rfl,?_⟩;rw[X.out];exact⟨W,⟨o,aF,bJ⟩,.inr ⟨aj,rfl⟩⟩
  go_wp2_with fail
  refine fJ (R:=RO.ap true 9 j (.ok ())) W rfl aE (λ_ h=>by cases h) ?_;intro _ _;go_wp2;refine bodyPost_ret (results_none rfl _ _ _) rfl ?_;rw[X.out];exact⟨W,⟨o,aF,bJ⟩,.inl ⟨rfl,rfl⟩⟩
def my:List (Value×Value):=[(.int .i64 2,.func (.func 114) #[] #[]),(.int .i64 3,.func (.func 115) #[] #[]),(.int .i64 4,.func (.func 116) #[] #[]),(.int .i64 5,.func (.func 117) #[] #[]),(.int .i64 6,.func (.func 118) #[] #[]),(.int .i64 7,.func (.func 119) #[] #[]),(.int .i64 8,.func (.func 120) #[] #[]),(.int .i64 9,.func (.func 121) #[] #[]),(.int .i64 10,.func (.func 122) #[] #[])]
def gF (a:Int):Option Value:=
 if a=2 then some (.func (.func 114) #[] #[])else if a=3 then some (.func (.func 115) #[] #[])else if a=4 then some (.func (.func 116) #[] #[])else if a=5 then some (.func (.func 117) #[] #[])else if a=6 then some (.func (.func 118) #[] #[])else if a=7 then some (.func (.func 119) #[] #[])else if a=8 then some (.func (.func 120) #[] #[])else if a=9 then some (.func (.func 121) #[] #[])else if a=10 then some (.func (.func 122) #[] #[])else none
def sm (a:Nat):Array MapEntry:=(([114,115,116,117,118,119,120,121,122].take a).zipIdx.map λ(b,a)=>(⟨.int .i64 (a+2:Nat),.func (.func b) #[] #[],a⟩:MapEntry)).toArray
theorem Dk (a:ah):(Instr.mapUpdate 160 (.map (some a.heap.size)) (J 2) (.func (.func 114) #[] #[])).run prog (a.alloc (.map #[] 0))=.ok () (a.alloc (.map (sm 1) 1)):=
 d2 (P:=prog) (T:=160) underlying160 underlying3 a #[] 0 _ _ rfl rfl
theorem Dl (a:ah):(Instr.mapUpdate 160 (.map (some a.heap.size)) (J 3) (.func (.func 115) #[] #[])).run prog (a.alloc (.map (sm 1) 1))=.ok () (a.alloc (.map (sm 2) 2)):=
 d2 (P:=prog) (T:=160) underlying160 underlying3 a (sm 1) 1 _ _ rfl rfl
theorem Dm (a:ah):(Instr.mapUpdate 160 (.map (some a.heap.size)) (J 4) (.func (.func 116) #[] #[])).run prog (a.alloc (.map (sm 2) 2))=.ok () (a.alloc (.map (sm 3) 3)):=
 d2 (P:=prog) (T:=160) underlying160 underlying3 a (sm 2) 2 _ _ rfl rfl
theorem Dn (a:ah):(Instr.mapUpdate 160 (.map (some a.heap.size)) (J 5) (.func (.func 117) #[] #[])).run prog (a.alloc (.map (sm 3) 3))=.ok () (a.alloc (.map (sm 4) 4)):=
 d2 (P:=prog) (T:=160) underlying160 underlying3 a (sm 3) 3 _ _ rfl rfl
theorem Do (a:ah):(Instr.mapUpdate 160 (.map (some a.heap.size)) (J 6) (.func (.func 118) #[] #[])).run prog (a.alloc (.map (sm 4) 4))=.ok () (a.alloc (.map (sm 5) 5)):=
 d2 (P:=prog) (T:=160) underlying160 underlying3 a (sm 4) 4 _ _ rfl rfl
theorem Dp (a:ah):(Instr.mapUpdate 160 (.map (some a.heap.size)) (J 7) (.func (.func 119) #[] #[])).run prog (a.alloc (.map (sm 5) 5))=.ok () (a.alloc (.map (sm 6) 6)):=
 d2 (P:=prog) (T:=160) underlying160 underlying3 a (sm 5) 5 _ _ rfl rfl
theorem Dq (a:ah):(Instr.mapUpdate 160 (.map (some a.heap.size)) (J 8) (.func (.func 120) #[] #[])).run prog (a.alloc (.map (sm 6) 6))=.ok () (a.alloc (.map (sm 7) 7)):=
 d2 (P:=prog) (T:=160) underlying160 underlying3 a (sm 6) 6 _ _ rfl rfl
theorem Dr (a:ah):(Instr.mapUpdate 160 (.map (some a.heap.size)) (J 9) (.func (.func 121) #[] #[])).run prog (a.alloc (.map (sm 7) 7))=.ok () (a.alloc (.map (sm 8) 8)):=
 d2 (P:=prog) (T:=160) underlying160 underlying3 a (sm 7) 7 _ _ rfl rfl
theorem Ds (a:ah):(Instr.mapUpdate 160 (.map (some a.heap.size)) (J 10) (.func (.func 122) #[] #[])).run prog (a.alloc (.map (sm 8) 8))=.ok () (a.alloc (.map (sm 9) 9)):=
 d2 (P:=prog) (T:=160) underlying160 underlying3 a (sm 8) 8 _ _ rfl rfl
theorem Dt (a:ah):cQ (.int .i64) (a.alloc (.map (sm 9) 9)) a.heap.size my:=
 ⟨(sm 9),9,fP _ _,rfl,(List.forall_mem_cons.2 ⟨rfl,(List.forall_mem_cons.2 ⟨rfl,(List.forall_mem_cons.2 ⟨rfl,(List.forall_mem_cons.2 ⟨rfl,(List.forall_mem_cons.2 ⟨rfl,(List.forall_mem_cons.2 ⟨rfl,(List.forall_mem_cons.2 ⟨rfl,(List.forall_mem_cons.2 ⟨rfl,(List.forall_mem_cons.2 ⟨rfl,(λ_ h=>by cases h)⟩)⟩)⟩)⟩)⟩)⟩)⟩)⟩)⟩)⟩
theorem Du {b:ah} {d:Nat} (h:cQ (.int .i64) b d my) (c:Int):
 (gF c=none/\(Instr.lookup 160 (.map (some d)) c false).run prog b=.ok .nilFunc b)\/
 ∃v,gF c=some v/\(Instr.lookup 160 (.map (some d)) c false).run prog b=.ok v b:=by
 rcases h.look (P:=prog) (T:=160) underlying160 underlying3 .nilFunc zeroValue162 c rfl with⟨e,a⟩|⟨g,v,e,a⟩
 ·refine .inl ⟨?_,a false⟩
  simp[my]at e;unfold gF;rw[if_neg af,if_neg af,if_neg af,if_neg af,if_neg af,if_neg af,if_neg af,if_neg af,if_neg af]
 refine .inr ?_;have f:=List.mem_of_getElem? e;simp[my]at f;rcases f with⟨rfl,rfl⟩|⟨rfl,rfl⟩|⟨rfl,rfl⟩|⟨rfl,rfl⟩|⟨rfl,rfl⟩|⟨rfl,rfl⟩|⟨rfl,rfl⟩|⟨rfl,rfl⟩|⟨rfl,rfl⟩
 ·exact⟨_,rfl,a false⟩
 ·exact⟨_,rfl,a false⟩
 ·exact⟨_,rfl,a false⟩
 ·exact⟨_,rfl,a false⟩
 ·exact⟨_,rfl,a false⟩
 ·exact⟨_,rfl,a false⟩
 ·exact⟨_,rfl,a false⟩
 ·exact⟨_,rfl,a false⟩
 exact⟨_,rfl,a false⟩
theorem Dv (a:ah):Calls prog 63 #[] a λc b=>c=.returned (.map (some a.heap.size))/\ag a b/\cQ (.int .i64) b a.heap.size my:=by
 have b:=@run_makeMap prog;have b:=Dk a;have b:=Dl a;have b:=Dm a;have b:=Dn a;have b:=Do a;have b:=Dp a;have b:=Dq a;have b:=Dr a;have b:=Ds a;have M3:=Z (Dt a);have d:=Z (show ag a (a.alloc (.map (sm 9) 9))from(ag.refl a).alloc _);go_enter func63,ntmps63
 go_wp2;refine⟨rfl,.map (some a.heap.size),?_,rfl,d.out,M3.out⟩;simp[results,results63,go_sem]
theorem Dw (a:ah):(binOp BinOp.neq 162 .nilFunc .nilFunc).run prog a=.ok (.bool false) a:=am
theorem Dx (a:ah) (b:Fn) (c d:aQ):(binOp BinOp.neq 162 (.func b c d) .nilFunc).run prog a=.ok (.bool true) a:=am
def Og.cells (o:Og):List Value:=[.string o.name,.int .i64 o.trust]
def Bk.cells (a:Bk):List Value:=[.string a.name,.int .i64 a.table,.int .i64 a.col,.int .i64 a.bh,.int .i64 a.n,.int .i64 a.m]
def Wg.cells (x:Wg):List Value:=[.int .i64 x.col,.int .i64 x.meas,.int .i64 x.j2,.int .i64 x.num,.int .i64 x.den,.int .i64 x.gives,.int .i64 x.takes]
def dX.cells (k:dX):List Value:=[.int .i64 k.table,.int .i64 k.col,.int .i64 k.bh]
def Sd.cells (s:Sd):List Value:=[.int .i64 s.var,.int .i64 s.col,.int .i64 s.v.k,.int .i64 s.v.n,.string s.v.s]
def cF.cells (t:cF):List Value:=t.l.cells++(.int .i64 t.op::(t.r.cells++[.int .i64 t.add]))
def Fx.cells (f:Fx):List Value:=[.int .i64 f.col,.int .i64 f.v.k,.int .i64 f.v.n,.string f.v.s]
theorem b6 {w:ah} {d m n:Nat} {e:aX} {v:aA} {xs:bg} (f:w.ownsRow d e m v n xs):∀b,v.ownBlock=some b->d<=b/\b<w.heap.size:=by
 intro b a;rcases f.2 with⟨c,_⟩|⟨k,l,g,c,i,j,_⟩
 ·rw[c]at a;cases a
 rw[c]at a;injection a with a
 subst a;exact⟨i,aa.lt (t:=e) (cs:=g) j⟩
theorem fK {w a b:ah} {row:Option Nat} (h:Kp [] w a) (c:a.grownBy b row):Kp row.toList w b:=
 (h.mono (λ_ h=>by cases h)).grown c (λa a=>.inl (by rw[a];simp))
theorem cV {w b:ah} {row:Option Nat} {a:Addr} {c:aA} (d:Kp row.toList w b) (e:a.block<w.heap.size) (f:some a.block≠row) (h:ae w a c):ae b a c:=
 (
  d.cell e (by
  cases row with
  |none=>simp
  |some g=>simp;exact λa=>f (by rw[a]))).trans h
theorem bF {a b:ah} {row:Option Nat} {p:Addr} {v:aA} (k:Kp row.toList a b) (h:ae a p v) (c:p.block<a.heap.size:=by(show _<_;dsimp only;omega)) (a:some p.block≠row:=by(intro e;have h:=hrow _ e.symm;dsimp only at h;omega)):ae b p v:=cV k c a h
def fL {b:Type} (w d:ah) (e i:Nat) (j:aX) (k:Nat) (enc:b->List Value) (f:aT) (a g:Nat) (l:List b) (x:b) (m:Value->Array Value):Prop:=
 ∃b c,aa d e 157 (m (O b (a+1) c))/\d.ownsRow i j k (O b (a+1) c) (a+1) ((l++[x]).flatMap enc)/\Kp (e::(Value.slice f a g).ownBlock.toList) w d/\
  ((Value.slice b (a+1) c).ownBlock=(Value.slice f a g).ownBlock\/∃d,(Value.slice b (a+1) c).ownBlock=some d/\w.heap.size<=d)
theorem fL.jC {j:Type} {w m g:ah} {b n o a e c i:Nat} {q:aX} {enc:j->List Value} {f d:aT} {r:List j} {x:j} {j:Value->Array Value} (s:ag w m) (t:aa g b 157 (j (O f a e))) (u:g.ownsRow n q o (O d (a+1) c) (a+1) (r.flatMap enc++enc x))
 (k:Kp (Value.slice f a e).ownBlock.toList m g) (v:b<n) (v:(j (O f a e)).setIfInBounds i (O d (a+1) c)=j (O d (a+1) c))
 (y:(Value.slice d (a+1) c).ownBlock=(Value.slice f a e).ownBlock\/∃k,(Value.slice d (a+1) c).ownBlock=some k/\m.heap.size<=k):
 fL w (g.setCell (ac b i) (O d (a+1) c)) b n q o enc f a e r x j:=by
 refine⟨d,c,?_,?_,?_,?_⟩
 ·have:=t.aP i (O d (a+1) c)
  rw[v]at this;exact this
 ·rw[List.flatMap_append]
  have c:[x].flatMap enc=enc x:=aj
  rw[c];exact bD u (Kp.aH (l:=[b]) (p:=(ac b i)) aj (Kp.refl _ g) _) aF
 ·exact Kp.aH (p:=(ac b i)) aj (((Kp.of_same (l:=b::(Value.slice f a e).ownBlock.toList) s)).trans (k.mono (λa a=>List.mem_cons_of_mem _ a))) _
 rcases y with h|⟨z,h,A⟩
 ·exact .inl h
 exact .inr ⟨z,h,bL s.size A⟩
def jD {b:Type} (w:ah) (e:RO b) (P:b->World->Prop) (c:Ending) (d:ah):Prop:=
 match e with
 |.ok x=>c=.returned (.tuple #[])/\P x d
 |.bad er a=>c=.panicked [{v:=fC er a,recovered:=false}]/\ag w d
end Go.Proofs.YteamkimbmdgdbaaGreatDoor

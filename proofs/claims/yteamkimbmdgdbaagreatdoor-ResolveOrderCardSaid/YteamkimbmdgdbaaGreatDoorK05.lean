import Derived.Test.YteamkimbmdgdbaaGreatDoorK02
import Derived.Test.YteamkimbmdgdbaaGreatDoorK03
import Derived.Test.YteamkimbmdgdbaaGreatDoorK04
set_option linter.unusedSimpArgs false
set_option linter.unusedVariables false
set_option maxHeartbeats 16000000
set_option maxRecDepth 100000
namespace Go.Proofs.YteamkimbmdgdbaaGreatDoor
open Go.Proofs.Tryz
open Go.RowKit
def cb (a:Int):Prop:=-9223372036854775808<=a/\a<=9223372036854775807
def cZ.cells (a:cZ):List Value:=[.string a.name,.int .i64 a.k,.int .i64 a.d.k,.int .i64 a.d.n,.string a.d.s]
structure cZ.bo (c:cZ):Prop where
 name:aJ c.name
 k:cb c.k
 d:c.d.fine
def ct.cells (t:ct):List Value:=[.string t.attr,.int .i64 t.meas,.int .i64 t.jW,.int .i64 t.num,.int .i64 t.den,.int .i64 t.gives,.int .i64 t.takes]
structure ct.bo (t:ct):Prop where
 attr:aJ t.attr
 meas:cb t.meas
 jW:cb t.jW
 num:cb t.num
 den:cb t.den
 gives:cb t.gives
 takes:cb t.takes
def cF.cells (o:cF):List Value:=[.string o.var,.string o.attr,.bool o.c,.int .i64 o.v.k,.int .i64 o.v.n,.string o.v.s]
structure cF.bo (o:cF):Prop where
 var:aJ o.var
 attr:aJ o.attr
 v:o.v.fine
def bm.cells (a:bm):List Value:=[.string a.l.var,.string a.l.attr,.bool a.l.c,.int .i64 a.l.v.k,.int .i64 a.l.v.n,.string a.l.v.s,.int .i64 a.op,.string a.r.var,.string a.r.attr,.bool a.r.c,.int .i64 a.r.v.k,.int .i64 a.r.v.n,.string a.r.v.s,.int .i64 a.add]
structure bm.bo (c:bm):Prop where
 l:c.l.bo
 op:cb c.op
 r:c.r.bo
 add:cb c.add
def da.cells (x:da):List Value:=[.string x.name,.int .i64 x.v.k,.int .i64 x.v.n,.string x.v.s]
structure da.bo (x:da):Prop where
 name:aJ x.name
 v:x.v.fine
def Vr.cells (x:Vr):List Value:=[.string x.name,.string x.table]
structure Vr.bo (x:Vr):Prop where
 name:aJ x.name
 table:aJ x.table
def jo {a:Type} (c:a->List Value) (d:a->Prop) (b:a) (v:aA) (_:ah):Prop:=v=.agg (c b).toArray/\d b
def d3 {b:Type} (base c:Nat) (enc:b->List Value) (d:b->Prop) (l:List b) (v:aA) (w:ah):Prop:=
 ∃h:Hd,v=h.val/\aE w c h enc l/\(∀b∈l,d b)/\(∀b c,h.a=some ⟨b,c,none⟩->base<=b/\b<w.heap.size)/\l.length<=5001
theorem aE.kp {b:Type} {w c:ah} {m:Nat} {h:Hd} {enc:b->List Value} {xs:List b} (l:aE w m h enc xs) {k:List Nat} (d:Kp k w c) (g:∀b e,h.a=some ⟨b,e,none⟩->b∉k):aE c m h enc xs:=
 ⟨l.1,l.2.1,λc e=>by
  obtain⟨b,c,e,f,i⟩:=l.2.2 c e;exact⟨b,c,e,aV f d.size,λj n o=>(d.cell (p:=⟨b,_,none⟩) f (g b c e)).trans (i j n o)⟩⟩
theorem d3.kp {b:Type} {c m:Nat} {enc:b->List Value} {e:b->Prop} {l:List b} {v:aA} {w b:ah} (g:d3 c m enc e l v w) {k:List Nat} (f:Kp k w b) (i:∀a∈k,a<c):d3 c m enc e l v b:=by
 obtain⟨h,j,n,o,d,p⟩:=g;exact⟨h,j,n.kp f (λa b c e=>by have:=i a e;have:=d a b c;omega),o,λa b c=>⟨(d a b c).1,aV (d a b c).2 f.size⟩,p⟩
theorem cO (w:ah) (cs:aQ) (t:aX) (m:Nat) (a:cs.size=m):cA (w.alloc (.cells cs t)) (w.heap.size+1) m (some ⟨w.heap.size,0,none⟩) 1 cs.toList:=by
 refine⟨by simp[a],λ_=>⟨_,rfl,Nat.lt_succ_self _,λa c b=>?_⟩⟩;have:=aa.cell (aa.new w t cs) a;rw[show((⟨w.heap.size,0,none⟩:Addr).add a)=⟨w.heap.size,a,none⟩ by unfold Addr.add;split<;>simp_all];rw[this];simpa using b
theorem iB (a:ah) (cs:aQ) (b:aX) (m c:Nat) (d:cs.size=m) (e:c<=a.heap.size):(a.alloc (.cells cs b)).ownsRow c b m (O (some ⟨a.heap.size,0,none⟩) 1 1) 1 cs.toList:=
 ⟨by simp[d],.inr ⟨a.heap.size,1,cs,rfl,e,aa.new a b cs,Nat.le_refl _,by unfold maxLen;omega,by omega,by rw[Nat.one_mul,List.take_of_length_le (by simp[d])]⟩⟩
theorem d3.kY {a:Type} {base d:Nat} {i:aX} {e:a->List Value} {j:a->Prop} (p:∀f,(e f).length=d) {l:List a} {b:aU} {a c:Nat} {w:ah} (k:w.ownsRow base i d (O b a c) a (l.flatMap e)) (q:l.length=a) (r:∀f∈l,j f) (f:l.length<=5001):d3 base d e j l (O b a c) w:=by
 refine⟨⟨b,a,c⟩,rfl,cJ (h:=⟨b,a,c⟩) p q (by show a<=_;omega) k,r,λm n o=>?_,f⟩;rcases k.2 with⟨g,_⟩|⟨s,A,u,g,v,x,_⟩
 ·have y:b=some ⟨m,n,none⟩:=o
  subst y;cases g
 have y:b=some ⟨m,n,none⟩:=o;subst y;have z:s<w.heap.size:=aa.lt (t:=i) (cs:=u) x;injection g with e1
 injection e1 with e1
 injection e1 with e1
 subst e1;exact⟨v,z⟩
theorem bG {base m n:Nat} {a:aX} {v:aA} {xs:aP} {w c:ah} (o:w.ownsRow base a m v n xs) {k:List Nat} (s:Kp k w c) (d:∀e∈k,e<base):c.ownsRow base a m v n xs:=by
 refine⟨o.1,?_⟩;rcases o.2 with h|⟨b,f,i,j,l,p,q⟩
 ·exact .inl h
 exact .inr ⟨b,f,i,j,l,s.blk (g:=b) (t:=a) p (λa=>by have:=d b a;omega),q⟩
theorem oT {d:Type} (a:ax) (b:List aq->PO d) (e:Nat) (c:List d) (ts:List aq):dp a b (e+1) c ts=if bB ts a then(b ts.tail).bind λd f=>dp a b e (c++[d]) f else .ok c ts:=rfl
theorem bv {w:ah} {base m n:Nat} {a:aX} {v:aA} {xs:aP} (o:w.ownsRow base a m v n xs):∃a b,v=.slice a n b/\(v.ownBlock=none\/∃g,v.ownBlock=some g/\base<=g):=by
 rcases o.2 with⟨rfl,c⟩|⟨g,e,f,rfl,d,_⟩
 ·exact⟨none,0,by rw[c],.inl rfl⟩
 exact⟨_,_,rfl,.inr ⟨g,rfl,d⟩⟩
theorem Tryz.BM:(prog.info? 208).map (λa=>(a.zero,a.size,a.bytes))=some (some (.agg #[ai,J 0,J 0,J 0,ai]),5,56):=am
theorem cZ.len (x:cZ):(cZ.cells x).length=5:=rfl
theorem BO (u:Nat) (first:aQ) (a:List aq->PO cZ) (G:∀ts c,ts.length<=c->(a ts).Le c) (I:∀I k,(callFunc u I).run prog k=.ok (.enter u I) k) (m:Int) (l:Nat) (ts:List aq) (b:ax) (k:ah) (v:az k l m ts) (al:aJ b)
 (H:∀p I,az I l m p->Calls prog u first I (λe J=>PP m l I (a p) (jo cZ.cells cZ.bo) e J)):
 Calls prog 164 #[ak l,b,.func (.func u) first #[]] k λe J=>PP m l k (dO b a ts) (d3 k.heap.size 5 cZ.cells cZ.bo) e J:=by
 obtain⟨am,an,ao,ap,ar⟩:=info_parts Tryz.BM;have I:=v.lt;have av:=Z H;have I:=Z v;have aw:=Z G;have HC:=Z (H ts k v);have ay:=Z (show ts.length<=5000 by obtain⟨f,g,d⟩:=v;exact d.few);have HE:=Z (show dO b a ts=(a ts).bind λf d=>dp b a (d.length+1) [f] d from rfl);have K:=Z (G ts 5000 ay);clear H v G;generalize a ts=aA at HC HE K;generalize dO b a ts=B at HE⊢;cases aA with
 |bad d f=>
  go_enter func164,ntmps164
  exact mc
 |ok n p=>
  have aB:=Z (K _ _ rfl);clear K;have T:=Z (show B=dp b a (p.length+1) [n] p from HE);clear HE;obtain⟨d,f,⟨g,i,j⟩⟩:=n;go_enter func164,ntmps164
  go_wp2_with fail
  refine HC.mono ?_;rintro e w1 ⟨K1,w,rfl,⟨q,y⟩,U⟩;replace q:w=.agg #[d,f,g,i,j]:=q;subst q;have fy:=Z y;clear y HC;go_wp2;have V:=Z (iB w1 #[d,f,g,i,j] 208 5 k.heap.size rfl K1.size);have K2:=Z (K1.alloc (.cells #[d,f,g,i,j] 208));have r:=Z (U.same ((ag.refl w1).alloc (.cells #[d,f,g,i,j] 208)));clear K1 U;go_loopg [7] (p.length+1) (λv w wr=>∃(o:List cZ) (t:List aq) (z:aU) (c A:Nat),w=.slice z c A/\o.length=c/\Hid (wr.ownsRow k.heap.size 208 5 (O z c A) c (o.flatMap cZ.cells))/\Hid (az wr l m t)/\Hid (Kp [l] k wr)/\t.length<v/\Hid (B=dp b a v o t)/\c+t.length<=5001/\Hid (∀x∈o,cZ.bo x))
  case atStart=>exact⟨[⟨d,f,⟨g,i,j⟩⟩],p,some ⟨w1.heap.size,0,none⟩,1,1,rfl,rfl,V,r,K2,by omega,T,omg aB,Z (by intro x hx;rw[aC hx];exact fy.out)⟩
  obtain⟨z,A,aD,c,aE,rfl,W,C,L,D,X,Y,aa,HF⟩:=hrel;clear V K2 r T fy;obtain⟨t,rfl⟩:∃t,gk=t+1:=⟨gk-1,by omega⟩;have E:=Z (Y.trans (oT b a t z A));have F:=Z (j8 m l A b wr L al);have ab:=Z (λh=>m9 (ts:=A) (s:=b) h);have M:=Z W;clear Y W;generalize bB A b=aF at F E ab;cases aF
  case false=>
   go_wp2_with fail
   refine F.mono ?_;rintro e P ⟨rfl,o,N⟩;have K2:=Z (D.trans o);have r:=Z (show az P l m A from N);have Q:=Z (bG C o (λn hb=>by simp at hb;omega));clear o N C D L;go_wp2;go_ret;rw[E.out,if_neg aj];exact⟨K2,_,rfl,d3.kY cZ.len Q M HF (omg M),r⟩
  obtain⟨aS,o,rfl⟩:=ab rfl;have N:=Z (aw o o.length (Nat.le_refl _));have HR3:=Z (show B=(a o).bind λp v=>dp b a t (z++[p]) v from E);have p:c+(o.length+1)<=5001:=by simpa using aa
  have p:o.length<t:=by simp at X;omega
  clear E aa X;go_wp2_with fail
  refine F.mono ?_;rintro e ac ⟨rfl,P,ad⟩;have K2:=Z (D.trans P);have r:=Z (show az ac l m o from ad);have ae:=Z (bG C P (λn hb=>by simp at hb;omega));clear P ad C D L F;have fB:=Z (av o ac r);clear r;generalize a o=aG at fB HR3 N;cases aG with
  |bad Q ai=>
   exact oU
  |ok n ai=>
   have l:=N _ _ rfl;have aH:=Z (show B=dp b a t (z++[n]) ai from HR3);clear HR3 N;obtain⟨d,f,⟨g,i,j⟩⟩:=n;go_wp2_with fail
   refine fB.mono ?_;rintro e w3 ⟨k3,w,rfl,⟨q,y⟩,aI⟩;replace q:w=.agg #[d,f,g,i,j]:=q;subst q;have K3:=Z (K2.trans k3);have a:=Z ((bG ae k3 (λn hb=>by simp at hb;omega)));have fy:=Z y;clear k3 y ae K2 fB;have Q:=Z (aK ((ag.refl w3).alloc (.cells #[d,f,g,i,j] 208)) a);have aL:=Z (cO w3 #[d,f,g,i,j] 208 5 rfl);have aM:=Z K3.size;go_wp2_with (at_builtin;refine eL _ rfl (.tmp 14) (.tmp 17) 86 rfl k.heap.size 208 am _ 5 56 underlying86 an ao ap ar rfl au (O aD c aE) c (z.flatMap cZ.cells) rfl Q.out (w3.heap.size+1) (some ⟨w3.heap.size,0,none⟩) 1 1 (#[d,f,g,i,j]:Array Value).toList rfl aL.out bw cc af (by have:=aM.out;simp;omega) ?_;intro a a a b k;have R:=Z a;have S:=Z b;clear a b k)
   obtain⟨aN,aO,rfl,aT⟩:=bv R;have aP:=Z ((K3.out.alloc (.cells #[d,f,g,i,j] 208)).grown S.out (λu hg=>.inr (by
    obtain⟨_,_,_,ho⟩:=bv Q;exact f0)))
   have aR:=Z ((aI.same ((ag.refl w3).alloc (.cells #[d,f,g,i,j] 208))).grown S.out (λu hg=>by
    obtain⟨_,_,_,ho⟩:=bv Q;exact f0))
   go_wp2;go_roundg t
   case measure=>omega
   case rel=>exact⟨z++[⟨d,f,⟨g,i,j⟩⟩],ai,aN,c+1,aO,rfl,by rw[List.length_append,M.out];rfl,Z (by have:=R.out;rw[List.flatMap_append];exact this),aR,aP,by omega,aH,by omega,Z (by
    exact oV)⟩
theorem Tryz.vC:(prog.info? 9).map (λa=>(a.zero,a.size,a.bytes))=some (some (.string ⟨#[]⟩),1,16):=am
theorem Str.len (x:ax):(cq x).length=1:=rfl
theorem BP (n:Nat) (first:aQ) (b:List aq->PO ByteArray) (B:∀ts d,ts.length<=d->(b ts).Le d) (D:∀D w,(callFunc n D).run prog w=.ok (.enter n D) w) (g:Int) (f:Nat) (ts:List aq) (c:ax) (w:ah) (o:az w f g ts) (ab:aJ c)
 (C:∀j D,az D f g j->Calls prog n first D (λe E=>PP g f D (b j) vo e E)):
 Calls prog 241 #[ak f,c,.func (.func n) first #[]] w λe E=>PP g f w (dO c b ts) (d3 w.heap.size 1 cq aJ) e E:=by
 obtain⟨ac,ad,ae,ai,al⟩:=info_parts Tryz.vC;have D:=o.lt;have am:=Z C;have D:=Z o;have an:=Z B;have HC:=Z (C ts w o);have ao:=Z (show ts.length<=5000 by obtain⟨i,k,a⟩:=o;exact a.few);have HE:=Z (show dO c b ts=(b ts).bind λi a=>dp c b (a.length+1) [i] a from rfl);have F:=Z (B ts 5000 ao);clear C o B;generalize b ts=ap at HC HE F;generalize dO c b ts=u at HE⊢;cases ap with
 |bad a i=>
  go_enter func241,ntmps241
  exact mc
 |ok a j=>
  have ar:=Z (F _ _ rfl);clear F;have N:=Z (show u=dp c b (j.length+1) [a] j from HE);clear HE;go_enter func241,ntmps241
  go_wp2_with fail
  refine HC.mono ?_;rintro e w1 ⟨K1,p,rfl,⟨k,q⟩,P⟩;replace k:p=.string a:=k;subst k;have fy:=Z q;clear q HC;go_wp2;have Q:=Z (iB w1 #[a] 9 1 w.heap.size rfl K1.size);have K2:=Z (K1.alloc (.cells #[a] 9));have l:=Z (P.same ((ag.refl w1).alloc (.cells #[a] 9)));clear K1 P;go_loopg [7] (j.length+1) (λo p wr=>∃(i:bk) (m:List aq) (r:aU) (d t:Nat),p=.slice r d t/\i.length=d/\Hid (wr.ownsRow w.heap.size 9 1 (O r d t) d (i.flatMap cq))/\Hid (az wr f g m)/\Hid (Kp [f] w wr)/\m.length<o/\Hid (u=dp c b o i m)/\d+m.length<=5001/\Hid (∀x∈i,aJ x))
  case atStart=>exact⟨[a],j,some ⟨w1.heap.size,0,none⟩,1,1,rfl,rfl,Q,l,K2,by omega,N,omg ar,Z (by intro x hx;rw[aC hx];exact fy.out)⟩
  obtain⟨r,t,av,d,aw,rfl,R,v,G,y,S,T,U,HF⟩:=hrel;clear Q K2 l N fy;obtain⟨m,rfl⟩:∃m,gk=m+1:=⟨gk-1,by omega⟩;have z:=Z (T.trans (oT c b m r t));have A:=Z (j8 g f t c wr G ab);have V:=Z (λh=>m9 (ts:=t) (s:=c) h);have H:=Z R;clear T R;generalize bB t c=ay at A z V;cases ay
  case false=>
   go_wp2_with fail
   refine A.mono ?_;rintro e J ⟨rfl,i,I⟩;have K2:=Z (y.trans i);have l:=Z (show az J f g t from I);have K:=Z (bG v i (λa hb=>by simp at hb;omega));clear i I v y G;go_wp2;go_ret;rw[z.out,if_neg aj];exact⟨K2,_,rfl,d3.kY Str.len K H HF (omg H),l⟩
  obtain⟨aM,i,rfl⟩:=V rfl;have I:=Z (an i i.length (Nat.le_refl _));have HR3:=Z (show u=(b i).bind λj o=>dp c b m (r++[j]) o from z);have j:d+(i.length+1)<=5001:=by simpa using U
  have j:i.length<m:=by simp at S;omega
  clear z U S;go_wp2_with fail
  refine A.mono ?_;rintro e W ⟨rfl,J,X⟩;have K2:=Z (y.trans J);have l:=Z (show az W f g i from X);have Y:=Z (bG v J (λa hb=>by simp at hb;omega));clear J X v y G A;have fB:=Z (am i W l);clear l;generalize b i=aA at fB HR3 I;cases aA with
  |bad K aa=>
   exact oU
  |ok a aa=>
   have f:=I _ _ rfl;have aB:=Z (show u=dp c b m (r++[a]) aa from HR3);clear HR3 I;go_wp2_with fail
   refine fB.mono ?_;rintro e w3 ⟨k3,p,rfl,⟨k,q⟩,aD⟩;replace k:p=.string a:=k;subst k;have K3:=Z (K2.trans k3);have b:=Z ((bG Y k3 (λa hb=>by simp at hb;omega)));have fy:=Z q;clear k3 q Y K2 fB;have K:=Z (aK ((ag.refl w3).alloc (.cells #[a] 9)) b);have aE:=Z (cO w3 #[a] 9 1 rfl);have aF:=Z K3.size;go_wp2_with (at_builtin;refine eL _ rfl (.tmp 14) (.tmp 17) 83 rfl w.heap.size 9 ac _ 1 16 underlying83 ad ae ai al rfl au (O av d aw) d (r.flatMap cq) rfl K.out (w3.heap.size+1) (some ⟨w3.heap.size,0,none⟩) 1 1 (#[a]:Array Value).toList rfl aE.out bw cc af (by have:=aF.out;simp;omega) ?_;intro b b b c f;have L:=Z b;have M:=Z c;clear b c f)
   obtain⟨aG,aH,rfl,aN⟩:=bv L;have aI:=Z ((K3.out.alloc (.cells #[a] 9)).grown M.out (λn hg=>.inr (by
    obtain⟨_,_,_,ho⟩:=bv K;exact f0)))
   have aL:=Z ((aD.same ((ag.refl w3).alloc (.cells #[a] 9))).grown M.out (λn hg=>by
    obtain⟨_,_,_,ho⟩:=bv K;exact f0))
   go_wp2;go_roundg m
   case measure=>omega
   case rel=>exact⟨r++[a],aa,aG,d+1,aH,rfl,by rw[List.length_append,H.out];rfl,Z (by have:=L.out;rw[List.flatMap_append];exact this),aL,aI,by omega,aB,by omega,Z (by
    exact oV)⟩
theorem Tryz.BQ:(prog.info? 286).map (λa=>(a.zero,a.size,a.bytes))=some (some (.agg #[ai,ai,.bool false,J 0,J 0,ai,J 0,ai,ai,.bool false,J 0,J 0,ai,J 0]),14,160):=am
theorem bm.len (x:bm):(bm.cells x).length=14:=rfl
theorem BR (E:Nat) (first:aQ) (a:List aq->PO bm) (Q:∀ts c,ts.length<=c->(a ts).Le c) (S:∀S u,(callFunc E S).run prog u=.ok (.enter E S) u) (w:Int) (v:Nat) (ts:List aq) (b:ax) (u:ah) (F:az u v w ts) (aA:aJ b)
 (R:∀A S,az S v w A->Calls prog E first S (λe T=>PP w v S (a A) (jo bm.cells bm.bo) e T)):
 Calls prog 242 #[ak v,b,.func (.func E) first #[]] u λe T=>PP w v u (dO b a ts) (d3 u.heap.size 14 bm.cells bm.bo) e T:=by
 obtain⟨aB,aD,aE,aF,aG⟩:=info_parts Tryz.BQ;have S:=F.lt;have aH:=Z R;have S:=Z F;have aI:=Z Q;have HC:=Z (R ts u F);have aL:=Z (show ts.length<=5000 by obtain⟨f,g,d⟩:=F;exact d.few);have HE:=Z (show dO b a ts=(a ts).bind λf d=>dp b a (d.length+1) [f] d from rfl);have U:=Z (Q ts 5000 aL);clear R F Q;generalize a ts=aM at HC HE U;generalize dO b a ts=K at HE⊢;cases aM with
 |bad d f=>
  go_enter func242,ntmps242
  exact mc
 |ok y A=>
  have aN:=Z (U _ _ rfl);clear U;have ad:=Z (show K=dp b a (A.length+1) [y] A from HE);clear HE;obtain⟨⟨d,f,g,⟨i,j,k⟩⟩,l,⟨m,n,o,⟨p,q,r⟩⟩,t⟩:=y;go_enter func242,ntmps242
  go_wp2_with fail
  refine HC.mono ?_;rintro e w1 ⟨K1,G,rfl,⟨B,H⟩,ae⟩;replace B:G=.agg #[d,f,g,i,j,k,l,m,n,o,p,q,r,t]:=B;subst B;have fy:=Z H;clear H HC;go_wp2;have ai:=Z (iB w1 #[d,f,g,i,j,k,l,m,n,o,p,q,r,t] 286 14 u.heap.size rfl K1.size);have K2:=Z (K1.alloc (.cells #[d,f,g,i,j,k,l,m,n,o,p,q,r,t] 286));have C:=Z (ae.same ((ag.refl w1).alloc (.cells #[d,f,g,i,j,k,l,m,n,o,p,q,r,t] 286)));clear K1 ae;go_loopg [7] (A.length+1) (λF G wr=>∃(z:List bm) (D:List aq) (I:aU) (c J:Nat),G=.slice I c J/\z.length=c/\Hid (wr.ownsRow u.heap.size 286 14 (O I c J) c (z.flatMap bm.cells))/\Hid (az wr v w D)/\Hid (Kp [v] u wr)/\D.length<F/\Hid (K=dp b a F z D)/\c+D.length<=5001/\Hid (∀x∈z,bm.bo x))
  case atStart=>exact⟨[⟨⟨d,f,g,⟨i,j,k⟩⟩,l,⟨m,n,o,⟨p,q,r⟩⟩,t⟩],A,some ⟨w1.heap.size,0,none⟩,1,1,rfl,rfl,ai,C,K2,by omega,ad,omg aN,Z (by intro x hx;rw[aC hx];exact fy.out)⟩
  obtain⟨I,J,aO,c,aP,rfl,al,L,V,M,am,an,ao,HF⟩:=hrel;clear ai K2 C ad fy;obtain⟨D,rfl⟩:∃D,gk=D+1:=⟨gk-1,by omega⟩;have N:=Z (an.trans (oT b a D I J));have P:=Z (j8 w v J b wr V aA);have ap:=Z (λh=>m9 (ts:=J) (s:=b) h);have W:=Z al;clear an al;generalize bB J b=aR at P N ap;cases aR
  case false=>
   go_wp2_with fail
   refine P.mono ?_;rintro e Y ⟨rfl,z,X⟩;have K2:=Z (M.trans z);have C:=Z (show az Y v w J from X);have aa:=Z (bG L z (λy hb=>by simp at hb;omega));clear z X L M V;go_wp2;go_ret;rw[N.out,if_neg aj];exact⟨K2,_,rfl,d3.kY bm.len aa W HF (omg W),C⟩
  obtain⟨a2,z,rfl⟩:=ap rfl;have X:=Z (aI z z.length (Nat.le_refl _));have HR3:=Z (show K=(a z).bind λA F=>dp b a D (I++[A]) F from N);have A:c+(z.length+1)<=5001:=by simpa using ao
  have A:z.length<D:=by simp at am;omega
  clear N ao am;go_wp2_with fail
  refine P.mono ?_;rintro e ar ⟨rfl,Y,av⟩;have K2:=Z (M.trans Y);have C:=Z (show az ar v w z from av);have aw:=Z (bG L Y (λy hb=>by simp at hb;omega));clear Y av L M V P;have fB:=Z (aH z ar C);clear C;generalize a z=aS at fB HR3 X;cases aS with
  |bad aa ay=>
   exact oU
  |ok y ay=>
   have v:=X _ _ rfl;have aT:=Z (show K=dp b a D (I++[y]) ay from HR3);clear HR3 X;obtain⟨⟨d,f,g,⟨i,j,k⟩⟩,l,⟨m,n,o,⟨p,q,r⟩⟩,t⟩:=y;go_wp2_with fail
   refine fB.mono ?_;rintro e w3 ⟨k3,G,rfl,⟨B,H⟩,aV⟩;replace B:G=.agg #[d,f,g,i,j,k,l,m,n,o,p,q,r,t]:=B;subst B;have K3:=Z (K2.trans k3);have a:=Z ((bG aw k3 (λy hb=>by simp at hb;omega)));have fy:=Z H;clear k3 H aw K2 fB;have aa:=Z (aK ((ag.refl w3).alloc (.cells #[d,f,g,i,j,k,l,m,n,o,p,q,r,t] 286)) a);have aW:=Z (cO w3 #[d,f,g,i,j,k,l,m,n,o,p,q,r,t] 286 14 rfl);have aX:=Z K3.size;go_wp2_with (at_builtin;refine eL _ rfl (.tmp 14) (.tmp 17) 90 rfl u.heap.size 286 aB _ 14 160 underlying90 aD aE aF aG rfl au (O aO c aP) c (I.flatMap bm.cells) rfl aa.out (w3.heap.size+1) (some ⟨w3.heap.size,0,none⟩) 1 1 (#[d,f,g,i,j,k,l,m,n,o,p,q,r,t]:Array Value).toList rfl aW.out bw cc af (by have:=aX.out;simp;omega) ?_;intro a a a b u;have ab:=Z a;have ac:=Z b;clear a b u)
   obtain⟨aY,aZ,rfl,a3⟩:=bv ab;have a0:=Z ((K3.out.alloc (.cells #[d,f,g,i,j,k,l,m,n,o,p,q,r,t] 286)).grown ac.out (λE hg=>.inr (by
    obtain⟨_,_,_,ho⟩:=bv aa;exact f0)))
   have a1:=Z ((aV.same ((ag.refl w3).alloc (.cells #[d,f,g,i,j,k,l,m,n,o,p,q,r,t] 286))).grown ac.out (λE hg=>by
    obtain⟨_,_,_,ho⟩:=bv aa;exact f0))
   go_wp2;go_roundg D
   case measure=>omega
   case rel=>exact⟨I++[⟨⟨d,f,g,⟨i,j,k⟩⟩,l,⟨m,n,o,⟨p,q,r⟩⟩,t⟩],ay,aY,c+1,aZ,rfl,by rw[List.length_append,W.out];rfl,Z (by have:=ab.out;rw[List.flatMap_append];exact this),a1,a0,by omega,aT,by omega,Z (by
    exact oV)⟩
theorem Tryz.BS:(prog.info? 238).map (λa=>(a.zero,a.size,a.bytes))=some (some (.agg #[ai,J 0,J 0,ai]),4,48):=am
theorem da.len (x:da):(da.cells x).length=4:=rfl
theorem BT (r:Nat) (first:aQ) (a:List aq->PO da) (E:∀ts c,ts.length<=c->(a ts).Le c) (G:∀G j,(callFunc r G).run prog j=.ok (.enter r G) j) (l:Int) (k:Nat) (ts:List aq) (b:ax) (j:ah) (t:az j k l ts) (ae:aJ b)
 (F:∀us G,az G k l us->Calls prog r first G (λe H=>PP l k G (a us) (jo da.cells da.bo) e H)):
 Calls prog 171 #[ak k,b,.func (.func r) first #[]] j λe H=>PP l k j (dO b a ts) (d3 j.heap.size 4 da.cells da.bo) e H:=by
 obtain⟨ai,al,am,an,ao⟩:=info_parts Tryz.BS;have G:=t.lt;have ap:=Z F;have G:=Z t;have ar:=Z E;have HC:=Z (F ts j t);have av:=Z (show ts.length<=5000 by obtain⟨f,g,d⟩:=t;exact d.few);have HE:=Z (show dO b a ts=(a ts).bind λf d=>dp b a (d.length+1) [f] d from rfl);have I:=Z (E ts 5000 av);clear F t E;generalize a ts=aw at HC HE I;generalize dO b a ts=z at HE⊢;cases aw with
 |bad d f=>
  go_enter func171,ntmps171
  exact mc
 |ok m us=>
  have ay:=Z (I _ _ rfl);clear I;have R:=Z (show z=dp b a (us.length+1) [m] us from HE);clear HE;obtain⟨d,⟨f,g,i⟩⟩:=m;go_enter func171,ntmps171
  go_wp2_with fail
  refine HC.mono ?_;rintro e w1 ⟨K1,u,rfl,⟨o,v⟩,S⟩;replace o:u=.agg #[d,f,g,i]:=o;subst o;have fy:=Z v;clear v HC;go_wp2;have T:=Z (iB w1 #[d,f,g,i] 238 4 j.heap.size rfl K1.size);have K2:=Z (K1.alloc (.cells #[d,f,g,i] 238));have p:=Z (S.same ((ag.refl w1).alloc (.cells #[d,f,g,i] 238)));clear K1 S;go_loopg [7] (us.length+1) (λt u wr=>∃(n:List da) (q:List aq) (w:aU) (c y:Nat),u=.slice w c y/\n.length=c/\Hid (wr.ownsRow j.heap.size 238 4 (O w c y) c (n.flatMap da.cells))/\Hid (az wr k l q)/\Hid (Kp [k] j wr)/\q.length<t/\Hid (z=dp b a t n q)/\c+q.length<=5001/\Hid (∀x∈n,da.bo x))
  case atStart=>exact⟨[⟨d,⟨f,g,i⟩⟩],us,some ⟨w1.heap.size,0,none⟩,1,1,rfl,rfl,T,p,K2,by omega,R,omg ay,Z (by intro x hx;rw[aC hx];exact fy.out)⟩
  obtain⟨w,y,aA,c,aB,rfl,U,A,J,B,V,W,X,HF⟩:=hrel;clear T K2 p R fy;obtain⟨q,rfl⟩:∃q,gk=q+1:=⟨gk-1,by omega⟩;have C:=Z (W.trans (oT b a q w y));have D:=Z (j8 l k y b wr J ae);have Y:=Z (λh=>m9 (ts:=y) (s:=b) h);have K:=Z U;clear W U;generalize bB y b=aD at D C Y;cases aD
  case false=>
   go_wp2_with fail
   refine D.mono ?_;rintro e M ⟨rfl,n,L⟩;have K2:=Z (B.trans n);have p:=Z (show az M k l y from L);have N:=Z (bG A n (λm hb=>by simp at hb;omega));clear n L A B J;go_wp2;go_ret;rw[C.out,if_neg aj];exact⟨K2,_,rfl,d3.kY da.len N K HF (omg K),p⟩
  obtain⟨aP,n,rfl⟩:=Y rfl;have L:=Z (ar n n.length (Nat.le_refl _));have HR3:=Z (show z=(a n).bind λt y=>dp b a q (w++[t]) y from C);have t:c+(n.length+1)<=5001:=by simpa using X
  have t:n.length<q:=by simp at V;omega
  clear C X V;go_wp2_with fail
  refine D.mono ?_;rintro e aa ⟨rfl,M,ab⟩;have K2:=Z (B.trans M);have p:=Z (show az aa k l n from ab);have ac:=Z (bG A M (λm hb=>by simp at hb;omega));clear M ab A B J D;have fB:=Z (ap n aa p);clear p;generalize a n=aE at fB HR3 L;cases aE with
  |bad N ad=>
   exact oU
  |ok m ad=>
   have k:=L _ _ rfl;have aF:=Z (show z=dp b a q (w++[m]) ad from HR3);clear HR3 L;obtain⟨d,⟨f,g,i⟩⟩:=m;go_wp2_with fail
   refine fB.mono ?_;rintro e w3 ⟨k3,u,rfl,⟨o,v⟩,aG⟩;replace o:u=.agg #[d,f,g,i]:=o;subst o;have K3:=Z (K2.trans k3);have a:=Z ((bG ac k3 (λm hb=>by simp at hb;omega)));have fy:=Z v;clear k3 v ac K2 fB;have N:=Z (aK ((ag.refl w3).alloc (.cells #[d,f,g,i] 238)) a);have aH:=Z (cO w3 #[d,f,g,i] 238 4 rfl);have aI:=Z K3.size;go_wp2_with (at_builtin;refine eL _ rfl (.tmp 14) (.tmp 17) 88 rfl j.heap.size 238 ai _ 4 48 underlying88 al am an ao rfl au (O aA c aB) c (w.flatMap da.cells) rfl N.out (w3.heap.size+1) (some ⟨w3.heap.size,0,none⟩) 1 1 (#[d,f,g,i]:Array Value).toList rfl aH.out bw cc af (by have:=aI.out;simp;omega) ?_;intro a a a b j;have P:=Z a;have Q:=Z b;clear a b j)
   obtain⟨aL,aM,rfl,aR⟩:=bv P;have aN:=Z ((K3.out.alloc (.cells #[d,f,g,i] 238)).grown Q.out (λr hg=>.inr (by
    obtain⟨_,_,_,ho⟩:=bv N;exact f0)))
   have aO:=Z ((aG.same ((ag.refl w3).alloc (.cells #[d,f,g,i] 238))).grown Q.out (λr hg=>by
    obtain⟨_,_,_,ho⟩:=bv N;exact f0))
   go_wp2;go_roundg q
   case measure=>omega
   case rel=>exact⟨w++[⟨d,⟨f,g,i⟩⟩],ad,aL,c+1,aM,rfl,by rw[List.length_append,K.out];rfl,Z (by have:=P.out;rw[List.flatMap_append];exact this),aO,aN,by omega,aF,by omega,Z (by
    exact oV)⟩
theorem Tryz.BU:(prog.info? 133).map (λa=>(a.zero,a.size,a.bytes))=some (some (.agg #[ai,ai]),2,32):=am
theorem Vr.len (x:Vr):(Vr.cells x).length=2:=rfl
theorem BV (q:Nat) (first:aQ) (a:List aq->PO Vr) (D:∀ts c,ts.length<=c->(a ts).Le c) (F:∀F g,(callFunc q F).run prog g=.ok (.enter q F) g) (j:Int) (i:Nat) (ts:List aq) (b:ax) (g:ah) (r:az g i j ts) (ad:aJ b)
 (E:∀m F,az F i j m->Calls prog q first F (λe G=>PP j i F (a m) (jo Vr.cells Vr.bo) e G)):
 Calls prog 173 #[ak i,b,.func (.func q) first #[]] g λe G=>PP j i g (dO b a ts) (d3 g.heap.size 2 Vr.cells Vr.bo) e G:=by
 obtain⟨ae,ai,al,am,an⟩:=info_parts Tryz.BU;have F:=r.lt;have ao:=Z E;have F:=Z r;have ap:=Z D;have HC:=Z (E ts g r);have ar:=Z (show ts.length<=5000 by obtain⟨f,k,d⟩:=r;exact d.few);have HE:=Z (show dO b a ts=(a ts).bind λf d=>dp b a (d.length+1) [f] d from rfl);have H:=Z (D ts 5000 ar);clear E r D;generalize a ts=av at HC HE H;generalize dO b a ts=y at HE⊢;cases av with
 |bad d f=>
  go_enter func173,ntmps173
  exact mc
 |ok k m=>
  have aw:=Z (H _ _ rfl);clear H;have Q:=Z (show y=dp b a (m.length+1) [k] m from HE);clear HE;obtain⟨d,f⟩:=k;go_enter func173,ntmps173
  go_wp2_with fail
  refine HC.mono ?_;rintro e w1 ⟨K1,t,rfl,⟨n,u⟩,R⟩;replace n:t=.agg #[d,f]:=n;subst n;have fy:=Z u;clear u HC;go_wp2;have S:=Z (iB w1 #[d,f] 133 2 g.heap.size rfl K1.size);have K2:=Z (K1.alloc (.cells #[d,f] 133));have o:=Z (R.same ((ag.refl w1).alloc (.cells #[d,f] 133)));clear K1 R;go_loopg [7] (m.length+1) (λr t wr=>∃(l:List Vr) (p:List aq) (v:aU) (c w:Nat),t=.slice v c w/\l.length=c/\Hid (wr.ownsRow g.heap.size 133 2 (O v c w) c (l.flatMap Vr.cells))/\Hid (az wr i j p)/\Hid (Kp [i] g wr)/\p.length<r/\Hid (y=dp b a r l p)/\c+p.length<=5001/\Hid (∀x∈l,Vr.bo x))
  case atStart=>exact⟨[⟨d,f⟩],m,some ⟨w1.heap.size,0,none⟩,1,1,rfl,rfl,S,o,K2,by omega,Q,omg aw,Z (by intro x hx;rw[aC hx];exact fy.out)⟩
  obtain⟨v,w,ay,c,aA,rfl,T,z,I,A,U,V,W,HF⟩:=hrel;clear S K2 o Q fy;obtain⟨p,rfl⟩:∃p,gk=p+1:=⟨gk-1,by omega⟩;have B:=Z (V.trans (oT b a p v w));have C:=Z (j8 j i w b wr I ad);have X:=Z (λh=>m9 (ts:=w) (s:=b) h);have J:=Z T;clear V T;generalize bB w b=aB at C B X;cases aB
  case false=>
   go_wp2_with fail
   refine C.mono ?_;rintro e L ⟨rfl,l,K⟩;have K2:=Z (A.trans l);have o:=Z (show az L i j w from K);have M:=Z (bG z l (λk hb=>by simp at hb;omega));clear l K z A I;go_wp2;go_ret;rw[B.out,if_neg aj];exact⟨K2,_,rfl,d3.kY Vr.len M J HF (omg J),o⟩
  obtain⟨aO,l,rfl⟩:=X rfl;have K:=Z (ap l l.length (Nat.le_refl _));have HR3:=Z (show y=(a l).bind λm r=>dp b a p (v++[m]) r from B);have m:c+(l.length+1)<=5001:=by simpa using W
  have m:l.length<p:=by simp at U;omega
  clear B W U;go_wp2_with fail
  refine C.mono ?_;rintro e Y ⟨rfl,L,aa⟩;have K2:=Z (A.trans L);have o:=Z (show az Y i j l from aa);have ab:=Z (bG z L (λk hb=>by simp at hb;omega));clear L aa z A I C;have fB:=Z (ao l Y o);clear o;generalize a l=aD at fB HR3 K;cases aD with
  |bad M ac=>
   exact oU
  |ok k ac=>
   have i:=K _ _ rfl;have aE:=Z (show y=dp b a p (v++[k]) ac from HR3);clear HR3 K;obtain⟨d,f⟩:=k;go_wp2_with fail
   refine fB.mono ?_;rintro e w3 ⟨k3,t,rfl,⟨n,u⟩,aF⟩;replace n:t=.agg #[d,f]:=n;subst n;have K3:=Z (K2.trans k3);have a:=Z ((bG ab k3 (λk hb=>by simp at hb;omega)));have fy:=Z u;clear k3 u ab K2 fB;have M:=Z (aK ((ag.refl w3).alloc (.cells #[d,f] 133)) a);have aG:=Z (cO w3 #[d,f] 133 2 rfl);have aH:=Z K3.size;go_wp2_with (at_builtin;refine eL _ rfl (.tmp 14) (.tmp 17) 89 rfl g.heap.size 133 ae _ 2 32 underlying89 ai al am an rfl au (O ay c aA) c (v.flatMap Vr.cells) rfl M.out (w3.heap.size+1) (some ⟨w3.heap.size,0,none⟩) 1 1 (#[d,f]:Array Value).toList rfl aG.out bw cc af (by have:=aH.out;simp;omega) ?_;intro a a a b g;have N:=Z a;have P:=Z b;clear a b g)
   obtain⟨aI,aL,rfl,aP⟩:=bv N;have aM:=Z ((K3.out.alloc (.cells #[d,f] 133)).grown P.out (λq hg=>.inr (by
    obtain⟨_,_,_,ho⟩:=bv M;exact f0)))
   have aN:=Z ((aF.same ((ag.refl w3).alloc (.cells #[d,f] 133))).grown P.out (λq hg=>by
    obtain⟨_,_,_,ho⟩:=bv M;exact f0))
   go_wp2;go_roundg p
   case measure=>omega
   case rel=>exact⟨v++[⟨d,f⟩],ac,aI,c+1,aL,rfl,by rw[List.length_append,J.out];rfl,Z (by have:=N.out;rw[List.flatMap_append];exact this),aN,aM,by omega,aE,by omega,Z (by
    exact oV)⟩
section
variable {w W:ah} {P:Nat} {z:Int} {us:List aq} {f:FuncId} {args:aQ} {Q:Ending->World->Prop} {l:List Nat}
theorem aT {e n:Type} {i:PO n} {j:PO e} {V:e->Value->World->Prop} {g:e->List aq->PO n} (n:P∈l) (p:Kp l w W) (c:i=j.bind g) (q:Calls prog f args W (λe b=>PP z P W j V e b))
 (k:∀er a b,Hid (i=.bad er a)->Hid (Kp l w b)->Q (.panicked [{v:=gT er a,recovered:=false}]) b)
 (r:∀a d v b,Hid (i=g a d)->V a v b->Kp [P] W b->Hid (Kp l w b)->Hid (az b P z d)->w.heap.size<=b.heap.size->Q (.returned v) b):Calls prog f args W Q:=by
 refine q.mono ?_;rintro e b ⟨o,h⟩;have m:Kp l w b:=p.trans (o.mono (λe k=>by rw[aC k];exact n));cases hr:j with
 |bad er a=>rw[hr]at h c;subst h;exact k er a b (Z c) (Z m)
 |ok a d=>rw[hr]at h c;obtain⟨v,rfl,s,t⟩:=h;exact r a d v b (Z c) s o (Z m) (Z t) m.size
theorem jp {j:Type} {e g i:PO j} (b:ax) (j:P∈l) (k:Kp l w W) (c:e=if bB us b=true then g else i) (m:az W P z us) (n:aJ b)
 (o:∀a,Hid (e=i)->Kp [P] W a->Hid (Kp l w a)->Hid (az a P z us)->w.heap.size<=a.heap.size->Q (.returned (.bool false)) a)
 (p:∀a,Hid (e=g)->Kp [P] W a->Hid (Kp l w a)->Hid (az a P z us.tail)->w.heap.size<=a.heap.size->Q (.returned (.bool true)) a):
 Calls prog 162 #[ak P,b] W Q:=by
 refine(j8 z P us b W m n).mono ?_;rintro e a ⟨q,f,h⟩;have d:Kp l w a:=k.trans (f.mono (λd d=>by rw[aC d];exact j));subst q;cases hr:bB us b with
 |false=>rw[hr]at h c;exact o a (Z c) f (Z d) (Z h) d.size
 |true=>rw[hr]at h c;exact p a (Z c) f (Z d) (Z h) d.size
theorem vD (b:ax) (e:P∈l) (f:Kp l w W) (g:az W P z us) (i:aJ b)
 (j:∀a,Kp [P] W a->Hid (Kp l w a)->Hid (az a P z (if bB us b then us.tail else us))->w.heap.size<=a.heap.size->Q (.returned (.bool (bB us b))) a):
 Calls prog 162 #[ak P,b] W Q:=by
 refine(j8 z P us b W g i).mono ?_;rintro b a ⟨k,c,h⟩;have d:Kp l w a:=f.trans (c.mono (λb b=>by rw[aC b];exact e));subst k;exact j a c (Z d) (Z h) d.size
theorem r6 {d:Type} {e:PO d} (b:Int) (f:Kp l w W) (g:e=fI z us b) (i:az W P z us) (j:∀er a c,Hid (e=.bad er a)->Hid (Kp l w c)->Q (.panicked [{v:=gT er a,recovered:=false}]) c):
 Calls prog 46 #[ak P,b] W Q:=by
 refine(oO (α:=d) z P us b W i).mono ?_;rintro b c ⟨⟨er,a,k,rfl⟩,rfl⟩;exact j er a _ (Z (g.trans k)) (Z f)
theorem Kp.set {p:Addr} (b:w.heap.size<=p.block) (h:Kp l w W) (a:aA):Kp l w (W.setCell p a):=h.setCell (.inr b) a
theorem Kp.aI {p:Addr} (a:p.block∈l) (h:Kp l w W) (u:aA):Kp l w (W.setCell p u):=h.setCell (.inl a) u
theorem az.alloc (h:az W P z us) (o:Obj):az (W.alloc o) P z us:=h.same ((ag.refl W).alloc o)
theorem az.drew (h:az W P z us):az W.drew P z us:=h.same ((ag.refl W).drew)
theorem az.set {p:Addr} (e:P<p.block) (h:az W P z us) (a:aA):az (W.setCell p a) P z us:=by
 obtain⟨c,d,b⟩:=h;refine⟨c,aa.far d af a,?_⟩;exact b.keep ((Kp.refl [p.block] W).setCell (.inl aj) a) (λa c d e=>by have:=b.far a c d e;simp;omega)
theorem d3.base {a:Type} {base base' b:Nat} {enc:a->List Value} {c:a->Prop} {d:List a} {v:aA} (r:d3 base b enc c d v W) (h:base'<=base):d3 base' b enc c d v W:=by
 obtain⟨f,g,i,j,e,k⟩:=r;exact⟨f,g,i,j,λa b c=>⟨bJ h (e a b c).1,(e a b c).2⟩,k⟩
end
def bX:World->Nat->Nat->List Value->World
 |w,_,_,[]=>w
 |w,g,i,v::vs=>bX (w.setCell (ac g i) v) g (i+1) vs
def mg:Array Value->Nat->List Value->Array Value
 |cs,_,[]=>cs
 |cs,i,v::vs=>mg (cs.setIfInBounds i v) (i+1) vs
theorem aa.jq {c:Nat} {d:aX}:∀(b:aP) (a:Nat) (w:ah) (e:aQ),aa w c d e->aa (bX w c a b) c d (mg e a b)
 |[],_,_,_,h=>h
 |v::b,a,_,_,h=>aa.jq b (a+1) _ _ (h.aR a v)
theorem qi:∀(c:aP) (a:Nat) (b:aQ),a+c.length<=b.size->(mg b a c).toList=b.toList.take a++c++b.toList.drop (a+c.length)
 |[],a,b,_=>by simp[mg]
 |d::c,a,b,h=>by
  simp only[List.length_cons]at h;rw[mg,qi c (a+1) _ aF,Array.toList_setIfInBounds];have e:(b.toList.set a d).take (a+1)=b.toList.take a++[d]:=by
   rw[List.take_succ_eq_append_getElem aF,List.take_set_of_le (Nat.le_refl _)];simp
  have a:(b.toList.set a d).drop (a+1+c.length)=b.toList.drop (a+(d::c).length):=by
   rw[List.drop_set_of_lt af];congr 1
   simp;omega
  rw[e,a];simp
theorem aa.sets {c:Nat} {d:aX} {w:ah} {b:aQ} (h:aa w c d b) (a:aP) (e:b.size=a.length):aa (bX w c 0 a) c d a.toArray:=by
 have:=aa.jq a 0 w b h;have c:mg b 0 a=a.toArray:=by
  apply Array.toList_inj.1;rw[qi a 0 b af];rw[List.drop_of_length_le aF];simp
 rwa[c]at this
theorem vE {w:ah} {a:Nat} {d:aX} {b c:aA} (h:aa w a d #[b,c]):ae w (ac a 0) b/\ae w (ac a 1) c:=⟨h.cell 0,h.cell 1⟩
theorem eR {w:ah} {a:Nat} {e:aX} {b c d:aA} (h:aa w a e #[b,c,d]):ae w (ac a 0) b/\ae w (ac a 1) c/\ae w (ac a 2) d:=⟨h.cell 0,h.cell 1,h.cell 2⟩
theorem vF {w:ah} {a:Nat} {f:aX} {b c d e:aA} (h:aa w a f #[b,c,d,e]):ae w (ac a 0) b/\ae w (ac a 1) c/\ae w (ac a 2) d/\ae w (ac a 3) e:=⟨h.cell 0,h.cell 1,h.cell 2,h.cell 3⟩
theorem nh {w:ah} {a:Nat} {t:aX} {b c d e f:aA} (h:aa w a t #[b,c,d,e,f]):ae w (ac a 0) b/\ae w (ac a 1) c/\ae w (ac a 2) d/\ae w (ac a 3) e/\ae w (ac a 4) f:=⟨h.cell 0,h.cell 1,h.cell 2,h.cell 3,h.cell 4⟩
theorem ni {w:ah} {a:Nat} {i:aX} {b c d e f g:aA} (h:aa w a i #[b,c,d,e,f,g]):ae w (ac a 0) b/\ae w (ac a 1) c/\ae w (ac a 2) d/\ae w (ac a 3) e/\ae w (ac a 4) f/\ae w (ac a 5) g:=⟨h.cell 0,h.cell 1,h.cell 2,h.cell 3,h.cell 4,h.cell 5⟩
theorem j9 {w:ah} {g:Nat} {t:aX} {a b c d e f i:aA} (h:aa w g t #[a,b,c,d,e,f,i]):ae w (ac g 0) a/\ae w (ac g 1) b/\ae w (ac g 2) c/\ae w (ac g 3) d/\ae w (ac g 4) e/\ae w (ac g 5) f/\ae w (ac g 6) i:=⟨h.cell 0,h.cell 1,h.cell 2,h.cell 3,h.cell 4,h.cell 5,h.cell 6⟩
theorem fg {w:ah} {g:Nat} {t:aX} {a b c d e f i j k:aA} (h:aa w g t #[a,b,c,d,e,f,i,j,k]):ae w (ac g 0) a/\ae w (ac g 1) b/\ae w (ac g 2) c/\ae w (ac g 3) d/\ae w (ac g 4) e/\ae w (ac g 5) f/\ae w (ac g 6) i/\ae w (ac g 7) j/\ae w (ac g 8) k:=⟨h.cell 0,h.cell 1,h.cell 2,h.cell 3,h.cell 4,h.cell 5,h.cell 6,h.cell 7,h.cell 8⟩
theorem ka {w:ah} {a:Nat} {t:aX} {b c d e f g i j k l m n o p:aA} (h:aa w a t #[b,c,d,e,f,g,i,j,k,l,m,n,o,p]):ae w (ac a 0) b/\ae w (ac a 1) c/\ae w (ac a 2) d/\ae w (ac a 3) e/\ae w (ac a 4) f/\ae w (ac a 5) g/\ae w (ac a 6) i/\ae w (ac a 7) j/\ae w (ac a 8) k/\ae w (ac a 9) l/\ae w (ac a 10) m/\ae w (ac a 11) n/\ae w (ac a 12) o/\ae w (ac a 13) p:=⟨h.cell 0,h.cell 1,h.cell 2,h.cell 3,h.cell 4,h.cell 5,h.cell 6,h.cell 7,h.cell 8,h.cell 9,h.cell 10,h.cell 11,h.cell 12,h.cell 13⟩
theorem dW {w:ah} {g:Nat} {t:aX} {a b c d e f i j k l m n o p q r s u v x y z A B C:aA} (h:aa w g t #[a,b,c,d,e,f,i,j,k,l,m,n,o,p,q,r,s,u,v,x,y,z,A,B,C]):ae w (ac g 0) a/\ae w (ac g 1) b/\ae w (ac g 2) c/\ae w (ac g 3) d/\ae w (ac g 4) e/\ae w (ac g 5) f/\ae w (ac g 6) i/\ae w (ac g 7) j/\ae w (ac g 8) k/\ae w (ac g 9) l/\ae w (ac g 10) m/\ae w (ac g 11) n/\ae w (ac g 12) o/\ae w (ac g 13) p/\ae w (ac g 14) q/\ae w (ac g 15) r/\ae w (ac g 16) s/\ae w (ac g 17) u/\ae w (ac g 18) v/\ae w (ac g 19) x/\ae w (ac g 20) y/\ae w (ac g 21) z/\ae w (ac g 22) A/\ae w (ac g 23) B/\ae w (ac g 24) C:=⟨h.cell 0,h.cell 1,h.cell 2,h.cell 3,h.cell 4,h.cell 5,h.cell 6,h.cell 7,h.cell 8,h.cell 9,h.cell 10,h.cell 11,h.cell 12,h.cell 13,h.cell 14,h.cell 15,h.cell 16,h.cell 17,h.cell 18,h.cell 19,h.cell 20,h.cell 21,h.cell 22,h.cell 23,h.cell 24⟩
theorem Kp.jq {l:List Nat} {w:ah} {b:Nat} (d:w.heap.size<=b):∀(c:aP) (a:Nat) (W:ah),Kp l w W->Kp l w (bX W b a c)
 |[],_,_,h=>h
 |v::c,a,_,h=>Kp.jq d c (a+1) _ (Kp.set (p:=(ac b a)) d h v)
theorem az.jq {P:Nat} {z:Int} {us:List aq} {b:Nat} (d:P<b):∀(c:aP) (a:Nat) (W:ah),az W P z us->az (bX W b a c) P z us
 |[],_,_,h=>h
 |v::c,a,_,h=>az.jq d c (a+1) _ (az.set (p:=(ac b a)) d h v)
theorem ed {l:List Nat} {w W:ah} {P g:Nat} {z:Int} {us:List aq} {t:aX} {cs:aQ} (B:aa W g t cs) (b:Kp l w W) (Q:az W P z us) (a:aP) (c:cs.size=a.length) (d:w.heap.size<=g) (e:P<g):
 aa (bX W g 0 a) g t a.toArray/\Kp l w (bX W g 0 a)/\az (bX W g 0 a) P z us:=⟨B.sets a c,b.jq d a 0,Q.jq e a 0⟩
theorem bY (l:Array UInt8) (h:l.size<=1000):aJ ⟨l⟩:=by unfold aJ;show l.size<=_;omega
def BW (l:bk):Bool:=l.all λa=>decide (a.size<=1000)
theorem cC (l:bk) (h:BW l=true):∀a∈l,aJ a:=by
 intro a b;have:=(List.all_eq_true.1 h) a b;simp at this;unfold aJ;omega
theorem df (z:Int) (P:Nat) (a:List aq) (l:bk) (W w:ah) (b:Nat) (c:az W P z a) (d:∀e∈l,aJ e) (f:W=w.alloc (.cells (l.map Value.string).toArray 9):=by rfl) (g:b=w.heap.size:=by simp) (e:P<b:=by omega) (h9:l.length<=9223372036854775807:=by decide):
 Calls prog 99 #[ak P,O (some ⟨b,0,none⟩) l.length l.length] W λb e=>PP z P W (aW z a l) (λ_ v _=>v=.tuple #[]) b e:=by
 subst f g;exact Bt z P a ⟨some ⟨w.heap.size,0,none⟩,l.length,l.length⟩ l _ c (oP w l 9 h9 d) (λa a h=>by
  injection h with h
  injection h with h
  omega)
theorem mh (z:Int) (P:Nat) (a:List aq) (l:bk) (W w:ah) (b:Nat) (c:az W P z a) (d:∀e∈l,aJ e) (f:l.length<=100) (g:W=w.alloc (.cells (l.map Value.string).toArray 9):=by rfl) (i:b=w.heap.size:=by simp) (e:P<b:=by omega):
 Calls prog 87 #[ak P,O (some ⟨b,0,none⟩) l.length l.length] W λb e=>PP z P W (dZ z a l) vq b e:=by
 subst g i;exact vt z P a ⟨some ⟨w.heap.size,0,none⟩,l.length,l.length⟩ l _ c (oP w l 9 af d) (λa a h=>by
  injection h with h
  injection h with h
  omega) f
theorem PO.bind_pure {b:Type} (a:PO b):a.bind (λb c=>.ok b c)=a:=by cases a<;>rfl
theorem qj (z:Int) (P:Nat) (a:List aq) (w:ah) (d:az w P z a):
 Calls prog 166 #[ak P] w λe b=>PP z P w (io z a) (d3 w.heap.size 1 cq aJ) e b:=by
 have e:∀args w,(callFunc 88 args).run prog w=.ok (.enter 88 args) w:=enters_of func88 am rfl;have f:=Z (BP 88 #[ak P] (bW z) (dI z) e z P a ⟨#[44]⟩ w d (bY _ au) (λus W h=>eJ z P us W h));have g:∀(g:Fn) (first cap:aQ) (w:ah),(Instr.makeFunc g first cap).run prog w=.ok (.func g first cap) w:=λ_ _ _ _=>rfl;clear d e;have c:=Z (show io z a=(dO ⟨#[44]⟩ (bW z) a).bind (λc a=>.ok c a)from(PO.bind_pure _).symm);generalize dO ⟨#[44]⟩ (bW z) a=n at f c;generalize io z a=o at c⊢;go_enter func166,ntmps166
 go_wp2_with fail
 refine aT (w:=w) (l:=[P]) aj (Kp.refl _ _) c.out f.out ?_ ?_
 ·intro a a b i j
  go_wp2;exact⟨rfl,by rw[i.out];exact⟨j.out,rfl⟩⟩
 intro a us a b i a _ j k _;have m:=Z a;clear a;go_wp2;go_ret;rw[i.out];exact⟨j.out,_,rfl,m.out,k.out⟩
section
variable {P:Program} {md:Region.Mode} {ops:Array Oper} {Q:Exit->Act->World->Prop}
theorem oW {S:World->Prop} {f:Prop} {c d:Act->World->Prop} {a:Act} {w:ah} (g:Shut (∀e b,(f->S b)->c e b->d e b)) (h:S w) (b:S w->c a w):d a w:=g.out a w (λ_=>h) (b h)
theorem BY {id:Nat} {d:Act} {w:ah} {b:Addr} {c:aA} (e:Nat) (f:ae w b c) (h:(λa=>ae a b c) w.drew->dc P .any ops Q (λa=>ae a b c) (λg=>decide (g<e)) ops.size (Array.replicate ops.size false) d w.drew) (g:P.follows .mixedOrders=true:=by kernel_rfl):(Code.region id ops true).wp P Q d w:=
 eI e (S:=(λa=>ae a b c)) f h g
theorem dP {id:Nat} {f:Act} {w:ah} {b c:Addr} {d e:aA} (n:Nat) (g:ae w b d) (i:ae w c e) (h:(λa=>ae a b d/\ae a c e) w.drew->dc P .any ops Q (λa=>ae a b d/\ae a c e) (λj=>decide (j<n)) ops.size (Array.replicate ops.size false) f w.drew) (j:P.follows .mixedOrders=true:=by kernel_rfl):(Code.region id ops true).wp P Q f w:=
 eI n (S:=(λa=>ae a b d/\ae a c e)) ⟨g,i⟩ h j
theorem gH {id:Nat} {i:Act} {w:ah} {b c d:Addr} {e f g:aA} (n:Nat) (j:ae w b e) (k:ae w c f) (l:ae w d g) (h:(λa=>ae a b e/\ae a c f/\ae a d g) w.drew->dc P .any ops Q (λa=>ae a b e/\ae a c f/\ae a d g) (λm=>decide (m<n)) ops.size (Array.replicate ops.size false) i w.drew) (m:P.follows .mixedOrders=true:=by kernel_rfl):(Code.region id ops true).wp P Q i w:=
 eI n (S:=(λa=>ae a b e/\ae a c f/\ae a d g)) ⟨j,k,l⟩ h m
theorem lj {id:Nat} {k:Act} {w:ah} {b c d e:Addr} {f g i j:aA} (n:Nat) (l:ae w b f) (m:ae w c g) (o:ae w d i) (p:ae w e j) (h:(λa=>ae a b f/\ae a c g/\ae a d i/\ae a e j) w.drew->dc P .any ops Q (λa=>ae a b f/\ae a c g/\ae a d i/\ae a e j) (λq=>decide (q<n)) ops.size (Array.replicate ops.size false) k w.drew) (q:P.follows .mixedOrders=true:=by kernel_rfl):(Code.region id ops true).wp P Q k w:=
 eI n (S:=(λa=>ae a b f/\ae a c g/\ae a d i/\ae a e j)) ⟨l,m,o,p⟩ h q
theorem r7 {id:Nat} {m:Act} {w:ah} {b c d e f:Addr} {g i j k l:aA} (n:Nat) (o:ae w b g) (p:ae w c i) (q:ae w d j) (r:ae w e k) (s:ae w f l) (h:(λa=>ae a b g/\ae a c i/\ae a d j/\ae a e k/\ae a f l) w.drew->dc P .any ops Q (λa=>ae a b g/\ae a c i/\ae a d j/\ae a e k/\ae a f l) (λt=>decide (t<n)) ops.size (Array.replicate ops.size false) m w.drew) (t:P.follows .mixedOrders=true:=by kernel_rfl):(Code.region id ops true).wp P Q m w:=
 eI n (S:=(λa=>ae a b g/\ae a c i/\ae a d j/\ae a e k/\ae a f l)) ⟨o,p,q,r,s⟩ h t
theorem vG {id:Nat} {p:Act} {w:ah} {b c d e f g:Addr} {i k l m n o:aA} (q:Nat) (r:ae w b i) (s:ae w c k) (t:ae w d l) (u:ae w e m) (v:ae w f n) (x:ae w g o) (h:(λa=>ae a b i/\ae a c k/\ae a d l/\ae a e m/\ae a f n/\ae a g o) w.drew->dc P .any ops Q (λa=>ae a b i/\ae a c k/\ae a d l/\ae a e m/\ae a f n/\ae a g o) (λj=>decide (j<q)) ops.size (Array.replicate ops.size false) p w.drew) (y:P.follows .mixedOrders=true:=by kernel_rfl):(Code.region id ops true).wp P Q p w:=
 eI q (S:=(λa=>ae a b i/\ae a c k/\ae a d l/\ae a e m/\ae a f n/\ae a g o)) ⟨r,s,t,u,v,x⟩ h y
theorem oX {id:Nat} {r:Act} {w:ah} {b c d e f g i:Addr} {j k l m o p q:aA} (n:Nat) (s:ae w b j) (t:ae w c k) (u:ae w d l) (v:ae w e m) (x:ae w f o) (y:ae w g p) (z:ae w i q) (h:(λa=>ae a b j/\ae a c k/\ae a d l/\ae a e m/\ae a f o/\ae a g p/\ae a i q) w.drew->dc P .any ops Q (λa=>ae a b j/\ae a c k/\ae a d l/\ae a e m/\ae a f o/\ae a g p/\ae a i q) (λA=>decide (A<n)) ops.size (Array.replicate ops.size false) r w.drew) (A:P.follows .mixedOrders=true:=by kernel_rfl):(Code.region id ops true).wp P Q r w:=
 eI n (S:=(λa=>ae a b j/\ae a c k/\ae a d l/\ae a e m/\ae a f o/\ae a g p/\ae a i q)) ⟨s,t,u,v,x,y,z⟩ h A
end
section
variable {w:ah} {g:Nat} {t:aX} {l:aP} {a0 a1 a2 a3 a4 a5 a6 a7 a8 a9 eh eu a12 eM fo fS a16 a17 gP il a20 a21 a22 a23 a24:aA}
theorem vH (h:Hid (aa w g t (List.toArray (a0::a1::a2::a3::a4::l)))) (a:aA):∃b,w.setCell (ac g 4) a=b/\Hid (aa b g t (List.toArray (a0::a1::a2::a3::a::l)))/\Hid (Kp [g] w b):=⟨_,rfl,lX h a,Kp.aI aj (Kp.refl [g] w) a⟩
theorem BZ (h:Hid (aa w g t (List.toArray (a0::a1::a2::a3::a4::a5::l)))) (a:aA):∃b,w.setCell (ac g 5) a=b/\Hid (aa b g t (List.toArray (a0::a1::a2::a3::a4::a::l)))/\Hid (Kp [g] w b):=⟨_,rfl,jU h a,Kp.aI aj (Kp.refl [g] w) a⟩
theorem r8 (h:Hid (aa w g t (List.toArray (a0::a1::a2::a3::a4::a5::a6::a7::l)))) (a:aA):∃b,w.setCell (ac g 7) a=b/\Hid (aa b g t (List.toArray (a0::a1::a2::a3::a4::a5::a6::a::l)))/\Hid (Kp [g] w b):=⟨_,rfl,gE h a,Kp.aI aj (Kp.refl [g] w) a⟩
theorem B0 (h:Hid (aa w g t (List.toArray (a0::a1::a2::a3::a4::a5::a6::a7::a8::l)))) (a:aA):∃b,w.setCell (ac g 8) a=b/\Hid (aa b g t (List.toArray (a0::a1::a2::a3::a4::a5::a6::a7::a::l)))/\Hid (Kp [g] w b):=⟨_,rfl,rT h a,Kp.aI aj (Kp.refl [g] w) a⟩
theorem B1 (h:Hid (aa w g t (List.toArray (a0::a1::a2::a3::a4::a5::a6::a7::a8::a9::l)))) (a:aA):∃b,w.setCell (ac g 9) a=b/\Hid (aa b g t (List.toArray (a0::a1::a2::a3::a4::a5::a6::a7::a8::a::l)))/\Hid (Kp [g] w b):=⟨_,rfl,AZ h a,Kp.aI aj (Kp.refl [g] w) a⟩
end
end Go.Proofs.YteamkimbmdgdbaaGreatDoor

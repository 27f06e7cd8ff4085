import Derived.Test.YteamkimbmdgdbaaGreatDoorK02
import Derived.Test.YteamkimbmdgdbaaGreatDoorK03
import Derived.Test.YteamkimbmdgdbaaGreatDoorK04
set_option linter.unusedSimpArgs false
set_option linter.unusedVariables false
set_option maxHeartbeats 16000000
set_option maxRecDepth 100000
namespace Go.Proofs.YteamkimbmdgdbaaGreatDoor
open Go.RowKit
def b8 (a:Int):Prop:=-9223372036854775808<=a/\a<=9223372036854775807
def dl.cells (a:dl):List Value:=[.string a.name,.int .i64 a.k,.int .i64 a.d.k,.int .i64 a.d.n,.string a.d.s]
structure dl.bY (c:dl):Prop where
 name:aG c.name
 k:b8 c.k
 d:c.d.fine
def cL.cells (t:cL):List Value:=[.string t.attr,.int .i64 t.meas,.int .i64 t.jE,.int .i64 t.num,.int .i64 t.den,.int .i64 t.gives,.int .i64 t.takes]
structure cL.bY (t:cL):Prop where
 attr:aG t.attr
 meas:b8 t.meas
 jE:b8 t.jE
 num:b8 t.num
 den:b8 t.den
 gives:b8 t.gives
 takes:b8 t.takes
def dG.cells (o:dG):List Value:=[.string o.var,.string o.attr,.bool o.c,.int .i64 o.v.k,.int .i64 o.v.n,.string o.v.s]
structure dG.bY (o:dG):Prop where
 var:aG o.var
 attr:aG o.attr
 v:o.v.fine
def bB.cells (a:bB):List Value:=[.string a.l.var,.string a.l.attr,.bool a.l.c,.int .i64 a.l.v.k,.int .i64 a.l.v.n,.string a.l.v.s,.int .i64 a.op,.string a.r.var,.string a.r.attr,.bool a.r.c,.int .i64 a.r.v.k,.int .i64 a.r.v.n,.string a.r.v.s,.int .i64 a.add]
structure bB.bY (c:bB):Prop where
 l:c.l.bY
 op:b8 c.op
 r:c.r.bY
 add:b8 c.add
def du.cells (x:du):List Value:=[.string x.name,.int .i64 x.v.k,.int .i64 x.v.n,.string x.v.s]
structure du.bY (x:du):Prop where
 name:aG x.name
 v:x.v.fine
def Vr.cells (x:Vr):List Value:=[.string x.name,.string x.table]
structure Vr.bY (x:Vr):Prop where
 name:aG x.name
 table:aG x.table
def iZ {a:Type} (c:a->List Value) (d:a->Prop) (b:a) (v:ay) (_:af):Prop:=v=.agg (c b).toArray/\d b
def dM {b:Type} (base c:Nat) (enc:b->List Value) (d:b->Prop) (l:List b) (v:ay) (w:af):Prop:=
 ∃h:Hd,v=h.val/\aF w c h enc l/\(∀b∈l,d b)/\(∀b c,h.a=some ⟨b,c,none⟩->base<=b/\b<w.heap.size)/\l.length<=5001
theorem aF.kp {b:Type} {w c:af} {m:Nat} {h:Hd} {enc:b->List Value} {xs:List b} (l:aF w m h enc xs) {k:List Nat} (d:Kp k w c) (g:∀b e,h.a=some ⟨b,e,none⟩->b∉k):aF c m h enc xs:=
 ⟨l.1,l.2.1,λc e=>by
  obtain⟨b,c,e,f,i⟩:=l.2.2 c e;exact⟨b,c,e,aT f d.size,λj n o=>(d.cell (p:=⟨b,_,none⟩) f (g b c e)).trans (i j n o)⟩⟩
theorem dM.kp {b:Type} {c m:Nat} {enc:b->List Value} {e:b->Prop} {l:List b} {v:ay} {w b:af} (g:dM c m enc e l v w) {k:List Nat} (f:Kp k w b) (i:∀a∈k,a<c):dM c m enc e l v b:=by
 obtain⟨h,j,n,o,d,p⟩:=g;exact⟨h,j,n.kp f (λa b c e=>by have:=i a e;have:=d a b c;omega),o,λa b c=>⟨(d a b c).1,aT (d a b c).2 f.size⟩,p⟩
theorem cC (w:af) (cs:aO) (t:bb) (m:Nat) (a:cs.size=m):cu (w.alloc (.cells cs t)) (w.heap.size+1) m (some ⟨w.heap.size,0,none⟩) 1 cs.toList:=by
 refine⟨by simp[a],λ_=>⟨_,rfl,Nat.lt_succ_self _,λa c b=>?_⟩⟩;have:=J.cell (J.new w t cs) a;rw[show((⟨w.heap.size,0,none⟩:Addr).add a)=⟨w.heap.size,a,none⟩ by unfold Addr.add;split<;>simp_all];rw[this];simpa using b
theorem ie (a:af) (cs:aO) (b:bb) (m c:Nat) (d:cs.size=m) (e:c<=a.heap.size):(a.alloc (.cells cs b)).ownsRow c b m (U (some ⟨a.heap.size,0,none⟩) 1 1) 1 cs.toList:=
 ⟨by simp[d],.inr ⟨a.heap.size,1,cs,rfl,e,J.new a b cs,Nat.le_refl _,by unfold maxLen;omega,by omega,by rw[Nat.one_mul,List.take_of_length_le (by simp[d])]⟩⟩
theorem dM.kx {a:Type} {base d:Nat} {i:bb} {e:a->List Value} {j:a->Prop} (p:∀f,(e f).length=d) {l:List a} {b:aX} {a c:Nat} {w:af} (k:w.ownsRow base i d (U b a c) a (l.flatMap e)) (q:l.length=a) (r:∀f∈l,j f) (f:l.length<=5001):dM base d e j l (U b a c) w:=by
 refine⟨⟨b,a,c⟩,rfl,cF (h:=⟨b,a,c⟩) p q (by show a<=_;omega) k,r,λm n o=>?_,f⟩;rcases k.2 with⟨g,_⟩|⟨s,A,u,g,v,x,_⟩
 ·have y:b=some ⟨m,n,none⟩:=o
  subst y;cases g
 have y:b=some ⟨m,n,none⟩:=o;subst y;have z:s<w.heap.size:=J.lt (t:=i) (cs:=u) x;injection g with e1
 injection e1 with e1
 injection e1 with e1
 subst e1;exact⟨v,z⟩
theorem bC {base m n:Nat} {a:bb} {v:ay} {xs:bg} {w c:af} (o:w.ownsRow base a m v n xs) {k:List Nat} (s:Kp k w c) (d:∀e∈k,e<base):c.ownsRow base a m v n xs:=by
 refine⟨o.1,?_⟩;rcases o.2 with h|⟨b,f,i,j,l,p,q⟩
 ·exact .inl h
 exact .inr ⟨b,f,i,j,l,s.blk (g:=b) (t:=a) p (λa=>by have:=d b a;omega),q⟩
theorem nM {d:Type} (a:aw) (b:List ao->PO d) (e:Nat) (c:List d) (ts:List ao):da a b (e+1) c ts=if bu ts a then(b ts.tail).bind λd f=>da a b e (c++[d]) f else .ok c ts:=rfl
theorem bo {w:af} {base m n:Nat} {a:bb} {v:ay} {xs:bg} (o:w.ownsRow base a m v n xs):∃a b,v=.slice a n b/\(v.ownBlock=none\/∃g,v.ownBlock=some g/\base<=g):=by
 rcases o.2 with⟨rfl,c⟩|⟨g,e,f,rfl,d,_⟩
 ·exact⟨none,0,by rw[c],.inl rfl⟩
 exact⟨_,_,rfl,.inr ⟨g,rfl,d⟩⟩
theorem Tryz.yJ:(Tryz.prog.info? 208).map (λa=>(a.zero,a.size,a.bytes))=some (some (.agg #[ah,O 0,O 0,O 0,ah]),5,56):=ak
theorem dl.len (x:dl):(dl.cells x).length=5:=rfl
theorem yK (u:Nat) (first:aO) (a:List ao->PO dl) (G:∀ts c,ts.length<=c->(a ts).Le c) (I:∀I k,(callFunc u I).run Tryz.prog k=.ok (.enter u I) k) (m:Int) (l:Nat) (ts:List ao) (b:aw) (k:af) (v:ax k l m ts) (al:aG b)
 (H:∀p I,ax I l m p->Calls Tryz.prog u first I (λe J=>PP m l I (a p) (iZ dl.cells dl.bY) e J)):
 Calls Tryz.prog 164 #[aj l,b,.func (.func u) first #[]] k λe J=>PP m l k (dA b a ts) (dM k.heap.size 5 dl.cells dl.bY) e J:=by
 obtain⟨am,an,ap,aq,ar⟩:=info_parts Tryz.yJ;have I:=v.lt;have av:=Z H;have I:=Z v;have ay:=Z G;have HC:=Z (H ts k v);have az:=Z (show ts.length<=5000 by obtain⟨f,g,d⟩:=v;exact d.few);have HE:=Z (show dA b a ts=(a ts).bind λf d=>da b a (d.length+1) [f] d from rfl);have K:=Z (G ts 5000 az);clear H v G;generalize a ts=aB at HC HE K;generalize dA b a ts=B at HE⊢;cases aB with
 |bad d f=>
  go_enter Tryz.func164,Tryz.ntmps164
  exact tY
 |ok n p=>
  have aC:=Z (K _ _ rfl);clear K;have S:=Z (show B=da b a (p.length+1) [n] p from HE);clear HE;obtain⟨d,f,⟨g,i,j⟩⟩:=n;go_enter Tryz.func164,Tryz.ntmps164
  go_wp2_with fail
  refine HC.mono ?_;rintro e w1 ⟨K1,w,rfl,⟨q,y⟩,T⟩;replace q:w=.agg #[d,f,g,i,j]:=q;subst q;have eV:=Z y;clear y HC;go_wp2;have V:=Z (ie w1 #[d,f,g,i,j] 208 5 k.heap.size rfl K1.size);have K2:=Z (K1.alloc (.cells #[d,f,g,i,j] 208));have r:=Z (T.same ((ag.refl w1).alloc (.cells #[d,f,g,i,j] 208)));clear K1 T;go_loopg [7] (p.length+1) (λv w wr=>∃(o:List dl) (t:List ao) (z:aX) (c A:Nat),w=.slice z c A/\o.length=c/\Hid (wr.ownsRow k.heap.size 208 5 (U z c A) c (o.flatMap dl.cells))/\Hid (ax wr l m t)/\Hid (Kp [l] k wr)/\t.length<v/\Hid (B=da b a v o t)/\c+t.length<=5001/\Hid (∀x∈o,dl.bY x))
  case atStart=>exact⟨[⟨d,f,⟨g,i,j⟩⟩],p,some ⟨w1.heap.size,0,none⟩,1,1,rfl,rfl,V,r,K2,by omega,S,by have:=aC.out;omega,Z (by intro x hx;rw[aA hx];exact eV.out)⟩
  obtain⟨z,A,aD,c,aE,rfl,W,C,L,D,X,Y,aa,HF⟩:=hrel;clear V K2 r S eV;obtain⟨t,rfl⟩:∃t,gk=t+1:=⟨gk-1,by omega⟩;have E:=Z (Y.trans (nM b a t z A));have F:=Z (jN m l A b wr L al);have ab:=Z (λh=>mz (ts:=A) (s:=b) h);have M:=Z W;clear Y W;generalize bu A b=aF at F E ab;cases aF
  case false=>
   go_wp2_with fail
   refine F.mono ?_;rintro e O ⟨rfl,o,N⟩;have K2:=Z (D.trans o);have r:=Z (show ax O l m A from N);have P:=Z (bC C o (λn hb=>by simp at hb;omega));clear o N C D L;go_wp2;go_ret;rw[E.out,if_neg ai];exact⟨K2,_,rfl,dM.kx dl.len P M HF (by have:=M.out;omega),r⟩
  obtain⟨aS,o,rfl⟩:=ab rfl;have N:=Z (ay o o.length (Nat.le_refl _));have HR3:=Z (show B=(a o).bind λp v=>da b a t (z++[p]) v from E);have p:c+(o.length+1)<=5001:=by simpa using aa
  have p:o.length<t:=by simp at X;omega
  clear E aa X;go_wp2_with fail
  refine F.mono ?_;rintro e ac ⟨rfl,O,ad⟩;have K2:=Z (D.trans O);have r:=Z (show ax ac l m o from ad);have ah:=Z (bC C O (λn hb=>by simp at hb;omega));clear O ad C D L F;have eW:=Z (av o ac r);clear r;generalize a o=aI at eW HR3 N;cases aI with
  |bad P ak=>
   exact tX
  |ok n ak=>
   have l:=N _ _ rfl;have aJ:=Z (show B=da b a t (z++[n]) ak from HR3);clear HR3 N;obtain⟨d,f,⟨g,i,j⟩⟩:=n;go_wp2_with fail
   refine eW.mono ?_;rintro e w3 ⟨k3,w,rfl,⟨q,y⟩,aK⟩;replace q:w=.agg #[d,f,g,i,j]:=q;subst q;have K3:=Z (K2.trans k3);have a:=Z ((bC ah k3 (λn hb=>by simp at hb;omega)));have eV:=Z y;clear k3 y ah K2 eW;have P:=Z (aH ((ag.refl w3).alloc (.cells #[d,f,g,i,j] 208)) a);have aL:=Z (cC w3 #[d,f,g,i,j] 208 5 rfl);have aM:=Z K3.size;go_wp2_with (at_builtin;refine d6 _ rfl (.tmp 14) (.tmp 17) 86 rfl k.heap.size 208 am _ 5 56 Tryz.underlying86 an ap aq ar rfl au (U aD c aE) c (z.flatMap dl.cells) rfl P.out (w3.heap.size+1) (some ⟨w3.heap.size,0,none⟩) 1 1 (#[d,f,g,i,j]:Array Value).toList rfl aL.out bl b1 ae (by have:=aM.out;simp;omega) ?_;intro a a a b k;have Q:=Z a;have R:=Z b;clear a b k)
   obtain⟨aN,aP,rfl,aT⟩:=bo Q;have aQ:=Z ((K3.out.alloc (.cells #[d,f,g,i,j] 208)).grown R.out (λu hg=>.inr (by
    obtain⟨_,_,_,ho⟩:=bo P;exact oD)))
   have aR:=Z ((aK.same ((ag.refl w3).alloc (.cells #[d,f,g,i,j] 208))).grown R.out (λu hg=>by
    obtain⟨_,_,_,ho⟩:=bo P;exact oD))
   go_wp2;go_roundg t
   case measure=>omega
   case rel=>exact⟨z++[⟨d,f,⟨g,i,j⟩⟩],ak,aN,c+1,aP,rfl,by rw[List.length_append,M.out];rfl,Z (by have:=Q.out;rw[List.flatMap_append];exact this),aR,aQ,by omega,aJ,by omega,Z (by
    exact tH)⟩
theorem Tryz.tl:(Tryz.prog.info? 9).map (λa=>(a.zero,a.size,a.bytes))=some (some (.string ⟨#[]⟩),1,16):=ak
theorem Str.len (x:aw):(dF x).length=1:=rfl
theorem yL (n:Nat) (first:aO) (b:List ao->PO ByteArray) (B:∀ts d,ts.length<=d->(b ts).Le d) (D:∀D w,(callFunc n D).run Tryz.prog w=.ok (.enter n D) w) (g:Int) (f:Nat) (ts:List ao) (c:aw) (w:af) (o:ax w f g ts) (ab:aG c)
 (C:∀j D,ax D f g j->Calls Tryz.prog n first D (λe E=>PP g f D (b j) s4 e E)):
 Calls Tryz.prog 241 #[aj f,c,.func (.func n) first #[]] w λe E=>PP g f w (dA c b ts) (dM w.heap.size 1 dF aG) e E:=by
 obtain⟨ac,ad,ah,ak,al⟩:=info_parts Tryz.tl;have D:=o.lt;have am:=Z C;have D:=Z o;have an:=Z B;have HC:=Z (C ts w o);have ap:=Z (show ts.length<=5000 by obtain⟨i,k,a⟩:=o;exact a.few);have HE:=Z (show dA c b ts=(b ts).bind λi a=>da c b (a.length+1) [i] a from rfl);have F:=Z (B ts 5000 ap);clear C o B;generalize b ts=aq at HC HE F;generalize dA c b ts=u at HE⊢;cases aq with
 |bad a i=>
  go_enter Tryz.func241,Tryz.ntmps241
  exact tY
 |ok a j=>
  have ar:=Z (F _ _ rfl);clear F;have N:=Z (show u=da c b (j.length+1) [a] j from HE);clear HE;go_enter Tryz.func241,Tryz.ntmps241
  go_wp2_with fail
  refine HC.mono ?_;rintro e w1 ⟨K1,p,rfl,⟨k,q⟩,O⟩;replace k:p=.string a:=k;subst k;have eV:=Z q;clear q HC;go_wp2;have P:=Z (ie w1 #[a] 9 1 w.heap.size rfl K1.size);have K2:=Z (K1.alloc (.cells #[a] 9));have l:=Z (O.same ((ag.refl w1).alloc (.cells #[a] 9)));clear K1 O;go_loopg [7] (j.length+1) (λo p wr=>∃(i:bm) (m:List ao) (r:aX) (d t:Nat),p=.slice r d t/\i.length=d/\Hid (wr.ownsRow w.heap.size 9 1 (U r d t) d (i.flatMap dF))/\Hid (ax wr f g m)/\Hid (Kp [f] w wr)/\m.length<o/\Hid (u=da c b o i m)/\d+m.length<=5001/\Hid (∀x∈i,aG x))
  case atStart=>exact⟨[a],j,some ⟨w1.heap.size,0,none⟩,1,1,rfl,rfl,P,l,K2,by omega,N,by have:=ar.out;omega,Z (by intro x hx;rw[aA hx];exact eV.out)⟩
  obtain⟨r,t,av,d,ay,rfl,Q,v,G,y,R,S,T,HF⟩:=hrel;clear P K2 l N eV;obtain⟨m,rfl⟩:∃m,gk=m+1:=⟨gk-1,by omega⟩;have z:=Z (S.trans (nM c b m r t));have A:=Z (jN g f t c wr G ab);have V:=Z (λh=>mz (ts:=t) (s:=c) h);have H:=Z Q;clear S Q;generalize bu t c=az at A z V;cases az
  case false=>
   go_wp2_with fail
   refine A.mono ?_;rintro e J ⟨rfl,i,I⟩;have K2:=Z (y.trans i);have l:=Z (show ax J f g t from I);have K:=Z (bC v i (λa hb=>by simp at hb;omega));clear i I v y G;go_wp2;go_ret;rw[z.out,if_neg ai];exact⟨K2,_,rfl,dM.kx Str.len K H HF (by have:=H.out;omega),l⟩
  obtain⟨aM,i,rfl⟩:=V rfl;have I:=Z (an i i.length (Nat.le_refl _));have HR3:=Z (show u=(b i).bind λj o=>da c b m (r++[j]) o from z);have j:d+(i.length+1)<=5001:=by simpa using T
  have j:i.length<m:=by simp at R;omega
  clear z T R;go_wp2_with fail
  refine A.mono ?_;rintro e W ⟨rfl,J,X⟩;have K2:=Z (y.trans J);have l:=Z (show ax W f g i from X);have Y:=Z (bC v J (λa hb=>by simp at hb;omega));clear J X v y G A;have eW:=Z (am i W l);clear l;generalize b i=aB at eW HR3 I;cases aB with
  |bad K aa=>
   exact tX
  |ok a aa=>
   have f:=I _ _ rfl;have aC:=Z (show u=da c b m (r++[a]) aa from HR3);clear HR3 I;go_wp2_with fail
   refine eW.mono ?_;rintro e w3 ⟨k3,p,rfl,⟨k,q⟩,aD⟩;replace k:p=.string a:=k;subst k;have K3:=Z (K2.trans k3);have b:=Z ((bC Y k3 (λa hb=>by simp at hb;omega)));have eV:=Z q;clear k3 q Y K2 eW;have K:=Z (aH ((ag.refl w3).alloc (.cells #[a] 9)) b);have aE:=Z (cC w3 #[a] 9 1 rfl);have aF:=Z K3.size;go_wp2_with (at_builtin;refine d6 _ rfl (.tmp 14) (.tmp 17) 83 rfl w.heap.size 9 ac _ 1 16 Tryz.underlying83 ad ah ak al rfl au (U av d ay) d (r.flatMap dF) rfl K.out (w3.heap.size+1) (some ⟨w3.heap.size,0,none⟩) 1 1 (#[a]:Array Value).toList rfl aE.out bl b1 ae (by have:=aF.out;simp;omega) ?_;intro b b b c f;have L:=Z b;have M:=Z c;clear b c f)
   obtain⟨aI,aJ,rfl,aN⟩:=bo L;have aK:=Z ((K3.out.alloc (.cells #[a] 9)).grown M.out (λn hg=>.inr (by
    obtain⟨_,_,_,ho⟩:=bo K;exact oD)))
   have aL:=Z ((aD.same ((ag.refl w3).alloc (.cells #[a] 9))).grown M.out (λn hg=>by
    obtain⟨_,_,_,ho⟩:=bo K;exact oD))
   go_wp2;go_roundg m
   case measure=>omega
   case rel=>exact⟨r++[a],aa,aI,d+1,aJ,rfl,by rw[List.length_append,H.out];rfl,Z (by have:=L.out;rw[List.flatMap_append];exact this),aL,aK,by omega,aC,by omega,Z (by
    exact tH)⟩
theorem Tryz.yM:(Tryz.prog.info? 286).map (λa=>(a.zero,a.size,a.bytes))=some (some (.agg #[ah,ah,.bool false,O 0,O 0,ah,O 0,ah,ah,.bool false,O 0,O 0,ah,O 0]),14,160):=ak
theorem bB.len (x:bB):(bB.cells x).length=14:=rfl
theorem yN (E:Nat) (first:aO) (a:List ao->PO bB) (P:∀ts c,ts.length<=c->(a ts).Le c) (R:∀R u,(callFunc E R).run Tryz.prog u=.ok (.enter E R) u) (w:Int) (v:Nat) (ts:List ao) (b:aw) (u:af) (F:ax u v w ts) (aB:aG b)
 (Q:∀A R,ax R v w A->Calls Tryz.prog E first R (λe S=>PP w v R (a A) (iZ bB.cells bB.bY) e S)):
 Calls Tryz.prog 242 #[aj v,b,.func (.func E) first #[]] u λe S=>PP w v u (dA b a ts) (dM u.heap.size 14 bB.cells bB.bY) e S:=by
 obtain⟨aC,aD,aE,aF,aI⟩:=info_parts Tryz.yM;have R:=F.lt;have aJ:=Z Q;have R:=Z F;have aK:=Z P;have HC:=Z (Q ts u F);have aL:=Z (show ts.length<=5000 by obtain⟨f,g,d⟩:=F;exact d.few);have HE:=Z (show dA b a ts=(a ts).bind λf d=>da b a (d.length+1) [f] d from rfl);have T:=Z (P ts 5000 aL);clear Q F P;generalize a ts=aM at HC HE T;generalize dA b a ts=K at HE⊢;cases aM with
 |bad d f=>
  go_enter Tryz.func242,Tryz.ntmps242
  exact tY
 |ok y A=>
  have aN:=Z (T _ _ rfl);clear T;have ad:=Z (show K=da b a (A.length+1) [y] A from HE);clear HE;obtain⟨⟨d,f,g,⟨i,j,k⟩⟩,l,⟨m,n,o,⟨p,q,r⟩⟩,t⟩:=y;go_enter Tryz.func242,Tryz.ntmps242
  go_wp2_with fail
  refine HC.mono ?_;rintro e w1 ⟨K1,G,rfl,⟨B,H⟩,ah⟩;replace B:G=.agg #[d,f,g,i,j,k,l,m,n,o,p,q,r,t]:=B;subst B;have eV:=Z H;clear H HC;go_wp2;have ak:=Z (ie w1 #[d,f,g,i,j,k,l,m,n,o,p,q,r,t] 286 14 u.heap.size rfl K1.size);have K2:=Z (K1.alloc (.cells #[d,f,g,i,j,k,l,m,n,o,p,q,r,t] 286));have C:=Z (ah.same ((ag.refl w1).alloc (.cells #[d,f,g,i,j,k,l,m,n,o,p,q,r,t] 286)));clear K1 ah;go_loopg [7] (A.length+1) (λF G wr=>∃(z:List bB) (D:List ao) (I:aX) (c J:Nat),G=.slice I c J/\z.length=c/\Hid (wr.ownsRow u.heap.size 286 14 (U I c J) c (z.flatMap bB.cells))/\Hid (ax wr v w D)/\Hid (Kp [v] u wr)/\D.length<F/\Hid (K=da b a F z D)/\c+D.length<=5001/\Hid (∀x∈z,bB.bY x))
  case atStart=>exact⟨[⟨⟨d,f,g,⟨i,j,k⟩⟩,l,⟨m,n,o,⟨p,q,r⟩⟩,t⟩],A,some ⟨w1.heap.size,0,none⟩,1,1,rfl,rfl,ak,C,K2,by omega,ad,by have:=aN.out;omega,Z (by intro x hx;rw[aA hx];exact eV.out)⟩
  obtain⟨I,J,aP,c,aQ,rfl,al,L,V,M,am,an,ap,HF⟩:=hrel;clear ak K2 C ad eV;obtain⟨D,rfl⟩:∃D,gk=D+1:=⟨gk-1,by omega⟩;have N:=Z (an.trans (nM b a D I J));have O:=Z (jN w v J b wr V aB);have aq:=Z (λh=>mz (ts:=J) (s:=b) h);have W:=Z al;clear an al;generalize bu J b=aR at O N aq;cases aR
  case false=>
   go_wp2_with fail
   refine O.mono ?_;rintro e Y ⟨rfl,z,X⟩;have K2:=Z (M.trans z);have C:=Z (show ax Y v w J from X);have aa:=Z (bC L z (λy hb=>by simp at hb;omega));clear z X L M V;go_wp2;go_ret;rw[N.out,if_neg ai];exact⟨K2,_,rfl,dM.kx bB.len aa W HF (by have:=W.out;omega),C⟩
  obtain⟨a2,z,rfl⟩:=aq rfl;have X:=Z (aK z z.length (Nat.le_refl _));have HR3:=Z (show K=(a z).bind λA F=>da b a D (I++[A]) F from N);have A:c+(z.length+1)<=5001:=by simpa using ap
  have A:z.length<D:=by simp at am;omega
  clear N ap am;go_wp2_with fail
  refine O.mono ?_;rintro e ar ⟨rfl,Y,av⟩;have K2:=Z (M.trans Y);have C:=Z (show ax ar v w z from av);have ay:=Z (bC L Y (λy hb=>by simp at hb;omega));clear Y av L M V O;have eW:=Z (aJ z ar C);clear C;generalize a z=aS at eW HR3 X;cases aS with
  |bad aa az=>
   exact tX
  |ok y az=>
   have v:=X _ _ rfl;have aT:=Z (show K=da b a D (I++[y]) az from HR3);clear HR3 X;obtain⟨⟨d,f,g,⟨i,j,k⟩⟩,l,⟨m,n,o,⟨p,q,r⟩⟩,t⟩:=y;go_wp2_with fail
   refine eW.mono ?_;rintro e w3 ⟨k3,G,rfl,⟨B,H⟩,aU⟩;replace B:G=.agg #[d,f,g,i,j,k,l,m,n,o,p,q,r,t]:=B;subst B;have K3:=Z (K2.trans k3);have a:=Z ((bC ay k3 (λy hb=>by simp at hb;omega)));have eV:=Z H;clear k3 H ay K2 eW;have aa:=Z (aH ((ag.refl w3).alloc (.cells #[d,f,g,i,j,k,l,m,n,o,p,q,r,t] 286)) a);have aV:=Z (cC w3 #[d,f,g,i,j,k,l,m,n,o,p,q,r,t] 286 14 rfl);have aW:=Z K3.size;go_wp2_with (at_builtin;refine d6 _ rfl (.tmp 14) (.tmp 17) 90 rfl u.heap.size 286 aC _ 14 160 Tryz.underlying90 aD aE aF aI rfl au (U aP c aQ) c (I.flatMap bB.cells) rfl aa.out (w3.heap.size+1) (some ⟨w3.heap.size,0,none⟩) 1 1 (#[d,f,g,i,j,k,l,m,n,o,p,q,r,t]:Array Value).toList rfl aV.out bl b1 ae (by have:=aW.out;simp;omega) ?_;intro a a a b u;have ab:=Z a;have ac:=Z b;clear a b u)
   obtain⟨aY,aZ,rfl,a3⟩:=bo ab;have a0:=Z ((K3.out.alloc (.cells #[d,f,g,i,j,k,l,m,n,o,p,q,r,t] 286)).grown ac.out (λE hg=>.inr (by
    obtain⟨_,_,_,ho⟩:=bo aa;exact oD)))
   have a1:=Z ((aU.same ((ag.refl w3).alloc (.cells #[d,f,g,i,j,k,l,m,n,o,p,q,r,t] 286))).grown ac.out (λE hg=>by
    obtain⟨_,_,_,ho⟩:=bo aa;exact oD))
   go_wp2;go_roundg D
   case measure=>omega
   case rel=>exact⟨I++[⟨⟨d,f,g,⟨i,j,k⟩⟩,l,⟨m,n,o,⟨p,q,r⟩⟩,t⟩],az,aY,c+1,aZ,rfl,by rw[List.length_append,W.out];rfl,Z (by have:=ab.out;rw[List.flatMap_append];exact this),a1,a0,by omega,aT,by omega,Z (by
    exact tH)⟩
theorem Tryz.yO:(Tryz.prog.info? 238).map (λa=>(a.zero,a.size,a.bytes))=some (some (.agg #[ah,O 0,O 0,ah]),4,48):=ak
theorem du.len (x:du):(du.cells x).length=4:=rfl
theorem yP (r:Nat) (first:aO) (a:List ao->PO du) (E:∀ts c,ts.length<=c->(a ts).Le c) (G:∀G j,(callFunc r G).run Tryz.prog j=.ok (.enter r G) j) (l:Int) (k:Nat) (ts:List ao) (b:aw) (j:af) (t:ax j k l ts) (ah:aG b)
 (F:∀us G,ax G k l us->Calls Tryz.prog r first G (λe H=>PP l k G (a us) (iZ du.cells du.bY) e H)):
 Calls Tryz.prog 171 #[aj k,b,.func (.func r) first #[]] j λe H=>PP l k j (dA b a ts) (dM j.heap.size 4 du.cells du.bY) e H:=by
 obtain⟨ak,al,am,an,ap⟩:=info_parts Tryz.yO;have G:=t.lt;have aq:=Z F;have G:=Z t;have ar:=Z E;have HC:=Z (F ts j t);have av:=Z (show ts.length<=5000 by obtain⟨f,g,d⟩:=t;exact d.few);have HE:=Z (show dA b a ts=(a ts).bind λf d=>da b a (d.length+1) [f] d from rfl);have I:=Z (E ts 5000 av);clear F t E;generalize a ts=ay at HC HE I;generalize dA b a ts=z at HE⊢;cases ay with
 |bad d f=>
  go_enter Tryz.func171,Tryz.ntmps171
  exact tY
 |ok m us=>
  have az:=Z (I _ _ rfl);clear I;have Q:=Z (show z=da b a (us.length+1) [m] us from HE);clear HE;obtain⟨d,⟨f,g,i⟩⟩:=m;go_enter Tryz.func171,Tryz.ntmps171
  go_wp2_with fail
  refine HC.mono ?_;rintro e w1 ⟨K1,u,rfl,⟨o,v⟩,R⟩;replace o:u=.agg #[d,f,g,i]:=o;subst o;have eV:=Z v;clear v HC;go_wp2;have S:=Z (ie w1 #[d,f,g,i] 238 4 j.heap.size rfl K1.size);have K2:=Z (K1.alloc (.cells #[d,f,g,i] 238));have p:=Z (R.same ((ag.refl w1).alloc (.cells #[d,f,g,i] 238)));clear K1 R;go_loopg [7] (us.length+1) (λt u wr=>∃(n:List du) (q:List ao) (w:aX) (c y:Nat),u=.slice w c y/\n.length=c/\Hid (wr.ownsRow j.heap.size 238 4 (U w c y) c (n.flatMap du.cells))/\Hid (ax wr k l q)/\Hid (Kp [k] j wr)/\q.length<t/\Hid (z=da b a t n q)/\c+q.length<=5001/\Hid (∀x∈n,du.bY x))
  case atStart=>exact⟨[⟨d,⟨f,g,i⟩⟩],us,some ⟨w1.heap.size,0,none⟩,1,1,rfl,rfl,S,p,K2,by omega,Q,by have:=az.out;omega,Z (by intro x hx;rw[aA hx];exact eV.out)⟩
  obtain⟨w,y,aB,c,aC,rfl,T,A,J,B,V,W,X,HF⟩:=hrel;clear S K2 p Q eV;obtain⟨q,rfl⟩:∃q,gk=q+1:=⟨gk-1,by omega⟩;have C:=Z (W.trans (nM b a q w y));have D:=Z (jN l k y b wr J ah);have Y:=Z (λh=>mz (ts:=y) (s:=b) h);have K:=Z T;clear W T;generalize bu y b=aD at D C Y;cases aD
  case false=>
   go_wp2_with fail
   refine D.mono ?_;rintro e M ⟨rfl,n,L⟩;have K2:=Z (B.trans n);have p:=Z (show ax M k l y from L);have N:=Z (bC A n (λm hb=>by simp at hb;omega));clear n L A B J;go_wp2;go_ret;rw[C.out,if_neg ai];exact⟨K2,_,rfl,dM.kx du.len N K HF (by have:=K.out;omega),p⟩
  obtain⟨aQ,n,rfl⟩:=Y rfl;have L:=Z (ar n n.length (Nat.le_refl _));have HR3:=Z (show z=(a n).bind λt y=>da b a q (w++[t]) y from C);have t:c+(n.length+1)<=5001:=by simpa using X
  have t:n.length<q:=by simp at V;omega
  clear C X V;go_wp2_with fail
  refine D.mono ?_;rintro e aa ⟨rfl,M,ab⟩;have K2:=Z (B.trans M);have p:=Z (show ax aa k l n from ab);have ac:=Z (bC A M (λm hb=>by simp at hb;omega));clear M ab A B J D;have eW:=Z (aq n aa p);clear p;generalize a n=aE at eW HR3 L;cases aE with
  |bad N ad=>
   exact tX
  |ok m ad=>
   have k:=L _ _ rfl;have aF:=Z (show z=da b a q (w++[m]) ad from HR3);clear HR3 L;obtain⟨d,⟨f,g,i⟩⟩:=m;go_wp2_with fail
   refine eW.mono ?_;rintro e w3 ⟨k3,u,rfl,⟨o,v⟩,aI⟩;replace o:u=.agg #[d,f,g,i]:=o;subst o;have K3:=Z (K2.trans k3);have a:=Z ((bC ac k3 (λm hb=>by simp at hb;omega)));have eV:=Z v;clear k3 v ac K2 eW;have N:=Z (aH ((ag.refl w3).alloc (.cells #[d,f,g,i] 238)) a);have aJ:=Z (cC w3 #[d,f,g,i] 238 4 rfl);have aK:=Z K3.size;go_wp2_with (at_builtin;refine d6 _ rfl (.tmp 14) (.tmp 17) 88 rfl j.heap.size 238 ak _ 4 48 Tryz.underlying88 al am an ap rfl au (U aB c aC) c (w.flatMap du.cells) rfl N.out (w3.heap.size+1) (some ⟨w3.heap.size,0,none⟩) 1 1 (#[d,f,g,i]:Array Value).toList rfl aJ.out bl b1 ae (by have:=aK.out;simp;omega) ?_;intro a a a b j;have O:=Z a;have P:=Z b;clear a b j)
   obtain⟨aL,aM,rfl,aR⟩:=bo O;have aN:=Z ((K3.out.alloc (.cells #[d,f,g,i] 238)).grown P.out (λr hg=>.inr (by
    obtain⟨_,_,_,ho⟩:=bo N;exact oD)))
   have aP:=Z ((aI.same ((ag.refl w3).alloc (.cells #[d,f,g,i] 238))).grown P.out (λr hg=>by
    obtain⟨_,_,_,ho⟩:=bo N;exact oD))
   go_wp2;go_roundg q
   case measure=>omega
   case rel=>exact⟨w++[⟨d,⟨f,g,i⟩⟩],ad,aL,c+1,aM,rfl,by rw[List.length_append,K.out];rfl,Z (by have:=O.out;rw[List.flatMap_append];exact this),aP,aN,by omega,aF,by omega,Z (by
    exact tH)⟩
theorem Tryz.yQ:(Tryz.prog.info? 133).map (λa=>(a.zero,a.size,a.bytes))=some (some (.agg #[ah,ah]),2,32):=ak
theorem Vr.len (x:Vr):(Vr.cells x).length=2:=rfl
theorem yR (q:Nat) (first:aO) (a:List ao->PO Vr) (D:∀ts c,ts.length<=c->(a ts).Le c) (F:∀F g,(callFunc q F).run Tryz.prog g=.ok (.enter q F) g) (j:Int) (i:Nat) (ts:List ao) (b:aw) (g:af) (r:ax g i j ts) (ad:aG b)
 (E:∀m F,ax F i j m->Calls Tryz.prog q first F (λe G=>PP j i F (a m) (iZ Vr.cells Vr.bY) e G)):
 Calls Tryz.prog 173 #[aj i,b,.func (.func q) first #[]] g λe G=>PP j i g (dA b a ts) (dM g.heap.size 2 Vr.cells Vr.bY) e G:=by
 obtain⟨ah,ak,al,am,an⟩:=info_parts Tryz.yQ;have F:=r.lt;have ap:=Z E;have F:=Z r;have aq:=Z D;have HC:=Z (E ts g r);have ar:=Z (show ts.length<=5000 by obtain⟨f,k,d⟩:=r;exact d.few);have HE:=Z (show dA b a ts=(a ts).bind λf d=>da b a (d.length+1) [f] d from rfl);have H:=Z (D ts 5000 ar);clear E r D;generalize a ts=av at HC HE H;generalize dA b a ts=y at HE⊢;cases av with
 |bad d f=>
  go_enter Tryz.func173,Tryz.ntmps173
  exact tY
 |ok k m=>
  have ay:=Z (H _ _ rfl);clear H;have P:=Z (show y=da b a (m.length+1) [k] m from HE);clear HE;obtain⟨d,f⟩:=k;go_enter Tryz.func173,Tryz.ntmps173
  go_wp2_with fail
  refine HC.mono ?_;rintro e w1 ⟨K1,t,rfl,⟨n,u⟩,Q⟩;replace n:t=.agg #[d,f]:=n;subst n;have eV:=Z u;clear u HC;go_wp2;have R:=Z (ie w1 #[d,f] 133 2 g.heap.size rfl K1.size);have K2:=Z (K1.alloc (.cells #[d,f] 133));have o:=Z (Q.same ((ag.refl w1).alloc (.cells #[d,f] 133)));clear K1 Q;go_loopg [7] (m.length+1) (λr t wr=>∃(l:List Vr) (p:List ao) (v:aX) (c w:Nat),t=.slice v c w/\l.length=c/\Hid (wr.ownsRow g.heap.size 133 2 (U v c w) c (l.flatMap Vr.cells))/\Hid (ax wr i j p)/\Hid (Kp [i] g wr)/\p.length<r/\Hid (y=da b a r l p)/\c+p.length<=5001/\Hid (∀x∈l,Vr.bY x))
  case atStart=>exact⟨[⟨d,f⟩],m,some ⟨w1.heap.size,0,none⟩,1,1,rfl,rfl,R,o,K2,by omega,P,by have:=ay.out;omega,Z (by intro x hx;rw[aA hx];exact eV.out)⟩
  obtain⟨v,w,az,c,aB,rfl,S,z,I,A,T,V,W,HF⟩:=hrel;clear R K2 o P eV;obtain⟨p,rfl⟩:∃p,gk=p+1:=⟨gk-1,by omega⟩;have B:=Z (V.trans (nM b a p v w));have C:=Z (jN j i w b wr I ad);have X:=Z (λh=>mz (ts:=w) (s:=b) h);have J:=Z S;clear V S;generalize bu w b=aC at C B X;cases aC
  case false=>
   go_wp2_with fail
   refine C.mono ?_;rintro e L ⟨rfl,l,K⟩;have K2:=Z (A.trans l);have o:=Z (show ax L i j w from K);have M:=Z (bC z l (λk hb=>by simp at hb;omega));clear l K z A I;go_wp2;go_ret;rw[B.out,if_neg ai];exact⟨K2,_,rfl,dM.kx Vr.len M J HF (by have:=J.out;omega),o⟩
  obtain⟨aP,l,rfl⟩:=X rfl;have K:=Z (aq l l.length (Nat.le_refl _));have HR3:=Z (show y=(a l).bind λm r=>da b a p (v++[m]) r from B);have m:c+(l.length+1)<=5001:=by simpa using W
  have m:l.length<p:=by simp at T;omega
  clear B W T;go_wp2_with fail
  refine C.mono ?_;rintro e Y ⟨rfl,L,aa⟩;have K2:=Z (A.trans L);have o:=Z (show ax Y i j l from aa);have ab:=Z (bC z L (λk hb=>by simp at hb;omega));clear L aa z A I C;have eW:=Z (ap l Y o);clear o;generalize a l=aD at eW HR3 K;cases aD with
  |bad M ac=>
   exact tX
  |ok k ac=>
   have i:=K _ _ rfl;have aE:=Z (show y=da b a p (v++[k]) ac from HR3);clear HR3 K;obtain⟨d,f⟩:=k;go_wp2_with fail
   refine eW.mono ?_;rintro e w3 ⟨k3,t,rfl,⟨n,u⟩,aF⟩;replace n:t=.agg #[d,f]:=n;subst n;have K3:=Z (K2.trans k3);have a:=Z ((bC ab k3 (λk hb=>by simp at hb;omega)));have eV:=Z u;clear k3 u ab K2 eW;have M:=Z (aH ((ag.refl w3).alloc (.cells #[d,f] 133)) a);have aI:=Z (cC w3 #[d,f] 133 2 rfl);have aJ:=Z K3.size;go_wp2_with (at_builtin;refine d6 _ rfl (.tmp 14) (.tmp 17) 89 rfl g.heap.size 133 ah _ 2 32 Tryz.underlying89 ak al am an rfl au (U az c aB) c (v.flatMap Vr.cells) rfl M.out (w3.heap.size+1) (some ⟨w3.heap.size,0,none⟩) 1 1 (#[d,f]:Array Value).toList rfl aI.out bl b1 ae (by have:=aJ.out;simp;omega) ?_;intro a a a b g;have N:=Z a;have O:=Z b;clear a b g)
   obtain⟨aK,aL,rfl,aQ⟩:=bo N;have aM:=Z ((K3.out.alloc (.cells #[d,f] 133)).grown O.out (λq hg=>.inr (by
    obtain⟨_,_,_,ho⟩:=bo M;exact oD)))
   have aN:=Z ((aF.same ((ag.refl w3).alloc (.cells #[d,f] 133))).grown O.out (λq hg=>by
    obtain⟨_,_,_,ho⟩:=bo M;exact oD))
   go_wp2;go_roundg p
   case measure=>omega
   case rel=>exact⟨v++[⟨d,f⟩],ac,aK,c+1,aL,rfl,by rw[List.length_append,J.out];rfl,Z (by have:=N.out;rw[List.flatMap_append];exact this),aN,aM,by omega,aE,by omega,Z (by
    exact tH)⟩
section
variable {w W:af} {P:Nat} {z:Int} {us:List ao} {f:FuncId} {args:aO} {Q:Ending->World->Prop} {l:List Nat}
theorem aQ {e n:Type} {i:PO n} {j:PO e} {V:e->Value->World->Prop} {g:e->List ao->PO n} (n:P∈l) (p:Kp l w W) (c:i=j.bind g) (q:Calls Tryz.prog f args W (λe b=>PP z P W j V e b))
 (k:∀er a b,Hid (i=.bad er a)->Hid (Kp l w b)->Q (.panicked [{v:=gI er a,recovered:=false}]) b)
 (r:∀a d v b,Hid (i=g a d)->V a v b->Kp [P] W b->Hid (Kp l w b)->Hid (ax b P z d)->w.heap.size<=b.heap.size->Q (.returned v) b):Calls Tryz.prog f args W Q:=by
 refine q.mono ?_;rintro e b ⟨o,h⟩;have m:Kp l w b:=p.trans (o.mono (λe k=>by rw[aA k];exact n));cases hr:j with
 |bad er a=>rw[hr]at h c;subst h;exact k er a b (Z c) (Z m)
 |ok a d=>rw[hr]at h c;obtain⟨v,rfl,s,t⟩:=h;exact r a d v b (Z c) s o (Z m) (Z t) m.size
theorem i7 {j:Type} {e g i:PO j} (b:aw) (j:P∈l) (k:Kp l w W) (c:e=if bu us b=true then g else i) (m:ax W P z us) (n:aG b)
 (o:∀a,Hid (e=i)->Kp [P] W a->Hid (Kp l w a)->Hid (ax a P z us)->w.heap.size<=a.heap.size->Q (.returned (.bool false)) a)
 (p:∀a,Hid (e=g)->Kp [P] W a->Hid (Kp l w a)->Hid (ax a P z us.tail)->w.heap.size<=a.heap.size->Q (.returned (.bool true)) a):
 Calls Tryz.prog 162 #[aj P,b] W Q:=by
 refine(jN z P us b W m n).mono ?_;rintro e a ⟨q,f,h⟩;have d:Kp l w a:=k.trans (f.mono (λd d=>by rw[aA d];exact j));subst q;cases hr:bu us b with
 |false=>rw[hr]at h c;exact o a (Z c) f (Z d) (Z h) d.size
 |true=>rw[hr]at h c;exact p a (Z c) f (Z d) (Z h) d.size
theorem tm (b:aw) (e:P∈l) (f:Kp l w W) (g:ax W P z us) (i:aG b)
 (j:∀a,Kp [P] W a->Hid (Kp l w a)->Hid (ax a P z (if bu us b then us.tail else us))->w.heap.size<=a.heap.size->Q (.returned (.bool (bu us b))) a):
 Calls Tryz.prog 162 #[aj P,b] W Q:=by
 refine(jN z P us b W g i).mono ?_;rintro b a ⟨k,c,h⟩;have d:Kp l w a:=f.trans (c.mono (λb b=>by rw[aA b];exact e));subst k;exact j a c (Z d) (Z h) d.size
theorem qT {d:Type} {e:PO d} (b:Int) (f:Kp l w W) (g:e=e8 z us b) (i:ax W P z us) (j:∀er a c,Hid (e=.bad er a)->Hid (Kp l w c)->Q (.panicked [{v:=gI er a,recovered:=false}]) c):
 Calls Tryz.prog 46 #[aj P,b] W Q:=by
 refine(nH (α:=d) z P us b W i).mono ?_;rintro b c ⟨⟨er,a,k,rfl⟩,rfl⟩;exact j er a _ (Z (g.trans k)) (Z f)
theorem Kp.set {p:Addr} (b:w.heap.size<=p.block) (h:Kp l w W) (a:ay):Kp l w (W.setCell p a):=h.setCell (.inr b) a
theorem Kp.aE {p:Addr} (a:p.block∈l) (h:Kp l w W) (u:ay):Kp l w (W.setCell p u):=h.setCell (.inl a) u
theorem ax.alloc (h:ax W P z us) (o:Obj):ax (W.alloc o) P z us:=h.same ((ag.refl W).alloc o)
theorem ax.drew (h:ax W P z us):ax W.drew P z us:=h.same ((ag.refl W).drew)
theorem ax.set {p:Addr} (e:P<p.block) (h:ax W P z us) (a:ay):ax (W.setCell p a) P z us:=by
 obtain⟨c,d,b⟩:=h;refine⟨c,J.far d ae a,?_⟩;exact b.keep ((Kp.refl [p.block] W).setCell (.inl ai) a) (λa c d e=>by have:=b.far a c d e;simp;omega)
theorem dM.base {a:Type} {base base' b:Nat} {enc:a->List Value} {c:a->Prop} {d:List a} {v:ay} (r:dM base b enc c d v W) (h:base'<=base):dM base' b enc c d v W:=by
 obtain⟨f,g,i,j,e,k⟩:=r;exact⟨f,g,i,j,λa b c=>⟨bR h (e a b c).1,(e a b c).2⟩,k⟩
end
def bX:World->Nat->Nat->List Value->World
 |w,_,_,[]=>w
 |w,g,i,v::vs=>bX (w.setCell (ab g i) v) g (i+1) vs
def lI:Array Value->Nat->List Value->Array Value
 |cs,_,[]=>cs
 |cs,i,v::vs=>lI (cs.setIfInBounds i v) (i+1) vs
theorem J.i8 {c:Nat} {d:bb}:∀(b:bg) (a:Nat) (w:af) (e:aO),J w c d e->J (bX w c a b) c d (lI e a b)
 |[],_,_,_,h=>h
 |v::b,a,_,_,h=>J.i8 b (a+1) _ _ (h.aP a v)
theorem pk:∀(c:bg) (a:Nat) (b:aO),a+c.length<=b.size->(lI b a c).toList=b.toList.take a++c++b.toList.drop (a+c.length)
 |[],a,b,_=>by simp[lI]
 |d::c,a,b,h=>by
  simp only[List.length_cons]at h;rw[lI,pk c (a+1) _ aC,Array.toList_setIfInBounds];have e:(b.toList.set a d).take (a+1)=b.toList.take a++[d]:=by
   rw[List.take_succ_eq_append_getElem aC,List.take_set_of_le (Nat.le_refl _)];simp
  have a:(b.toList.set a d).drop (a+1+c.length)=b.toList.drop (a+(d::c).length):=by
   rw[List.drop_set_of_lt ae];congr 1
   simp;omega
  rw[e,a];simp
theorem J.sets {c:Nat} {d:bb} {w:af} {b:aO} (h:J w c d b) (a:bg) (e:b.size=a.length):J (bX w c 0 a) c d a.toArray:=by
 have:=J.i8 a 0 w b h;have c:lI b 0 a=a.toArray:=by
  apply Array.toList_inj.1;rw[pk a 0 b ae];rw[List.drop_of_length_le aC];simp
 rwa[c]at this
theorem tn {w:af} {a:Nat} {d:bb} {b c:ay} (h:J w a d #[b,c]):ac w (ab a 0) b/\ac w (ab a 1) c:=⟨h.cell 0,h.cell 1⟩
theorem eA {w:af} {a:Nat} {e:bb} {b c d:ay} (h:J w a e #[b,c,d]):ac w (ab a 0) b/\ac w (ab a 1) c/\ac w (ab a 2) d:=⟨h.cell 0,h.cell 1,h.cell 2⟩
theorem tp {w:af} {a:Nat} {f:bb} {b c d e:ay} (h:J w a f #[b,c,d,e]):ac w (ab a 0) b/\ac w (ab a 1) c/\ac w (ab a 2) d/\ac w (ab a 3) e:=⟨h.cell 0,h.cell 1,h.cell 2,h.cell 3⟩
theorem mB {w:af} {a:Nat} {t:bb} {b c d e f:ay} (h:J w a t #[b,c,d,e,f]):ac w (ab a 0) b/\ac w (ab a 1) c/\ac w (ab a 2) d/\ac w (ab a 3) e/\ac w (ab a 4) f:=⟨h.cell 0,h.cell 1,h.cell 2,h.cell 3,h.cell 4⟩
theorem mC {w:af} {a:Nat} {i:bb} {b c d e f g:ay} (h:J w a i #[b,c,d,e,f,g]):ac w (ab a 0) b/\ac w (ab a 1) c/\ac w (ab a 2) d/\ac w (ab a 3) e/\ac w (ab a 4) f/\ac w (ab a 5) g:=⟨h.cell 0,h.cell 1,h.cell 2,h.cell 3,h.cell 4,h.cell 5⟩
theorem jO {w:af} {g:Nat} {t:bb} {a b c d e f i:ay} (h:J w g t #[a,b,c,d,e,f,i]):ac w (ab g 0) a/\ac w (ab g 1) b/\ac w (ab g 2) c/\ac w (ab g 3) d/\ac w (ab g 4) e/\ac w (ab g 5) f/\ac w (ab g 6) i:=⟨h.cell 0,h.cell 1,h.cell 2,h.cell 3,h.cell 4,h.cell 5,h.cell 6⟩
theorem eO {w:af} {g:Nat} {t:bb} {a b c d e f i j k:ay} (h:J w g t #[a,b,c,d,e,f,i,j,k]):ac w (ab g 0) a/\ac w (ab g 1) b/\ac w (ab g 2) c/\ac w (ab g 3) d/\ac w (ab g 4) e/\ac w (ab g 5) f/\ac w (ab g 6) i/\ac w (ab g 7) j/\ac w (ab g 8) k:=⟨h.cell 0,h.cell 1,h.cell 2,h.cell 3,h.cell 4,h.cell 5,h.cell 6,h.cell 7,h.cell 8⟩
theorem jP {w:af} {a:Nat} {t:bb} {b c d e f g i j k l m n o p:ay} (h:J w a t #[b,c,d,e,f,g,i,j,k,l,m,n,o,p]):ac w (ab a 0) b/\ac w (ab a 1) c/\ac w (ab a 2) d/\ac w (ab a 3) e/\ac w (ab a 4) f/\ac w (ab a 5) g/\ac w (ab a 6) i/\ac w (ab a 7) j/\ac w (ab a 8) k/\ac w (ab a 9) l/\ac w (ab a 10) m/\ac w (ab a 11) n/\ac w (ab a 12) o/\ac w (ab a 13) p:=⟨h.cell 0,h.cell 1,h.cell 2,h.cell 3,h.cell 4,h.cell 5,h.cell 6,h.cell 7,h.cell 8,h.cell 9,h.cell 10,h.cell 11,h.cell 12,h.cell 13⟩
theorem dI {w:af} {g:Nat} {t:bb} {a b c d e f i j k l m n o p q r s u v x y z A B C:ay} (h:J w g t #[a,b,c,d,e,f,i,j,k,l,m,n,o,p,q,r,s,u,v,x,y,z,A,B,C]):ac w (ab g 0) a/\ac w (ab g 1) b/\ac w (ab g 2) c/\ac w (ab g 3) d/\ac w (ab g 4) e/\ac w (ab g 5) f/\ac w (ab g 6) i/\ac w (ab g 7) j/\ac w (ab g 8) k/\ac w (ab g 9) l/\ac w (ab g 10) m/\ac w (ab g 11) n/\ac w (ab g 12) o/\ac w (ab g 13) p/\ac w (ab g 14) q/\ac w (ab g 15) r/\ac w (ab g 16) s/\ac w (ab g 17) u/\ac w (ab g 18) v/\ac w (ab g 19) x/\ac w (ab g 20) y/\ac w (ab g 21) z/\ac w (ab g 22) A/\ac w (ab g 23) B/\ac w (ab g 24) C:=⟨h.cell 0,h.cell 1,h.cell 2,h.cell 3,h.cell 4,h.cell 5,h.cell 6,h.cell 7,h.cell 8,h.cell 9,h.cell 10,h.cell 11,h.cell 12,h.cell 13,h.cell 14,h.cell 15,h.cell 16,h.cell 17,h.cell 18,h.cell 19,h.cell 20,h.cell 21,h.cell 22,h.cell 23,h.cell 24⟩
theorem Kp.i8 {l:List Nat} {w:af} {b:Nat} (d:w.heap.size<=b):∀(c:bg) (a:Nat) (W:af),Kp l w W->Kp l w (bX W b a c)
 |[],_,_,h=>h
 |v::c,a,_,h=>Kp.i8 d c (a+1) _ (Kp.set (p:=(ab b a)) d h v)
theorem ax.i8 {P:Nat} {z:Int} {us:List ao} {b:Nat} (d:P<b):∀(c:bg) (a:Nat) (W:af),ax W P z us->ax (bX W b a c) P z us
 |[],_,_,h=>h
 |v::c,a,_,h=>ax.i8 d c (a+1) _ (ax.set (p:=(ab b a)) d h v)
theorem dW {l:List Nat} {w W:af} {P g:Nat} {z:Int} {us:List ao} {t:bb} {cs:aO} (B:J W g t cs) (b:Kp l w W) (Q:ax W P z us) (a:bg) (c:cs.size=a.length) (d:w.heap.size<=g) (e:P<g):
 J (bX W g 0 a) g t a.toArray/\Kp l w (bX W g 0 a)/\ax (bX W g 0 a) P z us:=⟨B.sets a c,b.i8 d a 0,Q.i8 e a 0⟩
theorem bZ (l:Array UInt8) (h:l.size<=1000):aG ⟨l⟩:=by unfold aG;show l.size<=_;omega
def yS (l:bm):Bool:=l.all λa=>decide (a.size<=1000)
theorem cA (l:bm) (h:yS l=true):∀a∈l,aG a:=by
 intro a b;have:=(List.all_eq_true.1 h) a b;simp at this;unfold aG;omega
theorem cU (z:Int) (P:Nat) (a:List ao) (l:bm) (W w:af) (b:Nat) (c:ax W P z a) (d:∀e∈l,aG e) (f:W=w.alloc (.cells (l.map Value.string).toArray 9):=by rfl) (g:b=w.heap.size:=by simp) (e:P<b:=by omega) (h9:l.length<=9223372036854775807:=by decide):
 Calls Tryz.prog 99 #[aj P,U (some ⟨b,0,none⟩) l.length l.length] W λb e=>PP z P W (aR z a l) (λ_ v _=>v=.tuple #[]) b e:=by
 subst f g;exact yq z P a ⟨some ⟨w.heap.size,0,none⟩,l.length,l.length⟩ l _ c (nI w l 9 h9 d) (λa a h=>by
  injection h with h
  injection h with h
  omega)
theorem lJ (z:Int) (P:Nat) (a:List ao) (l:bm) (W w:af) (b:Nat) (c:ax W P z a) (d:∀e∈l,aG e) (f:l.length<=100) (g:W=w.alloc (.cells (l.map Value.string).toArray 9):=by rfl) (i:b=w.heap.size:=by simp) (e:P<b:=by omega):
 Calls Tryz.prog 87 #[aj P,U (some ⟨b,0,none⟩) l.length l.length] W λb e=>PP z P W (dK z a l) s6 b e:=by
 subst g i;exact s8 z P a ⟨some ⟨w.heap.size,0,none⟩,l.length,l.length⟩ l _ c (nI w l 9 ae d) (λa a h=>by
  injection h with h
  injection h with h
  omega) f
theorem PO.bind_pure {b:Type} (a:PO b):a.bind (λb c=>.ok b c)=a:=by cases a<;>rfl
theorem pm (z:Int) (P:Nat) (a:List ao) (w:af) (d:ax w P z a):
 Calls Tryz.prog 166 #[aj P] w λe b=>PP z P w (hT z a) (dM w.heap.size 1 dF aG) e b:=by
 have e:∀args w,(callFunc 88 args).run Tryz.prog w=.ok (.enter 88 args) w:=enters_of Tryz.func88 ak rfl;have f:=Z (yL 88 #[aj P] (bW z) (dx z) e z P a ⟨#[44]⟩ w d (bZ _ au) (λus W h=>eq z P us W h));have g:∀(g:Fn) (first cap:aO) (w:af),(Instr.makeFunc g first cap).run Tryz.prog w=.ok (.func g first cap) w:=λ_ _ _ _=>rfl;clear d e;have c:=Z (show hT z a=(dA ⟨#[44]⟩ (bW z) a).bind (λc a=>.ok c a)from(PO.bind_pure _).symm);generalize dA ⟨#[44]⟩ (bW z) a=n at f c;generalize hT z a=o at c⊢;go_enter Tryz.func166,Tryz.ntmps166
 go_wp2_with fail
 refine aQ (w:=w) (l:=[P]) ai (Kp.refl _ _) c.out f.out ?_ ?_
 ·intro a a b i j
  go_wp2;exact⟨rfl,by rw[i.out];exact⟨j.out,rfl⟩⟩
 intro a us a b i a _ j k _;have m:=Z a;clear a;go_wp2;go_ret;rw[i.out];exact⟨j.out,_,rfl,m.out,k.out⟩
section
variable {P:Program} {md:Region.Mode} {ops:Array Oper} {Q:Exit->Act->World->Prop}
theorem nP {S:World->Prop} {f:Prop} {c d:Act->World->Prop} {a:Act} {w:af} (g:Shut (∀e b,(f->S b)->c e b->d e b)) (h:S w) (b:S w->c a w):d a w:=g.out a w (λ_=>h) (b h)
theorem yT {id:Nat} {d:Act} {w:af} {b:Addr} {c:ay} (e:Nat) (f:ac w b c) (h:(λa=>ac a b c) w.drew->cX P .any ops Q (λa=>ac a b c) (λg=>decide (g<e)) ops.size (Array.replicate ops.size false) d w.drew) (g:P.follows .mixedOrders=true:=by kernel_rfl):(Code.region id ops true).wp P Q d w:=
 ez e (S:=(λa=>ac a b c)) f h g
theorem dB {id:Nat} {f:Act} {w:af} {b c:Addr} {d e:ay} (n:Nat) (g:ac w b d) (i:ac w c e) (h:(λa=>ac a b d/\ac a c e) w.drew->cX P .any ops Q (λa=>ac a b d/\ac a c e) (λj=>decide (j<n)) ops.size (Array.replicate ops.size false) f w.drew) (j:P.follows .mixedOrders=true:=by kernel_rfl):(Code.region id ops true).wp P Q f w:=
 ez n (S:=(λa=>ac a b d/\ac a c e)) ⟨g,i⟩ h j
theorem gr {id:Nat} {i:Act} {w:af} {b c d:Addr} {e f g:ay} (n:Nat) (j:ac w b e) (k:ac w c f) (l:ac w d g) (h:(λa=>ac a b e/\ac a c f/\ac a d g) w.drew->cX P .any ops Q (λa=>ac a b e/\ac a c f/\ac a d g) (λm=>decide (m<n)) ops.size (Array.replicate ops.size false) i w.drew) (m:P.follows .mixedOrders=true:=by kernel_rfl):(Code.region id ops true).wp P Q i w:=
 ez n (S:=(λa=>ac a b e/\ac a c f/\ac a d g)) ⟨j,k,l⟩ h m
theorem kH {id:Nat} {k:Act} {w:af} {b c d e:Addr} {f g i j:ay} (n:Nat) (l:ac w b f) (m:ac w c g) (o:ac w d i) (p:ac w e j) (h:(λa=>ac a b f/\ac a c g/\ac a d i/\ac a e j) w.drew->cX P .any ops Q (λa=>ac a b f/\ac a c g/\ac a d i/\ac a e j) (λq=>decide (q<n)) ops.size (Array.replicate ops.size false) k w.drew) (q:P.follows .mixedOrders=true:=by kernel_rfl):(Code.region id ops true).wp P Q k w:=
 ez n (S:=(λa=>ac a b f/\ac a c g/\ac a d i/\ac a e j)) ⟨l,m,o,p⟩ h q
theorem qU {id:Nat} {m:Act} {w:af} {b c d e f:Addr} {g i j k l:ay} (n:Nat) (o:ac w b g) (p:ac w c i) (q:ac w d j) (r:ac w e k) (s:ac w f l) (h:(λa=>ac a b g/\ac a c i/\ac a d j/\ac a e k/\ac a f l) w.drew->cX P .any ops Q (λa=>ac a b g/\ac a c i/\ac a d j/\ac a e k/\ac a f l) (λt=>decide (t<n)) ops.size (Array.replicate ops.size false) m w.drew) (t:P.follows .mixedOrders=true:=by kernel_rfl):(Code.region id ops true).wp P Q m w:=
 ez n (S:=(λa=>ac a b g/\ac a c i/\ac a d j/\ac a e k/\ac a f l)) ⟨o,p,q,r,s⟩ h t
theorem tr {id:Nat} {p:Act} {w:af} {b c d e f g:Addr} {i k l m n o:ay} (q:Nat) (r:ac w b i) (s:ac w c k) (t:ac w d l) (u:ac w e m) (v:ac w f n) (x:ac w g o) (h:(λa=>ac a b i/\ac a c k/\ac a d l/\ac a e m/\ac a f n/\ac a g o) w.drew->cX P .any ops Q (λa=>ac a b i/\ac a c k/\ac a d l/\ac a e m/\ac a f n/\ac a g o) (λj=>decide (j<q)) ops.size (Array.replicate ops.size false) p w.drew) (y:P.follows .mixedOrders=true:=by kernel_rfl):(Code.region id ops true).wp P Q p w:=
 ez q (S:=(λa=>ac a b i/\ac a c k/\ac a d l/\ac a e m/\ac a f n/\ac a g o)) ⟨r,s,t,u,v,x⟩ h y
theorem nQ {id:Nat} {r:Act} {w:af} {b c d e f g i:Addr} {j k l m o p q:ay} (n:Nat) (s:ac w b j) (t:ac w c k) (u:ac w d l) (v:ac w e m) (x:ac w f o) (y:ac w g p) (z:ac w i q) (h:(λa=>ac a b j/\ac a c k/\ac a d l/\ac a e m/\ac a f o/\ac a g p/\ac a i q) w.drew->cX P .any ops Q (λa=>ac a b j/\ac a c k/\ac a d l/\ac a e m/\ac a f o/\ac a g p/\ac a i q) (λA=>decide (A<n)) ops.size (Array.replicate ops.size false) r w.drew) (A:P.follows .mixedOrders=true:=by kernel_rfl):(Code.region id ops true).wp P Q r w:=
 ez n (S:=(λa=>ac a b j/\ac a c k/\ac a d l/\ac a e m/\ac a f o/\ac a g p/\ac a i q)) ⟨s,t,u,v,x,y,z⟩ h A
end
section
variable {w:af} {g:Nat} {t:bb} {l:bg} {a0 a1 a2 a3 a4 a5 a6 a7 a8 a9 d1 ea a12 ew eS fr a16 a17 gD hQ a20 a21 a22 a23 a24:ay}
theorem tt (h:Hid (J w g t (List.toArray (a0::a1::a2::a3::a4::l)))) (a:ay):∃b,w.setCell (ab g 4) a=b/\Hid (J b g t (List.toArray (a0::a1::a2::a3::a::l)))/\Hid (Kp [g] w b):=⟨_,rfl,lu h a,Kp.aE ai (Kp.refl [g] w) a⟩
theorem yU (h:Hid (J w g t (List.toArray (a0::a1::a2::a3::a4::a5::l)))) (a:ay):∃b,w.setCell (ab g 5) a=b/\Hid (J b g t (List.toArray (a0::a1::a2::a3::a4::a::l)))/\Hid (Kp [g] w b):=⟨_,rfl,jC h a,Kp.aE ai (Kp.refl [g] w) a⟩
theorem qV (h:Hid (J w g t (List.toArray (a0::a1::a2::a3::a4::a5::a6::a7::l)))) (a:ay):∃b,w.setCell (ab g 7) a=b/\Hid (J b g t (List.toArray (a0::a1::a2::a3::a4::a5::a6::a::l)))/\Hid (Kp [g] w b):=⟨_,rfl,gp h a,Kp.aE ai (Kp.refl [g] w) a⟩
theorem yV (h:Hid (J w g t (List.toArray (a0::a1::a2::a3::a4::a5::a6::a7::a8::l)))) (a:ay):∃b,w.setCell (ab g 8) a=b/\Hid (J b g t (List.toArray (a0::a1::a2::a3::a4::a5::a6::a7::a::l)))/\Hid (Kp [g] w b):=⟨_,rfl,qG h a,Kp.aE ai (Kp.refl [g] w) a⟩
theorem yW (h:Hid (J w g t (List.toArray (a0::a1::a2::a3::a4::a5::a6::a7::a8::a9::l)))) (a:ay):∃b,w.setCell (ab g 9) a=b/\Hid (J b g t (List.toArray (a0::a1::a2::a3::a4::a5::a6::a7::a8::a::l)))/\Hid (Kp [g] w b):=⟨_,rfl,xO h a,Kp.aE ai (Kp.refl [g] w) a⟩
end
end Go.Proofs.YteamkimbmdgdbaaGreatDoor

import Derived.Test.YteamkimbmdgdbaaGreatDoorKM
import Derived.Test.YteamkimbmdgdbaaGreatDoorProg
set_option linter.unusedSimpArgs false
set_option linter.unusedVariables false
set_option maxHeartbeats 16000000
set_option maxRecDepth 100000
namespace Go.Proofs.YteamkimbmdgdbaaGreatDoor
open Go.Proofs.Tryz
open Go.RowKit
section
variable {P:Program} {Q Q':Exit->Act->World->Prop} {md:Region.Mode}
theorem Be {d:Oper} {a:Act} {b:ah} {f g:Act->World->Prop} (i:∀j a b,Q (.panic j) a b->Q' (.panic j) a b) (k:LetsOut Q->LetsOut Q') (h:∀a b,f a b->g a b)
 (c:d.wp P a b f Q):d.wp P a b g Q':=by
 unfold Oper.wp at*;generalize (execOp a.eval d).run P b=l at*;cases l with
 |ok n o=>
  cases n<;>simp only[Oper.upon]at c⊢<;>
   first
    |exact h _ _ c
    |exact Calls.mono c (λm a e=>by cases m<;>first|exact h _ _ e|exact i _ _ _ e|exact k e)
    |exact Rows.mono c (λ_ _ a=>h _ _ a)
 |halt e m=>cases e<;>simp only[Oper.upon]at c⊢<;>first|exact c|exact i _ _ _ c
def j0 (P:Program) (ops:Array Oper) (n:Nat) (Q:Exit->Act->World->Prop):Exit->Act->World->Prop
 |.normal,a,w=>wpOp P ops Q n (λb c=>Q .normal b c) a w
 |e,a,w=>Q e a w
theorem j0.lets {ops:Array Oper} {n:Nat} (h:LetsOut (j0 P ops n Q)):LetsOut Q:=by
 obtain⟨a,b,h⟩:=h;exact⟨a,b,h⟩
structure gF (md:Region.Mode) (ops dU:Array Oper) (n:Nat):Prop where
 size:dU.size=n
 l0:ops.size=n+1
 same:∀i,i<n->ops[i]?=dU[i]?
 free:∀(i:Nat) o,ops[i]?=some o->o.guard=none
 back:∀(i:Nat) o,ops[i]?=some o->∀e∈o.after,Region.binds md e=true->e.on<i
 cover:∀j,j<n->∃i o,j<i/\i<=n/\ops[i]?=some o/\∃e∈o.after,Region.binds md e=true/\e.on=j
structure hI (n:Nat) (l lp:Array Bool):Prop where
 s:l.size=n+1
 sp:lp.size=n
 at_:∀j,j<n->l.getD j true=lp.getD j true
 last:l.getD n true=false
def oJ (md:Region.Mode) (ops:Array Oper) (n:Nat) (l:Array Bool):Prop:=∀a b,a<n->ops[a]?=some b->l.getD a true=true->∀a∈b.after,Region.binds md a=true->l.getD a.on true=true
theorem lg {l:Array Bool} {a:Nat} (h:a<l.size) (b c:Bool):l.getD a b=l.getD a c:=by simp[Array.getD,h]
variable {ops dU:Array Oper} {n:Nat} {l lp:Array Bool}
theorem hI.ready (b:gF md ops dU n) (c:hI n l lp) {a:Nat} (d:a<n):a∈Region.ready md ops l↔a∈Region.ready md dU lp:=by
 rw[mem_ready,mem_ready,c.at_ a d,b.same a d];have e:=c.s;have e:=c.sp;constructor
 ·rintro⟨g,e,f,h⟩
  refine⟨g,e,f,λg i j=>?_⟩;have e:=b.back a e (by rw[b.same a d];exact f) g i j;have:=h g i j;rw[lg af false true,<-c.at_ _ af,lg af true false];exact this
 rintro⟨g,e,f,h⟩;refine⟨g,e,f,λg i j=>?_⟩;have a:=b.back a e (by rw[b.same a d];exact f) g i j;have:=h g i j;rw[lg af false true,c.at_ _ af,lg af true false];exact this
theorem hI.uX (a:hI n l lp) (b:gF md ops dU n) {a:Nat} (h:a∈Region.ready md ops l):a<n\/a=n:=by
 obtain⟨c,d,a,_⟩:=mem_ready.1 h;have:=(Array.getElem?_eq_some_iff.1 a).1;have:=b.l0;omega
theorem uY (c:gF md ops dU n) (d:hI n l lp) (h:Region.ready md dU lp=[]):∀a,a<n->l.getD a true=true:=by
 intro a;induction a using Nat.strongRecOn with
 |_ a f=>
  intro g;have b:=d.s;cases hl:l.getD a true with
  |true=>rfl
  |false=>
   exfalso
   have b:=c.l0;obtain⟨b,e⟩:∃b,ops[a]?=some b:=⟨_,Array.getElem?_eq_getElem af⟩;have:a∈Region.ready md ops l:=mem_ready.2 ⟨hl,b,e,λi j k=>by
    have a:=c.back a b e i j k;rw[lg af false true];exact f _ a af⟩
   rw[d.ready c g,h]at this;cases this
theorem uZ (b:gF md ops dU n) (c:hI n l lp) (h:Region.ready md dU lp=[]):n∈Region.ready md ops l:=by
 have a:=b.l0;have a:=c.s;obtain⟨a,d⟩:∃a,ops[n]?=some a:=⟨_,Array.getElem?_eq_getElem af⟩;exact mem_ready.2 ⟨c.last,a,d,λe f g=>by
  have a:=b.back n a d e f g;rw[lg af false true];exact uY b c h _ a⟩
theorem Bg (d:gF md ops dU n) (e:hI n l lp) (m:oJ md ops n l) (h:n∈Region.ready md ops l):Region.ready md dU lp=[]:=by
 have v:=e.s;have o:∀b a,a<n->n-a<=b->l.getD a true=true:=by
  intro b;induction b with
  |zero=>intro a c c;omega
  |succ b p=>
   intro a q b;obtain⟨c,r,w,x,f,g,i,j,rfl⟩:=d.cover a q;by_cases t:c=n
   ·subst t
    obtain⟨_,a,k,u⟩:=mem_ready.1 h;rw[f]at k;obtain rfl:=Option.some.inj k;have:=u g i j;rw[lg af true false];exact this
   exact m c r af f (p c af af) g i j
 apply List.eq_nil_iff_forall_not_mem.2;intro a b;obtain⟨c,f,b,_⟩:=mem_ready.1 b;have b:a<n:=by have:=(Array.getElem?_eq_some_iff.1 b).1;have:=d.size;omega
 have:=o n a b af;rw[e.at_ a b,c]at this;cases this
theorem vd (b:gF md ops dU n) (c:hI n l lp) (h:Region.ready md dU lp=[]):Region.ready md ops (l.setIfInBounds n true)=[]:=by
 apply List.eq_nil_iff_forall_not_mem.2;intro d f;obtain⟨a,i,f,_⟩:=mem_ready.1 f;have f:=(Array.getElem?_eq_some_iff.1 f).1;have f:=b.l0;have g:=c.s;by_cases e:d=n
 ·subst e
  simp[Array.getD,g]at a
 rw[getD_set_ne true (λh=>e h.symm)]at a;rw[uY b c h d af]at a;cases a
theorem hI.set (a:hI n l lp) {i:Nat} (g:i<n):hI n (l.setIfInBounds i true) (lp.setIfInBounds i true):=by
 have d:=a.s;have e:=a.sp;refine⟨by simpa using d,by simpa using e,λf b=>?_,?_⟩
 ·by_cases c:i=f
  ·subst c;simp[Array.getD,d,e,b,Nat.lt_succ_of_lt b]
  rw[getD_set_ne true c,getD_set_ne true c];exact a.at_ f b
 rw[getD_set_ne true af];exact a.last
theorem oJ.set (p:oJ md ops n l) (b:l.size=n+1) (b:gF md ops dU n) {i:Nat} (q:i∈Region.ready md ops l):oJ md ops n (l.setIfInBounds i true):=by
 intro c g r d j a e f;have b:=b.back c g d a e f;have k:∀b,l.getD b true=true->(l.setIfInBounds i true).getD b true=true:=by
  intro b m;by_cases a:i=b
  ·subst a
   rcases Nat.lt_or_ge i l.size with h|h
   ·simp[Array.getD,h]
   simp[Array.getD,Nat.not_lt.2 h]
  rw[getD_set_ne true a];exact m
 by_cases m:i=c
 ·subst m
  obtain⟨_,b,o,s⟩:=mem_ready.1 q;rw[d]at o;obtain rfl:=Option.some.inj o;have:=s a e f;exact k _ (by rw[lg (by omega) true false];exact this)
 rw[getD_set_ne true m]at j;exact k _ (p c g r d j a e f)
theorem Bh (e:gF md ops dU n) {a:Nat} (f:a<n) {g i:Act->World->Prop} {b:Act} {c:ah} (h:∀b c,g b c->i b c) (d:wpOp P dU (j0 P ops n Q) a g b c):wpOp P ops Q a i b c:=by
 unfold wpOp at*;rw[e.same a f];cases ho:dU[a]? with
 |none=>simp only[ho]at d⊢;exact h _ _ d
 |some j=>
  have b:=e.free a j (by rw[e.same a f];exact ho);simp only[ho]at d⊢;have a:∀a,Region.wanted j a=true:=λa=>by unfold Region.wanted;rw[b]
  rw[if_pos (a _)]at d⊢;exact d.imp (Be (λ_ _ _ h=>h) (λa=>j0.lets (P:=P) (ops:=ops) (n:=n) a) h) (λ⟨a,b⟩=>⟨a,j0.lets (P:=P) (ops:=ops) (n:=n) b⟩)
theorem ve (a:gF md ops dU n):∀(c:Nat) (l lp:Array Bool) (d:Act) (e:ah),hI n l lp->oJ md ops n l->wpAny P md dU (j0 P ops n Q) c lp d e->wpAny P md ops Q (c+1) l d e:=by
 intro c;induction c with
 |zero=>
  rintro l lp d e b i ⟨h,g⟩;refine⟨λi=>?_,λk f=>?_⟩
  ·have:=uZ a b h
   rw[i]at this;cases this
  rcases b.uX a f with j|rfl
  ·rw[b.ready a j,h]at f;cases f
  exact wpOp_mono (λf f f=>⟨vd a b h,f⟩) g
 |succ c m=>
  rintro l lp d e b i ⟨o,p⟩;have q:=b.s;refine⟨λj=>?_,λr f=>?_⟩
  ·exfalso
   cases hr:Region.ready md dU lp with
   |nil=>have:=uZ a b hr;rw[j]at this;cases this
   |cons k t=>
    have g:k∈Region.ready md dU lp:=by rw[hr];simp
    obtain⟨_,d,c,_⟩:=mem_ready.1 g;have c:k<n:=by have:=(Array.getElem?_eq_some_iff.1 c).1;have:=a.size;omega
    rw[<-b.ready a c,j]at g;cases g
  rcases b.uX a f with g|rfl
  ·exact Bh a g (λc d e=>m _ _ c d (b.set g) (i.set q a f) e) (p r ((b.ready a g).1 f))
  have h:=Bg a b i f;exact wpOp_mono (λc c c=>⟨λ_=>c,λc k=>by rw[vd a b h]at k;cases k⟩) (o h)
def qd (md:Region.Mode) (ops:Array Oper) (n:Nat):Bool:=
 decide (ops.size=n+1)&&
 (
  (
  List.range (n+1)).all λa=>match ops[a]? with
  |none=>false
  |some b=>b.guard.isNone&&b.after.toList.all λc=>!Region.binds md c||decide (c.on<a))&&
 (
  (
  List.range n).all λa=>(List.range (n+1)).any λb=>decide (a<b)&&match ops[b]? with
  |none=>false
  |some c=>c.after.toList.any λb=>Region.binds md b&&decide (b.on=a))
theorem vf (h:qd md ops n=true):gF md ops ops.pop n:=by
 unfold qd at h;simp only[Bool.and_eq_true,decide_eq_true_eq,List.all_eq_true,List.mem_range]at h;obtain⟨⟨f,j⟩,k⟩:=h;have g:∀(a:Nat) b,ops[a]?=some b->b.guard=none/\∀d∈b.after,Region.binds md d=true->d.on<a:=by
  intro a b i;have o:=(Array.getElem?_eq_some_iff.1 i).1;have c:=j a af;rw[i]at c;simp only[Bool.and_eq_true,Option.isNone_iff_eq_none,List.all_eq_true,Bool.or_eq_true,Bool.not_eq_true',decide_eq_true_eq]at c;refine⟨c.1,λd l m=>?_⟩;rcases c.2 d (by simpa using l)with e|e
  ·rw[m]at e;cases e
  exact e
 refine⟨by simp[f],f,λa l=>?_,λa b c=>(g a b c).1,λa b c=>(g a b c).2,λf g=>?_⟩
 ·rw[Array.getElem?_pop,if_pos af]
 have i:=k f g;simp only[List.any_eq_true,List.mem_range,Bool.and_eq_true,decide_eq_true_eq]at i;obtain⟨a,l,m,e⟩:=i;cases c:ops[a]? with
 |none=>rw[c]at e;cases e
 |some b=>
  rw[c]at e;simp only[List.any_eq_true,Bool.and_eq_true,decide_eq_true_eq]at e;obtain⟨d,o,p,q⟩:=e;exact⟨a,b,m,by omega,c,d,by simpa using o,p,q⟩
theorem Bi {id:Nat} {a:Act} {b:ah} {S:World->Prop} (c:P.follows .mixedOrders=true) (d:gF .any ops ops.pop n) (e:ops.pop=dU)
 (h:wpAnyH P .any dU (j0 P ops n Q) S dU.size (Array.replicate dU.size false) a b.drew):(Code.region id ops true).wp P Q a b:=by
 have b:gF .any ops dU n:=e▸d;refine wp_region_any c ?_;rw[b.l0];have c:=wpAny_of_held _ _ _ _ h;rw[b.size]at c;refine ve b n _ _ a _ ⟨by simp,by simp,λb b=>by simp[Array.getD,b,Nat.lt_succ_of_lt b],by simp[Array.getD]⟩ ?_ c;intro b b b c c;exfalso
 simp[Array.getD,Nat.lt_succ_of_lt b]at c
theorem vg {a:Act} {b:ah} {o:Oper} (d:ops[n]?=some o) (e:o.guard=none) (h:∀c:Act->World->Prop,Shut (∀a b,Q .normal a b->c a b)->o.wp P a b c Q):j0 P ops n Q .normal a b:=by
 show wpOp P ops Q n _ a b;unfold wpOp;simp only[d];have b:∀b,Region.wanted o b=true:=λb=>by unfold Region.wanted;rw[e]
 rw[if_pos (b _)];exact .inl (h _ (λ_ _ h=>h))
end
section
variable {P:Program} {md:Region.Mode} {ops:Array Oper} {Q:Exit->Act->World->Prop} {S:World->Prop} {B:Nat->Bool}
def dc (P:Program) (md:Region.Mode) (ops:Array Oper) (Q:Exit->Act->World->Prop) (S:World->Prop) (B:Nat->Bool):Nat->Array Bool->Act->World->Prop
 |0,listed,a,w=>Region.ready md ops listed=[]/\Q .normal a w
 |fuel+1,listed,a,w=>
  (Region.ready md ops listed=[]->Q .normal a w)/\
  ∀b∈Region.ready md ops listed,wpOp P ops Q b (λd c=>(B b=true->S c)/\dc P md ops Q S B fuel (listed.setIfInBounds b true) d c) a w
theorem vj:∀(a:Nat) (b:Array Bool) (c:Act) (d:ah),dc P md ops Q S B a b c d->wpAny P md ops Q a b c d
 |0,_,_,_,h=>h
 |a+1,_,_,_,h=>⟨h.1,λb c=>wpOp_mono (λd e f=>vj a _ d e f.2) (h.2 b c)⟩
theorem Bn {b:Nat} {g:Oper} {p:aA} (q:ops[b]?=some g) (t:∀(a:Nat) (u:Oper) k l,ops[a]?=some u->u.op≠.select k l)
 (E:∀u e f,Q (.panic u) (e.put g.dst p) f->Q (.panic u) e f):
 ∀(m:Nat) (d:Array Bool) (e:Act) (f:ah),
  (∀a i,ops[a]?=some i->a≠b->d.getD a true=false->(∀c∈i.after,Region.binds md c=true->c.on≠b)->g.apart ops i=true/\B a=true)->
  b∈Region.ready md ops d->YieldsIf P ops S g p e->S f->
  dc P md ops Q S B m (d.setIfInBounds b true) (e.put g.dst p) f->dc P md ops Q S B (m+1) d e f:=by
 intro m;induction m with
 |zero=>
  intro d e f _ j s n o;refine⟨λh=>(by rw[h]at j;cases j),λa v=>?_⟩;by_cases r:a=b
  ·subst r;exact s.wpOp q n ⟨λ_=>n,o⟩
  have:=ready_mono v r;rw[o.1]at this;cases this
 |succ m F=>
  intro d e f v o w x y;refine⟨λh=>(by rw[h]at o;cases o),λa z=>?_⟩;by_cases n:a=b
  ·subst n;exact w.wpOp q x ⟨λ_=>x,y⟩
  have j:=y.2 a (ready_mono z n);obtain⟨A,i,r,e⟩:=mem_ready.1 z;have G:∀c∈i.after,Region.binds md c=true->c.on≠b:=λc f m p=>by
   have j:=e c f m;have C:=(mem_ready.1 o).1;rw[p]at j;rcases Nat.lt_or_ge b d.size with s|s
   ·simp[s]at C j;rw[C]at j;cases j
   simp[Array.getElem?_eq_none s]at j
  have s:=v a i r n A G;have H:=wpOp_putIf r s.1 (λk l=>t b g k l q) (λk l=>t a i k l r) E w j;have I:∀e f,ops[e]?=some f->e≠b->(d.setIfInBounds a true).getD e true=false->
   (∀c∈f.after,Region.binds md c=true->c.on≠b)->g.apart ops f=true/\B e=true:=λe f b c C g=>by
   refine v e f b c ?_ g;by_cases D:a=e
   ·subst D;exact A
   rw[getD_set_ne true D]at C;exact C
  refine wpOp_mono (λc e b=>⟨b.2.1,F (d.setIfInBounds a true) c e I (ready_mono o (Ne.symm n)) b.1 (b.2.1 s.2) ?_⟩) H;rw[Array.setIfInBounds_comm _ _ n];exact b.2.2
def oL (md:Region.Mode) (ops:Array Oper) (c:Array Bool) (b:Nat) (B:Nat->Bool):Bool:=
 (List.range ops.size).all λa=>decide (a=b)||(c.getD a true||(B a||match ops[a]? with|none=>true|some d=>d.after.toList.any λa=>Region.binds md a&&decide (a.on=b)))
theorem d2 {i:Nat} {oi:Oper} {v:aA} {d:Nat} {c:Array Bool} {a:Act} {w:ah} (f:ops[i]?=some oi)
 (l:Region.noSelect ops=true) (m:Region.free md ops c i=true) (n:(Region.ready md ops c).contains i=true) (g:oL md ops c i B=true)
 (o:∀j a w,Q (.panic j) (a.put oi.dst v) w->Q (.panic j) a w) (p:YieldsIf P ops S oi v a) (q:S w)
 (h:dc P md ops Q S B d (c.setIfInBounds i true) (a.put oi.dst v) w):dc P md ops Q S B (d+1) c a w:=
 Bn f (Region.noSelect_spec l) o d c a w (λc l a d j k=>⟨Region.free_spec f m c l a d j k,by
  unfold oL at g;have b:=(List.all_eq_true.1 g) c (List.mem_range.2 (Array.getElem?_eq_some_iff.1 a).1);simp only[d,decide_false,Bool.false_or,j,a,Bool.or_eq_true]at b;rcases b with b|b
  ·exact b
  exfalso
  rw[List.any_eq_true]at b;obtain⟨r,s,e⟩:=b;simp only[Bool.and_eq_true,decide_eq_true_eq]at e;exact k r (by simpa using s) e.1 e.2⟩) (by simpa using n) p q h
theorem gS {a:Array Bool} {b:Act} {c:ah} (d:Region.ready md ops a=[]) (h:Q .normal b c):
 ∀e,dc P md ops Q S B e a b c
 |0=>⟨d,h⟩
 |_+1=>⟨λ_=>h,by rw[d];simp⟩
theorem rY {a:Nat} {c:Oper} {e:Nat} {f:Array Bool} {g:Act} {i:ah} (k:ops[a]?=some c) (l:c.guard=none)
 (h:∀j:Act->World->Prop,Shut (∀d b,(B a=true->S b)->dc P md ops Q S B e (f.setIfInBounds a true) d b->j d b)->c.wp P g i j Q):
 wpOp P ops Q a (λd b=>(B a=true->S b)/\dc P md ops Q S B e (f.setIfInBounds a true) d b) g i:=by
 unfold wpOp;simp only[k];have a:∀a,Region.wanted c a=true:=λa=>by unfold Region.wanted;rw[l]
 rw[if_pos (a _)];exact .inl (h _ (λ_ _ a b=>⟨a,b⟩))
theorem j7 {i:Nat} {o:Oper} {c:Nat} {a:Array Bool} {d:Act} {e:ah} (f:Region.ready md ops a=[i]) (l:ops[i]?=some o) (m:o.guard=none)
 (h:∀g:Act->World->Prop,Shut (∀j b,(B i=true->S b)->dc P md ops Q S B c (a.setIfInBounds i true) j b->g j b)->o.wp P d e g Q):dc P md ops Q S B (c+1) a d e:=
 ⟨(
  λk=>by rw[f]at k;cases k),λa k=>by
  rw[f]at k;obtain rfl:=aC k;exact rY l m h⟩
theorem oM {i j:Nat} {oi oj:Oper} {f:Nat} {d:Array Bool} {g:Act} {k:ah} (l:Region.ready md ops d=[i,j]) (m:ops[i]?=some oi) (n:oi.guard=none) (o:ops[j]?=some oj) (p:oj.guard=none)
 (q:∀b:Act->World->Prop,Shut (∀c a,(B i=true->S a)->dc P md ops Q S B f (d.setIfInBounds i true) c a->b c a)->oi.wp P g k b Q)
 (r:∀b:Act->World->Prop,Shut (∀c a,(B j=true->S a)->dc P md ops Q S B f (d.setIfInBounds j true) c a->b c a)->oj.wp P g k b Q):dc P md ops Q S B (f+1) d g k:=
 ⟨(
  λe=>by rw[l]at e;cases e),λa e=>by
  rw[l]at e;rcases de e with rfl|e
  ·exact rY m n q
  obtain rfl:=aC e;exact rY o p r⟩
def qe (ops:Array Oper) (b:Array Bool) (B:Nat->Bool):Bool:=(List.range ops.size).all λa=>b.getD a true||!B a
theorem Bo {a:Array Bool} {b:Nat} (h:qe ops a B=true):qe ops (a.setIfInBounds b true) B=true:=by
 unfold qe at*;rw[List.all_eq_true]at*;intro c e;have f:=h c e;by_cases d:b=c
 ·subst d
  by_cases c:b<a.size
  ·simp[Array.getD,c]
  simp[Array.getD,c]
 rw[getD_set_ne true d];exact f
theorem vk:∀(a:Nat) (b:Array Bool) (c:Act) (d:ah),qe ops b B=true->wpAny P md ops Q a b c d->dc P md ops Q S B a b c d
 |0,_,_,_,_,h=>h
 |a+1,b,_,_,hr,h=>⟨h.1,λe f=>wpOp_mono (λi j k=>⟨(λb=>by
  obtain⟨c,l,d,_⟩:=mem_ready.1 f;have g:=(List.all_eq_true.1 hr) e (List.mem_range.2 (Array.getElem?_eq_some_iff.1 d).1);rw[c,b]at g;cases g),vk a _ i j (Bo hr) k⟩) (h.2 e f)⟩
theorem oN {id:Nat} {a:Act} {b:ah} (c:P.follows .mixedOrders=true)
 (h:dc P .any ops Q S B ops.size (Array.replicate ops.size false) a b.drew):(Code.region id ops true).wp P Q a b:=
 wp_region_any c (vj _ _ _ _ h)
end
section
variable {P:Program} {md:Region.Mode} {ops:Array Oper} {Q:Exit->Act->World->Prop} {S:World->Prop} {B:Nat->Bool}
theorem tk {c:Nat} {b l':Array Bool} {a d:Act} {w:ah} {oi:Oper} {v:aA} (i:Nat) (f:S w) (h:dc P md ops Q S B c l' d w)
 (g:ops[i]?=some oi:=by(simp only[be,bf,bg];rfl))
 (j:Region.noSelect ops=true:=by kernel_rfl) (k:Region.free md ops b i=true:=by kernel_rfl) (l:(Region.ready md ops b).contains i=true:=by kernel_rfl)
 (m:oL md ops b i B=true:=by kernel_rfl) (n:∀e a w,Q (.panic e) (a.put oi.dst v) w->Q (.panic e) a w:=by exact λ_ _ _ h=>h)
 (hy:YieldsIf P ops S oi v a:=by(refine Or.inl ⟨rfl,?_⟩;intro w' hSw;(try dsimp only at hSw);go_simp;try with_reducible rfl))
 (o:a.put oi.dst v=d:=by first|(simp only[Act.put,oh,ol,om];rfl)|rfl)
 (p:b.setIfInBounds i true=l':=by rfl):dc P md ops Q S B (c+1) b a w:=by
 subst o p;exact d2 g j k l m n hy f h
theorem tq {c:Nat} {b d:Array Bool} {a e:Act} {w:ah} {oi:Oper} {v:aA} (i:Nat) (h:wpAny P md ops Q c d e w)
 (g:ops[i]?=some oi:=by(simp only[be,bf,bg];rfl))
 (j:Region.noSelect ops=true:=by kernel_rfl) (k:Region.free md ops b i=true:=by kernel_rfl) (l:(Region.ready md ops b).contains i=true:=by kernel_rfl)
 (m:∀f a w,Q (.panic f) (a.put oi.dst v) w->Q (.panic f) a w:=by exact λ_ _ _ h=>h)
 (hy:Yields P ops oi v a:=by(refine Or.inl ⟨rfl,?_⟩;intro w';go_simp;try with_reducible rfl))
 (n:a.put oi.dst v=e:=by first|(simp only[Act.put,oh,ol,om];rfl)|rfl)
 (o:b.setIfInBounds i true=d:=by rfl):wpAny P md ops Q (c+1) b a w:=by
 subst n o;exact wpAny_take g j k l m hy h
theorem sk {d:Nat} {c l':Array Bool} {a e:Act} {b:ah} {oi:Oper} (i:Nat) (g:S b) (h:dc P md ops Q S B d l' e b)
 (j:ops[i]?=some oi:=by(simp only[be,bf,bg];rfl))
 (k:Region.noSelect ops=true:=by kernel_rfl) (l:Region.free md ops c i=true:=by kernel_rfl) (m:(Region.ready md ops c).contains i=true:=by kernel_rfl)
 (n:oL md ops c i B=true:=by kernel_rfl) (o:∀f a b,Q (.panic f) (a.put oi.dst undef) b->Q (.panic f) a b:=by exact λ_ _ _ h=>h)
 (p:Region.wanted oi (yielded ops a.tmps)=false:=by rfl)
 (q:a.put oi.dst undef=e:=by first|(simp only[Act.put,oh,ol,om];rfl)|rfl)
 (r:c.setIfInBounds i true=l':=by rfl):dc P md ops Q S B (d+1) c a b:=by
 subst q r;exact d2 j k l m n o (Or.inr ⟨p,rfl⟩) g h
theorem aM {d:Nat} {a:Array Bool} {e:Act} {w:ah} {b:Oper} (i:Nat)
 (h:∀f:Act->World->Prop,Shut (∀g c,(B i=true->S c)->dc P md ops Q S B d (a.setIfInBounds i true) g c->f g c)->b.wp P e w f Q)
 (c:ops[i]?=some b:=by(simp only[be,bf,bg];rfl)) (f:Region.ready md ops a=[i]:=by kernel_rfl) (g:b.guard=none:=by rfl):dc P md ops Q S B (d+1) a e w:=
 j7 f c g h
theorem rZ {f:Nat} {d:Array Bool} {g:Act} {j:ah} {k l:Oper} (i e:Nat)
 (m:∀b:Act->World->Prop,Shut (∀c a,(B i=true->S a)->dc P md ops Q S B f (d.setIfInBounds i true) c a->b c a)->k.wp P g j b Q)
 (n:∀b:Act->World->Prop,Shut (∀c a,(B e=true->S a)->dc P md ops Q S B f (d.setIfInBounds e true) c a->b c a)->l.wp P g j b Q)
 (a:ops[i]?=some k:=by(simp only[be,bf,bg];rfl)) (b:ops[e]?=some l:=by(simp only[be,bf,bg];rfl))
 (c:Region.ready md ops d=[i,e]:=by kernel_rfl) (e:k.guard=none:=by rfl) (k:l.guard=none:=by rfl):dc P md ops Q S B (f+1) d g j:=
 oM c a e b k m n
theorem eb {e:Nat} {a:Array Bool} {b:Act} {f:ah} {c:Oper} (i:Nat)
 (h:∀g:Act->World->Prop,Shut (∀j d,(B i=true->S d)->dc P md ops Q S B e (a.setIfInBounds i true) j d->g j d)->c.wp P b f g Q)
 (m:ops[i]?=some c:=by(simp only[be,bf,bg];rfl)) (k:Region.ready md ops a=[i]:=by kernel_rfl) (n:Region.wanted c (yielded ops b.tmps)=true:=by rfl):dc P md ops Q S B (e+1) a b f:=
 ⟨(
  λl=>by rw[k]at l;cases l),λa l=>by
  rw[k]at l;obtain rfl:=aC l;unfold wpOp;simp only[m];rw[if_pos n];exact .inl (h _ (λ_ _ a b=>⟨a,b⟩))⟩
theorem eI {id:Nat} {a:Act} {w:ah} (n:Nat) (b:S w.drew) (h:S w.drew->dc P .any ops Q S (λc=>decide (c<n)) ops.size (Array.replicate ops.size false) a w.drew)
 (c:P.follows .mixedOrders=true:=by kernel_rfl):(Code.region id ops true).wp P Q a w:=
 oN c (h b)
theorem Bp {f:Nat} {c:Array Bool} {a:Act} {w:ah} {d e:Oper} (g i:Nat)
 (j:∀b:Act->World->Prop,(∀a w,wpAny P md ops Q f (c.setIfInBounds g true) a w->b a w)->if Region.wanted d (yielded ops a.tmps)=true then Oper.wp P d a w b Q else b (a.put d.dst undef) w)
 (k:∀b:Act->World->Prop,(∀a w,wpAny P md ops Q f (c.setIfInBounds i true) a w->b a w)->if Region.wanted e (yielded ops a.tmps)=true then Oper.wp P e a w b Q else b (a.put e.dst undef) w)
 (b:ops[g]?=some d:=by(simp only[be,bf,bg];rfl)) (d:ops[i]?=some e:=by(simp only[be,bf,bg];rfl))
 (e:Region.ready md ops c=[g,i]:=by kernel_rfl):wpAny P md ops Q (f+1) c a w:=
 wpAny_ready e aj (AllReady.cons b j (AllReady.cons d k AllReady.nil))
theorem dt {d:Nat} {b:Array Bool} {a:Act} {w:ah} {o:Oper} (i:Nat)
 (h:∀c:Act->World->Prop,(∀a w,wpAny P md ops Q d (b.setIfInBounds i true) a w->c a w)->if Region.wanted o (yielded ops a.tmps)=true then Oper.wp P o a w c Q else c (a.put o.dst undef) w)
 (c:ops[i]?=some o:=by(simp only[be,bf,bg];rfl)) (e:Region.ready md ops b=[i]:=by kernel_rfl):wpAny P md ops Q (d+1) b a w:=
 wpAny_ready e aj (AllReady.cons c h AllReady.nil)
end
end Go.Proofs.YteamkimbmdgdbaaGreatDoor
namespace Go.Proofs
open Go.Shelf
def Tryz.B9:Go.Shelf.Ren:=⟨λ|137=>158|217=>238|266=>296|n=>n,λ|9=>9|5=>5|3=>3|n=>n,λ|n=>n⟩
theorem Tryz.Ca:Go.Proofs.Lays.n137 prog Tryz.B9:={
 mixed:=am
 f137:=func158.trans (congrArg some am)
 f217:=func238.trans (congrArg some am)
 f266:=func296.trans (congrArg some am)
 t3:=underlying3
 a3:=isAgg3
 z3:=sizeOf3
 v3:=zeroValue3
 t5:=underlying5
 a5:=isAgg5
 z5:=sizeOf5
 v5:=zeroValue5
 t9:=underlying9
 a9:=isAgg9
 z9:=sizeOf9
 v9:=zeroValue9}
open Go.RowKit in
theorem Tryz.strings_IndexByte (a:ax) (b:Int) (c:ah):
 Calls prog 158 #[a,.int .u8 b] c λd e=>d=.returned (J (Lib.indexByte a.data.toList b.toNat.toUInt8))/\e=c:=Any.strings_IndexByte Tryz.Ca a b c
def Tryz.Cb:Go.Shelf.Ren:=⟨λ|172=>157|244=>236|245=>237|247=>291|279=>292|280=>293|281=>294|282=>295|287=>322|316=>323|171=>325|205=>324|321=>335|322=>336|243=>337|246=>344|283=>349|284=>350|285=>351|286=>352|129=>235|317=>360|318=>361|319=>362|320=>363|337=>370|338=>371|n=>n,λ|9=>9|3=>3|75=>249|76=>250|4=>4|5=>5|167=>360|37=>252|0=>0|85=>361|2=>2|168=>363|53=>316|175=>382|46=>245|210=>386|127=>398|145=>401|143=>399|21=>21|171=>426|173=>428|212=>448|51=>314|20=>20|213=>449|232=>474|233=>475|80=>192|n=>n,λ|15=>1|16=>2|17=>4|18=>5|19=>6|n=>n⟩
theorem Tryz.Cc:Go.Proofs.LaysC.n172 prog Tryz.Cb:={
 mixed:=am
 f129:=func235.trans (congrArg some am)
 f171:=func325.trans (congrArg some am)
 f172:=func157.trans (congrArg some am)
 f205:=func324.trans (congrArg some am)
 f243:=func337.trans (congrArg some am)
 f244:=func236.trans (congrArg some am)
 f245:=func237.trans (congrArg some am)
 f246:=func344.trans (congrArg some am)
 f247:=func291.trans (congrArg some am)
 f279:=func292.trans (congrArg some am)
 f280:=func293.trans (congrArg some am)
 f281:=func294.trans (congrArg some am)
 f282:=func295.trans (congrArg some am)
 f283:=func349.trans (congrArg some am)
 f284:=func350.trans (congrArg some am)
 f285:=func351.trans (congrArg some am)
 f286:=func352.trans (congrArg some am)
 f287:=func322.trans (congrArg some am)
 f316:=func323.trans (congrArg some am)
 f317:=func360.trans (congrArg some am)
 f318:=func361.trans (congrArg some am)
 f319:=func362.trans (congrArg some am)
 f320:=func363.trans (congrArg some am)
 f321:=func335.trans (congrArg some am)
 f322:=func336.trans (congrArg some am)
 f337:=func370.trans (congrArg some am)
 f338:=func371.trans (congrArg some am)
 t0:=underlying0
 a0:=isAgg0
 z0:=sizeOf0
 v0:=zeroValue0
 t2:=underlying2
 a2:=isAgg2
 z2:=sizeOf2
 v2:=zeroValue2
 t3:=underlying3
 a3:=isAgg3
 z3:=sizeOf3
 v3:=zeroValue3
 t4:=underlying4
 a4:=isAgg4
 z4:=sizeOf4
 v4:=zeroValue4
 t5:=underlying5
 a5:=isAgg5
 z5:=sizeOf5
 v5:=zeroValue5
 t9:=underlying9
 a9:=isAgg9
 z9:=sizeOf9
 v9:=zeroValue9
 t20:=underlying20
 a20:=isAgg20
 z20:=sizeOf20
 v20:=zeroValue20
 t21:=underlying21
 a21:=isAgg21
 z21:=sizeOf21
 v21:=zeroValue21
 t37:=underlying252
 a37:=isAgg252
 z37:=sizeOf252
 v37:=zeroValue252
 t46:=underlying245
 a46:=isAgg245
 z46:=sizeOf245
 v46:=zeroValue245
 t51:=underlying314
 a51:=isAgg314
 z51:=sizeOf314
 v51:=zeroValue314
 t53:=underlying316
 a53:=isAgg316
 z53:=sizeOf316
 v53:=zeroValue316
 t75:=underlying249
 a75:=isAgg249
 z75:=sizeOf249
 v75:=zeroValue249
 t76:=underlying250
 a76:=isAgg250
 z76:=sizeOf250
 v76:=zeroValue250
 t85:=underlying361
 a85:=isAgg361
 z85:=sizeOf361
 v85:=zeroValue361
 t127:=underlying398
 a127:=isAgg398
 z127:=sizeOf398
 v127:=zeroValue398
 t143:=underlying399
 a143:=isAgg399
 z143:=sizeOf399
 v143:=zeroValue399
 t145:=underlying401
 a145:=isAgg401
 z145:=sizeOf401
 v145:=zeroValue401
 t167:=underlying360
 a167:=isAgg360
 z167:=sizeOf360
 v167:=zeroValue360
 t168:=underlying363
 a168:=isAgg363
 z168:=sizeOf363
 v168:=zeroValue363
 t171:=underlying426
 a171:=isAgg426
 z171:=sizeOf426
 v171:=zeroValue426
 t173:=underlying428
 a173:=isAgg428
 z173:=sizeOf428
 v173:=zeroValue428
 t175:=underlying382
 a175:=isAgg382
 z175:=sizeOf382
 v175:=zeroValue382
 t210:=underlying386
 a210:=isAgg386
 z210:=sizeOf386
 v210:=zeroValue386
 t212:=underlying448
 a212:=isAgg448
 z212:=sizeOf448
 v212:=zeroValue448
 t213:=underlying449
 a213:=isAgg449
 z213:=sizeOf449
 t232:=underlying474
 a232:=isAgg474
 z232:=sizeOf474
 v232:=zeroValue474
 t233:=underlying475
 a233:=isAgg475
 z233:=sizeOf475
 v233:=zeroValue475
 g15:=am
 g16:=am
 g17:=am
 g18:=am
 g19:=am
 t80:=underlying192
 a80:=isAgg192
 z80:=sizeOf192
 v80:=zeroValue192
 i0:=am
 i2:=am
 i3:=am
 i4:=am
 i5:=am
 i9:=am
 i20:=am
 i21:=am
 i37:=am
 i46:=am
 i51:=am
 i53:=am
 i75:=am
 i76:=am
 i80:=am
 i85:=am
 i127:=am
 i143:=am
 i145:=am
 i167:=am
 i168:=am
 i171:=am
 i173:=am
 i175:=am
 i210:=am
 i212:=am
 i232:=am
 i233:=am
 m15:=am
 m16:=am
 m17:=am
 m18:=am
 m19:=am
 c0:=am
 c2:=am
 c3:=am
 c4:=am
 c5:=am
 c9:=am
 c20:=am
 c21:=am
 c37:=am
 c46:=am
 c51:=am
 c53:=am
 c75:=am
 c76:=am
 c80:=am
 c85:=am
 c127:=am
 c143:=am
 c145:=am
 c167:=am
 c168:=am
 c171:=am
 c173:=am
 c175:=am
 c210:=am
 c212:=am
 c213:=am
 c232:=am
 c233:=by kernel_rfl}
open Go.RowKit in
theorem Tryz.strconv_Atoi_ok (a:ax) (d:a.size<=9223372036854775806) (v:Int) (h:Lib.atoiAll a.data.toList=.ok v) (b:ah):
 Calls prog 157 #[a] b λe c=>e=.returned (.tuple #[v,.nilIface])/\(c=b\/∃e,c=Lib.bytesWorld b 5 e):=Any.strconv_Atoi_ok Tryz.Cc a d v h b
def Tryz.Cd:Go.Shelf.Ren:=⟨λ|189=>185|125=>152|257=>264|128=>234|129=>235|294=>306|295=>307|296=>308|297=>309|298=>310|299=>311|216=>312|300=>313|301=>314|328=>331|329=>286|330=>287|331=>332|332=>333|215=>334|343=>343|n=>n,λ|28=>60|3=>3|46=>245|0=>0|51=>314|53=>316|4=>4|183=>308|182=>307|131=>282|5=>5|9=>9|218=>354|222=>358|228=>379|229=>380|n=>n,λ|n=>n⟩
theorem Tryz.vO:Go.Proofs.Lays.n189 prog Tryz.Cd:={
 mixed:=am
 f125:=func152.trans (congrArg some am)
 f128:=func234.trans (congrArg some am)
 f129:=func235.trans (congrArg some am)
 f189:=func185.trans (congrArg some am)
 f215:=func334.trans (congrArg some am)
 f216:=func312.trans (congrArg some am)
 f257:=func264.trans (congrArg some am)
 f294:=func306.trans (congrArg some am)
 f295:=func307.trans (congrArg some am)
 f296:=func308.trans (congrArg some am)
 f297:=func309.trans (congrArg some am)
 f298:=func310.trans (congrArg some am)
 f299:=func311.trans (congrArg some am)
 f300:=func313.trans (congrArg some am)
 f301:=func314.trans (congrArg some am)
 f328:=func331.trans (congrArg some am)
 f329:=func286.trans (congrArg some am)
 f330:=func287.trans (congrArg some am)
 f331:=func332.trans (congrArg some am)
 f332:=func333.trans (congrArg some am)
 f343:=func343.trans (congrArg some am)
 t0:=underlying0
 a0:=isAgg0
 z0:=sizeOf0
 v0:=zeroValue0
 t3:=underlying3
 a3:=isAgg3
 z3:=sizeOf3
 v3:=zeroValue3
 t4:=underlying4
 a4:=isAgg4
 z4:=sizeOf4
 v4:=zeroValue4
 t5:=underlying5
 a5:=isAgg5
 z5:=sizeOf5
 v5:=zeroValue5
 t9:=underlying9
 a9:=isAgg9
 z9:=sizeOf9
 v9:=zeroValue9
 t28:=underlying60
 a28:=isAgg60
 z28:=sizeOf60
 v28:=zeroValue60
 t46:=underlying245
 a46:=isAgg245
 z46:=sizeOf245
 v46:=zeroValue245
 t51:=underlying314
 a51:=isAgg314
 z51:=sizeOf314
 v51:=zeroValue314
 t53:=underlying316
 a53:=isAgg316
 z53:=sizeOf316
 v53:=zeroValue316
 t131:=underlying282
 a131:=isAgg282
 z131:=sizeOf282
 v131:=zeroValue282
 t182:=underlying307
 a182:=isAgg307
 z182:=sizeOf307
 v182:=zeroValue307
 t183:=underlying308
 a183:=isAgg308
 z183:=sizeOf308
 v183:=zeroValue308
 t218:=underlying354
 a218:=isAgg354
 z218:=sizeOf354
 v218:=zeroValue354
 t222:=underlying358
 a222:=isAgg358
 z222:=sizeOf358
 v222:=zeroValue358
 t228:=underlying379
 a228:=isAgg379
 z228:=sizeOf379
 v228:=zeroValue379
 t229:=underlying380
 a229:=isAgg380
 z229:=sizeOf380
 v229:=zeroValue380}
open Go.Sort Go.RowKit in
theorem Tryz.slices_Sort_int (a d e:Nat) (b:List Int) (c:ah) (f:Holds (Value.int .i64) c a d b.toArray) (g:a<c.heap.size) (i:b.length<4611686018427387904):
 Calls prog 185 #[O (some ⟨a,d,none⟩) b.length e] c λj k=>
  j=.returned (.tuple #[])/\∃n j,k=grow (putRow (Value.int .i64) (Sort.ahead c n) a d (b.mergeSort λk l=>decide (k<=l)).toArray) j:=Any.slices_Sort_int Tryz.vO a d e b c f g i
def Tryz.Ce:Go.Shelf.Ren:=⟨λ|190=>76|125=>152|258=>151|128=>234|129=>235|302=>225|303=>226|304=>227|305=>228|306=>229|307=>230|308=>231|309=>232|310=>233|333=>285|329=>286|330=>287|334=>288|335=>289|336=>290|344=>321|n=>n,λ|31=>83|9=>9|3=>3|46=>245|0=>0|51=>314|53=>316|4=>4|183=>308|182=>307|131=>282|5=>5|218=>354|222=>358|228=>379|229=>380|n=>n,λ|n=>n⟩
theorem Tryz.Cf:Go.Proofs.Lays.n190 prog Tryz.Ce:={
 mixed:=am
 f125:=func152.trans (congrArg some am)
 f128:=func234.trans (congrArg some am)
 f129:=func235.trans (congrArg some am)
 f190:=func76.trans (congrArg some am)
 f258:=func151.trans (congrArg some am)
 f302:=func225.trans (congrArg some am)
 f303:=func226.trans (congrArg some am)
 f304:=func227.trans (congrArg some am)
 f305:=func228.trans (congrArg some am)
 f306:=func229.trans (congrArg some am)
 f307:=func230.trans (congrArg some am)
 f308:=func231.trans (congrArg some am)
 f309:=func232.trans (congrArg some am)
 f310:=func233.trans (congrArg some am)
 f329:=func286.trans (congrArg some am)
 f330:=func287.trans (congrArg some am)
 f333:=func285.trans (congrArg some am)
 f334:=func288.trans (congrArg some am)
 f335:=func289.trans (congrArg some am)
 f336:=func290.trans (congrArg some am)
 f344:=func321.trans (congrArg some am)
 t0:=underlying0
 a0:=isAgg0
 z0:=sizeOf0
 v0:=zeroValue0
 t3:=underlying3
 a3:=isAgg3
 z3:=sizeOf3
 v3:=zeroValue3
 t4:=underlying4
 a4:=isAgg4
 z4:=sizeOf4
 v4:=zeroValue4
 t5:=underlying5
 a5:=isAgg5
 z5:=sizeOf5
 v5:=zeroValue5
 t9:=underlying9
 a9:=isAgg9
 z9:=sizeOf9
 v9:=zeroValue9
 t31:=underlying83
 a31:=isAgg83
 z31:=sizeOf83
 v31:=zeroValue83
 t46:=underlying245
 a46:=isAgg245
 z46:=sizeOf245
 v46:=zeroValue245
 t51:=underlying314
 a51:=isAgg314
 z51:=sizeOf314
 v51:=zeroValue314
 t53:=underlying316
 a53:=isAgg316
 z53:=sizeOf316
 v53:=zeroValue316
 t131:=underlying282
 a131:=isAgg282
 z131:=sizeOf282
 v131:=zeroValue282
 t182:=underlying307
 a182:=isAgg307
 z182:=sizeOf307
 v182:=zeroValue307
 t183:=underlying308
 a183:=isAgg308
 z183:=sizeOf308
 v183:=zeroValue308
 t218:=underlying354
 a218:=isAgg354
 z218:=sizeOf354
 v218:=zeroValue354
 t222:=underlying358
 a222:=isAgg358
 z222:=sizeOf358
 v222:=zeroValue358
 t228:=underlying379
 a228:=isAgg379
 z228:=sizeOf379
 v228:=zeroValue379
 t229:=underlying380
 a229:=isAgg380
 z229:=sizeOf380
 v229:=zeroValue380}
open Go.Sort Go.RowKit in
theorem Tryz.slices_Sort_string (a d e:Nat) (b:List (List UInt8)) (c:ah) (f:Holds encStr c a d b.toArray) (g:a<c.heap.size) (i:b.length<4611686018427387904):
 Calls prog 76 #[O (some ⟨a,d,none⟩) b.length e] c λj k=>
  j=.returned (.tuple #[])/\∃j l,k=grow (putRow encStr (Sort.ahead c j) a d (b.mergeSort λj k=>decide (j<=k)).toArray) l:=Any.slices_Sort_string Tryz.Cf a d e b c f g i
def Tryz.Ch:Go.Shelf.Ren:=⟨λ|99=>159|206=>239|n=>n,λ|9=>9|4=>4|3=>3|n=>n,λ|n=>n⟩
theorem Tryz.Ci:Go.Proofs.Lays.n99 prog Tryz.Ch:={
 mixed:=am
 f99:=func159.trans (congrArg some am)
 f206:=func239.trans (congrArg some am)
 t3:=underlying3
 a3:=isAgg3
 z3:=sizeOf3
 v3:=zeroValue3
 t4:=underlying4
 a4:=isAgg4
 z4:=sizeOf4
 v4:=zeroValue4
 t9:=underlying9
 a9:=isAgg9
 z9:=sizeOf9
 v9:=zeroValue9}
open Go.RowKit Go.Lib in
theorem Tryz.strings_HasPrefix (a b:ax) (c:ah):
 Calls prog 159 #[a,b] c λd e=>d=.returned (.bool (Lib.hasPrefix a.data.toList b.data.toList))/\e=c:=Any.strings_HasPrefix Tryz.Ci a b c
def Tryz.Cj:Go.Shelf.Ren:=⟨λ|194=>77|n=>n,λ|31=>83|9=>9|3=>3|4=>4|0=>0|n=>n,λ|n=>n⟩
theorem Tryz.Ck:Go.Proofs.Lays.n194 prog Tryz.Cj:={
 mixed:=am
 f194:=func77.trans (congrArg some am)
 t0:=underlying0
 a0:=isAgg0
 z0:=sizeOf0
 v0:=zeroValue0
 t3:=underlying3
 a3:=isAgg3
 z3:=sizeOf3
 v3:=zeroValue3
 t4:=underlying4
 a4:=isAgg4
 z4:=sizeOf4
 v4:=zeroValue4
 t9:=underlying9
 a9:=isAgg9
 z9:=sizeOf9
 v9:=zeroValue9
 t31:=underlying83
 a31:=isAgg83
 z31:=sizeOf83
 v31:=zeroValue83}
open Go.RowKit Go.Lib Go.Sort in
theorem Tryz.slices_Compact_string (b c d:Nat) (a:List (List UInt8)) (e:ah) (f:Holds encStr e b c a.toArray) (g:a.length<=9223372036854775807) (i:a.length<=d):
 Calls prog 77 #[O (some ⟨b,c,none⟩) a.length d] e λj k=>j=.returned (O (some ⟨b,c,none⟩) (Lib.compact a).length d)/\∃j,k=putRow encStr (Sort.ahead e j) b c (Lib.compact a++List.replicate (a.length-(Lib.compact a).length) []).toArray:=Any.slices_Compact_string Tryz.Ck b c d a e f g i
open Go.RowKit Go.Sort in
theorem Tryz.slices_Sort_int_none (b:aU) (c:Nat) (a:ah):
 Calls prog 185 #[O b 0 c] a λd e=>d=.returned (.tuple #[])/\e=a:=Any.slices_Sort_int_none Tryz.vO b c a
end Go.Proofs

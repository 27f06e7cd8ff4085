import Derived.Test.YteamkimbmdgdbaaGreatDoorKM
import Derived.Test.YteamkimbmdgdbaaGreatDoorProg
set_option linter.unusedSimpArgs false
set_option linter.unusedVariables false
set_option maxHeartbeats 16000000
set_option maxRecDepth 100000
namespace Go.Proofs.YteamkimbmdgdbaaGreatDoor
open Go.RowKit
section
variable {P:Program} {Q Q':Exit->Act->World->Prop} {md:Region.Mode}
theorem yd {d:Oper} {a:Act} {b:af} {f g:Act->World->Prop} (i:∀j a b,Q (.panic j) a b->Q' (.panic j) a b) (k:LetsOut Q->LetsOut Q') (h:∀a b,f a b->g a b)
 (c:d.wp P a b f Q):d.wp P a b g Q':=by
 unfold Oper.wp at*;generalize (execOp a.eval d).run P b=l at*;cases l with
 |ok n o=>
  cases n<;>simp only[Oper.upon]at c⊢<;>
   first
    |exact h _ _ c
    |exact Calls.mono c (λm a e=>by cases m<;>first|exact h _ _ e|exact i _ _ _ e|exact k e)
    |exact Rows.mono c (λ_ _ a=>h _ _ a)
 |halt e m=>cases e<;>simp only[Oper.upon]at c⊢<;>first|exact c|exact i _ _ _ c
def jI (P:Program) (ops:Array Oper) (n:Nat) (Q:Exit->Act->World->Prop):Exit->Act->World->Prop
 |.normal,a,w=>wpOp P ops Q n (λb c=>Q .normal b c) a w
 |e,a,w=>Q e a w
theorem jI.lets {ops:Array Oper} {n:Nat} (h:LetsOut (jI P ops n Q)):LetsOut Q:=by
 obtain⟨a,b,h⟩:=h;exact⟨a,b,h⟩
structure gq (md:Region.Mode) (ops dH:Array Oper) (n:Nat):Prop where
 size:dH.size=n
 lz:ops.size=n+1
 same:∀i,i<n->ops[i]?=dH[i]?
 free:∀(i:Nat) o,ops[i]?=some o->o.guard=none
 back:∀(i:Nat) o,ops[i]?=some o->∀e∈o.after,Region.binds md e=true->e.on<i
 cover:∀j,j<n->∃i o,j<i/\i<=n/\ops[i]?=some o/\∃e∈o.after,Region.binds md e=true/\e.on=j
structure g3 (n:Nat) (l lp:Array Bool):Prop where
 s:l.size=n+1
 sp:lp.size=n
 at_:∀j,j<n->l.getD j true=lp.getD j true
 last:l.getD n true=false
def nC (md:Region.Mode) (ops:Array Oper) (n:Nat) (l:Array Bool):Prop:=∀a b,a<n->ops[a]?=some b->l.getD a true=true->∀a∈b.after,Region.binds md a=true->l.getD a.on true=true
theorem kF {l:Array Bool} {a:Nat} (h:a<l.size) (b c:Bool):l.getD a b=l.getD a c:=by simp[Array.getD,h]
variable {ops dH:Array Oper} {n:Nat} {l lp:Array Bool}
theorem g3.ready (b:gq md ops dH n) (c:g3 n l lp) {a:Nat} (d:a<n):a∈Region.ready md ops l↔a∈Region.ready md dH lp:=by
 rw[mem_ready,mem_ready,c.at_ a d,b.same a d];have e:=c.s;have e:=c.sp;constructor
 ·rintro⟨g,e,f,h⟩
  refine⟨g,e,f,λg i j=>?_⟩;have e:=b.back a e (by rw[b.same a d];exact f) g i j;have:=h g i j;rw[kF ae false true,<-c.at_ _ ae,kF ae true false];exact this
 rintro⟨g,e,f,h⟩;refine⟨g,e,f,λg i j=>?_⟩;have a:=b.back a e (by rw[b.same a d];exact f) g i j;have:=h g i j;rw[kF ae false true,c.at_ _ ae,kF ae true false];exact this
theorem g3.sO (a:g3 n l lp) (b:gq md ops dH n) {a:Nat} (h:a∈Region.ready md ops l):a<n\/a=n:=by
 obtain⟨c,d,a,_⟩:=mem_ready.1 h;have:=(Array.getElem?_eq_some_iff.1 a).1;have:=b.lz;omega
theorem sP (c:gq md ops dH n) (d:g3 n l lp) (h:Region.ready md dH lp=[]):∀a,a<n->l.getD a true=true:=by
 intro a;induction a using Nat.strongRecOn with
 |_ a f=>
  intro g;have b:=d.s;cases hl:l.getD a true with
  |true=>rfl
  |false=>
   exfalso
   have b:=c.lz;obtain⟨b,e⟩:∃b,ops[a]?=some b:=⟨_,Array.getElem?_eq_getElem ae⟩;have:a∈Region.ready md ops l:=mem_ready.2 ⟨hl,b,e,λi j k=>by
    have a:=c.back a b e i j k;rw[kF ae false true];exact f _ a ae⟩
   rw[d.ready c g,h]at this;cases this
theorem sQ (b:gq md ops dH n) (c:g3 n l lp) (h:Region.ready md dH lp=[]):n∈Region.ready md ops l:=by
 have a:=b.lz;have a:=c.s;obtain⟨a,d⟩:∃a,ops[n]?=some a:=⟨_,Array.getElem?_eq_getElem ae⟩;exact mem_ready.2 ⟨c.last,a,d,λe f g=>by
  have a:=b.back n a d e f g;rw[kF ae false true];exact sP b c h _ a⟩
theorem ye (d:gq md ops dH n) (e:g3 n l lp) (m:nC md ops n l) (h:n∈Region.ready md ops l):Region.ready md dH lp=[]:=by
 have v:=e.s;have o:∀b a,a<n->n-a<=b->l.getD a true=true:=by
  intro b;induction b with
  |zero=>intro a c c;omega
  |succ b p=>
   intro a q b;obtain⟨c,r,w,x,f,g,i,j,rfl⟩:=d.cover a q;by_cases t:c=n
   ·subst t
    obtain⟨_,a,k,u⟩:=mem_ready.1 h;rw[f]at k;obtain rfl:=Option.some.inj k;have:=u g i j;rw[kF ae true false];exact this
   exact m c r ae f (p c ae ae) g i j
 apply List.eq_nil_iff_forall_not_mem.2;intro a b;obtain⟨c,f,b,_⟩:=mem_ready.1 b;have b:a<n:=by have:=(Array.getElem?_eq_some_iff.1 b).1;have:=d.size;omega
 have:=o n a b ae;rw[e.at_ a b,c]at this;cases this
theorem sR (b:gq md ops dH n) (c:g3 n l lp) (h:Region.ready md dH lp=[]):Region.ready md ops (l.setIfInBounds n true)=[]:=by
 apply List.eq_nil_iff_forall_not_mem.2;intro d f;obtain⟨a,i,f,_⟩:=mem_ready.1 f;have f:=(Array.getElem?_eq_some_iff.1 f).1;have f:=b.lz;have g:=c.s;by_cases e:d=n
 ·subst e
  simp[Array.getD,g]at a
 rw[getD_set_ne true (λh=>e h.symm)]at a;rw[sP b c h d ae]at a;cases a
theorem g3.set (a:g3 n l lp) {i:Nat} (g:i<n):g3 n (l.setIfInBounds i true) (lp.setIfInBounds i true):=by
 have d:=a.s;have e:=a.sp;refine⟨by simpa using d,by simpa using e,λf b=>?_,?_⟩
 ·by_cases c:i=f
  ·subst c;simp[Array.getD,d,e,b,Nat.lt_succ_of_lt b]
  rw[getD_set_ne true c,getD_set_ne true c];exact a.at_ f b
 rw[getD_set_ne true ae];exact a.last
theorem nC.set (p:nC md ops n l) (b:l.size=n+1) (b:gq md ops dH n) {i:Nat} (q:i∈Region.ready md ops l):nC md ops n (l.setIfInBounds i true):=by
 intro c g r d j a e f;have b:=b.back c g d a e f;have k:∀b,l.getD b true=true->(l.setIfInBounds i true).getD b true=true:=by
  intro b m;by_cases a:i=b
  ·subst a
   rcases Nat.lt_or_ge i l.size with h|h
   ·simp[Array.getD,h]
   simp[Array.getD,Nat.not_lt.2 h]
  rw[getD_set_ne true a];exact m
 by_cases m:i=c
 ·subst m
  obtain⟨_,b,o,s⟩:=mem_ready.1 q;rw[d]at o;obtain rfl:=Option.some.inj o;have:=s a e f;exact k _ (by rw[kF (by omega) true false];exact this)
 rw[getD_set_ne true m]at j;exact k _ (p c g r d j a e f)
theorem yf (e:gq md ops dH n) {a:Nat} (f:a<n) {g i:Act->World->Prop} {b:Act} {c:af} (h:∀b c,g b c->i b c) (d:wpOp P dH (jI P ops n Q) a g b c):wpOp P ops Q a i b c:=by
 unfold wpOp at*;rw[e.same a f];cases ho:dH[a]? with
 |none=>simp only[ho]at d⊢;exact h _ _ d
 |some j=>
  have b:=e.free a j (by rw[e.same a f];exact ho);simp only[ho]at d⊢;have a:∀a,Region.wanted j a=true:=λa=>by unfold Region.wanted;rw[b]
  rw[if_pos (a _)]at d⊢;exact d.imp (yd (λ_ _ _ h=>h) (λa=>jI.lets (P:=P) (ops:=ops) (n:=n) a) h) (λ⟨a,b⟩=>⟨a,jI.lets (P:=P) (ops:=ops) (n:=n) b⟩)
theorem sS (a:gq md ops dH n):∀(c:Nat) (l lp:Array Bool) (d:Act) (e:af),g3 n l lp->nC md ops n l->wpAny P md dH (jI P ops n Q) c lp d e->wpAny P md ops Q (c+1) l d e:=by
 intro c;induction c with
 |zero=>
  rintro l lp d e b i ⟨h,g⟩;refine⟨λi=>?_,λk f=>?_⟩
  ·have:=sQ a b h
   rw[i]at this;cases this
  rcases b.sO a f with j|rfl
  ·rw[b.ready a j,h]at f;cases f
  exact wpOp_mono (λf f f=>⟨sR a b h,f⟩) g
 |succ c m=>
  rintro l lp d e b i ⟨o,p⟩;have q:=b.s;refine⟨λj=>?_,λr f=>?_⟩
  ·exfalso
   cases hr:Region.ready md dH lp with
   |nil=>have:=sQ a b hr;rw[j]at this;cases this
   |cons k t=>
    have g:k∈Region.ready md dH lp:=by rw[hr];simp
    obtain⟨_,d,c,_⟩:=mem_ready.1 g;have c:k<n:=by have:=(Array.getElem?_eq_some_iff.1 c).1;have:=a.size;omega
    rw[<-b.ready a c,j]at g;cases g
  rcases b.sO a f with g|rfl
  ·exact yf a g (λc d e=>m _ _ c d (b.set g) (i.set q a f) e) (p r ((b.ready a g).1 f))
  have h:=ye a b i f;exact wpOp_mono (λc c c=>⟨λ_=>c,λc k=>by rw[sR a b h]at k;cases k⟩) (o h)
def pd (md:Region.Mode) (ops:Array Oper) (n:Nat):Bool:=
 decide (ops.size=n+1)&&
 (
  (
  List.range (n+1)).all λa=>match ops[a]? with
  |none=>false
  |some b=>b.guard.isNone&&b.after.toList.all λc=>!Region.binds md c||decide (c.on<a))&&
 (
  (
  List.range n).all λa=>(List.range (n+1)).any λb=>decide (a<b)&&match ops[b]? with
  |none=>false
  |some c=>c.after.toList.any λb=>Region.binds md b&&decide (b.on=a))
theorem sT (h:pd md ops n=true):gq md ops ops.pop n:=by
 unfold pd at h;simp only[Bool.and_eq_true,decide_eq_true_eq,List.all_eq_true,List.mem_range]at h;obtain⟨⟨f,j⟩,k⟩:=h;have g:∀(a:Nat) b,ops[a]?=some b->b.guard=none/\∀d∈b.after,Region.binds md d=true->d.on<a:=by
  intro a b i;have o:=(Array.getElem?_eq_some_iff.1 i).1;have c:=j a ae;rw[i]at c;simp only[Bool.and_eq_true,Option.isNone_iff_eq_none,List.all_eq_true,Bool.or_eq_true,Bool.not_eq_true',decide_eq_true_eq]at c;refine⟨c.1,λd l m=>?_⟩;rcases c.2 d (by simpa using l)with e|e
  ·rw[m]at e;cases e
  exact e
 refine⟨by simp[f],f,λa l=>?_,λa b c=>(g a b c).1,λa b c=>(g a b c).2,λf g=>?_⟩
 ·rw[Array.getElem?_pop,if_pos ae]
 have i:=k f g;simp only[List.any_eq_true,List.mem_range,Bool.and_eq_true,decide_eq_true_eq]at i;obtain⟨a,l,m,e⟩:=i;cases c:ops[a]? with
 |none=>rw[c]at e;cases e
 |some b=>
  rw[c]at e;simp only[List.any_eq_true,Bool.and_eq_true,decide_eq_true_eq]at e;obtain⟨d,o,p,q⟩:=e;exact⟨a,b,m,by omega,c,d,by simpa using o,p,q⟩
theorem yg {id:Nat} {a:Act} {b:af} {S:World->Prop} (c:P.follows .mixedOrders=true) (d:gq .any ops ops.pop n) (e:ops.pop=dH)
 (h:wpAnyH P .any dH (jI P ops n Q) S dH.size (Array.replicate dH.size false) a b.drew):(Code.region id ops true).wp P Q a b:=by
 have b:gq .any ops dH n:=e▸d;refine wp_region_any c ?_;rw[b.lz];have c:=wpAny_of_held _ _ _ _ h;rw[b.size]at c;refine sS b n _ _ a _ ⟨by simp,by simp,λb b=>by simp[Array.getD,b,Nat.lt_succ_of_lt b],by simp[Array.getD]⟩ ?_ c;intro b b b c c;exfalso
 simp[Array.getD,Nat.lt_succ_of_lt b]at c
theorem sU {a:Act} {b:af} {o:Oper} (d:ops[n]?=some o) (e:o.guard=none) (h:∀c:Act->World->Prop,Shut (∀a b,Q .normal a b->c a b)->o.wp P a b c Q):jI P ops n Q .normal a b:=by
 show wpOp P ops Q n _ a b;unfold wpOp;simp only[d];have b:∀b,Region.wanted o b=true:=λb=>by unfold Region.wanted;rw[e]
 rw[if_pos (b _)];exact .inl (h _ (λ_ _ h=>h))
end
section
variable {P:Program} {md:Region.Mode} {ops:Array Oper} {Q:Exit->Act->World->Prop} {S:World->Prop} {B:Nat->Bool}
def cX (P:Program) (md:Region.Mode) (ops:Array Oper) (Q:Exit->Act->World->Prop) (S:World->Prop) (B:Nat->Bool):Nat->Array Bool->Act->World->Prop
 |0,listed,a,w=>Region.ready md ops listed=[]/\Q .normal a w
 |fuel+1,listed,a,w=>
  (Region.ready md ops listed=[]->Q .normal a w)/\
  ∀b∈Region.ready md ops listed,wpOp P ops Q b (λd c=>(B b=true->S c)/\cX P md ops Q S B fuel (listed.setIfInBounds b true) d c) a w
theorem sX:∀(a:Nat) (b:Array Bool) (c:Act) (d:af),cX P md ops Q S B a b c d->wpAny P md ops Q a b c d
 |0,_,_,_,h=>h
 |a+1,_,_,_,h=>⟨h.1,λb c=>wpOp_mono (λd e f=>sX a _ d e f.2) (h.2 b c)⟩
theorem yj {b:Nat} {g:Oper} {p:ay} (q:ops[b]?=some g) (t:∀(a:Nat) (u:Oper) k l,ops[a]?=some u->u.op≠.select k l)
 (E:∀u e f,Q (.panic u) (e.put g.dst p) f->Q (.panic u) e f):
 ∀(m:Nat) (d:Array Bool) (e:Act) (f:af),
  (∀a i,ops[a]?=some i->a≠b->d.getD a true=false->(∀c∈i.after,Region.binds md c=true->c.on≠b)->g.apart ops i=true/\B a=true)->
  b∈Region.ready md ops d->YieldsIf P ops S g p e->S f->
  cX P md ops Q S B m (d.setIfInBounds b true) (e.put g.dst p) f->cX P md ops Q S B (m+1) d e f:=by
 intro m;induction m with
 |zero=>
  intro d e f _ j s n o;refine⟨λh=>(by rw[h]at j;cases j),λa v=>?_⟩;by_cases r:a=b
  ·subst r;exact s.wpOp q n ⟨λ_=>n,o⟩
  have:=ready_mono v r;rw[o.1]at this;cases this
 |succ m F=>
  intro d e f v o w x y;refine⟨λh=>(by rw[h]at o;cases o),λa z=>?_⟩;by_cases n:a=b
  ·subst n;exact w.wpOp q x ⟨λ_=>x,y⟩
  have j:=y.2 a (ready_mono z n);obtain⟨A,i,r,e⟩:=mem_ready.1 z;have G:∀c∈i.after,Region.binds md c=true->c.on≠b:=λc f m p=>by
   have j:=e c f m;have C:=(mem_ready.1 o).1;rw[p]at j;rcases Nat.lt_or_ge b d.size with s|s
   ·simp[s]at C j;rw[C]at j;cases j
   simp[Array.getElem?_eq_none s]at j
  have s:=v a i r n A G;have H:=wpOp_putIf r s.1 (λk l=>t b g k l q) (λk l=>t a i k l r) E w j;have I:∀e f,ops[e]?=some f->e≠b->(d.setIfInBounds a true).getD e true=false->
   (∀c∈f.after,Region.binds md c=true->c.on≠b)->g.apart ops f=true/\B e=true:=λe f b c C g=>by
   refine v e f b c ?_ g;by_cases D:a=e
   ·subst D;exact A
   rw[getD_set_ne true D]at C;exact C
  refine wpOp_mono (λc e b=>⟨b.2.1,F (d.setIfInBounds a true) c e I (ready_mono o (Ne.symm n)) b.1 (b.2.1 s.2) ?_⟩) H;rw[Array.setIfInBounds_comm _ _ n];exact b.2.2
def pg (md:Region.Mode) (ops:Array Oper) (c:Array Bool) (b:Nat) (B:Nat->Bool):Bool:=
 (List.range ops.size).all λa=>decide (a=b)||(c.getD a true||(B a||match ops[a]? with|none=>true|some d=>d.after.toList.any λa=>Region.binds md a&&decide (a.on=b)))
theorem dU {i:Nat} {oi:Oper} {v:ay} {d:Nat} {c:Array Bool} {a:Act} {w:af} (f:ops[i]?=some oi)
 (l:Region.noSelect ops=true) (m:Region.free md ops c i=true) (n:(Region.ready md ops c).contains i=true) (g:pg md ops c i B=true)
 (o:∀j a w,Q (.panic j) (a.put oi.dst v) w->Q (.panic j) a w) (p:YieldsIf P ops S oi v a) (q:S w)
 (h:cX P md ops Q S B d (c.setIfInBounds i true) (a.put oi.dst v) w):cX P md ops Q S B (d+1) c a w:=
 yj f (Region.noSelect_spec l) o d c a w (λc l a d j k=>⟨Region.free_spec f m c l a d j k,by
  unfold pg at g;have b:=(List.all_eq_true.1 g) c (List.mem_range.2 (Array.getElem?_eq_some_iff.1 a).1);simp only[d,decide_false,Bool.false_or,j,a,Bool.or_eq_true]at b;rcases b with b|b
  ·exact b
  exfalso
  rw[List.any_eq_true]at b;obtain⟨r,s,e⟩:=b;simp only[Bool.and_eq_true,decide_eq_true_eq]at e;exact k r (by simpa using s) e.1 e.2⟩) (by simpa using n) p q h
theorem gH {a:Array Bool} {b:Act} {c:af} (d:Region.ready md ops a=[]) (h:Q .normal b c):
 ∀e,cX P md ops Q S B e a b c
 |0=>⟨d,h⟩
 |_+1=>⟨λ_=>h,by rw[d];simp⟩
theorem qL {a:Nat} {c:Oper} {e:Nat} {f:Array Bool} {g:Act} {i:af} (k:ops[a]?=some c) (l:c.guard=none)
 (h:∀j:Act->World->Prop,Shut (∀d b,(B a=true->S b)->cX P md ops Q S B e (f.setIfInBounds a true) d b->j d b)->c.wp P g i j Q):
 wpOp P ops Q a (λd b=>(B a=true->S b)/\cX P md ops Q S B e (f.setIfInBounds a true) d b) g i:=by
 unfold wpOp;simp only[k];have a:∀a,Region.wanted c a=true:=λa=>by unfold Region.wanted;rw[l]
 rw[if_pos (a _)];exact .inl (h _ (λ_ _ a b=>⟨a,b⟩))
theorem jM {i:Nat} {o:Oper} {c:Nat} {a:Array Bool} {d:Act} {e:af} (f:Region.ready md ops a=[i]) (l:ops[i]?=some o) (m:o.guard=none)
 (h:∀g:Act->World->Prop,Shut (∀j b,(B i=true->S b)->cX P md ops Q S B c (a.setIfInBounds i true) j b->g j b)->o.wp P d e g Q):cX P md ops Q S B (c+1) a d e:=
 ⟨(
  λk=>by rw[f]at k;cases k),λa k=>by
  rw[f]at k;obtain rfl:=aA k;exact qL l m h⟩
theorem nF {i j:Nat} {oi oj:Oper} {f:Nat} {d:Array Bool} {g:Act} {k:af} (l:Region.ready md ops d=[i,j]) (m:ops[i]?=some oi) (n:oi.guard=none) (o:ops[j]?=some oj) (p:oj.guard=none)
 (q:∀b:Act->World->Prop,Shut (∀c a,(B i=true->S a)->cX P md ops Q S B f (d.setIfInBounds i true) c a->b c a)->oi.wp P g k b Q)
 (r:∀b:Act->World->Prop,Shut (∀c a,(B j=true->S a)->cX P md ops Q S B f (d.setIfInBounds j true) c a->b c a)->oj.wp P g k b Q):cX P md ops Q S B (f+1) d g k:=
 ⟨(
  λe=>by rw[l]at e;cases e),λa e=>by
  rw[l]at e;rcases dd e with rfl|e
  ·exact qL m n q
  obtain rfl:=aA e;exact qL o p r⟩
def ph (ops:Array Oper) (b:Array Bool) (B:Nat->Bool):Bool:=(List.range ops.size).all λa=>b.getD a true||!B a
theorem yl {a:Array Bool} {b:Nat} (h:ph ops a B=true):ph ops (a.setIfInBounds b true) B=true:=by
 unfold ph at*;rw[List.all_eq_true]at*;intro c e;have f:=h c e;by_cases d:b=c
 ·subst d
  by_cases c:b<a.size
  ·simp[Array.getD,c]
  simp[Array.getD,c]
 rw[getD_set_ne true d];exact f
theorem sY:∀(a:Nat) (b:Array Bool) (c:Act) (d:af),ph ops b B=true->wpAny P md ops Q a b c d->cX P md ops Q S B a b c d
 |0,_,_,_,_,h=>h
 |a+1,b,_,_,hr,h=>⟨h.1,λe f=>wpOp_mono (λi j k=>⟨(λb=>by
  obtain⟨c,l,d,_⟩:=mem_ready.1 f;have g:=(List.all_eq_true.1 hr) e (List.mem_range.2 (Array.getElem?_eq_some_iff.1 d).1);rw[c,b]at g;cases g),sY a _ i j (yl hr) k⟩) (h.2 e f)⟩
theorem nG {id:Nat} {a:Act} {b:af} (c:P.follows .mixedOrders=true)
 (h:cX P .any ops Q S B ops.size (Array.replicate ops.size false) a b.drew):(Code.region id ops true).wp P Q a b:=
 wp_region_any c (sX _ _ _ _ h)
end
section
variable {P:Program} {md:Region.Mode} {ops:Array Oper} {Q:Exit->Act->World->Prop} {S:World->Prop} {B:Nat->Bool}
theorem tk {c:Nat} {b l':Array Bool} {a d:Act} {w:af} {oi:Oper} {v:ay} (i:Nat) (f:S w) (h:cX P md ops Q S B c l' d w)
 (g:ops[i]?=some oi:=by(simp only[bc,bd,be];rfl))
 (j:Region.noSelect ops=true:=by kernel_rfl) (k:Region.free md ops b i=true:=by kernel_rfl) (l:(Region.ready md ops b).contains i=true:=by kernel_rfl)
 (m:pg md ops b i B=true:=by kernel_rfl) (n:∀e a w,Q (.panic e) (a.put oi.dst v) w->Q (.panic e) a w:=by exact λ_ _ _ h=>h)
 (hy:YieldsIf P ops S oi v a:=by(refine Or.inl ⟨rfl,?_⟩;intro w' hSw;(try dsimp only at hSw);go_simp;try with_reducible rfl))
 (o:a.put oi.dst v=d:=by first|(simp only[Act.put,o2,o3,o4];rfl)|rfl)
 (p:b.setIfInBounds i true=l':=by rfl):cX P md ops Q S B (c+1) b a w:=by
 subst o p;exact dU g j k l m n hy f h
theorem tq {c:Nat} {b d:Array Bool} {a e:Act} {w:af} {oi:Oper} {v:ay} (i:Nat) (h:wpAny P md ops Q c d e w)
 (g:ops[i]?=some oi:=by(simp only[bc,bd,be];rfl))
 (j:Region.noSelect ops=true:=by kernel_rfl) (k:Region.free md ops b i=true:=by kernel_rfl) (l:(Region.ready md ops b).contains i=true:=by kernel_rfl)
 (m:∀f a w,Q (.panic f) (a.put oi.dst v) w->Q (.panic f) a w:=by exact λ_ _ _ h=>h)
 (hy:Yields P ops oi v a:=by(refine Or.inl ⟨rfl,?_⟩;intro w';go_simp;try with_reducible rfl))
 (n:a.put oi.dst v=e:=by first|(simp only[Act.put,o2,o3,o4];rfl)|rfl)
 (o:b.setIfInBounds i true=d:=by rfl):wpAny P md ops Q (c+1) b a w:=by
 subst n o;exact wpAny_take g j k l m hy h
theorem sk {d:Nat} {c l':Array Bool} {a e:Act} {b:af} {oi:Oper} (i:Nat) (g:S b) (h:cX P md ops Q S B d l' e b)
 (j:ops[i]?=some oi:=by(simp only[bc,bd,be];rfl))
 (k:Region.noSelect ops=true:=by kernel_rfl) (l:Region.free md ops c i=true:=by kernel_rfl) (m:(Region.ready md ops c).contains i=true:=by kernel_rfl)
 (n:pg md ops c i B=true:=by kernel_rfl) (o:∀f a b,Q (.panic f) (a.put oi.dst undef) b->Q (.panic f) a b:=by exact λ_ _ _ h=>h)
 (p:Region.wanted oi (yielded ops a.tmps)=false:=by rfl)
 (q:a.put oi.dst undef=e:=by first|(simp only[Act.put,o2,o3,o4];rfl)|rfl)
 (r:c.setIfInBounds i true=l':=by rfl):cX P md ops Q S B (d+1) c a b:=by
 subst q r;exact dU j k l m n o (Or.inr ⟨p,rfl⟩) g h
theorem aK {d:Nat} {a:Array Bool} {e:Act} {w:af} {b:Oper} (i:Nat)
 (h:∀f:Act->World->Prop,Shut (∀g c,(B i=true->S c)->cX P md ops Q S B d (a.setIfInBounds i true) g c->f g c)->b.wp P e w f Q)
 (c:ops[i]?=some b:=by(simp only[bc,bd,be];rfl)) (f:Region.ready md ops a=[i]:=by kernel_rfl) (g:b.guard=none:=by rfl):cX P md ops Q S B (d+1) a e w:=
 jM f c g h
theorem qM {f:Nat} {d:Array Bool} {g:Act} {j:af} {k l:Oper} (i e:Nat)
 (m:∀b:Act->World->Prop,Shut (∀c a,(B i=true->S a)->cX P md ops Q S B f (d.setIfInBounds i true) c a->b c a)->k.wp P g j b Q)
 (n:∀b:Act->World->Prop,Shut (∀c a,(B e=true->S a)->cX P md ops Q S B f (d.setIfInBounds e true) c a->b c a)->l.wp P g j b Q)
 (a:ops[i]?=some k:=by(simp only[bc,bd,be];rfl)) (b:ops[e]?=some l:=by(simp only[bc,bd,be];rfl))
 (c:Region.ready md ops d=[i,e]:=by kernel_rfl) (e:k.guard=none:=by rfl) (k:l.guard=none:=by rfl):cX P md ops Q S B (f+1) d g j:=
 nF c a e b k m n
theorem dV {e:Nat} {a:Array Bool} {b:Act} {f:af} {c:Oper} (i:Nat)
 (h:∀g:Act->World->Prop,Shut (∀j d,(B i=true->S d)->cX P md ops Q S B e (a.setIfInBounds i true) j d->g j d)->c.wp P b f g Q)
 (m:ops[i]?=some c:=by(simp only[bc,bd,be];rfl)) (k:Region.ready md ops a=[i]:=by kernel_rfl) (n:Region.wanted c (yielded ops b.tmps)=true:=by rfl):cX P md ops Q S B (e+1) a b f:=
 ⟨(
  λl=>by rw[k]at l;cases l),λa l=>by
  rw[k]at l;obtain rfl:=aA l;unfold wpOp;simp only[m];rw[if_pos n];exact .inl (h _ (λ_ _ a b=>⟨a,b⟩))⟩
theorem ez {id:Nat} {a:Act} {w:af} (n:Nat) (b:S w.drew) (h:S w.drew->cX P .any ops Q S (λc=>decide (c<n)) ops.size (Array.replicate ops.size false) a w.drew)
 (c:P.follows .mixedOrders=true:=by kernel_rfl):(Code.region id ops true).wp P Q a w:=
 nG c (h b)
theorem ym {f:Nat} {c:Array Bool} {a:Act} {w:af} {d e:Oper} (g i:Nat)
 (j:∀b:Act->World->Prop,(∀a w,wpAny P md ops Q f (c.setIfInBounds g true) a w->b a w)->if Region.wanted d (yielded ops a.tmps)=true then Oper.wp P d a w b Q else b (a.put d.dst undef) w)
 (k:∀b:Act->World->Prop,(∀a w,wpAny P md ops Q f (c.setIfInBounds i true) a w->b a w)->if Region.wanted e (yielded ops a.tmps)=true then Oper.wp P e a w b Q else b (a.put e.dst undef) w)
 (b:ops[g]?=some d:=by(simp only[bc,bd,be];rfl)) (d:ops[i]?=some e:=by(simp only[bc,bd,be];rfl))
 (e:Region.ready md ops c=[g,i]:=by kernel_rfl):wpAny P md ops Q (f+1) c a w:=
 wpAny_ready e ai (AllReady.cons b j (AllReady.cons d k AllReady.nil))
theorem dp {d:Nat} {b:Array Bool} {a:Act} {w:af} {o:Oper} (i:Nat)
 (h:∀c:Act->World->Prop,(∀a w,wpAny P md ops Q d (b.setIfInBounds i true) a w->c a w)->if Region.wanted o (yielded ops a.tmps)=true then Oper.wp P o a w c Q else c (a.put o.dst undef) w)
 (c:ops[i]?=some o:=by(simp only[bc,bd,be];rfl)) (e:Region.ready md ops b=[i]:=by kernel_rfl):wpAny P md ops Q (d+1) b a w:=
 wpAny_ready e ai (AllReady.cons c h AllReady.nil)
end
end Go.Proofs.YteamkimbmdgdbaaGreatDoor
namespace Go.Proofs
open Go.Shelf
def Tryz.y5:Go.Shelf.Ren:=⟨λ|137=>158|217=>238|266=>296|n=>n,λ|9=>9|5=>5|3=>3|n=>n,λ|n=>n⟩
theorem Tryz.y6:Go.Proofs.Lays.n137 Tryz.prog Tryz.y5:={
 mixed:=ak
 f137:=Tryz.func158.trans (congrArg some ak)
 f217:=Tryz.func238.trans (congrArg some ak)
 f266:=Tryz.func296.trans (congrArg some ak)
 t3:=Tryz.underlying3
 a3:=Tryz.isAgg3
 z3:=Tryz.sizeOf3
 v3:=Tryz.zeroValue3
 t5:=Tryz.underlying5
 a5:=Tryz.isAgg5
 z5:=Tryz.sizeOf5
 v5:=Tryz.zeroValue5
 t9:=Tryz.underlying9
 a9:=Tryz.isAgg9
 z9:=Tryz.sizeOf9
 v9:=Tryz.zeroValue9}
open Go.RowKit in
theorem Tryz.strings_IndexByte (a:aw) (b:Int) (c:af):
 Calls Tryz.prog 158 #[a,.int .u8 b] c λd e=>d=.returned (O (Lib.indexByte a.data.toList b.toNat.toUInt8))/\e=c:=Any.strings_IndexByte Tryz.y6 a b c
def Tryz.y7:Go.Shelf.Ren:=⟨λ|172=>157|244=>236|245=>237|247=>291|279=>292|280=>293|281=>294|282=>295|287=>322|316=>323|171=>325|205=>324|321=>335|322=>336|243=>337|246=>344|283=>349|284=>350|285=>351|286=>352|129=>235|317=>360|318=>361|319=>362|320=>363|337=>370|338=>371|n=>n,λ|9=>9|3=>3|75=>249|76=>250|4=>4|5=>5|167=>360|37=>252|0=>0|85=>361|2=>2|168=>363|53=>316|175=>382|46=>245|210=>386|127=>398|145=>401|143=>399|21=>21|171=>426|173=>428|212=>448|51=>314|20=>20|213=>449|232=>474|233=>475|80=>192|n=>n,λ|15=>1|16=>2|17=>4|18=>5|19=>6|n=>n⟩
theorem Tryz.y8:Go.Proofs.LaysC.n172 Tryz.prog Tryz.y7:={
 mixed:=ak
 f129:=Tryz.func235.trans (congrArg some ak)
 f171:=Tryz.func325.trans (congrArg some ak)
 f172:=Tryz.func157.trans (congrArg some ak)
 f205:=Tryz.func324.trans (congrArg some ak)
 f243:=Tryz.func337.trans (congrArg some ak)
 f244:=Tryz.func236.trans (congrArg some ak)
 f245:=Tryz.func237.trans (congrArg some ak)
 f246:=Tryz.func344.trans (congrArg some ak)
 f247:=Tryz.func291.trans (congrArg some ak)
 f279:=Tryz.func292.trans (congrArg some ak)
 f280:=Tryz.func293.trans (congrArg some ak)
 f281:=Tryz.func294.trans (congrArg some ak)
 f282:=Tryz.func295.trans (congrArg some ak)
 f283:=Tryz.func349.trans (congrArg some ak)
 f284:=Tryz.func350.trans (congrArg some ak)
 f285:=Tryz.func351.trans (congrArg some ak)
 f286:=Tryz.func352.trans (congrArg some ak)
 f287:=Tryz.func322.trans (congrArg some ak)
 f316:=Tryz.func323.trans (congrArg some ak)
 f317:=Tryz.func360.trans (congrArg some ak)
 f318:=Tryz.func361.trans (congrArg some ak)
 f319:=Tryz.func362.trans (congrArg some ak)
 f320:=Tryz.func363.trans (congrArg some ak)
 f321:=Tryz.func335.trans (congrArg some ak)
 f322:=Tryz.func336.trans (congrArg some ak)
 f337:=Tryz.func370.trans (congrArg some ak)
 f338:=Tryz.func371.trans (congrArg some ak)
 t0:=Tryz.underlying0
 a0:=Tryz.isAgg0
 z0:=Tryz.sizeOf0
 v0:=Tryz.zeroValue0
 t2:=Tryz.underlying2
 a2:=Tryz.isAgg2
 z2:=Tryz.sizeOf2
 v2:=Tryz.zeroValue2
 t3:=Tryz.underlying3
 a3:=Tryz.isAgg3
 z3:=Tryz.sizeOf3
 v3:=Tryz.zeroValue3
 t4:=Tryz.underlying4
 a4:=Tryz.isAgg4
 z4:=Tryz.sizeOf4
 v4:=Tryz.zeroValue4
 t5:=Tryz.underlying5
 a5:=Tryz.isAgg5
 z5:=Tryz.sizeOf5
 v5:=Tryz.zeroValue5
 t9:=Tryz.underlying9
 a9:=Tryz.isAgg9
 z9:=Tryz.sizeOf9
 v9:=Tryz.zeroValue9
 t20:=Tryz.underlying20
 a20:=Tryz.isAgg20
 z20:=Tryz.sizeOf20
 v20:=Tryz.zeroValue20
 t21:=Tryz.underlying21
 a21:=Tryz.isAgg21
 z21:=Tryz.sizeOf21
 v21:=Tryz.zeroValue21
 t37:=Tryz.underlying252
 a37:=Tryz.isAgg252
 z37:=Tryz.sizeOf252
 v37:=Tryz.zeroValue252
 t46:=Tryz.underlying245
 a46:=Tryz.isAgg245
 z46:=Tryz.sizeOf245
 v46:=Tryz.zeroValue245
 t51:=Tryz.underlying314
 a51:=Tryz.isAgg314
 z51:=Tryz.sizeOf314
 v51:=Tryz.zeroValue314
 t53:=Tryz.underlying316
 a53:=Tryz.isAgg316
 z53:=Tryz.sizeOf316
 v53:=Tryz.zeroValue316
 t75:=Tryz.underlying249
 a75:=Tryz.isAgg249
 z75:=Tryz.sizeOf249
 v75:=Tryz.zeroValue249
 t76:=Tryz.underlying250
 a76:=Tryz.isAgg250
 z76:=Tryz.sizeOf250
 v76:=Tryz.zeroValue250
 t85:=Tryz.underlying361
 a85:=Tryz.isAgg361
 z85:=Tryz.sizeOf361
 v85:=Tryz.zeroValue361
 t127:=Tryz.underlying398
 a127:=Tryz.isAgg398
 z127:=Tryz.sizeOf398
 v127:=Tryz.zeroValue398
 t143:=Tryz.underlying399
 a143:=Tryz.isAgg399
 z143:=Tryz.sizeOf399
 v143:=Tryz.zeroValue399
 t145:=Tryz.underlying401
 a145:=Tryz.isAgg401
 z145:=Tryz.sizeOf401
 v145:=Tryz.zeroValue401
 t167:=Tryz.underlying360
 a167:=Tryz.isAgg360
 z167:=Tryz.sizeOf360
 v167:=Tryz.zeroValue360
 t168:=Tryz.underlying363
 a168:=Tryz.isAgg363
 z168:=Tryz.sizeOf363
 v168:=Tryz.zeroValue363
 t171:=Tryz.underlying426
 a171:=Tryz.isAgg426
 z171:=Tryz.sizeOf426
 v171:=Tryz.zeroValue426
 t173:=Tryz.underlying428
 a173:=Tryz.isAgg428
 z173:=Tryz.sizeOf428
 v173:=Tryz.zeroValue428
 t175:=Tryz.underlying382
 a175:=Tryz.isAgg382
 z175:=Tryz.sizeOf382
 v175:=Tryz.zeroValue382
 t210:=Tryz.underlying386
 a210:=Tryz.isAgg386
 z210:=Tryz.sizeOf386
 v210:=Tryz.zeroValue386
 t212:=Tryz.underlying448
 a212:=Tryz.isAgg448
 z212:=Tryz.sizeOf448
 v212:=Tryz.zeroValue448
 t213:=Tryz.underlying449
 a213:=Tryz.isAgg449
 z213:=Tryz.sizeOf449
 t232:=Tryz.underlying474
 a232:=Tryz.isAgg474
 z232:=Tryz.sizeOf474
 v232:=Tryz.zeroValue474
 t233:=Tryz.underlying475
 a233:=Tryz.isAgg475
 z233:=Tryz.sizeOf475
 v233:=Tryz.zeroValue475
 g15:=ak
 g16:=ak
 g17:=ak
 g18:=ak
 g19:=ak
 t80:=Tryz.underlying192
 a80:=Tryz.isAgg192
 z80:=Tryz.sizeOf192
 v80:=Tryz.zeroValue192
 i0:=ak
 i2:=ak
 i3:=ak
 i4:=ak
 i5:=ak
 i9:=ak
 i20:=ak
 i21:=ak
 i37:=ak
 i46:=ak
 i51:=ak
 i53:=ak
 i75:=ak
 i76:=ak
 i80:=ak
 i85:=ak
 i127:=ak
 i143:=ak
 i145:=ak
 i167:=ak
 i168:=ak
 i171:=ak
 i173:=ak
 i175:=ak
 i210:=ak
 i212:=ak
 i232:=ak
 i233:=ak
 m15:=ak
 m16:=ak
 m17:=ak
 m18:=ak
 m19:=ak
 c0:=ak
 c2:=ak
 c3:=ak
 c4:=ak
 c5:=ak
 c9:=ak
 c20:=ak
 c21:=ak
 c37:=ak
 c46:=ak
 c51:=ak
 c53:=ak
 c75:=ak
 c76:=ak
 c80:=ak
 c85:=ak
 c127:=ak
 c143:=ak
 c145:=ak
 c167:=ak
 c168:=ak
 c171:=ak
 c173:=ak
 c175:=ak
 c210:=ak
 c212:=ak
 c213:=ak
 c232:=ak
 c233:=by kernel_rfl}
open Go.RowKit in
theorem Tryz.strconv_Atoi_ok (a:aw) (d:a.size<=9223372036854775806) (v:Int) (h:Lib.atoiAll a.data.toList=.ok v) (b:af):
 Calls Tryz.prog 157 #[a] b λe c=>e=.returned (.tuple #[v,.nilIface])/\(c=b\/∃e,c=Lib.bytesWorld b 5 e):=Any.strconv_Atoi_ok Tryz.y8 a d v h b
def Tryz.y9:Go.Shelf.Ren:=⟨λ|189=>185|125=>152|257=>264|128=>234|129=>235|294=>306|295=>307|296=>308|297=>309|298=>310|299=>311|216=>312|300=>313|301=>314|328=>331|329=>286|330=>287|331=>332|332=>333|215=>334|343=>343|n=>n,λ|28=>60|3=>3|46=>245|0=>0|51=>314|53=>316|4=>4|183=>308|182=>307|131=>282|5=>5|9=>9|218=>354|222=>358|228=>379|229=>380|n=>n,λ|n=>n⟩
theorem Tryz.tA:Go.Proofs.Lays.n189 Tryz.prog Tryz.y9:={
 mixed:=ak
 f125:=Tryz.func152.trans (congrArg some ak)
 f128:=Tryz.func234.trans (congrArg some ak)
 f129:=Tryz.func235.trans (congrArg some ak)
 f189:=Tryz.func185.trans (congrArg some ak)
 f215:=Tryz.func334.trans (congrArg some ak)
 f216:=Tryz.func312.trans (congrArg some ak)
 f257:=Tryz.func264.trans (congrArg some ak)
 f294:=Tryz.func306.trans (congrArg some ak)
 f295:=Tryz.func307.trans (congrArg some ak)
 f296:=Tryz.func308.trans (congrArg some ak)
 f297:=Tryz.func309.trans (congrArg some ak)
 f298:=Tryz.func310.trans (congrArg some ak)
 f299:=Tryz.func311.trans (congrArg some ak)
 f300:=Tryz.func313.trans (congrArg some ak)
 f301:=Tryz.func314.trans (congrArg some ak)
 f328:=Tryz.func331.trans (congrArg some ak)
 f329:=Tryz.func286.trans (congrArg some ak)
 f330:=Tryz.func287.trans (congrArg some ak)
 f331:=Tryz.func332.trans (congrArg some ak)
 f332:=Tryz.func333.trans (congrArg some ak)
 f343:=Tryz.func343.trans (congrArg some ak)
 t0:=Tryz.underlying0
 a0:=Tryz.isAgg0
 z0:=Tryz.sizeOf0
 v0:=Tryz.zeroValue0
 t3:=Tryz.underlying3
 a3:=Tryz.isAgg3
 z3:=Tryz.sizeOf3
 v3:=Tryz.zeroValue3
 t4:=Tryz.underlying4
 a4:=Tryz.isAgg4
 z4:=Tryz.sizeOf4
 v4:=Tryz.zeroValue4
 t5:=Tryz.underlying5
 a5:=Tryz.isAgg5
 z5:=Tryz.sizeOf5
 v5:=Tryz.zeroValue5
 t9:=Tryz.underlying9
 a9:=Tryz.isAgg9
 z9:=Tryz.sizeOf9
 v9:=Tryz.zeroValue9
 t28:=Tryz.underlying60
 a28:=Tryz.isAgg60
 z28:=Tryz.sizeOf60
 v28:=Tryz.zeroValue60
 t46:=Tryz.underlying245
 a46:=Tryz.isAgg245
 z46:=Tryz.sizeOf245
 v46:=Tryz.zeroValue245
 t51:=Tryz.underlying314
 a51:=Tryz.isAgg314
 z51:=Tryz.sizeOf314
 v51:=Tryz.zeroValue314
 t53:=Tryz.underlying316
 a53:=Tryz.isAgg316
 z53:=Tryz.sizeOf316
 v53:=Tryz.zeroValue316
 t131:=Tryz.underlying282
 a131:=Tryz.isAgg282
 z131:=Tryz.sizeOf282
 v131:=Tryz.zeroValue282
 t182:=Tryz.underlying307
 a182:=Tryz.isAgg307
 z182:=Tryz.sizeOf307
 v182:=Tryz.zeroValue307
 t183:=Tryz.underlying308
 a183:=Tryz.isAgg308
 z183:=Tryz.sizeOf308
 v183:=Tryz.zeroValue308
 t218:=Tryz.underlying354
 a218:=Tryz.isAgg354
 z218:=Tryz.sizeOf354
 v218:=Tryz.zeroValue354
 t222:=Tryz.underlying358
 a222:=Tryz.isAgg358
 z222:=Tryz.sizeOf358
 v222:=Tryz.zeroValue358
 t228:=Tryz.underlying379
 a228:=Tryz.isAgg379
 z228:=Tryz.sizeOf379
 v228:=Tryz.zeroValue379
 t229:=Tryz.underlying380
 a229:=Tryz.isAgg380
 z229:=Tryz.sizeOf380
 v229:=Tryz.zeroValue380}
open Go.Sort Go.RowKit in
theorem Tryz.slices_Sort_int (a d e:Nat) (b:List Int) (c:af) (f:Holds (Value.int .i64) c a d b.toArray) (g:a<c.heap.size) (i:b.length<4611686018427387904):
 Calls Tryz.prog 185 #[U (some ⟨a,d,none⟩) b.length e] c λj k=>
  j=.returned (.tuple #[])/\∃n j,k=grow (putRow (Value.int .i64) (Sort.ahead c n) a d (b.mergeSort λk l=>decide (k<=l)).toArray) j:=Any.slices_Sort_int Tryz.tA a d e b c f g i
def Tryz.za:Go.Shelf.Ren:=⟨λ|190=>76|125=>152|258=>151|128=>234|129=>235|302=>225|303=>226|304=>227|305=>228|306=>229|307=>230|308=>231|309=>232|310=>233|333=>285|329=>286|330=>287|334=>288|335=>289|336=>290|344=>321|n=>n,λ|31=>83|9=>9|3=>3|46=>245|0=>0|51=>314|53=>316|4=>4|183=>308|182=>307|131=>282|5=>5|218=>354|222=>358|228=>379|229=>380|n=>n,λ|n=>n⟩
theorem Tryz.zb:Go.Proofs.Lays.n190 Tryz.prog Tryz.za:={
 mixed:=ak
 f125:=Tryz.func152.trans (congrArg some ak)
 f128:=Tryz.func234.trans (congrArg some ak)
 f129:=Tryz.func235.trans (congrArg some ak)
 f190:=Tryz.func76.trans (congrArg some ak)
 f258:=Tryz.func151.trans (congrArg some ak)
 f302:=Tryz.func225.trans (congrArg some ak)
 f303:=Tryz.func226.trans (congrArg some ak)
 f304:=Tryz.func227.trans (congrArg some ak)
 f305:=Tryz.func228.trans (congrArg some ak)
 f306:=Tryz.func229.trans (congrArg some ak)
 f307:=Tryz.func230.trans (congrArg some ak)
 f308:=Tryz.func231.trans (congrArg some ak)
 f309:=Tryz.func232.trans (congrArg some ak)
 f310:=Tryz.func233.trans (congrArg some ak)
 f329:=Tryz.func286.trans (congrArg some ak)
 f330:=Tryz.func287.trans (congrArg some ak)
 f333:=Tryz.func285.trans (congrArg some ak)
 f334:=Tryz.func288.trans (congrArg some ak)
 f335:=Tryz.func289.trans (congrArg some ak)
 f336:=Tryz.func290.trans (congrArg some ak)
 f344:=Tryz.func321.trans (congrArg some ak)
 t0:=Tryz.underlying0
 a0:=Tryz.isAgg0
 z0:=Tryz.sizeOf0
 v0:=Tryz.zeroValue0
 t3:=Tryz.underlying3
 a3:=Tryz.isAgg3
 z3:=Tryz.sizeOf3
 v3:=Tryz.zeroValue3
 t4:=Tryz.underlying4
 a4:=Tryz.isAgg4
 z4:=Tryz.sizeOf4
 v4:=Tryz.zeroValue4
 t5:=Tryz.underlying5
 a5:=Tryz.isAgg5
 z5:=Tryz.sizeOf5
 v5:=Tryz.zeroValue5
 t9:=Tryz.underlying9
 a9:=Tryz.isAgg9
 z9:=Tryz.sizeOf9
 v9:=Tryz.zeroValue9
 t31:=Tryz.underlying83
 a31:=Tryz.isAgg83
 z31:=Tryz.sizeOf83
 v31:=Tryz.zeroValue83
 t46:=Tryz.underlying245
 a46:=Tryz.isAgg245
 z46:=Tryz.sizeOf245
 v46:=Tryz.zeroValue245
 t51:=Tryz.underlying314
 a51:=Tryz.isAgg314
 z51:=Tryz.sizeOf314
 v51:=Tryz.zeroValue314
 t53:=Tryz.underlying316
 a53:=Tryz.isAgg316
 z53:=Tryz.sizeOf316
 v53:=Tryz.zeroValue316
 t131:=Tryz.underlying282
 a131:=Tryz.isAgg282
 z131:=Tryz.sizeOf282
 v131:=Tryz.zeroValue282
 t182:=Tryz.underlying307
 a182:=Tryz.isAgg307
 z182:=Tryz.sizeOf307
 v182:=Tryz.zeroValue307
 t183:=Tryz.underlying308
 a183:=Tryz.isAgg308
 z183:=Tryz.sizeOf308
 v183:=Tryz.zeroValue308
 t218:=Tryz.underlying354
 a218:=Tryz.isAgg354
 z218:=Tryz.sizeOf354
 v218:=Tryz.zeroValue354
 t222:=Tryz.underlying358
 a222:=Tryz.isAgg358
 z222:=Tryz.sizeOf358
 v222:=Tryz.zeroValue358
 t228:=Tryz.underlying379
 a228:=Tryz.isAgg379
 z228:=Tryz.sizeOf379
 v228:=Tryz.zeroValue379
 t229:=Tryz.underlying380
 a229:=Tryz.isAgg380
 z229:=Tryz.sizeOf380
 v229:=Tryz.zeroValue380}
open Go.Sort Go.RowKit in
theorem Tryz.slices_Sort_string (a d e:Nat) (b:List (List UInt8)) (c:af) (f:Holds encStr c a d b.toArray) (g:a<c.heap.size) (i:b.length<4611686018427387904):
 Calls Tryz.prog 76 #[U (some ⟨a,d,none⟩) b.length e] c λj k=>
  j=.returned (.tuple #[])/\∃j l,k=grow (putRow encStr (Sort.ahead c j) a d (b.mergeSort λj k=>decide (j<=k)).toArray) l:=Any.slices_Sort_string Tryz.zb a d e b c f g i
def Tryz.zc:Go.Shelf.Ren:=⟨λ|99=>159|206=>239|n=>n,λ|9=>9|4=>4|3=>3|n=>n,λ|n=>n⟩
theorem Tryz.zd:Go.Proofs.Lays.n99 Tryz.prog Tryz.zc:={
 mixed:=ak
 f99:=Tryz.func159.trans (congrArg some ak)
 f206:=Tryz.func239.trans (congrArg some ak)
 t3:=Tryz.underlying3
 a3:=Tryz.isAgg3
 z3:=Tryz.sizeOf3
 v3:=Tryz.zeroValue3
 t4:=Tryz.underlying4
 a4:=Tryz.isAgg4
 z4:=Tryz.sizeOf4
 v4:=Tryz.zeroValue4
 t9:=Tryz.underlying9
 a9:=Tryz.isAgg9
 z9:=Tryz.sizeOf9
 v9:=Tryz.zeroValue9}
open Go.RowKit Go.Lib in
theorem Tryz.strings_HasPrefix (a b:aw) (c:af):
 Calls Tryz.prog 159 #[a,b] c λd e=>d=.returned (.bool (Lib.hasPrefix a.data.toList b.data.toList))/\e=c:=Any.strings_HasPrefix Tryz.zd a b c
def Tryz.ze:Go.Shelf.Ren:=⟨λ|194=>77|n=>n,λ|31=>83|9=>9|3=>3|4=>4|0=>0|n=>n,λ|n=>n⟩
theorem Tryz.zf:Go.Proofs.Lays.n194 Tryz.prog Tryz.ze:={
 mixed:=ak
 f194:=Tryz.func77.trans (congrArg some ak)
 t0:=Tryz.underlying0
 a0:=Tryz.isAgg0
 z0:=Tryz.sizeOf0
 v0:=Tryz.zeroValue0
 t3:=Tryz.underlying3
 a3:=Tryz.isAgg3
 z3:=Tryz.sizeOf3
 v3:=Tryz.zeroValue3
 t4:=Tryz.underlying4
 a4:=Tryz.isAgg4
 z4:=Tryz.sizeOf4
 v4:=Tryz.zeroValue4
 t9:=Tryz.underlying9
 a9:=Tryz.isAgg9
 z9:=Tryz.sizeOf9
 v9:=Tryz.zeroValue9
 t31:=Tryz.underlying83
 a31:=Tryz.isAgg83
 z31:=Tryz.sizeOf83
 v31:=Tryz.zeroValue83}
open Go.RowKit Go.Lib Go.Sort in
theorem Tryz.slices_Compact_string (b c d:Nat) (a:List (List UInt8)) (e:af) (f:Holds encStr e b c a.toArray) (g:a.length<=9223372036854775807) (i:a.length<=d):
 Calls Tryz.prog 77 #[U (some ⟨b,c,none⟩) a.length d] e λj k=>j=.returned (U (some ⟨b,c,none⟩) (Lib.compact a).length d)/\∃j,k=putRow encStr (Sort.ahead e j) b c (Lib.compact a++List.replicate (a.length-(Lib.compact a).length) []).toArray:=Any.slices_Compact_string Tryz.zf b c d a e f g i
open Go.RowKit Go.Sort in
theorem Tryz.slices_Sort_int_none (b:aX) (c:Nat) (a:af):
 Calls Tryz.prog 185 #[U b 0 c] a λd e=>d=.returned (.tuple #[])/\e=a:=Any.slices_Sort_int_none Tryz.tA b c a
end Go.Proofs

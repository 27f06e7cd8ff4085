import Derived.Test.YteamkimbmdgdbaaGreatDoorK27
set_option linter.unusedSimpArgs false
set_option linter.unusedVariables false
set_option maxHeartbeats 16000000
set_option maxRecDepth 100000
namespace Go.Proofs.YteamkimbmdgdbaaGreatDoor
open Go.Proofs.Tryz
open Go.RowKit
theorem JH (a b:bw) (n:Nat) {d e:Int} {c:bw} {f:Nat} (h:di a b n=.tok d c e f):c.length<=200:=by
 fun_induction di a b n<;>first|(cases h;done)|(injection h;subst_vars;omega)|(rename_i a;exact a h)
theorem JI {e:bw} {b c:Int} {a:bw} {d:Nat} (h:mq e=.tok b a c d):a.length<=200:=by
 have f:∀{b c:Int} {a:bw} {d:Nat},iJ e=.tok b a c d->a.length<=200:=λh=>by
  unfold iJ at h;split at h
  ·split at h
   ·cases h
   injection h with _ h2
   rw[<-h2,List.length_take];omega
  cases h
 have g:∀{b c:Int} {a:bw} {d:Nat},iK e=.tok b a c d->a.length<=200:=λh=>by
  unfold iK at h;split at h
  ·cases h
  split at h
  ·cases h
  injection h with _ h2
  rw[<-h2,List.length_take];omega
 have i:∀{b c:Int} {a:bw} {d:Nat},h7 e=.tok b a c d->a.length<=200:=λh=>by
  unfold h7 at h;split at h
  ·exact JH _ _ _ h
  cases h
 have j:∀{b c:Int} {a:bw} {d:Nat},gE e=.tok b a c d->a.length<=200:=λh=>by
  unfold gE at h;split at h
  ·injection h with _ h2
   rw[<-h2,List.length_take];omega
  split at h
  ·injection h with _ h2
   rw[<-h2,List.length_take];omega
  cases h
 unfold mq at h;split at h
 ·split at h
  ·split at h
   ·split at h
    ·cases h
    exact j h
   exact i h
  exact g h
 exact f h
def rQ (a:List ao):Prop:=∀b∈a,b.t.size<=200
theorem Ab:∀(d:Nat) (f:bw) (e:Nat) (a:List ao),rQ a->rQ (gW d f e a).1
 |0,f,e,a,h=>h
 |d+1,[],e,a,h=>h
 |d+1,c::f,e,a,h=>by
  rw[zm];split
  ·exact λa b=>by cases b
  ·exact λa b=>by cases b
  rename_i a g n a i
  split
  ·exact λg b=>by cases b
  refine Ab d _ _ _ (λj b=>?_);rcases cP b with b|b
  ·exact h j b
  rw[aB b];show(d1 g).size<=200;rw[AP];exact JI i
theorem JJ (a:bw):rQ (dp a).1:=by
 unfold dp;split
 ·exact λa b=>by cases b
 exact Ab _ _ _ _ (λa b=>by cases b)
def PO.Hz {a:Type} (c:PO a) (n:List ao) (P:a->Prop):Prop:=∀a b,c=.ok a b->b<:+n/\P a
theorem PO.Hz.bind {b d:Type} {c:PO b} {f:b->List ao->PO d} {n:List ao} {P:b->Prop} {b:d->Prop} (h:c.Hz n P) (e:∀a ts,P a->ts<:+n->(f a ts).Hz n b):(c.bind f).Hz n b:=by
 cases c with
 |bad g a=>intro b ts h;cases h
 |ok a ts=>exact e a ts (h a ts rfl).2 (h a ts rfl).1
theorem PO.Sf.hz {c d:Type} {r:PO c} {f:c->List ao->PO d} {n:List ao} {c:d->Prop} (h:r.Sf n) (hf:∀a ts,ts<:+n->(f a ts).Hz n c):(r.bind f).Hz n c:=by
 exact qr
theorem PO.Hz.ok {α:Type} {a:α} {ts n:List ao} {P:α->Prop} (h:ts<:+n) (c:P a):(PO.ok a ts).Hz n P:=by
 intro d d b;injection b with e1 b
 subst b e1;exact⟨h,c⟩
theorem PO.Hz.bad {α:Type} {a b:Int} {n:List ao} {c:α->Prop}:(PO.bad a b:PO α).Hz n c:=by intro a a h;cases h
theorem PO.Hz.ite {a:Type} {b:Prop} [Decidable b] {c d:PO a} {n:List ao} {P:a->Prop} (h:c.Hz n P) (a:d.Hz n P):(if b then c else d).Hz n P:=by split<;>assumption
theorem JK {a:Type} (c:Int) (b:List ao) (d:Int) (n:List ao) (P:a->Prop):(eQ c b d:PO a).Hz n P:=by cases b<;>exact .bad
mutual
def Ex.Sm:Ex->Prop
 |.mk _ table kids _ _ _ _ _ _=>table.size<=200/\Ex.hI kids
def Ex.hI:List Ex->Prop
 |[]=>True
 |e::es=>e.Sm/\Ex.hI es
end
structure aE.Sm (x:aE):Prop where
 n:x.name.size<=200
 t:x.table.size<=200
 o:x.other.size<=200
 v:∀u∈x.vars,u.table.size<=200
 e:x.expr.Sm
 l:x.vars.length<=5002
theorem Ac {n:List ao} {f:Type} {g:f->Prop} (l:av) (i:List ao->PO f) (m:∀a,a<:+n->(i a).Hz n g):∀(e:Nat) (b:List f) (a:List ao),(∀c∈b,g c)->a<:+n->(db l i e b a).Hz n (λf=>(∀c∈f,g c)/\f.length<=b.length+e)
 |0,b,a,hl,h=>.ok h ⟨hl,Nat.le_refl _⟩
 |e+1,b,a,hl,h=>.ite ((m _ (gJ h)).bind λc a o h=>λj p q=>by
  have k:=Ac l i m e (b++[c]) a (λj d=>by
   rcases cP d with d|d
   ·exact hl j d
   rw[aB d];exact o) h j p q
  refine⟨k.1,k.2.1,?_⟩;have a:=k.2.2;rw[List.length_append]at a;simp at a;omega) (.ok h ⟨hl,by omega⟩)
theorem JL {n:List ao} {a:Type} {P:a->Prop} (b:n.length<=5000) (c:av) (b:List ao->PO a) (d:∀a,a<:+n->(b a).Hz n P) (a:List ao) (h:a<:+n):(dC c b a).Hz n (λe=>(∀a∈e,P a)/\e.length<=5002):=
 (d _ h).bind λa f g h=>λe i j=>by
  have a:=Ac c b d _ [a] f (λe a=>by rw[aB a];exact g) h e i j;have b:=a.2.2;have c:=h.length_le;simp at b;exact⟨a.1,a.2.1,by omega⟩
section
variable {n:List ao} (H:rQ n)
include H
theorem om (b:Int) (a:List ao) (h:a<:+n):(bN b a).Hz n (·.size<=200):=by
 unfold bN ez;cases a with
 |nil=>exact .bad
 |cons c d=>
  dsimp only;split
  ·exact .ok (gJ h) (H c (h.mem (List.mem_cons_self ..)))
  exact .bad
theorem rR (a:Int) (b:List ao) (h:b<:+n):(gz a b).Hz n (λc=>c.1.size<=200):=
 (om H a b h).bind λ_ _ b h=>(dN a _ _ n h).hz λ_ _ h=>(hG a _ n h).hz λ_ _ h=>.ok h b
theorem JM (c:Int):∀(d:Nat) (b:List ao),b<:+n->(d7 c d b).Hz n Ex.Sm:=by
 intro d;induction d with
 |zero=>intro b h;exact JK _ _ _ _ _
 |succ d e=>
  intro b h;unfold d7;cases hQ b 0 f8 with
  |none=>exact(om H c b h).bind λ_ _ d h=>.ok h (by unfold Ex.Sm;exact⟨d,by unfold Ex.hI;trivial⟩)
  |some f=>
   exact(e _ (Il 2 h)).bind λd b b h=>(PO.Hz.ite (P:=λg=>Ex.hI g) ((dN c _ _ n h).hz λ_ _ h=>(e _ h).bind λe _ g h=>PO.Hz.ok (a:=[d,e]) h (by unfold Ex.hI Ex.hI Ex.hI;exact⟨b,g,trivial⟩)) (PO.Hz.ok (a:=[d]) h (by unfold Ex.hI Ex.hI;exact⟨b,trivial⟩))).bind λb _ b h=>
    (Iv c f _ n h).hz λ_ _ h=>(dN c _ _ n h).hz λ_ _ h=>.ok h (by unfold Ex.Sm;exact⟨by decide+kernel,b⟩)
theorem Ad (a:Int) (c:aE) (d:List ao) (b:c.Sm) (h:d<:+n):(hU a c d).Hz n aE.Sm:=
 (dN a _ _ n h).hz λ_ _ h=>(om H a _ h).bind λ_ _ c h=>(dN a _ _ n h).hz λ_ _ h=>(tV a _ n h).hz λ_ _ h=>(dN a _ _ n h).hz λ_ _ h=>.ok h ⟨b.n,c,b.o,b.v,b.e,b.l⟩
theorem JN (g:n.length<=5000) (b:Int) (c:aE) (d:List ao) (a:c.Sm) (h:d<:+n):(el b c d).Hz n aE.Sm:=by
 unfold el;refine .ite ?_ (.ite ?_ (.ite ?_ (.ite ?_ (.ite ?_ (.ite ?_ (.ite ?_ (.ite ?_ (.ite ?_ ?_))))))))
 ·exact(dN b _ _ n h).hz λ_ _ h=>(rG _ _ (Ip b) _ n h).hz λ_ _ h=>(dN b _ _ n h).hz λ_ _ h=>(tV b _ n h).hz λ_ _ h=>.ok h ⟨a.n,a.t,a.o,a.v,a.e,a.l⟩
 ·exact(dN b _ _ n h).hz λ_ _ h=>(gK b _ n h).hz λ_ _ h=>.ok h ⟨a.n,a.t,a.o,a.v,a.e,a.l⟩
 ·exact(dN b _ _ n h).hz λ_ _ h=>(rR H b _ h).bind λ_ _ f h=>(dN b _ _ n h).hz λ_ _ h=>(m5 b _ _ n h).hz λ_ _ h=>
   .ite ((gK b _ n h).hz λ_ _ h=>.ok h ⟨a.n,f,a.o,a.v,a.e,a.l⟩) (.ite ((gK b _ n h).hz λ_ _ h=>(gK b _ n h).hz λ_ _ h=>.ok h ⟨a.n,f,a.o,a.v,a.e,a.l⟩) (.ok h ⟨a.n,f,a.o,a.v,a.e,a.l⟩))
 ·exact(dN b _ _ n h).hz λ_ _ h=>(om H b _ h).bind λ_ _ f h=>(dN b _ _ n h).hz λ_ _ h=>(gK b _ n h).hz λ_ _ h=>(dN b _ _ n h).hz λ_ _ h=>(zi b _ _ _ n h).hz λ_ _ h=>.ok h ⟨a.n,f,a.o,a.v,a.e,a.l⟩
 ·exact(rR H b _ h).bind λ_ _ f h=>(dN b _ _ n h).hz λ_ _ h=>(m5 b _ _ n h).hz λ_ _ h=>.ok h ⟨a.n,f,a.o,a.v,a.e,a.l⟩
 ·exact Ad H b c d a h
 ·exact(Ad H b c d a h).bind λ_ _ c h=>(dN b _ _ n h).hz λ_ _ h=>(hG b _ n h).hz λ_ _ h=>.ite ((rG _ _ (Iq b) _ n (gJ h)).hz λ_ _ h=>.ok h ⟨c.n,c.t,c.o,c.v,c.e,c.l⟩) (.ok h ⟨c.n,c.t,c.o,c.v,c.e,c.l⟩)
 ·exact(rR H b _ h).bind λ_ _ c h=>(dN b _ _ n h).hz λ_ _ h=>(rR H b _ h).bind λ_ _ f h=>.ok h ⟨a.n,c,f,a.v,a.e,a.l⟩
 ·exact(JL g (P:=λc:Vr=>c.table.size<=200) _ _ (λd h=>(om H b d h).bind λ_ _ c h=>(hG b _ n h).hz λ_ _ h=>.ok h c) _ h).bind λ_ _ c h=>(zg b _ n h).hz λ_ _ h=>.ok h ⟨a.n,a.t,a.o,c.1,a.e,c.2⟩
 exact(dN b _ _ n h).hz λ_ _ h=>(JM H b _ _ h).bind λ_ _ b h=>.ok h ⟨a.n,a.t,a.o,a.v,b,a.l⟩
theorem JO (c:n.length<=5000) (a:Int) (b:List ao) (h:b<:+n):(iC a b).Hz n aE.Sm:=
 (m5 a _ _ n h).hz λ_ _ h=>(PO.Hz.ite (P:=λb:ByteArray=>b.size<=200) (.ok h jx) (om H a _ h)).bind λ_ _ b h=>
  (JN H c a _ _ (aE.Sm.mk b (by show e0.size<=200;decide+kernel) (by show e0.size<=200;decide+kernel) (λb d=>by cases d) (by show Ex.zero.Sm;unfold Ex.zero Ex.Sm;exact⟨by decide+kernel,by unfold Ex.hI;trivial⟩) (Nat.zero_le _)) h).bind λ_ _ b h=>(dN a _ _ n h).hz λ_ _ h=>.ok h b
theorem Ae (g:n.length<=5000) (e:Int):∀(c:Nat) (a:List aE) (f:List ao),(∀d∈a,d.Sm)->f<:+n->(iE e c a f).Hz n (λi=>∀d∈i,d.Sm)
 |0,a,f,hl,h=>.ok h hl
 |c+1,a,[],hl,h=>.ok h hl
 |c+1,a,t::tl,hl,h=>by
  rw[pU];split
  ·exact .bad
  ·exact(JO H g e _ h).bind λd a j h=>Ae g e c _ a (λk b=>by
    rcases cP b with b|b
    ·exact hl k b
    rw[aB b];exact j) h
end
theorem JP {l:bw} {a:List aE} {b:List ao} (h:fS l=.ok a b):∀c∈a,c.Sm:=by
 unfold fS at h;split at h
 ·exact(Ae (JJ l) (zC l) _ _ _ _ aj (List.suffix_refl _) a b h).2
 cases h
end Go.Proofs.YteamkimbmdgdbaaGreatDoor

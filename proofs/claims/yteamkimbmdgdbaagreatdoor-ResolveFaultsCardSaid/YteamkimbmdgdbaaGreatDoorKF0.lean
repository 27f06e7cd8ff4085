import Derived.Test.YteamkimbmdgdbaaGreatDoorK01
import Derived.Test.YteamkimbmdgdbaaGreatDoorK02
import Derived.Test.YteamkimbmdgdbaaGreatDoorK04
import Derived.Test.YteamkimbmdgdbaaGreatDoorK24
import Derived.Test.YteamkimbmdgdbaaGreatDoorK30
import Derived.Test.YteamkimbmdgdbaaGreatDoorK31
set_option linter.unusedSimpArgs false
set_option linter.unusedVariables false
set_option maxHeartbeats 16000000
set_option maxRecDepth 100000
namespace Go.Proofs.YteamkimbmdgdbaaGreatDoor
open Go.RowKit
def PO.Sf {a:Type} (b:PO a) (c:List ao):Prop:=∀d a,b=.ok d a->a<:+c
theorem PO.Sf.bind {c f:Type} {d:PO c} {e:c->List ao->PO f} {c:List ao} (h:d.Sf c) (g:∀b a,a<:+c->(e b a).Sf c):(d.bind e).Sf c:=by
 cases d with
 |bad i b=>intro c a h;cases h
 |ok b a=>exact g b a (h b a rfl)
theorem PO.Sf.ok {b:Type} {d:b} {b:List ao} {c:List ao} (h:b<:+c):(PO.ok d b).Sf c:=by
 intro b b a;injection a with _ a
 subst a;exact h
theorem PO.Sf.bad {a:Type} {b c:Int} {d:List ao}:(PO.bad b c:PO a).Sf d:=by intro a a h;cases h
theorem PO.Sf.ite {a:Type} {b:Prop} [Decidable b] {c d:PO a} {a:List ao} (h:c.Sf a) (e:d.Sf a):(if b then c else d).Sf a:=by split<;>assumption
theorem If {b:Type} (c:Int) (a:List ao) (d:Int) (e:List ao):(e8 c a d:PO b).Sf e:=by cases a<;>exact .bad
theorem H1 {a:List ao} {b:List ao} (h:a<:+b):a.tail<:+b:=(List.tail_suffix a).trans h
theorem IT {a:List ao} {b:List ao} (c:Nat) (h:a<:+b):a.drop c<:+b:=(List.drop_suffix c a).trans h
theorem HB (c:Int) (b:bm):∀(a:List ao) (d:List ao),a<:+d->(aR c a b).Sf d:=by
 induction b with
 |nil=>intro a d h;cases a<;>exact .ok h
 |cons e b f=>
  intro a d h;have:aR c a (e::b)=if bu a e then aR c a.tail b else e8 c a 4:=by cases a<;>rfl
  rw[this];exact .ite (f _ _ (H1 h)) (If _ _ _ _)
theorem It (c:Int) (a:List ao) (d:Int) (b:List ao) (h:a<:+b):(ey c a d).Sf b:=by
 cases a with
 |nil=>exact .bad
 |cons e f=>exact .ite (.ok (H1 h)) .bad
theorem HI (c:Int) (a:List ao) (b:List ao) (h:a<:+b):(bW c a).Sf b:=(It c a 1 b h).bind λ_ _ h=>.ok h
theorem HV (c:Int) (a:List ao) (b:List ao) (h:a<:+b):(cq c a).Sf b:=(It c a 2 b h).bind λ_ _ h=>.ok h
theorem H6 (c:Int) (a:List ao) (d:bm) (b:List ao) (h:a<:+b):(dK c a d).Sf b:=by
 unfold dK;split
 ·exact .ok (H1 h)
 exact If _ _ _ _
theorem IU {e:Type} (g:aw) (f:List ao->PO e) (i:∀a b,a<:+b->(f a).Sf b):∀(c:Nat) (d:List e) (a:List ao) (b:List ao),a<:+b->(da g f c d a).Sf b:=by
 intro c;induction c with
 |zero=>intro d a b h;exact .ok h
 |succ c j=>intro d a b h;exact .ite ((i _ _ (H1 h)).bind λb a h=>j _ _ _ h) (.ok h)
theorem Ia {a:Type} (d:aw) (c:List ao->PO a) (e:∀a b,a<:+b->(c a).Sf b) (a:List ao) (b:List ao) (h:a<:+b):(dA d c a).Sf b:=
 (e _ _ h).bind λ_ _ h=>IU d c e _ _ _ _ h
theorem Il (a:Int) (b:List ao) (c:List ao) (h:b<:+c):(hT a b).Sf c:=Ia _ _ (HI a) _ _ h
theorem Iu (c:Int) (a:List ao) (b:List ao) (h:a<:+b):(fO c a).Sf b:=by
 cases a with
 |nil=>exact .ok h
 |cons e d=>
  have a:d<:+b:=H1 h;exact .ite (.ok a) (.ite (.ok a) (.ite ((HV c d b a).bind λ_ _ h=>.ok h) (.ite ((HV c d b a).bind λ_ _ h=>.ok h) (.ite (.ok a) (.ite (.ok a) (.ite (.ok a) (.ok h)))))))
theorem Iv (c:Int) (a:List ao) (b:List ao) (h:a<:+b):(jF c a).Sf b:=
 (Iu c a b h).bind λd a h=>by cases d with|none=>exact If _ _ _ _|some d=>exact .ok h
theorem Iw (c:Int) (a:List ao) (b:List ao) (h:a<:+b):(jG c a).Sf b:=
 (Iu c a b h).bind λd a h=>by
  cases d with
  |none=>exact(HI c a b h).bind λe a h=>.ite ((HI c _ b (H1 h)).bind λ_ _ h=>.ok h) (.ok h)
  |some d=>exact .ok h
theorem IV (b:Int) (c:List ao) (a:List ao) (h:c<:+a):(mn b c).Sf a:=
 .ite (HV b _ a (H1 h)) (.ite ((HV b _ a (H1 h)).bind λ_ _ h=>.ok h) (.ok h))
theorem IW (b:Int) (c:List ao) (a:List ao) (h:c<:+a):(kB b c).Sf a:=
 (Iw b c a h).bind λ_ _ h=>(H6 b _ _ a h).bind λ_ _ h=>(Iw b _ a h).bind λ_ _ h=>(IV b _ a h).bind λ_ _ h=>.ok h
theorem Ix (a:Int) (c:List ao) (b:List ao) (h:c<:+b):(jH a c).Sf b:=
 (HB a _ _ b h).bind λ_ _ h=>Ia _ _ (IW a) _ _ h
theorem IX (b:Int) (c:List ao) (a:List ao) (h:c<:+a):(kC b c).Sf a:=
 (HI b c a h).bind λ_ _ h=>(H6 b _ _ a h).bind λ_ _ h=>.ite ((Iv b _ a (H1 h)).bind λ_ _ h=>.ok h) (.ok h)
theorem IY (b:Int) (c:List ao) (a:List ao) (h:c<:+a):(kD b c).Sf a:=
 (HI b c a h).bind λ_ _ h=>(HB b _ _ a h).bind λ_ _ h=>(Iv b _ a h).bind λ_ _ h=>.ok h
theorem IZ (b:Int) (c:List ao) (a:List ao) (h:c<:+a):(kE b c).Sf a:=
 (HI b c a h).bind λ_ _ h=>(HI b _ a h).bind λ_ _ h=>.ok h
theorem I0 (b:Int) (d:aw) (e f g i j:Int) (c:List ao) (a:List ao) (h:c<:+a):(ly b d e f g i j c).Sf a:=
 (PO.Sf.ite (HV b _ a (H1 h)) (.ok h)).bind λ_ _ h=>(HB b _ _ a h).bind λ_ _ h=>.ok h
theorem I1 (b:Int) (d:aw) (e f g:Int) (c:List ao) (a:List ao) (h:c<:+a):(qJ b d e f g c).Sf a:=
 (PO.Sf.ite (HV b _ a (H1 h)) (.ok h)).bind λ_ _ h=>(HB b _ _ a h).bind λ_ _ h=>(HV b _ a h).bind λ_ _ h=>I0 _ _ _ _ _ _ _ _ a h
theorem I3 (b:Int) (d:aw) (e f:Int) (c:List ao) (a:List ao) (h:c<:+a):(mq b d e f c).Sf a:=
 (HB b _ _ a h).bind λ_ _ h=>(HV b _ a h).bind λ_ _ h=>I1 _ _ _ _ _ _ a h
theorem I4 (b:Int) (c:List ao) (a:List ao) (h:c<:+a):(iU b c).Sf a:=
 (HI b c a h).bind λ_ _ h=>(H6 b _ _ a h).bind λ_ _ h=>(PO.Sf.ite (HV b _ a h) (.ok h)).bind λ_ _ h=>I3 _ _ _ _ _ a h
theorem Iy (c:Int) (d:aw) (a:List ao) (b:List ao) (h:a<:+b):(lx c d a).Sf b:=.ite (.ok h) (Il c a b h)
theorem Iz (b:Int) (d:Nat) (c:List ao) (a:List ao) (h:c<:+a):(em b d c).Sf a:=
 .ite ((Ix b c a h).bind λ_ _ h=>.ok h) (.ite ((HB b _ _ a h).bind λ_ _ h=>(Iy b _ _ a h).bind λ_ _ h=>.ok h) (.ite
  ((HB b _ _ a h).bind λ_ _ h=>(HI b _ a h).bind λ_ _ h=>(HB b _ _ a h).bind λ_ _ h=>(HI b _ a h).bind λ_ _ h=>.ok h) (.ite
  (
   (
   HB b _ _ a h).bind λ_ _ h=>(Iy b _ _ a h).bind λ_ _ h=>(HB b _ _ a h).bind λ_ _ h=>(H6 b _ _ a h).bind λ_ _ h=>
   (PO.Sf.ite (.ok h) (HI b _ a h)).bind λ_ _ h=>(HB b _ _ a h).bind λ_ _ h=>(HI b _ a h).bind λ_ _ h=>.ok h) (.ok h))))
theorem Ig (c:Int):∀(d:Nat) (b:List ao) (a:List ao),b<:+a->(eb c d b).Sf a:=by
 intro d;induction d with
 |zero=>intro b a h;exact If _ _ _ _
 |succ d e=>
  intro b a h;unfold eb;cases hU b 0 fP with
  |none=>exact(HI c b a h).bind λ_ _ h=>.ok h
  |some f=>
   exact(e _ a (IT 2 h)).bind λd b h=>(PO.Sf.ite ((HB c _ _ a h).bind λ_ _ h=>(e _ a h).bind λ_ _ h=>.ok h) (.ok h)).bind λ_ _ h=>
    (Iz c f _ a h).bind λ_ _ h=>(HB c _ _ a h).bind λ_ _ h=>.ok h
theorem Ih (b:Int) (c:List ao) (a:List ao) (h:c<:+a):(gF b c).Sf a:=
 (HI b c a h).bind λ_ _ h=>(HB b _ _ a h).bind λ_ _ h=>(HI b _ a h).bind λ_ _ h=>.ok h
theorem IA (b:Int) (d:aI) (c:List ao) (a:List ao) (h:c<:+a):(hW b d c).Sf a:=
 (HB b _ _ a h).bind λ_ _ h=>(HI b _ a h).bind λ_ _ h=>(HB b _ _ a h).bind λ_ _ h=>(Il b _ a h).bind λ_ _ h=>(HB b _ _ a h).bind λ_ _ h=>.ok h
theorem IB (c:Int):∀(d:Nat) (e:List cL) (b:List ao) (a:List ao),b<:+a->(hV c d e b).Sf a
 |0,_,_,_,h=>.ok h
 |d+1,e,b,a,h=>.ite (.ok h) ((I4 c b a h).bind λb b h=>IB c d _ b a h)
theorem I5 (b:Int) (d:aI) (c:List ao) (a:List ao) (h:c<:+a):(en b d c).Sf a:=by
 unfold en;refine .ite ?_ (.ite ?_ (.ite ?_ (.ite ?_ (.ite ?_ (.ite ?_ (.ite ?_ (.ite ?_ (.ite ?_ ?_))))))))
 ·exact(HB b _ _ a h).bind λ_ _ h=>(Ia _ _ (IX b) _ a h).bind λ_ _ h=>(HB b _ _ a h).bind λ_ _ h=>(Il b _ a h).bind λ_ _ h=>.ok h
 ·exact(HB b _ _ a h).bind λ_ _ h=>(HV b _ a h).bind λ_ _ h=>.ok h
 ·exact(HB b _ _ a h).bind λ_ _ h=>(Ih b _ a h).bind λ_ _ h=>(HB b _ _ a h).bind λ_ _ h=>(H6 b _ _ a h).bind λ_ _ h=>
   .ite ((HV b _ a h).bind λ_ _ h=>.ok h) (.ite ((HV b _ a h).bind λ_ _ h=>(HV b _ a h).bind λ_ _ h=>.ok h) (.ok h))
 ·exact(HB b _ _ a h).bind λ_ _ h=>(HI b _ a h).bind λ_ _ h=>(HB b _ _ a h).bind λ_ _ h=>(HV b _ a h).bind λ_ _ h=>(HB b _ _ a h).bind λ_ _ h=>(IB b _ _ _ a h).bind λ_ _ h=>.ok h
 ·exact(Ih b _ a h).bind λ_ _ h=>(HB b _ _ a h).bind λ_ _ h=>(H6 b _ _ a h).bind λ_ _ h=>.ok h
 ·exact IA b d c a h
 ·exact(IA b d c a h).bind λ_ _ h=>(HB b _ _ a h).bind λ_ _ h=>(HI b _ a h).bind λ_ _ h=>.ite ((Ia _ _ (IY b) _ a (H1 h)).bind λ_ _ h=>.ok h) (.ok h)
 ·exact(Ih b _ a h).bind λ_ _ h=>(HB b _ _ a h).bind λ_ _ h=>(Ih b _ a h).bind λ_ _ h=>.ok h
 ·exact(Ia _ _ (IZ b) _ a h).bind λ_ _ h=>(Ix b _ a h).bind λ_ _ h=>.ok h
 exact(HB b _ _ a h).bind λ_ _ h=>(Ig b _ _ a h).bind λ_ _ h=>.ok h
def HZ (a:List ao):Prop:=a.Pairwise λa b=>a.at_<b.at_
mutual
def Ex.All (a:Int->Prop):Ex->Prop
 |.mk _ _ kids _ _ _ _ _ at_=>a at_/\Ex.HJ a kids
def Ex.HJ (a:Int->Prop):List Ex->Prop
 |[]=>True
 |e::es=>e.All a/\Ex.HJ a es
end
mutual
theorem Ex.All.imp {b c:Int->Prop} (h:∀a,b a->c a):∀d:Ex,d.All b->d.All c
 |.mk _ _ kids _ _ _ _ _ _,a=>by
  rw[Ex.All]at a⊢;exact⟨h _ a.1,Ex.HJ.imp h kids a.2⟩
theorem Ex.HJ.imp {b c:Int->Prop} (h:∀a,b a->c a):∀d:List Ex,Ex.HJ b d->Ex.HJ c d
 |[],_=>by rw[Ex.HJ];trivial
 |e::es,a=>by
  rw[Ex.HJ]at a⊢;exact⟨Ex.All.imp h e a.1,Ex.HJ.imp h es a.2⟩
end
theorem HZ.suf {a b:List ao} (h:HZ a) (c:b<:+a):HZ b:=List.Pairwise.sublist c.sublist h
theorem I6 {a b:List ao} (h:HZ a) (c:b<:+a) (d:b≠[]):cZ a<=cZ b:=by
 cases a with
 |nil=>exact absurd (List.suffix_nil.1 c) d
 |cons f g=>
  rcases List.suffix_cons_iff.1 c with e|c
  ·rw[e];exact Int.le_refl _
  cases b with
  |nil=>exact absurd rfl d
  |cons i j=>exact Int.le_of_lt (List.rel_of_pairwise_cons h (c.subset (List.mem_cons_self ..)))
theorem IC {a b:List ao} (h:HZ a) (c:b<:+a) (d:b.length<a.length):∀e∈b,cZ a<e.at_:=by
 cases a with
 |nil=>simp at d
 |cons e g=>
  rcases List.suffix_cons_iff.1 c with f|c
  ·rw[f]at d;exact absurd d (Nat.lt_irrefl _)
  exact λa a=>List.rel_of_pairwise_cons h (c.subset a)
def H4 (b:Int) (c d:List ao) (a:Int):Prop:=cZ c<=a/\a<b/\∀b∈d,a<b.at_
theorem H4.mono {d:Int} {a e b f:List ao} (h:HZ b) (i:a<:+b) (j:a≠[]) (k:f<:+e) {g:Int} (c:H4 d a e g):H4 d b f g:=
 ⟨Int.le_trans (I6 h i j) c.1,c.2.1,λa b=>c.2.2 a (k.subset b)⟩
theorem ID {a:List ao}:∀(b:bm) (c d:Nat),hU a c b=some d->2<=a.length
 |[],c,d,h=>by rw[hU]at h;cases h
 |s::b,c,d,h=>by
  rw[hU]at h;split at h
  ·rename_i e
   cases a with
   |nil=>cases e
   |cons f a=>
    cases a with
    |nil=>simp[el]at e
    |cons g a=>simp
  exact ID b _ _ h
theorem Im (c j:Int):∀(g:Nat) (a:List ao),HZ a->(∀d∈a,d.at_<j)->∀e f,eb c g a=.ok e f->f.length<a.length/\e.All (H4 j a f)
 |0,a,hi,hL,e,f,h=>by
  rw[eb]at h;cases a<;>cases h
 |g+1,a,hi,hL,e,f,h=>by
  have F:=Ig c (g+1) a a (List.suffix_refl a) e f h;rw[eb]at h;have t:f.length<a.length->H4 j a f (cZ a):=λk=>⟨Int.le_refl _,by cases a with|nil=>simp at k|cons d b=>exact hL d (List.mem_cons_self ..),IC hi F k⟩;cases ho:hU a 0 fP with
  |none=>
   rw[ho]at h;obtain⟨b,i,k,l⟩:=PO.bind_some h;injection l with h1 s
   subst h1 s;have:=yE c a b i k;exact⟨this,by rw[Ex.All,Ex.HJ];exact⟨t this,trivial⟩⟩
  |some G=>
   rw[ho]at h;dsimp only at h;have s:=ID _ _ _ ho;obtain⟨m,n,u,h⟩:=PO.bind_some h;obtain⟨v,p,i,h⟩:=PO.bind_some h;obtain⟨b,w,H,h⟩:=PO.bind_some h;obtain⟨_,x,k,h⟩:=PO.bind_some h;injection h with h3 h4
   subst h3 h4;have l:a.drop 2<:+a:=List.drop_suffix 2 a;have id:=hi.suf l;obtain⟨f,y⟩:=Im c j g (a.drop 2) id (λd f=>hL d (l.subset f)) m n u;have q:=Ig c g (a.drop 2) _ (List.suffix_refl _) m n u;have z:=Iz c G p _ (List.suffix_refl _) b w H;have A:=HB c _ w _ (List.suffix_refl _) _ x k;have B:a.drop 2≠[]:=λe=>by rw[e]at f;simp at f
   have f:(a.drop 2).length<a.length:=by rw[List.length_drop];omega
   have C:p<:+n/\Ex.HJ (H4 j a p) v:=by
    split at i
    ·obtain⟨_,o,I,i⟩:=PO.bind_some i
     obtain⟨r,D,E,i⟩:=PO.bind_some i;injection i with h5 h6
     subst h5 h6;have f:=HB c _ n _ (List.suffix_refl _) _ o I;have k:=Ig c g o _ (List.suffix_refl _) r D E;obtain⟨c,g⟩:=Im c j g o (id.suf (f.trans q)) (λd c=>hL d (((f.trans q).trans l).subset c)) r D E;have e:o≠[]:=λe=>by rw[e]at c;simp at c
     refine⟨k.trans f,?_⟩;rw[Ex.HJ,Ex.HJ,Ex.HJ];exact⟨Ex.All.imp (λ_ b=>b.mono hi l B (k.trans f)) m y,Ex.All.imp (λ_ b=>b.mono hi ((f.trans q).trans l) e (List.suffix_refl _)) r g,trivial⟩
    injection i with h5 h6
    subst h5 h6;rw[Ex.HJ,Ex.HJ];exact⟨List.suffix_refl _,Ex.All.imp (λ_ b=>b.mono hi l B (List.suffix_refl _)) m y,trivial⟩
   have a:x.length<a.length:=by
    have:=A.length_le;have:=z.length_le;have:=C.1.length_le;omega
   refine⟨a,?_⟩;rw[Ex.All];have c:=A.trans z;exact⟨t a,Ex.HJ.imp (λ_ b=>⟨b.1,b.2.1,λd a=>b.2.2 d (c.subset a)⟩) v C.2⟩
def PO.Al {a:Type} (b:PO a) (c:a->Prop):Prop:=∀a d,b=.ok a d->c a
theorem PO.Al.bind {a b:Type} {e:PO a} {c:a->List ao->PO b} {d:b->Prop} (h:∀a b,(c a b).Al d):(e.bind c).Al d:=by
 intro d e c;obtain⟨a,b,_,c⟩:=PO.bind_some c;exact h a b d e c
theorem PO.Al.A3 {a b:Type} {c:PO a} {d:a->List ao->PO b} {e:a->Prop} {f:b->Prop} (g:c.Al e) (h:∀a b,e a->(d a b).Al f):(c.bind d).Al f:=by
 intro d e c;obtain⟨a,b,f,c⟩:=PO.bind_some c;exact h a b (g a b f) d e c
theorem PO.Al.ok {b:Type} {c:b} {d:List ao} {q:b->Prop} (h:q c):(PO.ok c d).Al q:=by
 intro b b a;injection a with a _
 subst a;exact h
theorem PO.Al.ite {b:Type} {c:Prop} [Decidable c] {d e:PO b} {a:b->Prop} (h:d.Al a) (b:e.Al a):(if c then d else e).Al a:=by split<;>assumption
def IE (a b:aI):Prop:=b.kind=a.kind/\b.at_=a.at_
theorem IF (b:Int) (a:aI) (c:List ao):(hW b a c).Al (IE a):=.bind λ_ _=>.bind λ_ _=>.bind λ_ _=>.bind λ_ _=>.bind λ_ _=>.ok ⟨rfl,rfl⟩
theorem I7 (b:Int) (a:aI) (c:List ao):(en b a c).Al (IE a):=
 .ite (.bind λ_ _=>.bind λ_ _=>.bind λ_ _=>.bind λ_ _=>.ok ⟨rfl,rfl⟩)<|.ite (.bind λ_ _=>.bind λ_ _=>.ok ⟨rfl,rfl⟩)<|
  .ite (.bind λ_ _=>.bind λ_ _=>.bind λ_ _=>.bind λ_ _=>.ite (.bind λ_ _=>.ok ⟨rfl,rfl⟩) (.ite (.bind λ_ _=>.bind λ_ _=>.ok ⟨rfl,rfl⟩) (.ok ⟨rfl,rfl⟩)))<|
  .ite (.bind λ_ _=>.bind λ_ _=>.bind λ_ _=>.bind λ_ _=>.bind λ_ _=>.bind λ_ _=>.ok ⟨rfl,rfl⟩)<|.ite (.bind λ_ _=>.bind λ_ _=>.bind λ_ _=>.ok ⟨rfl,rfl⟩)<|
  .ite (IF b a c)<|.ite (.A3 (IF b a c) λ_ _ h=>.bind λ_ _=>.bind λ_ _=>.ite (.bind λ_ _=>.ok h) (.ok h))<|
  .ite (.bind λ_ _=>.bind λ_ _=>.bind λ_ _=>.ok ⟨rfl,rfl⟩)<|.ite (.bind λ_ _=>.bind λ_ _=>.ok ⟨rfl,rfl⟩) (.bind λ_ _=>.bind λ_ _=>.ok ⟨rfl,rfl⟩)
def H5 (a:Int):List aI->Int
 |[]=>a
 |x::_=>x.at_
def H0 (a:Int):List aI->Prop
 |[]=>True
 |x::xs=>x.at_<H5 a xs/\(x.kind=10->x.expr.All λb=>x.at_<=b/\b<H5 a xs)/\H0 a xs
theorem I8 (c j:Int) (b:List ao) (o:HZ b) (t:∀k∈b,k.at_<j) (f:aI) (l:List ao) (h:iV c b=.ok f l):
 l<:+b.tail/\f.at_=cZ b/\(f.kind=10->f.expr.All (H4 j b l)):=by
 unfold iV at h;obtain⟨u,m,g,h⟩:=PO.bind_some h;obtain⟨v,e,w,h⟩:=PO.bind_some h;obtain⟨p,n,a,h⟩:=PO.bind_some h;obtain⟨_,x,y,h⟩:=PO.bind_some h;injection h with h1 h2
 subst h1 h2;have z:m=b.tail:=by
  unfold dK at g;split at g
  ·injection g with _ d
   exact d.symm
  cases b<;>cases g
 have q:e<:+m:=PO.Sf.ite (.ok (List.suffix_refl _)) (HI c m _ (List.suffix_refl _)) v e w;have A:=I5 c _ e _ (List.suffix_refl _) p n a;have r:=HB c _ n _ (List.suffix_refl _) _ x y;have s:=I7 c _ e p n a;subst z;refine⟨r.trans (A.trans q),s.2,λf=>?_⟩;have f:u=10:=s.1.symm.trans f;unfold en at a;dsimp only at a;rw[f]at a;simp only[show((10:Int)=1)=False from by simp,show((10:Int)=2)=False from by simp,show((10:Int)=3)=False from by simp,show((10:Int)=4)=False from by simp,show((10:Int)=5)=False from by simp,show((10:Int)=6)=False from by simp,show((10:Int)=7)=False from by simp,show((10:Int)=8)=False from by simp,show((10:Int)=9)=False from by simp,if_false]at a;unfold nA at a;obtain⟨_,i,B,a⟩:=PO.bind_some a;obtain⟨d,C,D,a⟩:=PO.bind_some a;injection a with h1 h2
 subst h1 h2;have a:=HB c _ e _ (List.suffix_refl _) _ i B;have a:i<:+b:=a.trans (q.trans (List.tail_suffix b));obtain⟨b,c⟩:=Im c j 12 i (o.suf a) (λk b=>t k (a.subset b)) d C D;have e:i≠[]:=λd=>by rw[d]at b;simp at b
 exact Ex.All.imp (λ_ b=>b.mono o a e r) d c
theorem IG (m d:Int):∀(l:Nat) (e:List aI) (a:List ao),HZ a->(∀c∈a,c.at_<d)->∀f i,iW m l e a=.ok f i->∃b,f=e++b/\H0 d b/\(b≠[]->a≠[]/\H5 d b=cZ a)
 |0,e,a,hi,hL,f,i,h=>by
  rw[iW]at h;injection h with h _
  exact⟨[],by rw[h,List.append_nil],trivial,λg=>absurd rfl g⟩
 |l+1,e,[],hi,hL,f,i,h=>by
  rw[iW]at h;injection h with h _
  exact⟨[],by rw[h,List.append_nil],trivial,λg=>absurd rfl g⟩
 |l+1,e,c::a,hi,hL,f,i,h=>by
  rw[iW]at h;split at h
  ·cases h
  obtain⟨n,g,s,h⟩:=PO.bind_some h;obtain⟨q,o,t⟩:=I8 m d (c::a) hi hL n g s;have p:g<:+c::a:=q.trans (List.tail_suffix _);obtain⟨b,u,v,w⟩:=IG m d l (e++[n]) g (hi.suf p) (λc e=>hL c (p.subset e)) f i h;have r:∀j,H4 d (c::a) g j->j<H5 d b:=λj k=>by
   cases b with
   |nil=>exact k.2.1
   |cons z b=>
    obtain⟨x,a⟩:=w ai;rw[a];cases g with
    |nil=>exact absurd rfl x
    |cons y g=>exact k.2.2 y (List.mem_cons_self ..)
  refine⟨n::b,by rw[u];simp,⟨?_,λa=>?_,v⟩,λ_=>⟨by simp,o⟩⟩
  ·rw[o]
   have:=q.length_le;exact r _ ⟨Int.le_refl _,hL c (List.mem_cons_self ..),IC hi p (by simp at this⊢;omega)⟩
  exact Ex.All.imp (λj k=>⟨by rw[o];exact k.1,r j k⟩) _ (t a)
theorem I9 {d b:Int} {a:List ao} (f:HZ a) (g:∀c∈a,c.at_<b) {c:List aI} {e:List ao} (h:qK d a=.ok c e):H0 b c:=by
 obtain⟨c,a,b,_⟩:=IG d b _ [] a f g c e h;rw[a];exact b
end Go.Proofs.YteamkimbmdgdbaaGreatDoor
namespace Go.Proofs.YteamkimbmdgdbaaGreatDoor
open Go.RowKit
def RO.At {α:Type} (r:RO α) (q:Int->Prop):Prop:=∀b a,r=.bad b a->q a
section
variable {α β:Type} {r:RO α} {q:Int->Prop} {at_:Int}
theorem RO.At.ok {a:α}:(RO.ok a).At q:=by intro a a h;cases h
theorem RO.At.bad {a:Int} (h:q at_):(RO.bad a at_:RO α).At q:=by intro a a h;injection h with _ h;subst h;assumption
theorem RO.At.bind {c:α->RO β} (h:r.At q) (d:∀a,(c a).At q):(r.bind c).At q:=by
 cases r with
 |ok a=>exact d a
 |bad e a=>intro c c b;injection b with _ b;subst b;exact h e a rfl
theorem RO.At.ap {a:Bool} {b:Int} (h:q at_) (c:r.At q):(RO.ap a b at_ r).At q:=by
 unfold RO.ap;split
 ·exact c
 exact .bad h
theorem RO.At.ite {a:Prop} [Decidable a] {b:RO α} (h:r.At q) (c:b.At q):(if a then r else b).At q:=by split<;>assumption
variable (h:q at_)
include h
theorem H7 (a:List At) (b:aw):(cO at_ a b).At q:=.ap h .ok
theorem Io (b:List At):∀(a:bm) (c:List Int),(dv at_ b c a).At q
 |[],_=>.ok
 |_::a,_=>(H7 h _ _).bind λ_=>.ap h (Io b a _)
theorem IH:∀(a:List dl) (b:List At),(fy at_ b a).At q
 |[],_=>.ok
 |_::a,_=>.ap h (.ap h (.ap h (.ap h (IH a _))))
theorem Ib (a:List Tb) (b:aw):(dS a at_ b).At q:=.ap h .ok
theorem Ii (a:List Tb) (b c:aw):(fC a at_ b c).At q:=(Ib h _ _).bind λ_=>(H7 h _ _).bind λ_=>.ok
theorem II (b:List At):∀(a:List cL) (c:List Wg),(fe b at_ c a).At q
 |[],_=>.ok
 |_::a,_=>RO.At.bind (show(pe _ _ _).At q from(H7 h _ _).bind λ_=>.ap h (.ap h (.ap h .ok))) λ_=>II b a _
theorem IJ (b:List At):∀(a:List du) (c:List Fx),(fg b at_ c a).At q
 |[],_=>.ok
 |_::a,_=>(H7 h _ _).bind λ_=>.ap h (.ap h (.ap h (IJ b a _)))
theorem IK {b:dG->RO (Sd×Int)} (c:∀a,(b a).At q) (a:dG):(jK at_ b a).At q:=.ite (.ap h .ok) (c a)
theorem Ip {c:dG->RO (Sd×Int)} (a:∀d,(c d).At q):∀(b:List bB) (d:List cT),(eT at_ c d b).At q
 |[],_=>.ok
 |_::b,_=>RO.At.bind (show(jL _ _ _).At q from .ap h ((IK h a _).bind λ_=>(IK h a _).bind λ_=>.ap h (.ap h .ok))) λ_=>Ip a b _
theorem IL (b:List Tb):∀(a:List Vr) (c:List (ByteArray×Int)),(gG b at_ c a).At q
 |[],_=>.ok
 |_::a,_=>.ap h ((Ib h _ _).bind λ_=>IL b a _)
theorem Ij (a:List At) (b:aw):(ee at_ a b).At q:=.ap h .ok
theorem Iq (b:List At):∀(a:bm) (c:List Int) (d:List At),(fz at_ b c d a).At q
 |[],_,_=>.ok
 |_::a,_,_=>(Ij h _ _).bind λ_=>.ap h (Iq b a _ _)
theorem Ir (b:List At):∀(a r:List At),(hZ at_ b r a).At q
 |[],_=>.ok
 |_::a,_=>.ite (Ir b a _) (.ap h (Ir b a _))
theorem Ja (a:List Tb) (b:Int) (c:aw) (d:List bB) (e:bm) (f g:aw) (i:Int) (j:List Pl):(cy a b c d e f g i at_ j).At q:=
 .ap h<|.ite ((Ib h _ _).bind λ_=>.ok)<|.ite (.ap h ((Ip h (λ_=>.ap h ((Ij h _ _).bind λ_=>.ok)) _ _).bind λ_=>.ok))<|.ite ((Iq h _ _ _ _).bind λ_=>.ok)<|
  .ite ((Ir h _ _ _).bind λ_=>.ap h .ok)<|.ite (.ap h .ok)<|.ite ((Ij h _ _).bind λ_=>.ap h (.ap h .ok))<|
   (Iq h _ _ _ _).bind λ_=>.ap h (RO.At.bind (.ite (.ap h .ok) ((Ij h _ _).bind λ_=>.ap h .ok)) λ_=>.ap h .ok)
omit h
mutual
theorem IM (b:List Tb):∀c:Ex,c.All q->(fR b c).At q
 |.mk _ _ kids _ _ _ _ _ _,a=>by
  rw[Ex.All]at a;rw[fR];exact(IN b kids a.2).bind λ_=>.ap a.1 ((Ja a.1 _ _ _ _ _ _ _ _ _).bind λ_=>.ok)
theorem IN (b:List Tb):∀c:List Ex,Ex.HJ q c->(fi b c).At q
 |[],_=>by rw[fi];exact .ok
 |e::es,a=>by
  rw[Ex.HJ]at a;rw[fi];exact(IM b e a.1).bind λ_=>(IN b es a.2).bind λ_=>.ok
end
end
theorem Jb {q:Int->Prop} (b:List Tb) (a:aI) (h:q a.at_):(fL b a).At q:=.ap h ((IH h _ _).bind λ_=>.ap h ((Io h _ _ _).bind λ_=>.ok))
theorem IP {q:Int->Prop} (b:List Tb) (a:aI) (c:Int) (h:q a.at_):(jJ b a c).At q:=(Ib h _ _).bind λ_=>.ap h ((Io h _ _ _).bind λ_=>.ok)
theorem Jc {q:Int->Prop} (a:Su) (x:aI) (h:q x.at_) (b:x.kind=10->x.expr.All q):(db a x).At q:=
 .ite (.ap h (.ap h .ok))<|.ite ((Ii h _ _ _).bind λ_=>RO.At.bind (.ite .ok (.ite (.ap h .ok) (.ite (.ap h .ok) (.bad h)))) λ_=>.ok)<|
  .ite ((Ib h _ _).bind λ_=>.ap h (.ap h ((II h _ _ _).bind λ_=>.ok)))<|.ite ((Ii h _ _ _).bind λ_=>.ap h (.ap h (.ap h .ok)))<|
  .ite ((IP _ _ _ h).bind λ_=>.ok)<|.ite ((IP _ _ _ h).bind λ_=>(H7 h _ _).bind λ_=>.ap h ((IJ h _ _ _).bind λ_=>.ok))<|
  .ite ((Ii h _ _ _).bind λ_=>(Ii h _ _ _).bind λ_=>.ap h .ok)<|
  .ite (.ap h ((IL h _ _ _).bind λ_=>(Ip h (λ_=>.ap h ((H7 h _ _).bind λ_=>.ok)) _ _).bind λ_=>.ok))<|by
   split
   ·rename_i a
    exact(IM _ _ (b a)).bind λ_=>.ok
   exact .ok
inductive HU (L:Int):List aI->List (Int×Int)->List aI->Prop
 |nil:HU L [] [] []
 |bad {x:aI} {xs:List aI} {e a:Int} {fs:List (Int×Int)} {ys:List aI}:x.at_<=a->a<H5 L xs->HU L xs fs ys->HU L (x::xs) ((e,a)::fs) ys
 |good {x:aI} {xs:List aI} {fs:List (Int×Int)} {ys:List aI}:HU L xs fs ys->HU L (x::xs) fs (x::ys)
theorem HU.head {d:Int} {e i:List aI} {f:List (Int×Int)} (j:HU d e f i):H0 d e->∀a∈f,H5 d e<=a.2:=by
 induction j with
 |nil=>intro _ a b;cases b
 |bad k l _ g=>
  intro b a c;rcases dd c with rfl|c
  ·exact k
  have:=g b.2.2 a c;have:=b.1;show _<=_;exact Int.le_of_lt (Int.lt_of_lt_of_le b.1 (g b.2.2 a c))
 |good _ c=>intro b a d;exact Int.le_of_lt (Int.lt_of_lt_of_le b.1 (c b.2.2 a d))
def HM:Su->List ((Int×Int)×aI)->List aI
 |_,[]=>[]
 |s,(g,x)::zs=>
  if g.1=0 then
   match db s x with
   |.ok s'=>x::HM s' zs
   |.bad e _=>if e=0 then x::HM s zs else HM s zs
  else HM s zs
theorem Ic (e:Int):∀(a:List ((Int×Int)×aI)) (c:Su) (d:List (Int×Int)),H0 e (a.map (·.2))->(∀f∈a,f.1.1≠0->f.1.2=f.2.at_)->
 ∃b,(eM c d a).2=d++b/\HU e (a.map (·.2)) b (HM c a)
 |[],c,d,_,_=>⟨[],by rw[eM,List.append_nil],.nil⟩
 |(g,x)::a,c,d,i,hg=>by
  have k:=λf m=>hg f (List.mem_cons_of_mem _ m);rw[eM,HM];split
  ·have n:=Jc (q:=λf=>x.at_<=f/\f<H5 e (a.map (·.2))) c x ⟨Int.le_refl _,i.1⟩ i.2.1
   cases hp:db c x with
   |ok j=>
    obtain⟨b,f,j⟩:=Ic e a j d i.2.2 k;exact⟨b,f,.good j⟩
   |bad j l=>
    dsimp only;split
    ·obtain⟨b,j,f⟩:=Ic e a c d i.2.2 k
     exact⟨b,j,.good f⟩
    obtain⟨b,m,f⟩:=Ic e a c (d++[(j,l)]) i.2.2 k;have:=n j l hp;exact⟨(j,l)::b,by rw[m];simp,.bad this.1 this.2 f⟩
  rename_i f
  obtain⟨b,a,l⟩:=Ic e a c (d++[g]) i.2.2 k;have j:=hg (g,x) (List.mem_cons_self ..) f;dsimp only at j;refine⟨g::b,by rw[a];simp,?_⟩;obtain⟨o,n⟩:=g;dsimp only at j;exact HU.bad (x:=x) (by rw[j];exact Int.le_refl _) (by rw[j];exact i.1) l
theorem Id:∀(d:List ((Int×Int)×aI)) (b:Su) (c:List (Int×Int)) (a:List (Int×Int)),a.length=(HM b d).length->(∀e∈a,e.1=0)->(eM b c (a.zip (HM b d))).2=c
 |[],b,c,a,hl,hz=>by rw[HM,List.zip_nil_right,eM]
 |(e,x)::d,b,c,a,hl,hz=>by
  rw[HM]at hl⊢;split at hl
  ·rename_i g
   rw[if_pos g];cases hp:db b x with
   |ok f=>
    rw[hp]at hl;dsimp only at hl⊢;cases a with
    |nil=>simp at hl
    |cons i a=>
     rw[List.zip_cons_cons,eM,if_pos (hz i (List.mem_cons_self ..)),hp];exact Id d f c a (by simpa using hl) (λe f=>hz e (List.mem_cons_of_mem _ f))
   |bad j k=>
    rw[hp]at hl;dsimp only at hl⊢;split at hl
    ·rename_i f
     rw[if_pos f];cases a with
     |nil=>simp at hl
     |cons i a=>
      rw[List.zip_cons_cons,eM,if_pos (hz i (List.mem_cons_self ..)),hp];dsimp only;rw[if_pos f];exact Id d b c a (by simpa using hl) (λe f=>hz e (List.mem_cons_of_mem _ f))
    rename_i e
    rw[if_neg e];exact Id d b c a hl hz
  rename_i e
  rw[if_neg e];exact Id d b c a hl hz
def HG (tabs:List Tb) (u:cI) (b:aI):List Tb×(Int×Int):=
 if(eo u b).2≠0 then(tabs,((eo u b).2,b.at_))
 else if b.kind=1 then match fL tabs b with|.ok t=>(tabs++[t],(0,0))|.bad e a=>(tabs,(e,a))else(tabs,(0,0))
theorem H8 (tabs:List Tb) (u:cI) (b:List (Int×Int)) (a:aI) (c:List aI):ep tabs u b (a::c)=ep (HG tabs u a).1 (eo u a).1 (b++[(HG tabs u a).2]) c:=by
 rw[ep];unfold HG;split
 ·rfl
 split
 ·cases fL tabs a<;>rfl
 rfl
theorem H9:∀(a:List aI) (tabs:List Tb) (u:cI) (b:List (Int×Int)),ep tabs u b a=((ep tabs u [] a).1,b++(ep tabs u [] a).2)
 |[],tabs,u,b=>by rw[ep,ep];simp
 |x::a,tabs,u,b=>by
  rw[H8,H8 tabs u [],H9 a _ _ (b++_),H9 a _ _ ([]++_)];simp
theorem Jd {b c:cI} (h:∀a∈b,a∈c) {d:Int} {e:aw} (f:ec c d e=false):ec b d e=false:=by
 unfold ec at*;rw[List.any_eq_false]at*;exact λa b=>f a (h a b)
theorem Je (u:cI) (c:aI):∀b∈u,b∈(eo u c).1:=by
 intro b a;unfold eo;split
 ·split
  ·exact a
  split
  ·split
   ·exact a
   exact List.mem_cons_of_mem _ a
  exact a
 exact a
theorem Jf {u d:cI} (h:∀b∈u,b∈d) {c:aI} (a:(eo d c).2=0):(eo u c).2=0/\∀b∈(eo u c).1,b∈(eo d c).1:=by
 unfold eo at*;split at a
 ·rename_i c
  rw[if_pos c,if_pos c];split at a
  ·rename_i c
   rw[if_pos c,if_pos c];exact⟨rfl,h⟩
  rename_i c
  rw[if_neg c,if_neg c];split at a
  ·rename_i c
   rw[if_pos c,if_pos c];split at a
   ·cases a
   rename_i c
   rw[if_neg c,if_neg (by rw[Jd h (by simpa using c)];simp)];refine⟨rfl,λb e=>?_⟩;rcases dd e with rfl|e
   ·exact List.mem_cons_self ..
   exact List.mem_cons_of_mem _ (h b e)
  cases a
 cases a
theorem IQ {tabs:List Tb} {u:cI} {a:aI} (h:(HG tabs u a).2.1=0):(eo u a).2=0:=by
 unfold HG at h;split at h
 ·exact h
 rename_i a
 exact Decidable.not_not.1 a
theorem Jg {tabs:List Tb} {u b:cI} {a:aI} (c:(eo u a).2=0) (d:(eo b a).2=0):HG tabs u a=HG tabs b a:=by
 unfold HG;simp only[c,d]
theorem Jh {tabs:List Tb} {u:cI} {a:aI} (h:(HG tabs u a).2.1≠0):(HG tabs u a).1=tabs:=by
 unfold HG at*;split
 ·rfl
 rename_i b
 rw[if_neg b]at h;split
 ·rename_i b
  rw[if_pos b]at h;cases ht:fL tabs a with
  |ok c=>rw[ht]at h;exact absurd rfl h
  |bad c d=>rfl
 rfl
theorem Ji {tabs:List Tb} {u:cI} {a:aI} (h:a.kind≠1):(HG tabs u a).1=tabs:=by
 unfold HG;split
 ·rfl
 first|rfl|rw[if_neg h]
theorem Jj (b:List Tb) (c:cI) (a:aI):(HG b c a).2.1≠0->(HG b c a).2.2=a.at_:=by
 unfold HG;split
 ·exact λ_=>rfl
 split
 ·cases ht:fL b a with
  |ok d=>exact λh=>absurd rfl h
  |bad d e=>exact λ_=>Jb (q:=λc=>c=a.at_) b a rfl d e ht
 exact λh=>absurd rfl h
theorem Jk {a:Su} {b:aI} (h:b.kind=1):db a b=.ok a:=by
 unfold db;simp[h]
theorem Is:∀(a:List aI) (b:List Tb) (c:cI),(ep b c [] a).2.length=a.length
 |[],_,_=>by rw[ep];rfl
 |x::a,b,c=>by
  rw[H8,H9];simp[Is a]
theorem IR:∀(c:List aI) (d:List Tb) (e:cI),∀b∈(ep d e [] c).2.zip c,b.1.1≠0->b.1.2=b.2.at_
 |[],_,_,b,a=>by simp at a
 |x::c,d,e,b,a=>by
  rw[H8,H9,List.nil_append,List.singleton_append,List.zip_cons_cons]at a;rcases dd a with rfl|a
  ·exact Jj d e x
  exact IR c _ _ b a
theorem Ik:∀(b:List aI) (tabs:List Tb) (u c:cI) (d:Su),(∀e∈c,e∈u)->
 (ep tabs c [] (HM d ((ep tabs u [] b).2.zip b))).1=(ep tabs u [] b).1/\∀i∈(ep tabs c [] (HM d ((ep tabs u [] b).2.zip b))).2,i.1=0
 |[],tabs,u,c,d,h=>by
  rw[ep];simp[HM,ep]
 |a::b,tabs,u,c,d,h=>by
  rw[H8 tabs u,H9 b _ _ ([]++_),List.nil_append,List.singleton_append,List.zip_cons_cons,HM];have l:∀e∈c,e∈(eo u a).1:=λe j=>Je u a e (h e j);have m:(HG tabs u a).2.1=0->∀f,(ep tabs c [] (a::HM f ((ep (HG tabs u a).1 (eo u a).1 [] b).2.zip b))).1=(ep (HG tabs u a).1 (eo u a).1 [] b).1/\
   ∀i∈(ep tabs c [] (a::HM f ((ep (HG tabs u a).1 (eo u a).1 [] b).2.zip b))).2,i.1=0:=by
   intro k f;obtain⟨e,n⟩:=Jf h (IQ k);have e:=Jg (tabs:=tabs) e (IQ k);rw[H8,e,H9];obtain⟨e,o⟩:=Ik b (HG tabs u a).1 (eo u a).1 (eo c a).1 f n;refine⟨e,λi g=>?_⟩;rcases cY g with g|g
   ·rw[List.nil_append,List.mem_singleton]at g
    rw[g];exact k
   exact o i g
  split
  ·rename_i k
   cases j:db d a with
   |ok f=>exact m k f
   |bad n o=>
    dsimp only;split
    ·exact m k d
    have g:a.kind≠1:=λg=>by rw[Jk g]at j;cases j
    rw[Ji (u:=u) g];exact Ik b tabs (eo u a).1 c d l
  rename_i e
  rw[Jh e];exact Ik b tabs (eo u a).1 c d l
theorem Ie:∀(a:List ((Int×Int)×aI)) (b:Su),(HM b a).length<=a.length
 |[],b=>by rw[HM];exact Nat.le_refl _
 |(g,x)::a,b=>by
  rw[HM];split
  ·cases db b x with
   |ok c=>have:=Ie a c;simp;omega
   |bad c d=>
    dsimp only;split
    ·have:=Ie a b;simp;omega
    have:=Ie a b;simp;omega
  have:=Ie a b;simp;omega
theorem Jl {c:Int} {a:List aI} (e:H0 c a) (f:a.length<=200):∃b,HU c a (cP a []).2 b/\(cP b []).2=[]/\b.length<=a.length:=by
 have d:∀q:Su×List (Int×Int),(if q.2=[]then(q.1,[])else(Su.zero,q.2)).2=q.2:=λq=>by
  split
  ·rename_i h;exact h.symm
  rfl
 have b:∀b:List aI,b.length<=200->(cP b []).2=(eM {Su.zero with tabs:=(ep [] [] [] b).1} [] ((ep [] [] [] b).2.zip b)).2:=λb g=>by
  unfold cP;rw[if_pos g];exact d _
 have d:(((ep [] [] [] a).2.zip a).map (·.2))=a:=by
  rw[List.map_snd_zip];rw[Is];exact Nat.le_refl _
 obtain⟨g,e,c⟩:=Ic c ((ep [] [] [] a).2.zip a) {Su.zero with tabs:=(ep [] [] [] a).1} [] (by rw[d];exact e) (IR a [] []);rw[d]at c;obtain⟨d,g⟩:=Ik a [] [] [] {Su.zero with tabs:=(ep [] [] [] a).1} (λd d=>d);have i:=Ie ((ep [] [] [] a).2.zip a) {Su.zero with tabs:=(ep [] [] [] a).1};have j:((ep [] [] [] a).2.zip a).length<=a.length:=by rw[List.length_zip];omega
 refine⟨_,by rw[b a f,e];exact c,?_,bR i j⟩;rw[b _ ae,d];exact Id _ _ [] _ (Is _ _ _) g
end Go.Proofs.YteamkimbmdgdbaaGreatDoor
namespace Go.Proofs.YteamkimbmdgdbaaGreatDoor
open Go.RowKit
theorem Jm {a:bL} (i:a.length<=20000) (j:a≠[]) {c:Int} {d:bL} {e:Int} {b:Nat} (h:nR a=.tok c d e b):1<=b/\b<=a.length:=by
 rw[ED]at h;have g:∀f,mg f a=.tok c d e b->1<=b/\b<=a.length:=λf k=>⟨(EG f a i j c d e b k).l1,(EG f a i j c d e b k).l2⟩;cases h1:jQ a with
 |bad l=>rw[h1]at h;cases h
 |tok l m n o=>rw[h1]at h;exact g 0 (h1.trans h)
 |none=>
  rw[h1]at h;cases h2:jR a with
  |bad l=>rw[h2]at h;cases h
  |tok l m n o=>rw[h2]at h;exact g 1 (h2.trans h)
  |none=>
   rw[h2]at h;cases h3:jb a with
   |bad l=>rw[h3]at h;cases h
   |tok l m n o=>rw[h3]at h;exact g 2 (h3.trans h)
   |none=>
    rw[h3]at h;cases h4:g5 a with
    |bad l=>rw[h4]at h;cases h
    |tok l m n o=>rw[h4]at h;exact g 3 (h4.trans h)
    |none=>rw[h4]at h;cases h
theorem IS:∀(f:Nat) (a:bL) (c:Nat) (d:List ao),a.length<=20000->HZ d->(∀b∈d,b.at_<c)->
 HZ (g6 f a c d).1/\∀b∈(g6 f a c d).1,b.at_<((c+a.length:Nat):Int)
 |0,a,c,d,hl,hi,hL=>⟨hi,λb g=>Int.lt_of_lt_of_le (hL b g) ae⟩
 |f+1,[],c,d,hl,hi,hL=>⟨hi,λb g=>Int.lt_of_lt_of_le (hL b g) ae⟩
 |f+1,e::a,c,d,hl,hi,hL=>by
  have j:HZ ([]:List ao)/\∀b∈([]:List ao),b.at_<((c+(e::a).length:Nat):Int):=⟨List.Pairwise.nil,λb g=>by cases g⟩;rw[EH];cases hr:nR (e::a)with
  |none=>exact j
  |bad g=>exact j
  |tok k b l g=>
   dsimp only;split
   ·exact j
   obtain⟨j,p⟩:=Jm hl ai hr;have j:=m4 ((e::a).drop g) false;rw[List.length_drop]at j;obtain⟨m,n⟩:=IS f (((e::a).drop g).drop (cQ false ((e::a).drop g))) (c+g+cQ false ((e::a).drop g)) (d++[⟨k,dY b,l,c⟩]) (by simp only[List.length_drop];omega)
    (List.pairwise_append.2 ⟨hi,List.pairwise_singleton _ _,λa b d d=>by rw[aA d];exact hL a b⟩)
    (
     λo i=>by
     rcases cY i with i|i
     ·have:=hL o i;omega
     rw[aA i];show(c:Int)<_;omega)
   refine⟨m,λa b=>Int.lt_of_lt_of_le (n a b) ?_⟩;simp only[List.length_drop];omega
theorem Jn {l:bL} {b:List aI} {d:List ao} (h:gi l=.ok b d):H0 l.length b:=by
 unfold gi at h;split at h
 ·have c:HZ (dq l).1/\∀a∈(dq l).1,a.at_<(l.length:Int):=by
   unfold dq;split
   ·exact⟨List.Pairwise.nil,λa e=>by cases e⟩
   have b:=m4 l false;obtain⟨e,f⟩:=IS (l.length+1) (l.drop (cQ false l)) (cQ false l) [] (by rw[List.length_drop];omega) List.Pairwise.nil (λa e=>by cases e);refine⟨e,λa b=>Int.lt_of_lt_of_le (f a b) ?_⟩;rw[List.length_drop];omega
  exact I9 c.1 c.2 h
 cases h
end Go.Proofs.YteamkimbmdgdbaaGreatDoor
namespace Go.Proofs.YteamkimbmdgdbaaGreatDoor
open Go.RowKit
theorem HU.len {c:Int} {a d:List aI} {b:List (Int×Int)} (e:HU c a b d):b.length<=a.length:=by
 induction e with
 |nil=>exact Nat.le_refl _
 |bad _ _ _ f=>exact Nat.succ_le_succ f
 |good _ f=>exact Nat.le_succ_of_le f
theorem H0.drop {b:Int}:∀(a:Nat) {c:List aI},H0 b c->H0 b (c.drop a)
 |0,_,h=>h
 |_+1,[],_=>trivial
 |a+1,_::_,h=>H0.drop a h.2.2
theorem Jo {P:Program} {a:af} (c:bb) (d e:Nat) (b:bg) (k:∀f g,b[f]?=some g->ac a (ab d (e+f)) g) (i:TypeDesc) (l:P.underlying c=some i) (q:(match i with|.struct _|.array _ _=>true|_=>false)=true) (j:(P.info? c).map (·.size)=some b.length):
 (Instr.loadAt c (.pointer (some ⟨d,e,none⟩))).run P a=.ok (.agg b.toArray) a:=by
 have m:(loadCells ⟨d,e,none⟩ b.length).run P a=.ok b.toArray a:=
  run_loadCells_list (P:=P) a ⟨d,e,none⟩ b (λf g d=>by
   rw[Addr.add_lit];exact k f g d)
 simp only[Instr.loadAt,Instr.sureAddr,Sem.run_bind,Sem.run_pure,Result.andThen];cases hq:P.info? c with
 |none=>simp[hq]at j
 |some n=>
  have o:n.size=b.length:=by simpa[hq]using j
  have p:(isAgg c).run P a=.ok true a:=by
   unfold isAgg;rw[Sem.run_bind,run_underlying l a];cases i<;>simp_all
  simp[loadVar,Sem.run_bind,p,sizeOf,typeInfo,hq,o,m]
theorem Jp {P:Program} {b:Operand->Value} {c:Oper} {a:af} {d:bb} {e:Operand} {f g:ay} (i:c.op=.load d e) (j:b e=f) (h:(Instr.loadAt d f).run P a=.ok g a):(execOp b c).run P a=.ok (.value g) a:=by
 unfold execOp;simp only[i,j,Sem.run_bind,h,Result.andThen_ok];rfl
theorem Jq {P:Program} {d:Region.Mode} {a:Array Oper} {g:Exit->Act->World->Prop} {S:World->Prop} {j:Nat->Bool} {l:Nat} {e m:Array Bool} {b n:Act} {c:af} {i:Oper} (f:Nat) (k:ay) (p:S c) (h:cX P d a g S j l m n c)
 (q:a[f]?=some i:=by(simp only[bc,bd,be];rfl))
 (r:Region.noSelect a=true:=by kernel_rfl) (s:Region.free d a e f=true:=by kernel_rfl) (t:(Region.ready d a e).contains f=true:=by kernel_rfl)
 (u:pg d a e f j=true:=by kernel_rfl) (v:∀o b c,g (.panic o) (b.put i.dst k) c->g (.panic o) b c:=by exact λ_ _ _ h=>h)
 (hy:YieldsIf P a S i k b)
 (w:b.put i.dst k=n:=by first|(simp only[Act.put,o2,o3,o4];rfl)|rfl)
 (x:e.setIfInBounds f true=m:=by rfl):cX P d a g S j (l+1) e b c:=by
 subst w x;exact dU q r s t u v hy p h
structure H2 (w5 wr:af) (rs:List RI) (A:aX) (n c:Nat) (zs:List RI):Prop where
 k:ag w5 wr
 bx:J wr w5.heap.size 24 #[U A n c]
 own:wr.ownsRow (w5.heap.size+1) 95 25 (U A n c) n (zs.flatMap RI.cells)
 len:zs.length=n
 sub:∀r∈zs,r∈rs
theorem H2.same {c wr d:af} {e:List RI} {f:aX} {g i:Nat} {j:List RI} (a:H2 c wr e f g i j) (b:ag wr d):H2 c d e f g i j:=
 ⟨a.k.trans b,(Kp.of_same (l:=[]) b).blk a.bx ai,aH b a.own,a.len,a.sub⟩
theorem H2.push {b wr g c:af} {n:List RI} {d i:aX} {a e j:Nat} {o:List RI} {q:RI} (f:H2 b wr n d a e o) (u:q∈n) (s:ag wr g) (l:g.grownBy c (Value.slice d a e).ownBlock)
 (v:c.ownsRow (b.heap.size+1) 95 25 (U i (a+1) j) (a+1) (o.flatMap RI.cells++q.cells)):H2 b (c.setCell (am b 0) (U i (a+1) j)) n i (a+1) j (o++[q]):=by
 have t:∀m,(Value.slice d a e).ownBlock=some m->b.heap.size+1<=m:=λm h=>by
  obtain⟨n,o,q,w⟩:=bo f.own;rcases w with r|⟨x,r,y⟩
  ·rw[r]at h;cases h
  rw[r]at h;injection h with h;omega
 have g:Kp ((Value.slice d a e).ownBlock.toList) g c:=(Kp.refl _ g).grown l (λm l=>.inl (by rw[l];simp));have n:ag b c:=g.g4 (f.k.trans s) (λg m=>by
  have h:(Value.slice d a e).ownBlock=some g:=by simpa using m
  have:=t g h;omega)
 have d:=J.grown ((f.same s).bx) l (λd=>by have:=t _ d.symm;omega);have a:Kp [b.heap.size] c (c.setCell (am b 0) (U i (a+1) j)):=Kp.aE (p:=(am b 0)) ai (Kp.refl _ c) _;refine⟨a.g4 n ai,d.aP 0 _,bC ?_ a ai,by simp[f.len],λr w=>?_⟩
 ·rw[List.flatMap_append]
  simpa using v
 rcases cY w with h|h
 ·exact f.sub r h
 rw[aA h];exact u
theorem Jr (j:aw) (a7:af) (co:aG j) (bQ:b4 a7 ⟨some ⟨0,0,none⟩,10,10⟩ fb) (bS:0<a7.heap.size):
 Calls Tryz.prog 8 #[j] a7 λe w'=>e=.returned (.bool true)/\ag a7 w':=by
 have cp:=Z (FQ a7 bQ bS);obtain⟨bT,bh⟩:=aq (gi (ba j));have bC:=Z (λa (b:ag a7 a)=>Ff j a co (bQ.same b) (aT bS b.size));simp only[<-bh]at bC;have bU:=Z (bh▸Fv (ba j));have bV:=Z (λa b (h:bT=.ok a b)=>(E9 (bh.symm.trans h)).1);have bW:=Z (λa b (h:bT=.ok a b)=>(show H0 (j.size:Int) a by have:=Jn (bh.symm.trans h);rw[eJ]at this;exact this));have cq:=Tryz.lg;obtain⟨cN,cO,cQ,cR,cS⟩:=info_parts Tryz.wl;clear bh co bQ bS;go_enter Tryz.func8,Tryz.ntmps8
 go_wp2_with fail
 refine cp.mono ?_;rintro e cr ⟨rfl,a8⟩;by_cases cs:(3000:Int)<(j.size:Int)
 case pos=>
  go_wp2;go_ret;exact⟨rfl,a8⟩
 have cT:decide ((3000:Int)<(j.size:Int))=false:=by simpa using cs
 clear cs cp;cases bT with
 |bad a b=>
  have b:=bU a b rfl;have a:(a !=0)=true:=by simpa using b
  clear b bV bU bW;go_wp2_with (first|(go_at_call 26;refine(bC.out cr a8).mono ?_;rintro e aR ⟨d,f⟩;subst f;have bB:=Z d;clear d)|fail)
  go_ret;exact⟨rfl,(a8.trans bB.out).alloc _⟩
 |ok m ct=>
  have cU:=Z (bV m ct rfl);have cu:=Z (bW m ct rfl);clear bV bU bW;have cV:((0:Int) !=0)=false:=rfl;go_upto_region 5 with(first|(go_at_call 26;refine(bC.out cr a8).mono ?_;rintro e aR ⟨a,⟨a1,c,aS⟩,r,b,d,f,g,i⟩;have n:e=.returned (.tuple #[.agg #[U a1 c aS],O 0,O 0]):=b;clear b;subst n;have bB:=Z a;have cm:=Z f;have cn:=Z g;have bg:=Z d;clear a f g i d)|fail)
  clear bC;have a7:=Z (show ag aR (aR.alloc (.cells #[U a1 c aS] 24))from(ag.refl aR).alloc _);have bD:=Z (J.new aR 24 #[U a1 c aS]);obtain⟨bh,bC⟩:=aq (aR.alloc (.cells #[U a1 c aS] 24));rw[<-bC]at a7 bD⊢;clear bC;have cv:=Z (a8.trans (bB.trans a7));have bX:=Z (cm.same a7);have bY:=Z (λa b=>df.mono (S':=λd=>d<bh.heap.size) ((cn a b).keep (Kp.of_same (l:=[]) a7) ai) (λa a=>aT a.2 a7.size));have cw:=Z (λa (b:a∈r)=>cU a.it (by rw[<-bg.out];exact List.mem_map.2 ⟨a,b,rfl⟩));have a3:Hid (Calls Tryz.prog 14 #[.agg #[U a1 c aS]] bh (gy bh (cP m []))):=Z (by
   have h:=Fg ⟨a1,c,aS⟩ r bh bX bY cw;rw[bg.out]at h;exact h)
  obtain⟨o,bh⟩:=aq (cP m []);rw[<-bh]at a3;have cx:=Z bh;clear bh cm cn a7 a8 bB;have bi:=az bD;go_wp2_with fail
  refine a3.mono ?_;rintro e a4 ⟨cy,cW,cX,y,⟨a9,a7,bb,bj,bZ,b0⟩,⟨⟨bE,f,a7⟩,bk,bm,b1⟩⟩;have b2:e=.returned (.tuple #[.agg (bz a9 bb),U bE f a7]):=by
   rw[y,bj,bk];rfl
  subst b2;clear y bj bk b1 a3 b0 bZ;have bn:=jz a9 bb;have bp:=fx a4 (.cells #[aa,aa,aa,aa,aa,aa,aa] 37);have bq:=World.setRow_alloc_new a4 #[aa,aa,aa,aa,aa,aa,aa] (bz a9 bb) 37;have bF:=Z (show ag a4 (a4.alloc (.cells (bz a9 bb) 37))from(ag.refl a4).alloc _);have cz:=Z bm;have cA:=Z cy;clear bm cy;go_upto_region 8 with(first|(refine wpList_store_row rfl 37 (.tmp 7) (.tmp 32) rfl a4.heap.size (bz a9 bb) rfl rfl 37 #[aa,aa,aa,aa,aa,aa,aa] bp cq rfl bn ?_;rw[bq])|fail)
  obtain⟨n,a4⟩:=aq (a4.alloc (.cells (bz a9 bb) 37));rw[<-a4]at bF⊢;clear a4 bp bq bn;try rw[oX]
  have a4:=Z (cA.trans bF);have cB:=Z (cv.trans a4);have b3:=Z (bX.same a4);have cY:=Z (λa b=>df.mono (S':=λd=>d<n.heap.size) ((bY a b).keep (Kp.of_same (l:=[]) a4) ai) (λa a=>aT a a4.size));have cD:=Z (cz.same bF);have b5:=qb a4 bD;clear cv a4 bF cA bX bY cz bD bi;have bi:=az b5;have b6:r.length=c:=b3.1;have b7:m.length=r.length:=by rw[<-bg.out,List.length_map]
  have b8:o.2.length=f:=cD.1;by_cases bG:m.length<=200
  case neg=>
   have a:o.2.length=1:=by rw[cx.out];unfold cP;rw[if_neg bG];rfl
   have b:decide (c<f)=false:=decide_eq_false ae;have b:decide ((200:Int)<(c:Int))=true:=decide_eq_true ae;clear a b8 b7 b6 bG;go_wp2;go_ret;exact⟨rfl,cB⟩
  obtain⟨br,a4,a7,a8⟩:=Jl cu.out bG;rw[<-cx.out]at a4;have a9:=a4.len;have cZ:decide (c<f)=false:=decide_eq_false ae;have c0:decide ((200:Int)<(c:Int))=false:=decide_eq_false ae;have c1:=Z a4;have c2:=Z a7;have bH:=Z b6;have bI:=Z b7;have bs:=Z b8;have bt:=Z (show c<=200/\f<=200 by omega);clear a9 a4 a7 a8 b6 b7 b8 bG;go_upto_region 13 with(fail)
  have b9:=Z (J.new n 24 #[aa]);have ca:=Z (show ag n (n.alloc (.cells #[aa] 24))from(ag.refl n).alloc _);obtain⟨a7,a4⟩:=aq (n.alloc (.cells #[aa] 24));rw[<-a4]at b9 ca⊢;clear a4;have cE:Hid (H2 n a7 r none 0 0 []):=Z ⟨ca,b9,⟨rfl,.inl ⟨rfl,rfl⟩⟩,rfl,λ_ h=>by cases h⟩;clear b9 ca cZ c0 bi cT cV;go_loopg [10,11] (c+1) (λp q s wr=>∃(a b:Nat) (t:aX) (d u:Nat) (g:List RI) (i:List aI),q=.int .i64 b/\s=.int .i64 a/\a<=c/\c-a<p/\Hid (HU (j.size:Int) (m.drop a) (o.2.drop b) i)/\Hid (g.map RI.it++i=br)/\Hid (H2 n wr r t d u g)/\b<=f/\d<=a)
  case atStart=>exact⟨0,0,none,0,0,[],br,rfl,rfl,by omega,by omega,c1,Z rfl,cE,by omega,by omega⟩
  case round=>
  obtain⟨b,a,v,p,w,bu,bJ,rfl,rfl,c3,cG,cH,cb,z,c4,c5⟩:=hrel;have bK:=Z cG;clear cG cE;have s:=Z (z.out.k);have cI:=qb s b5;have bi:=az cI;by_cases c6:b<c
  case neg=>
   have u:m.drop b=[]:=List.drop_of_length_le (by have:=bI.out;have:=bH.out;omega);have g:=cH.out;rw[u]at g;have q:o.2.drop a=[]/\bJ=[]:=by
    generalize o.2.drop a=d at g;cases g;exact⟨rfl,rfl⟩
   have t:a=f:=by
    have a2:=congrArg List.length q.1;rw[List.length_drop]at a2;have:=bs.out;simp at a2;omega
   subst t;have t:=Z (show bu.map RI.it=br by rw[<-cb.out,q.2,List.append_nil]);have x:=Z (cF (h:=⟨v,p,w⟩) RI.len z.out.len (by show p<=_;have:=bt.out.1;omega) z.out.own);have A:=Z (λd i=>df.mono (S':=λA=>A<wr.heap.size) ((cY d (z.out.sub d i)).keep (Kp.of_same (l:=[]) s) ai) (λd d=>aT d s.size));have a3:Hid (Calls Tryz.prog 14 #[.agg #[U v p w]] wr (gy wr (cP br []))):=Z (by
    have h:=Fg ⟨v,p,w⟩ bu wr x A (λd i=>cw d (z.out.sub d i));rw[t.out]at h;exact h)
   obtain⟨E,t⟩:=aq (cP br []);rw[<-t]at a3;have F:=Z (show E.2=[] by rw[t];exact c2.out);have G:ac wr (am n 0) (U v p w):=J.cell z.out.bx 0;have E:¬(b:Int)<(c:Int):=ae
   clear t q g u c6 c3 c5 c4 x A;go_wp2_with fail
   refine a3.mono ?_;rintro e i ⟨B,cW,cX,y,⟨aU,g,d,bj,bZ,b0⟩,⟨⟨g,q,t⟩,bk,bm,b1⟩⟩;have C:q=0:=by have h:=bm.1;rw[F.out]at h;exact h.symm
   have b2:e=.returned (.tuple #[.agg (bz aU d),U g 0 t]):=by
    rw[y,bj,bk,<-C];rfl
   subst b2;clear y bj bk b1 a3 b0 bZ bm C;have bn:=jz aU d;have bp:=fx i (.cells #[aa,aa,aa,aa,aa,aa,aa] 37);have bq:=World.setRow_alloc_new i #[aa,aa,aa,aa,aa,aa,aa] (bz aU d) 37;have D:=Z ((cB.trans (s.trans B)).alloc (.cells (bz aU d) 37));clear B G bi;go_upto_region 24 with(first|(refine wpList_store_row rfl 37 (.tmp 13) (.tmp 121) rfl i.heap.size (bz aU d) rfl rfl 37 #[aa,aa,aa,aa,aa,aa,aa] bp cq rfl bn ?_;rw[bq])|fail)
   obtain⟨g,d⟩:=aq (i.alloc (.cells (bz aU d) 37));rw[<-d]at D⊢;clear d bp bq bn;try rw[oX]
   go_wp2;go_ret;exact⟨rfl,D⟩
  case pos=>
  have a3:(b:Int)<(c:Int):=ae
  have a3:c<=9223372036854775807:=by have:=bt.out.1;omega
  have a3:f<=9223372036854775807:=by have:=bt.out.2;omega
  have cJ:b<r.length:=by have:=bH.out;omega
  have c8:b<m.length:=by have:=bI.out;omega
  obtain⟨t,x,hA1,cc,a3⟩:=b3.2.2 b cJ;have bL:=λa q a5=>(ag.cell s.out (show(⟨t,x+b*25+a,none⟩:Addr).block<n.heap.size from cc)).trans (a3 a q a5);clear a3;have hA2:a1=some ⟨t,x,none⟩:=hA1;clear hA1;subst hA2;have a3:m[b]=r[b].it:=by simp only[<-bg.out,List.getElem_map]
  obtain⟨aV,a4⟩:=aq r[b];rw[<-a4]at bL a3;have c9:=Z (show aV∈r by rw[a4];exact List.getElem_mem cJ);obtain⟨aW,A⟩:=aq (H5 (j.size:Int) (m.drop (b+1)));have bM:=cH.out;have bN:=H0.drop b cu.out;rw[List.drop_eq_getElem_cons c8,a3]at bM bN;have cK:aV.at_<aW:=by rw[A];exact bN.1
  have da:=Z bL;have a7:ac wr (ab t (x+b*25+2)) aV.at_:=bL 2 _ rfl;have bv:=Z cc;clear bL cc a4 a3;have cd:∀a3,a3<f->∃g i,bE=some ⟨g,i,none⟩/\∀e d,o.2[a3]?=some (e,d)->ac wr (ab g (i+a3*2+1)) (.int .i64 d):=λa3 a4=>by
   obtain⟨g,i,B,_,u⟩:=(cD.same s).2.2 a3 (by rw[bs.out];exact a4);refine⟨g,i,B,λe d y=>?_⟩;obtain⟨B,y⟩:=List.getElem?_eq_some_iff.1 y;rw[y]at u;exact u 1 _ rfl
  have db:(∃d g i,a<f/\bE=some ⟨g,i,none⟩/\ac wr (ab g (i+a*2+1)) (.int .i64 d)/\aV.at_<=d/\d<aW/\Hid (HU (j.size:Int) (m.drop (b+1)) (o.2.drop (a+1)) bJ))\/
   (∃u,bJ=aV.it::u/\Hid (HU (j.size:Int) (m.drop (b+1)) (o.2.drop a) u)/\(a=f\/∃d g i,a<f/\bE=some ⟨g,i,none⟩/\ac wr (ab g (i+a*2+1)) (.int .i64 d)/\aW<=d)):=by
   obtain⟨y,u⟩:=aq (o.2.drop a);rw[<-u]at bM⊢;cases bM with
   |@bad _ _ e d I _ D E F=>
    have B:a<f:=by have h:=congrArg List.length u;rw[List.length_drop,List.length_cons]at h;have:=bs.out;omega
    obtain⟨g,i,G,H⟩:=cd a B;have C:a<o.2.length:=by have:=bs.out;omega
    rw[List.drop_eq_getElem_cons C]at u;injection u with a2 aU
    subst aU;exact .inl ⟨d,g,i,B,G,H e d (by rw[List.getElem?_eq_getElem C,<-a2]),D,by rw[A];exact E,Z F⟩
   |@good _ _ _ C B=>
    refine .inr ⟨C,rfl,Z B,?_⟩;by_cases y:a<f
    ·have C:a<o.2.length:=by have:=bs.out;omega
     obtain⟨g,i,D,E⟩:=cd a y;refine .inr ⟨o.2[a].2,g,i,y,D,E o.2[a].1 _ (List.getElem?_eq_getElem C),?_⟩;rw[A];exact B.head bN.2.2 _ (by rw[u,List.drop_eq_getElem_cons C];exact List.mem_cons_self ..)
    exact .inl ae
  clear cd bM bN;by_cases a2:b+1<c
  case' pos=>
   have o:(b:Int)+1<(c:Int):=ae
   have o:decide (b+1<c)=true:=decide_eq_true a2;have o:b+1<r.length:=by have:=bH.out;omega
   obtain⟨o,y,hA1,B,u⟩:=(b3.same s).2.2 (b+1) o;have hA2:(⟨t,x,none⟩:Addr)=⟨o,y,none⟩:=Option.some.inj hA1;injection hA2 with e1 e2
   subst e1 e2;have o:aW=r[b+1].at_:=by
    have y:b+1<m.length:=by have:=bI.out;omega
    rw[A,List.drop_eq_getElem_cons y];show(m[b+1]'y).at_=_;simp only[<-bg.out,List.getElem_map];rfl
   have m:ac wr (ab t (x+(b+1)*25+2)) aW:=by rw[o];exact u 2 _ rfl
   have m:=Z A;have bP:=Z trivial;clear hA1 u o B A;go_upto_region 18 with(fail)
  case' neg=>
   have m:¬(b:Int)+1<(c:Int):=ae
   have m:decide (b+1<c)=false:=decide_eq_false a2;have m:(j.size:Int)=aW:=by rw[A,List.drop_of_length_le (by have:=bI.out;have:=bH.out;omega)];rfl
   have o:=Z A;have bP:=Z m;clear A m;go_upto_region 18 with(fail)
  all_goals
   rcases db with⟨d,g,i,ce,cf,dc,dd,de,cg⟩|⟨dg,dh,cg,ch⟩
   ·subst cf
    have m:decide (a<f)=true:=decide_eq_true ce;have m:decide ((a:Int)<(f:Int))=true:=decide_eq_true ae;have m:decide (d<aV.at_)=false:=decide_eq_false ae;first
     |have m:decide (d<(j.size:Int))=true:=decide_eq_true (by have:=bP.out;omega)
     |have m:decide (d<aW)=true:=decide_eq_true de
    go_wp2_with fail
    go_quiet (fail)
    go_wp2_with fail
    go_roundg (c-b)
    case measure=>have:=bK.out;omega
    exact⟨b+1,a+1,v,p,w,bu,bJ,by go_num,by go_num,by omega,by have:=bK.out;omega,cg,cb,Z (z.out.same ((ag.refl wr).drewN _)),by omega,by omega⟩
   rcases ch with ch|⟨d,g,i,ce,cf,dc,dd⟩
   case' inl=>
    have g:decide (a<f)=false:=decide_eq_false ae;have g:¬(a:Int)<(f:Int):=ae
    clear ch;go_wp2_with fail
    go_quiet (fail)
    go_upto_region 22 with(fail)
   case' inr=>
    subst cf;have g:decide (a<f)=true:=decide_eq_true ce;have f:decide ((a:Int)<(f:Int))=true:=decide_eq_true ae;have f:decide (d<aV.at_)=false:=decide_eq_false ae;first
     |have f:decide (d<(j.size:Int))=false:=decide_eq_false (by have:=bP.out;omega)
     |have d:decide (d<aW)=false:=decide_eq_false ae
    go_wp2_with fail
    go_quiet (fail)
    go_upto_region 22 with(fail)
   all_goals
    have aY:=Z (show ag wr (wr.drewN nq)from(ag.refl wr).drewN nq);generalize wr.drewN nq=aZ at aY⊢;have bf:=Z (z.out.same aY);have ci:=qb aY cI;obtain⟨E,F,G,H,I,⟨K,L,M⟩,di,⟨N,Q,R⟩,dj,T,V,W,⟨X,Y,ad⟩,dk,ah,aj,⟨B,C,D⟩,dl,⟨al,an,ao⟩,dm,⟨ap,ar,av⟩,dn,⟨ax,ay,⟨aA,aB,aC⟩,dq,⟨aD,aE,aF⟩,dr,⟨aJ,aL,aM⟩,ds,aN,aO,aP,aQ⟩⟩:=aV;have cj:(λw':World=>ac w' (am n 0) (U v p w)/\ac w' (am aR 0) (U (some ⟨t,x,none⟩) c aS)/\∀a q,(#[E,F,G,H,I,U K L M,U N Q R,T,V,W,U X Y ad,ah,aj,U B C D,U al an ao,U ap ar av,ax,ay,U aA aB aC,U aD aE aF,U aJ aL aM,aN,aO,aP,aQ]:Array Value).toList[a]?=some q->ac w' (ab t (x+b*25+a)) q) aZ.drew:=
     ⟨J.cell bf.out.bx 0,az ci,λa q a5=>(aY.out.cell (aT bv.out s.size)).trans (da.out a q a5)⟩
    refine ez (S:=(λw':World=>ac w' (am n 0) (U v p w)/\ac w' (am aR 0) (U (some ⟨t,x,none⟩) c aS)/\∀a q,(#[E,F,G,H,I,U K L M,U N Q R,T,V,W,U X Y ad,ah,aj,U B C D,U al an ao,U ap ar av,ax,ay,U aA aB aC,U aD aE aF,U aJ aL aM,aN,aO,aP,aQ]:Array Value).toList[a]?=some q->ac w' (ab t (x+b*25+a)) q)) 9 cj λu=>?_;refine tk 0 u ?_;refine tk 1 u ?_;refine tk 2 u ?_;refine tk 3 u ?_;refine tk 4 u ?_;refine tk 5 u ?_;refine Jq 6 (.agg #[E,F,G,H,I,U K L M,U N Q R,T,V,W,U X Y ad,ah,aj,U B C D,U al an ao,U ap ar av,ax,ay,U aA aB aC,U aD aE aF,U aJ aL aM,aN,aO,aP,aQ]) u ?_ (hy:=Or.inl ⟨rfl,λw' hSw=>by
     have h:=Jo (P:=Tryz.prog) 95 t (x+b*25) (#[E,F,G,H,I,U K L M,U N Q R,T,V,W,U X Y ad,ah,aj,U B C D,U al an ao,U ap ar av,ax,ay,U aA aB aC,U aD aE aF,U aJ aL aM,aN,aO,aP,aQ]:Array Value).toList hSw.2.2 _ Tryz.underlying95 rfl rfl;exact Jp rfl rfl h⟩)
    refine aK 7 (λbw a0=>?_);go_simp;refine a0 _ _ (λ_=>⟨(World.cell?_alloc_lt _ _ _ (J.lt bf.out.bx)).trans u.1,(World.cell?_alloc_lt _ _ _ (J.lt ci.out)).trans u.2.1,λa q a5=>(World.cell?_alloc_lt _ _ _ (aT bv.out (bR s.size aY.out.size))).trans (u.2.2 a q a5)⟩) ?_;clear a0 bw;try simp only[Act.put,o2,o3,o4]
    refine aK 8 (λbw a0=>?_);have a6:=Z (show ag aZ (aZ.drew.alloc (.cells #[E,F,G,H,I,U K L M,U N Q R,T,V,W,U X Y ad,ah,aj,U B C D,U al an ao,U ap ar av,ax,ay,U aA aB aC,U aD aE aF,U aJ aL aM,aN,aO,aP,aQ] 95))from((ag.refl aZ).drew).alloc _);have cL:=Z (aH a6 bf.out.own);have cM:=Z (cC aZ.drew #[E,F,G,H,I,U K L M,U N Q R,T,V,W,U X Y ad,ah,aj,U B C D,U al an ao,U ap ar av,ax,ay,U aA aB aC,U aD aE aF,U aJ aL aM,aN,aO,aP,aQ] 95 25 rfl);refine c7 (aZ.drew.alloc (.cells #[E,F,G,H,I,U K L M,U N Q R,T,V,W,U X Y ad,ah,aj,U B C D,U al an ao,U ap ar av,ax,ay,U aA aB aC,U aD aE aF,U aJ aL aM,aN,aO,aP,aQ] 95)) (.tmp 109) (.tmp 115) 22 rfl (n.heap.size+1) 95 cN _ 25 408 Tryz.underlying22 cO cQ cR cS rfl au (U v p w) p (bu.flatMap RI.cells) rfl cL.out (aZ.heap.size+1) (some ⟨aZ.heap.size,0,none⟩) 1 1 (#[E,F,G,H,I,U K L M,U N Q R,T,V,W,U X Y ad,ah,aj,U B C D,U al an ao,U ap ar av,ax,ay,U aA aB aC,U aD aE aF,U aJ aL aM,aN,aO,aP,aQ]:Array Value).toList rfl cM.out bl (by have:=bt.out.1;simp only[maxLen];omega) (by have:=bt.out.1;omega) (by have:=s.out.size;have:=aY.out.size;have:=J.lt z.out.bx;simp;omega) ?_;intro d dt ck bA cK;obtain⟨du,dv,rfl,dx⟩:=bo ck;have bO:∀d,d<n.heap.size+1->some d≠(Value.slice v p w).ownBlock:=λd h e=>by
     obtain⟨d,f,g,dw⟩:=bo bf.out.own;rcases dw with cl|⟨dy,cl,dz⟩
     ·rw[cl]at e;cases e
     rw[cl]at e;injection e with e;omega
    have cl:=Z (H2.push bf.out c9.out a6 bA ck);have d:=bf.out.same a6.out;have e:=Z (J.grown d.bx bA (bO _ (Nat.lt_succ_self _)));have f:=Z (J.grown (qb a6 ci).out bA (bO _ (Nat.lt_succ_of_lt (J.lt b5.out))));have g:ac dt (am n 0) (U v p w):=J.cell e.out 0;have e:=λb=>J.frozen e.out b;refine a0 _ _ (λ_=>⟨g,J.cell f.out 0,λa q a5=>(World.cell?_of_block (bA.block t (aT bv.out (bR (bR s.size aY.out.size) a6.out.size)) (bO _ (Nat.lt_succ_of_lt bv.out)))).trans ((a6.out.cell (aT bv.out (bR s.size aY.out.size))).trans (cj.2.2 a q a5))⟩) ?_;clear a0 bw ck bA cK bO d cL cM a6 u cj;try simp only[Act.put,o2,o3,o4]
    refine sY _ _ _ _ ak ?_;refine tq 9 ?_;refine dp 10 (λbw a0=>?_);go_simp;refine a0 _ _ ?_;clear a0 bw;try simp only[Act.put,o2,o3,o4]
    refine wpAny_done ak ?_ _;go_wp2_with fail
    go_roundg (c-b)
    case measure=>have:=bK.out;omega
    exact⟨b+1,a,du,p+1,dv,bu++[⟨E,F,G,H,I,⟨K,L,M⟩,di,⟨N,Q,R⟩,dj,T,V,W,⟨X,Y,ad⟩,dk,ah,aj,⟨B,C,D⟩,dl,⟨al,an,ao⟩,dm,⟨ap,ar,av⟩,dn,.mk ax ay ⟨aA,aB,aC⟩ dq ⟨aD,aE,aF⟩ dr ⟨aJ,aL,aM⟩ ds aN aO aP aQ⟩],dg,rfl,by go_num,by omega,by have:=bK.out;omega,cg,Z (by rw[<-cb.out,dh];simp),cl,by omega,by omega⟩
end Go.Proofs.YteamkimbmdgdbaaGreatDoor

import Derived.Test.YteamkimbmdgdbaaGreatDoorK01
import Derived.Test.YteamkimbmdgdbaaGreatDoorK04
import Derived.Test.YteamkimbmdgdbaaGreatDoorK18
import Derived.Test.YteamkimbmdgdbaaGreatDoorK26
import Derived.Test.YteamkimbmdgdbaaGreatDoorK28
import Derived.Test.YteamkimbmdgdbaaGreatDoorK29
import Derived.Test.YteamkimbmdgdbaaGreatDoorK31
import Derived.Test.YteamkimbmdgdbaaGreatDoorK32
import Derived.Outline
set_option linter.unusedSimpArgs false
set_option linter.unusedVariables false
set_option maxHeartbeats 16000000
set_option maxRecDepth 100000
namespace Go.Proofs.YteamkimbmdgdbaaGreatDoor
open Go.RowKit
theorem IM (a:At) (b:List At):d9 (a::b)=a.name::a.was++d9 b:=by simp[d9]
theorem Je {b:Tb} {a:Cg} (h:gm b a=0):bD a.name=true/\bH b.attrs a.name<0:=by
 unfold gm at h;cases hn:bD a.name with
 |false=>rw[hn]at h;simp at h
 |true=>
  rw[hn]at h;simp only[if_true]at h;by_cases c:0<=bH b.attrs a.name
  ·rw[if_pos c]at h;cases h
  exact⟨rfl,by omega⟩
theorem Jf {a:Cg} (h:g1 a=true) (b:aw) (c:bm):gB ⟨b,a.dE,c,a.dflt⟩=true:=h
theorem JJ {a:Tb} {b:Cg} (c:mc a) (f:b.kind=1) (h:gn a b (bH a.attrs b.attr).toNat=0):mc (dt a b):=by
 unfold gn at h;rw[if_pos f]at h;cases ht:g1 b with
 |false=>rw[ht]at h;simp at h
 |true=>
  rw[ht]at h;simp only[if_true]at h;by_cases d:gm a b=0
  ·rw[if_neg (by simpa using d)]at h
   by_cases g:a.attrs.length=12
   ·rw[if_pos g]at h;cases h
   obtain⟨l,m⟩:=Je d;have g:(dt a b).attrs=a.attrs++[⟨b.name,b.dE,[],b.dflt⟩]:=by simp[dt,g2,f]
   have i:(dt a b).key=a.key:=by simp[dt,ni,f]
   have j:d9 (dt a b).attrs=d9 a.attrs++[b.name]:=by rw[g,D3];simp[d9]
   have n:(dt a b).attrs.length=a.attrs.length+1:=by rw[g];simp
   have:=c.rZ;refine⟨c.nm,by omega,by omega,by rw[i];exact c.k1,?_,?_,?_,?_⟩
   ·intro o k
    rw[g]at k;rcases cY k with e|e
    ·exact c.at_ o e
    rw[List.mem_singleton]at e;subst e;exact Jf ht _ _
   ·intro o k
    rw[j]at k;rcases cY k with e|e
    ·exact c.names o e
    rw[List.mem_singleton]at e;subst e;exact l
   ·rw[j,List.nodup_append]
    refine⟨c.nodup,by simp,?_⟩;intro a k a e o;rw[List.mem_singleton]at e;subst e o;exact D4 m k
   intro b a;rw[i]at a⊢;have:=oR.1 (c.key b a);rw[oR,n];exact⟨⟨this.1.1,by omega⟩,this.2⟩
  rw[if_pos d]at h;exact absurd h d
theorem JK {a:Tb} {b:Cg} (c:mc a) (j:b.kind=4) (d:0<=bH a.attrs b.attr) (h:gn a b (bH a.attrs b.attr).toNat=0):mc (dt a b):=by
 obtain⟨f,k⟩:∃f:Nat,bH a.attrs b.attr=f:=⟨_,(Int.toNat_of_nonneg d).symm⟩;have i:f<a.attrs.length:=by have:=(nj a.attrs b.attr).2;omega
 rw[k]at h;simp only[Int.toNat_natCast]at h;unfold gn at h;rw[if_neg ae,if_neg ae,if_neg ae]at h;cases ht:g1 b with
 |false=>rw[ht]at h;simp at h
 |true=>
  obtain⟨i,n,g,o⟩:=D2 a.attrs f i;obtain⟨d,p⟩:∃d,d=a.attrs[f]:=⟨_,rfl⟩;rw[<-p]at g;have i:(dt a b).attrs=i++⟨d.name,b.dE,d.was,b.dflt⟩::n:=by
   have:(dt a b).attrs=a.attrs.modify f (λd=>⟨d.name,b.dE,d.was,b.dflt⟩):=by simp[dt,g2,j,k]
   rw[this,g,<-o,r0]
  have d:(dt a b).key=a.key:=by simp[dt,ni,j]
  have f:d9 (dt a b).attrs=d9 a.attrs:=by rw[i,g,D3,D3,IM,IM]
  have a:(dt a b).attrs.length=a.attrs.length:=by rw[i,g];simp
  refine⟨c.nm,by rw[a];exact c.l1,by rw[a];exact c.rZ,by rw[d];exact c.k1,?_,by rw[f];exact c.names,by rw[f];exact c.nodup,by rw[d,a];exact c.key⟩;intro l m;rw[i]at m;rcases cY m with e|e
  ·exact c.at_ l (by rw[g];exact jX (.inl e))
  rcases dd e with e|e
  ·subst e;exact Jf ht _ _
  exact c.at_ l (by rw[g];exact jX (.inr (List.mem_cons_of_mem _ e)))
end Go.Proofs.YteamkimbmdgdbaaGreatDoor
namespace Go.Proofs.YteamkimbmdgdbaaGreatDoor
open Go.RowKit
theorem JL {a:Tb} {b:Cg} (d:mc a) (i:b.kind=3) (j:0<=bH a.attrs b.attr) (h:gn a b (bH a.attrs b.attr).toNat=0):mc (dt a b):=by
 obtain⟨g,o⟩:∃g:Nat,bH a.attrs b.attr=g:=⟨_,(Int.toNat_of_nonneg j).symm⟩;have j:g<a.attrs.length:=by have:=(nj a.attrs b.attr).2;omega
 unfold gn at h;rw[if_neg ae,if_neg ae,if_pos i]at h;obtain⟨p,q⟩:=Je h;obtain⟨k,j,e,r⟩:=D2 a.attrs g j;obtain⟨c,s⟩:∃c,c=a.attrs[g]:=⟨_,rfl⟩;rw[<-s]at e;have k:(dt a b).attrs=k++⟨b.name,c.kind,c.was++[c.name],c.dflt⟩::j:=by
  have:(dt a b).attrs=a.attrs.modify g (λc=>⟨b.name,c.kind,c.was++[c.name],c.dflt⟩):=by simp[dt,g2,i,o]
  rw[this,e,<-r,r0]
 have g:(dt a b).key=a.key:=by simp[dt,ni,i]
 have l:(d9 (dt a b).attrs).Perm (b.name::d9 a.attrs):=by
  rw[k,e,D3,D3,IM,IM];simp only;have f:(b.name::(c.was++[c.name])++d9 j).Perm (b.name::(c.name::c.was++d9 j)):=by
   rw[List.cons_append];refine List.Perm.cons _ ?_;exact List.Perm.append_right _ (List.perm_append_singleton _ _)
  refine(List.Perm.append_left _ f).trans ?_;exact List.perm_middle
 have a:(dt a b).attrs.length=a.attrs.length:=by rw[k,e];simp
 refine⟨d.nm,by rw[a];exact d.l1,by rw[a];exact d.rZ,by rw[g];exact d.k1,?_,?_,?_,by rw[g,a];exact d.key⟩
 ·intro m n
  rw[k]at n;rcases cY n with f|f
  ·exact d.at_ m (by rw[e];exact jX (.inl f))
  rcases dd f with f|f
  ·subst f
   have a:=d.at_ c (by rw[e];exact jX (.inr List.mem_cons_self));exact a
  exact d.at_ m (by rw[e];exact jX (.inr (List.mem_cons_of_mem _ f)))
 ·intro m n
  rcases dd (l.mem_iff.1 n)with f|f
  ·subst f;exact p
  exact d.names m f
 rw[l.nodup_iff,List.nodup_cons];exact⟨D4 q,d.nodup⟩
theorem Jg (a:List Int) (c:Int->Int) (b:Nat) (d:b<a.length):(a.map c).getD b 0=c (a.getD b 0):=by
 simp[List.getD_eq_getElem?_getD,d]
theorem I4 (a:List Int) (b:Nat) (c:b<a.length):a.getD b 0∈a:=by
 simp[List.getD_eq_getElem?_getD,c]
theorem JM {a:Tb} {b:Cg} (c:mc a) (j:b.kind=2) (e:0<=bH a.attrs b.attr) (h:gn a b (bH a.attrs b.attr).toNat=0):mc (dt a b):=by
 obtain⟨d,k⟩:∃d:Nat,bH a.attrs b.attr=d:=⟨_,(Int.toNat_of_nonneg e).symm⟩;have f:d<a.attrs.length:=by have:=(nj a.attrs b.attr).2;omega
 rw[k]at h;simp only[Int.toNat_natCast]at h;unfold gn at h;rw[if_neg ae,if_pos j]at h;have l:∀e∈a.key,e≠(d:Int):=by
  intro e g i;have:a.key.any (λe=>decide (e=(d:Int)))=true:=List.any_eq_true.2 ⟨e,g,by simp[i]⟩;rw[this]at h;simp at h
 obtain⟨q,r,f,s⟩:=D2 a.attrs d f;obtain⟨m,m⟩:∃m,m=a.attrs[d]:=⟨_,rfl⟩;rw[<-m]at f;have m:(dt a b).attrs=q++r:=by
  have:(dt a b).attrs=a.attrs.eraseIdx d:=by simp[dt,g2,j,k]
  rw[this,f,<-s,vV]
 have n:(dt a b).key=a.key.map (λe=>if(d:Int)<e then e-1 else e):=by simp[dt,ni,j,k]
 have d:(dt a b).attrs.length+1=a.attrs.length:=by rw[m,f];simp;omega
 have o:(dt a b).key.length=a.key.length:=by rw[n,List.length_map]
 have d:=oR.1 (c.key 0 c.k1);have d:=l _ (I4 a.key 0 c.k1);have d:(d9 (dt a b).attrs).Sublist (d9 a.attrs):=by
  rw[m,f,D3,D3,IM];exact List.Sublist.append_left (List.sublist_append_right _ _) _
 have:=c.rZ;refine⟨c.nm,by omega,by omega,by rw[o];exact c.k1,?_,λb g=>c.names b (d.subset g),c.nodup.sublist d,?_⟩
 ·intro b g
  rw[m]at g;refine c.at_ b ?_;rw[f];rcases cY g with i|i
  ·exact jX (.inl i)
  exact jX (.inr (List.mem_cons_of_mem _ i))
 intro i b;rw[o]at b;have t:=oR.1 (c.key i b);have c:=l _ (I4 a.key i b);rw[oR,n,Jg _ _ _ b];refine⟨by split<;>omega,?_⟩;rcases t.2 with p|p
 ·exact .inl p
 by_cases b:i=0
 ·exact .inl b
 right
 rw[Jg _ _ _ ae];have a:=l _ (I4 a.key (i-1) ae);split<;>split<;>omega
theorem JN {c:Tb} {b:Cg} (d:mc c) (f:d7 b=true) (e:b.kind≠1->0<=bH c.attrs b.attr) (h:gn c b (bH c.attrs b.attr).toNat=0):mc (dt c b):=by
 rcases vW f with a|a|a|a
 ·exact JJ d a h
 ·exact JM d a (e ae) h
 ·exact JL d a (e ae) h
 exact JK d a (e ae) h
theorem JO {a c:List Tb} (e:c.length=a.length) (f:∀b (h:b<a.length),(c[b]'ae).name=a[b].name) (d:aw):cS c d=cS a d:=by
 have:c.map Tb.name=a.map Tb.name:=by
  apply List.ext_getElem
  ·simp[e]
  intro b c a;simp at c a;simpa using f b a
 have b:∀a:List Tb,cS a d=cn (λb=>decide (b=d)) (a.map Tb.name):=by
  intro a;unfold cS cn;rw[List.findIdx?_map];rfl
 rw[b,b,this]
theorem JP (a:List Tb) (c:Cg) (b:Nat) (d:b<a.length):((gC a c)[b]'(by rw[r1];exact d)).name=a[b].name:=by
 simp only[gC,List.getElem_modify];split<;>rfl
end Go.Proofs.YteamkimbmdgdbaaGreatDoor
namespace Go.Proofs.YteamkimbmdgdbaaGreatDoor
open Go.RowKit
def F0 (c:Tb) (b:Cg) (a:Int):Int:=
 if b.kind≠2 then a else if a=bH c.attrs b.attr then -1 else if bH c.attrs b.attr<a then a-1 else a
theorem JQ {b:Tb} {c:Cg} (p:mc b) (r:d7 c=true) (s:c.kind≠1->0<=bH b.attrs c.attr) (h:gn b c (bH b.attrs c.attr).toNat=0)
 (a:Nat) (t:a<b.attrs.length) (u:0<=F0 b c a) (n:aw) (f:b.attrs[a].has n):bH (dt b c).attrs n=F0 b c a:=by
 have v:=Ib (JN p r s h).nodup;suffices w:∃(d:Nat) (o:d<(dt b c).attrs.length),F0 b c a=d/\(dt b c).attrs[d].has n by
  obtain⟨d,o,e,g⟩:=w;rw[e];exact Ip v d o n g
 have i:b.attrs[a]?=some b.attrs[a]:=List.getElem?_eq_getElem t;generalize b.attrs[a]=l at f i;have m:∀(d:Nat) (p:At),(dt b c).attrs[d]?=some p->p.has n->F0 b c a=d->∃(d:Nat) (o:d<(dt b c).attrs.length),F0 b c a=d/\(dt b c).attrs[d].has n:=by
  intro d p e g j;obtain⟨o,e⟩:=List.getElem?_eq_some_iff.1 e;exact⟨d,o,j,by rw[e];exact g⟩
 rcases vY r s with⟨j,g⟩|⟨e,k,A,x,B,y⟩
 ·refine m a l ?_ f (by simp[F0,j])
  rw[g,List.getElem?_append_left t,i]
 rw[x]at i;rcases y with⟨j,g⟩|⟨j,g⟩|⟨j,g⟩
 ·have b:¬(a:Int)=bH b.attrs c.attr:=by
   intro d;unfold F0 at u;rw[if_neg ae,if_pos d]at u;omega
  by_cases d:(a:Nat)<e.length
  ·refine m a l ?_ f ?_
   ·rw[g,List.getElem?_append_left d,<-i,List.getElem?_append_left d]
   unfold F0;rw[if_neg ae,if_neg b,if_neg ae]
  refine m (a-1) l ?_ f ?_
  ·rw[g,List.getElem?_append_right ae,<-i,List.getElem?_append_right ae]
   have:a-e.length=(a-1-e.length)+1:=ae
   rw[this,List.getElem?_cons_succ]
  unfold F0;rw[if_neg ae,if_neg b,if_pos ae];omega
 ·by_cases z:a=e.length
  ·subst z
   refine m e.length ⟨c.name,k.kind,k.was++[k.name],k.dflt⟩ ?_ ?_ (by simp[F0,j])
   ·rw[g];simp
   have:l=k:=by
    have b:=i;simp at b;exact b.symm
   rw[this]at f;rcases f with q|q
   ·right;simp[q]
   right;simp[q]
  refine m a l ?_ f (by simp[F0,j]);rw[g,<-i];by_cases b:a<e.length
  ·rw[List.getElem?_append_left b,List.getElem?_append_left b]
  rw[List.getElem?_append_right ae,List.getElem?_append_right ae];have:a-e.length=(a-e.length-1)+1:=ae
  rw[this,List.getElem?_cons_succ,List.getElem?_cons_succ]
 by_cases q:a=e.length
 ·subst q
  refine m e.length ⟨k.name,c.dE,k.was,c.dflt⟩ ?_ ?_ (by simp[F0,j])
  ·rw[g];simp
  have:l=k:=by
   have b:=i;simp at b;exact b.symm
  rw[this]at f;exact f
 refine m a l ?_ f (by simp[F0,j]);rw[g,<-i];by_cases b:a<e.length
 ·rw[List.getElem?_append_left b,List.getElem?_append_left b]
 rw[List.getElem?_append_right ae,List.getElem?_append_right ae];have:a-e.length=(a-e.length-1)+1:=ae
 rw[this,List.getElem?_cons_succ,List.getElem?_cons_succ]
end Go.Proofs.YteamkimbmdgdbaaGreatDoor
namespace Go.Proofs.YteamkimbmdgdbaaGreatDoor
open Go.RowKit
def JR (d:List Tb) (a:Int) (e:af) (b:Ending):Prop:=
 (a≠0/\b=.returned (.tuple #[.agg #[aa],a]))\/(a=0/\∃(a:Hd) (c:List RT),b=.returned (.tuple #[.agg #[a.val],O 0])/\bI e a c/\c.map RT.tb=d)
end Go.Proofs.YteamkimbmdgdbaaGreatDoor
namespace Go.Proofs.YteamkimbmdgdbaaGreatDoor
open Go.RowKit
theorem JS (h:Hd) (b:List RT) (a:Cg) (c:af) (e:bI c h b) (f:dh b) (g:aG a.name) (i:aG a.dflt.s):
 Calls Tryz.prog 31 #[.agg #[h.val],a.val] c λj d=>JR (gC (b.map RT.tb) a) (dj (b.map RT.tb) a) d j/\ag c d:=
 (En h b a c e f g i).mono λ_ _ h=>⟨h.1.imp id (λ⟨a,b,c,d,e,f,_⟩=>⟨a,b,c,d,e,f⟩),h.2⟩
end Go.Proofs.YteamkimbmdgdbaaGreatDoor
namespace Go.Proofs.YteamkimbmdgdbaaGreatDoor
open Go.RowKit
def RO.To {α β:Type} (φ:α->β) (r:RO α) (r':RO β):Prop:=∀a,r=.ok a->r'=.ok (φ a)
def RO.Nz {α:Type} (r:RO α):Prop:=∀a,r≠.bad 0 a
section
variable {α β γ δ:Type} {φ:α->β} {ψ:γ->δ} {r:RO α} {r':RO β}
theorem RO.To.ok {a:α}:RO.To φ (.ok a) (.ok (φ a)):=λb h=>by injection h with h;rw[h]
theorem RO.To.rfl {r:RO α}:RO.To (λa=>a) r r:=λ_ h=>h
theorem RO.To.bind {c:α->RO γ} {d:β->RO δ} (h:RO.To φ r r') (e:∀a,r=.ok a->RO.To ψ (c a) (d (φ a))):RO.To ψ (r.bind c) (r'.bind d):=λb c=>by
 obtain⟨a,d,c⟩:=RO.ct c;rw[h a d];exact e a d b c
theorem RO.To.ap {b c:Bool} {d a e f:Int} (g:b=true->c=true) (h:b=true->RO.To φ r r'):RO.To φ (RO.ap b d a r) (RO.ap c e f r'):=λe c=>by
 obtain⟨d,c⟩:=RO.ce c;rw[g d];exact h d e c
theorem RO.To.ite {a:Prop} [Decidable a] {b:RO α} {c:RO β} (h:a->RO.To φ r r') (d:¬a->RO.To φ b c):RO.To φ (if a then r else b) (if a then r' else c):=by
 by_cases b:a
 ·rw[if_pos b,if_pos b];exact h b
 rw[if_neg b,if_neg b];exact d b
theorem RO.Nz.ok {a:α}:(RO.ok a).Nz:=λb h=>by cases h
theorem RO.Nz.bind {c:α->RO γ} (h:r.Nz) (d:∀a,(c a).Nz):(r.bind c).Nz:=by
 cases r with
 |ok a=>exact d a
 |bad f a=>exact λb e=>h b (by injection e with h1 h2;rw[h1,h2])
theorem RO.Nz.ap {b:Bool} {c a:Int} (d:r.Nz) (h:c≠0:=by decide):(RO.ap b c a r).Nz:=by
 unfold RO.ap;split
 ·exact d
 exact λc e=>h (by injection e)
theorem RO.Nz.ite {a:Prop} [Decidable a] {b:RO α} (h:r.Nz) (c:b.Nz):(if a then r else b).Nz:=by split<;>assumption
end
theorem F7 (at_:Int) (a:List At) (b:aw):(cO at_ a b).Nz:=.ap .ok
theorem Jh (at_:Int) (a:List At):∀(b:bm) (c:List Int),(dv at_ a c b).Nz
 |[],_=>.ok
 |_::b,_=>(F7 _ _ _).bind λ_=>.ap (Jh at_ a b _)
theorem IN (a:List Tb) (at_:Int) (b:aw):(dS a at_ b).Nz:=.ap .ok
theorem IU (b:List Tb) (at_:Int) (c a:aw):(fC b at_ c a).Nz:=(IN _ _ _).bind λ_=>(F7 _ _ _).bind λ_=>.ok
theorem Ji (a:List At) (at_:Int):∀(b:List cL) (c:List Wg),(fe a at_ c b).Nz
 |[],_=>.ok
 |_::b,_=>RO.Nz.bind (show(pe _ _ _).Nz from(F7 _ _ _).bind λ_=>.ap (.ap (.ap .ok))) λ_=>Ji a at_ b _
theorem Jj (a:List At) (at_:Int):∀(b:List du) (c:List Fx),(fg a at_ c b).Nz
 |[],_=>.ok
 |_::b,_=>(F7 _ _ _).bind λ_=>.ap (.ap (.ap (Jj a at_ b _)))
theorem Jk {at_:Int} {b:dG->RO (Sd×Int)} (c:∀a,(b a).Nz) (a:dG):(jK at_ b a).Nz:=.ite (.ap .ok) (c a)
theorem I5 {at_:Int} {c:dG->RO (Sd×Int)} (a:∀d,(c d).Nz):∀(b:List bB) (d:List cT),(eT at_ c d b).Nz
 |[],_=>.ok
 |_::b,_=>RO.Nz.bind (show(jL _ _ _).Nz from .ap ((Jk a _).bind λ_=>(Jk a _).bind λ_=>.ap (.ap .ok))) λ_=>I5 a b _
theorem Jl (b:List Tb) (at_:Int):∀(a:List Vr) (c:List (ByteArray×Int)),(gG b at_ c a).Nz
 |[],_=>.ok
 |_::a,_=>.ap ((IN _ _ _).bind λ_=>Jl b at_ a _)
theorem IV (at_:Int) (a:List At) (b:aw):(ee at_ a b).Nz:=.ap .ok
theorem I6 (at_:Int) (c:List At):∀(b:bm) (d:List Int) (a:List At),(fz at_ c d a b).Nz
 |[],_,_=>.ok
 |_::b,_,_=>(IV _ _ _).bind λ_=>.ap (I6 at_ c b _ _)
theorem I7 (at_:Int) (b:List At):∀(a r:List At),(hZ at_ b r a).Nz
 |[],_=>.ok
 |_::a,_=>.ite (I7 at_ b a _) (.ap (I7 at_ b a _))
theorem JT (a:List Tb) (b:Int) (c:aw) (d:List bB) (e:bm) (f g:aw) (i at_:Int) (j:List Pl):(cy a b c d e f g i at_ j).Nz:=
 .ap<|.ite ((IN _ _ _).bind λ_=>.ok)<|.ite (.ap ((I5 (λ_=>.ap ((IV _ _ _).bind λ_=>.ok)) _ _).bind λ_=>.ok))<|.ite ((I6 _ _ _ _ _).bind λ_=>.ok)<|
  .ite ((I7 _ _ _ _).bind λ_=>.ap .ok)<|.ite (.ap .ok)<|.ite ((IV _ _ _).bind λ_=>.ap (.ap .ok))<|
   (I6 _ _ _ _ _).bind λ_=>.ap (RO.Nz.bind (.ite (.ap .ok) ((IV _ _ _).bind λ_=>.ap .ok)) λ_=>.ap .ok)
mutual
theorem Jm (a:List Tb):∀b:Ex,(fR a b).Nz
 |.mk _ _ kids _ _ _ _ _ _=>by
  rw[fR];exact(Jn a kids).bind λ_=>.ap ((JT _ _ _ _ _ _ _ _ _ _).bind λ_=>.ok)
theorem Jn (a:List Tb):∀b:List Ex,(fi a b).Nz
 |[]=>by rw[fi];exact .ok
 |e::es=>by
  rw[fi];exact(Jm a e).bind λ_=>(Jn a es).bind λ_=>.ok
end
theorem Jo (a:List Tb) (b:aI) (c:Int):(jJ a b c).Nz:=(IN _ _ _).bind λ_=>.ap ((Jh _ _ _ _).bind λ_=>.ok)
theorem JU (a:Su) (b:aI):(db a b).Nz:=
 .ite (.ap (.ap .ok))<|.ite ((IU _ _ _ _).bind λ_=>RO.Nz.bind (.ite .ok (.ite (.ap .ok) (.ite (.ap .ok) (λa c=>by cases c)))) λ_=>.ok)<|
  .ite ((IN _ _ _).bind λ_=>.ap (.ap ((Ji _ _ _ _).bind λ_=>.ok)))<|.ite ((IU _ _ _ _).bind λ_=>.ap (.ap (.ap .ok)))<|
  .ite ((Jo _ _ _).bind λ_=>.ok)<|.ite ((Jo _ _ _).bind λ_=>(F7 _ _ _).bind λ_=>.ap ((Jj _ _ _ _).bind λ_=>.ok))<|
  .ite ((IU _ _ _ _).bind λ_=>(IU _ _ _ _).bind λ_=>.ap .ok)<|
  .ite (.ap ((Jl _ _ _ _).bind λ_=>(I5 (λ_=>.ap ((F7 _ _ _).bind λ_=>.ok)) _ _).bind λ_=>.ok))<|.ite ((Jm _ _).bind λ_=>.ok) .ok
def F3 (a b:List At):Prop:=∀c,0<=bH a c->bH b c=bH a c/\(cE b (bH a c)).kind=(cE a (bH a c)).kind
def F4 (g:ByteArray->ByteArray) (a:aw):ByteArray:=if a=e0 then e0 else g a
structure F6 (g:ByteArray->ByteArray) (T U:List Tb):Prop where
 f:∀s,0<=cS T s->cS U (g s)=cS T s
 f2:∀s,0<=cS T s->cS U (F4 g s)=cS T s
 c:∀t:Int,0<=t/\t<T.length->F3 (dw T t).attrs (dw U t).attrs
mutual
def F8 (g:ByteArray->ByteArray):Ex->Ex
 |.mk kind table kids conds names attr cN agg at_=>.mk kind (if kind=1 then g table else table) (F5 g kids) conds names attr cN agg at_
def F5 (g:ByteArray->ByteArray):List Ex->List Ex
 |[]=>[]
 |e::l=>F8 g e::F5 g l
end
def F2 (g:ByteArray->ByteArray) (a:aI):aI:=
 {a with name:=if a.kind=1 then g a.name else a.name,table:=F4 g a.table,other:=F4 g a.other,vars:=a.vars.map λb=>{b with table:=g b.table},expr:=F8 g a.expr}
section
variable {a b:List At} {at_:Int}
theorem Jp {b:aw} {c:Int} (h:cO at_ a b=.ok c):0<=bH a b/\c=bH a b:=by
 unfold cO at h;obtain⟨d,h⟩:=RO.ce h;injection h with h
 exact⟨of_decide_eq_true d,h.symm⟩
theorem IJ (h:F3 a b) (c:aw):RO.To (λd=>d) (cO at_ a c) (cO at_ b c):=λd f=>by
 obtain⟨e,rfl⟩:=Jp f;unfold cO;rw[(h c e).1,decide_eq_true e];rfl
theorem IW (h:F3 a b) {d:aw} {c:Int} (e:cO at_ a d=.ok c):(cE b c).kind=(cE a c).kind:=by
 obtain⟨f,rfl⟩:=Jp e;exact(h d f).2
theorem Jq (h:F3 a b):∀(c:bm) (d:List Int),RO.To (λe=>e) (dv at_ a d c) (dv at_ b d c)
 |[],_=>.rfl
 |s::c,_=>(IJ h s).bind λ_ _=>.ap id λ_=>Jq h c _
theorem Jr (h:F3 a b):∀(d:List cL) (e:List Wg),RO.To (λc=>c) (fe a at_ e d) (fe b at_ e d)
 |[],_=>.rfl
 |y::d,_=>RO.To.bind (φ:=λc=>c) (show RO.To (λc=>c) (pe a at_ y) (pe b at_ y)from(IJ h _).bind λc c=>.ap id λ_=>.ap id λ_=>.ap (λe=>by rw[IW h c];exact e) λ_=>.rfl) λ_ _=>Jr h d _
theorem Js (h:F3 a b):∀(c:List du) (d:List Fx),RO.To (λe=>e) (fg a at_ d c) (fg b at_ d c)
 |[],_=>.rfl
 |f::c,_=>(IJ h _).bind λe d=>.ap id λ_=>.ap id λ_=>.ap (λe=>by rw[IW h d];exact e) λ_=>Js h c _
theorem Jt {c g:dG->RO (Sd×Int)} (h:∀b,RO.To (λa=>a) (c b) (g b)):∀(d:List bB) (e:List cT),RO.To (λa=>a) (eT at_ c e d) (eT at_ g e d)
 |[],_=>.rfl
 |a::d,_=>RO.To.bind (φ:=λa=>a) (show RO.To (λa=>a) (jL at_ c a) (jL at_ g a)from .ap id λ_=>
  have a:∀b,RO.To (λa=>a) (jK at_ c b) (jK at_ g b):=λb=>.ite (λ_=>.rfl) (λ_=>h b)
  (a _).bind λ_ _=>(a _).bind λ_ _=>.rfl) λ_ _=>Jt h d _
end
section
variable {T U:List Tb} {g:ByteArray->ByteArray} {at_:Int} (h:F6 g T U)
include h
theorem Ju (a:aw):RO.To (λb=>b) (dS T at_ a) (dS U at_ (g a)):=λb b=>by
 unfold dS at*;obtain⟨c,b⟩:=RO.ce b;rw[h.f a (of_decide_eq_true c),c];exact b
theorem I8 (a:aw):RO.To (λb=>b) (dS T at_ a) (dS U at_ (F4 g a)):=λb b=>by
 unfold dS at*;obtain⟨c,b⟩:=RO.ce b;rw[h.f2 a (of_decide_eq_true c),c];exact b
theorem IX (b a:aw):RO.To (λd=>d) (fC T at_ b a) (fC U at_ (F4 g b) a):=
 (I8 h b).bind λ_ b=>(IJ (h.c _ (qz b)) a).bind λd d=>λe e=>by
  rw[IW (h.c _ (qz b)) d];exact e
theorem Jv (a:aI) (b:Int) (e:a.kind≠1):RO.To (λf=>f) (jJ T a b) (jJ U (F2 g a) b):=by
 have i:(F2 g a).name=a.name:=if_neg e;show RO.To _ _ ((dS U a.at_ (F4 g a.table)).bind λd=>RO.ap (decide (0<a.names.length)) 1 a.at_<|(dv a.at_ (dw U d).attrs [] a.names).bind λe=>.ok {Ru.zero with kind:=b,name:=(F2 g a).name,table:=d,cD:=e});rw[i];exact(I8 h _).bind λ_ a=>.ap id λ_=>(Jq (h.c _ (qz a)) _ _).bind λ_ _=>.rfl
omit h in
theorem Jw {b:aI} {c:Int} {r:Ru} (a:jJ T b c=.ok r):0<=r.table/\r.table<T.length:=by
 unfold jJ at a;obtain⟨b,d,a⟩:=RO.ct a;obtain⟨_,a⟩:=RO.ce a;obtain⟨_,_,a⟩:=RO.ct a;injection a with a
 rw[<-a];exact qz d
theorem Jx:∀(a:List Vr) (b:List (ByteArray×Int)),RO.To (λc=>c) (gG T at_ b a) (gG U at_ b (a.map λv=>{v with table:=g v.table}))
 |[],_=>.rfl
 |v::a,_=>.ap id λ_=>(Ju h _).bind λ_ _=>Jx a _
omit h in
theorem Jy:∀(e:List Vr) (d r:List (ByteArray×Int)),gG T at_ d e=.ok r->(∀b∈d,0<=b.2/\b.2<T.length)->∀b∈r,0<=b.2/\b.2<T.length
 |[],d,r,a,hl=>by
  rw[gG]at a;injection a with a
  rw[<-a];exact hl
 |v::e,d,r,a,hl=>by
  rw[gG]at a;obtain⟨_,a⟩:=RO.ce a;obtain⟨d,f,a⟩:=RO.ct a;refine Jy e _ r a (λb c=>?_);rcases gA c with c|c
  ·exact hl b c
  rw[c];exact qz f
theorem JV {b:List (ByteArray×Int)} (j:∀a∈b,0<=a.2/\a.2<T.length) (d:dG):RO.To (λk=>k) (hY T at_ b d) (hY U at_ b d):=by
 unfold hY;refine .ap id λe=>?_;have f:F3 (dw T ((b[(cn (λa:ByteArray×Int=>decide (a.1=d.var)) b).toNat]?).getD (e0,0)).2).attrs (dw U ((b[(cn (λa:ByteArray×Int=>decide (a.1=d.var)) b).toNat]?).getD (e0,0)).2).attrs:=by
  refine h.c _ ?_;rcases mj (λa:ByteArray×Int=>decide (a.1=d.var)) b with⟨_,l⟩|⟨q,g,m,_⟩
  ·rw[List.any_eq_true]at e
   obtain⟨a,n,i⟩:=e;obtain⟨o,p,rfl⟩:=List.mem_iff_getElem.1 n;rw[l o p]at i;cases i
  rw[m,Int.toNat_natCast,List.getElem?_eq_getElem g];exact j _ (List.getElem_mem g)
 exact(IJ f _).bind λa a=>λb b=>by
  rw[IW f a];exact b
theorem JW (l:∀a:Int,0<=a/\a<T.length->(dw U a).attrs.map iY=(dw T a).attrs.map iY) (b:Int) (c:aw) (d:List bB) (e:bm) (f i:aw) (j:Int) (k:List Pl):
 RO.To (λm=>m) (cy T b c d e f i j at_ k) (cy U b (if b=1 then g c else c) d e f i j at_ k):=by
 unfold cy;refine .ap id λ_=>.ite (λb=>?_) (λ_=>.rfl);rw[if_pos b];exact(Ju h _).bind λa b=>λc c=>by rw[l a (qz b)];exact c
end
mutual
theorem Jz {T U:List Tb} {g:ByteArray->ByteArray} (h:F6 g T U) (b:∀a:Int,0<=a/\a<T.length->(dw U a).attrs.map iY=(dw T a).attrs.map iY):∀a:Ex,RO.To (λc=>c) (fR T a) (fR U (F8 g a))
 |.mk _ _ kids _ _ _ _ _ _=>by
  rw[fR,F8,fR];exact(JA h b kids).bind λ_ _=>.ap id λ_=>(JW h b _ _ _ _ _ _ _ _).bind λ_ _=>.rfl
theorem JA {T U:List Tb} {g:ByteArray->ByteArray} (h:F6 g T U) (b:∀a:Int,0<=a/\a<T.length->(dw U a).attrs.map iY=(dw T a).attrs.map iY):∀a:List Ex,RO.To (λc=>c) (fi T a) (fi U (F5 g a))
 |[]=>by rw[F5,fi,fi];exact .rfl
 |e::es=>by
  rw[fi,F5,fi];exact(Jz h b e).bind λ_ _=>(JA h b es).bind λ_ _=>.rfl
end
theorem JX {T U:List Tb} {g:ByteArray->ByteArray} (h:F6 g T U) {a:aI} (d:a.kind≠1) (e:a.kind≠10) {b:Su} (f:b.tabs=T) (q:List Qy):
 RO.To (λi=>{i with tabs:=U,queries:=q}) (db b a) (db {b with tabs:=U,queries:=q} (F2 g a)):=by
 subst f;have b:(F2 g a).name=a.name:=if_neg d;unfold db;refine .ite (λ_=>?_) λ_=>.ite (λ_=>?_) λ_=>.ite (λ_=>?_) λ_=>.ite (λ_=>?_) λ_=>.ite (λ_=>?_) λ_=>.ite (λ_=>?_) λ_=>.ite (λ_=>?_) λ_=>.ite (λ_=>?_) λ_=>.ite (λh=>absurd h e) λ_=>.ok
 ·unfold nD
  rw[b];exact .ap id λ_=>.ap id λ_=>.ok
 ·unfold mr
  rw[b];exact(IX h _ _).bind λe _=>RO.To.bind (φ:=λe=>e) .rfl λ_ _=>.ok
 ·unfold mu
  rw[b];exact(I8 h _).bind λe e=>.ap id λ_=>.ap id λ_=>(Jr (h.c _ (qz e)) _ _).bind λ_ _=>.ok
 ·unfold mv
  exact(IX h _ _).bind λe _=>.ap id λ_=>.ap id λ_=>.ap id λ_=>.ok
 ·unfold pf
  exact(Jv h a 1 d).bind λ_ _=>.ok
 ·unfold mw
  exact(Jv h a 2 d).bind λr d=>(IJ (h.c _ (Jw d)) _).bind λe _=>.ap id λ_=>(Js (h.c _ (Jw d)) _ _).bind λ_ _=>.ok
 ·unfold mx
  rw[b];exact(IX h _ _).bind λd _=>(IX h _ _).bind λq _=>.ap id λ_=>.ok
 unfold my;rw[b];refine .ap (λj=>?_) λ_=>(Jx h _ _).bind λb b=>(Jt (JV h (Jy _ _ _ b (λb k=>by cases k))) _ _).bind λ_ _=>.ok;show(aZ ((a.vars.map _).length:Int) 1 3&&_)=true;rw[List.length_map];exact j
theorem JY {T U:List Tb} {g:ByteArray->ByteArray} (h:F6 g T U) {b:aI} (j:b.kind=10->∀e:Int,0<=e/\e<T.length->(dw U e).attrs.map iY=(dw T e).attrs.map iY) (f:b.kind≠1) {a:Su} (i:a.tabs=T):
 RO.To (λc=>{c with tabs:=U}) (db a b) (db {a with tabs:=U} (F2 g b)):=by
 by_cases d:b.kind=10
 ·subst i
  have k:(F2 g b).name=b.name:=if_neg f;have e:∀(a:Su) (e:aI),e.kind=10->db a e=lE a e:=λa e l=>by unfold db;simp[l]
  rw[e a b d,e _ (F2 g b) d];unfold lE;rw[k];exact(Jz h (j d) _).bind λ_ _=>.ok
 intro c b;have e:=It d b;have e:({c with tabs:=U}:Su)={c with tabs:=U,queries:=a.queries}:=by rw[<-e]
 show db _ _=RO.ok ({c with tabs:=U}:Su);rw[e];exact JX h f d i a.queries c b
theorem IK:∀(c:List ((Int×Int)×aI)) (b:Su) (d:List (Int×Int)),(eM b d c).2=[]->d=[]
 |[],b,d,h=>by rw[eM]at h;exact h
 |(g,x)::c,b,d,h=>by
  rw[eM]at h;split at h
  ·cases hp:db b x with
   |ok e=>rw[hp]at h;exact IK c e d h
   |bad e a=>
    rw[hp]at h;dsimp only at h;split at h
    ·exact IK c b d h
    exact absurd (IK c b _ h) ai
  exact absurd (IK c b _ h) ai
theorem Ja {T U:List Tb} {g:ByteArray->ByteArray} (h:F6 g T U) (e:∀d:Int,0<=d/\d<T.length->(dw U d).attrs.map iY=(dw T d).attrs.map iY):∀(c:List ((Int×Int)×aI)) (b:Su),b.tabs=T->(eM b [] c).2=[]->
 eM {b with tabs:=U} [] (c.map λd=>(d.1,F2 g d.2))=({(eM b [] c).1 with tabs:=U},[])
 |[],b,hs,hf=>by rw[eM,List.map_nil,eM]
 |(k,x)::c,b,hs,hf=>by
  rw[List.map_cons,eM];rw[eM]at hf⊢;dsimp only at hf⊢;by_cases f:k.1=0
  case neg=>
   rw[if_neg f]at hf;exact absurd (IK _ _ _ hf) ai
  rw[if_pos f]at hf⊢;rw[if_pos f];by_cases i:x.kind=1
  ·have d:∀(b:Su) (d:aI),d.kind=1->db b d=.ok b:=λb d f=>by unfold db;simp[f]
   rw[d b x i]at hf⊢;rw[d _ (F2 g x) i];exact Ja h e c b hs hf
  cases hp:db b x with
  |ok j=>
   rw[hp]at hf;rw[JY h (λ_=>e) i hs j hp];exact Ja h e c j ((r5 hp).tabs.trans hs) hf
  |bad l a=>
   rw[hp]at hf;dsimp only at hf;by_cases j:l=0
   ·subst j
    exact absurd hp (JU b x a)
   rw[if_neg j]at hf;exact absurd (IK _ _ _ hf) ai
end Go.Proofs.YteamkimbmdgdbaaGreatDoor
namespace Go.Proofs.YteamkimbmdgdbaaGreatDoor
open Go.RowKit
theorem JB {g:Int}:∀(f:List dl) (e a:List At),fy g e f=.ok a->(∀b∈e,b.was.length<=0)->∀b∈a,b.was.length<=0
 |[],e,a,h,hl=>by
  rw[fy]at h;injection h with h
  subst h;exact hl
 |c::f,e,a,h,hl=>by
  rw[fy]at h;obtain⟨_,h⟩:=RO.ce h;obtain⟨_,h⟩:=RO.ce h;obtain⟨_,h⟩:=RO.ce h;obtain⟨_,h⟩:=RO.ce h;refine JB f _ a h (λb d=>?_);rcases gA d with d|d
  ·exact hl b d
  subst d;exact Nat.le_refl _
theorem JC:∀(d:List aI) (b:List Tb) (e:cI) (f:List (Int×Int)),gU b 0->gU (ep b e f d).1 0
 |[],b,e,f,h=>by rw[ep];exact h
 |x::d,b,e,f,h=>by
  rw[p0];refine JC d _ _ _ ?_;unfold fI;split
  ·exact h
  split
  ·cases a:fL b x with
   |ok j=>
    intro g c;rcases gA c with c|c
    ·exact h g c
    subst c;unfold fL at a;obtain⟨_,a⟩:=RO.ce a;obtain⟨b,i,a⟩:=RO.ct a;obtain⟨_,a⟩:=RO.ce a;obtain⟨b,_,a⟩:=RO.ct a;injection a with a
    subst a;exact JB _ _ _ i ai
   |bad c g=>exact h
  exact h
theorem IL:∀(b:List ((Int×Int)×aI)) (a:Su) (c:List (Int×Int)),(eM a c b).1.tabs=a.tabs
 |[],a,c=>rfl
 |(g,x)::b,a,c=>by
  rw[eM];split
  ·cases hp:db a x with
   |ok d=>exact(IL b d c).trans (r5 hp).tabs
   |bad d e=>
    dsimp only;split
    ·exact IL b a c
    exact IL b a _
  exact IL b a _
theorem JZ (c:List aI):gU (cP c []).1.tabs 0:=by
 have b:gU Su.zero.tabs 0:=λd a=>by cases a
 unfold cP;split
 ·dsimp only
  rw[fS];dsimp only;split
  ·rw[IL]
   exact JC _ _ _ _ (λd a=>by cases a)
  exact b
 exact b
theorem J0 (l:bL):gU (ek l []).1.tabs 0:=by
 unfold ek lh;split
 ·exact λb a=>by cases a
 rw[if_pos (.inr rfl)];exact JZ _
end Go.Proofs.YteamkimbmdgdbaaGreatDoor
namespace Go.Proofs.YteamkimbmdgdbaaGreatDoor
open Go.RowKit
mutual
theorem JD:∀a:Ex,F8 id a=a
 |.mk kind table kids conds names attr cN agg at_=>by
  rw[F8,JE kids];simp
theorem JE:∀a:List Ex,F5 id a=a
 |[]=>by rw[F5]
 |e::a=>by rw[F5,JD e,JE a]
end
theorem Jb (a:aw):F4 id a=a:=by
 unfold F4;split
 ·rename_i h;rw[h]
 rfl
theorem J1 (a:aI):F2 id a=a:=by
 unfold F2;rw[Jb,Jb,JD];simp
theorem F3.refl (a:List At):F3 a a:=λ_ _=>⟨rfl,rfl⟩
theorem J2 {b:Tb} {a:Cg} (j:mc b) (k:d7 a=true) (l:a.kind≠1->0<=bH b.attrs a.attr) (h:gn b a (bH b.attrs a.attr).toNat=0) (c:a.kind=1\/a.kind=3):F3 b.attrs (dt b a).attrs:=by
 intro g i;rcases sE b.attrs g with⟨f,_⟩|⟨e,d,f,m⟩
 ·omega
 have i:F0 b a e=e:=by unfold F0;rw[if_pos ae]
 have g:=JQ j k l h e d (by rw[i];omega) g m;rw[i]at g;refine⟨g.trans f.symm,?_⟩;rw[f,HJ d];unfold cE;rw[Int.toNat_natCast];show(((g2 b.attrs a (bH b.attrs a.attr).toNat)[e]?).getD _).kind=_;unfold g2;rcases c with c|c
 ·rw[if_pos c,List.getElem?_append_left d,List.getElem?_eq_getElem d]
  rfl
 rw[if_neg ae,if_neg ae,if_pos c,List.getElem?_modify,List.getElem?_eq_getElem d];simp only[Option.map_eq_map,Option.map_some,Option.getD_some];split<;>rfl
theorem J3 {a:Tb} {b:Cg} (c:b.kind=3):(dt a b).attrs.map iY=a.attrs.map iY:=by
 show(g2 a.attrs b _).map iY=_;unfold g2;rw[if_neg ae,if_neg ae,if_pos c];refine List.ext_getElem ai (λd b e=>?_);rw[List.getElem_map,List.getElem_map,List.getElem_modify];split
 ·unfold iY
  rw[List.append_assoc];cases (a.attrs[d]'(by simpa using e)).was<;>rfl
 rfl
theorem IY {a:List Tb} {b:Nat} (h:b<a.length):dw a (b:Int)=a[b]:=by
 unfold dw;rw[Int.toNat_natCast,List.getElem?_eq_getElem h];rfl
theorem J4 {a:List Tb} {c:Cg} (i:∀d∈a,mc d) (h:dj a c=0) (j:c.kind=1\/c.kind=3):F6 id a (gC a c):=by
 obtain⟨k,b,p,e,l,q,m,n⟩:=rY h;have c:∀b,cS (gC a c) b=cS a b:=λb=>JO (r1 a c) (λf g=>JP a c f g) b;refine⟨λb _=>c b,λb _=>by rw[Jb];exact c b,λd f=>?_⟩;obtain⟨g,rfl⟩:=Int.eq_ofNat_of_zero_le f.1;have a:g<a.length:=by have:=f.2;omega
 rw[IY a,IY (by rw[r1];exact a),vX e l g a];split
 ·rename_i o
  subst o;exact J2 (i _ (List.getElem_mem e)) k m n j
 exact .refl _
theorem J5 {a:List Tb} {c:Cg} (h:dj a c=0) (f:c.kind=3) (b:Int) (d:0<=b/\b<a.length):(dw (gC a c) b).attrs.map iY=(dw a b).attrs.map iY:=by
 obtain⟨b,c,j,g,i,k,l,m⟩:=rY h;obtain⟨e,rfl⟩:=Int.eq_ofNat_of_zero_le d.1;have a:e<a.length:=by have:=d.2;omega
 rw[IY a,IY (by rw[r1];exact a),vX g i e a];split
 ·exact J3 f
 rfl
theorem J6 {xs:List aI} {c:Cg} (h:(cP xs []).2=[]) (b:c.kind=3):
 (dj (cP xs []).1.tabs c≠0->cP xs [c]=(Su.zero,[(dj (cP xs []).1.tabs c,-1)]))/\
 (dj (cP xs []).1.tabs c=0->cP xs [c]=({(cP xs []).1 with tabs:=gC (cP xs []).1.tabs c},[])):=by
 unfold cP at*;split
 case isFalse a=>rw[if_neg a]at h;cases h
 rename_i a
 rw[if_pos a]at h;dsimp only at h⊢;rw[fS]at h⊢;dsimp only at h⊢;obtain⟨a,e⟩:=ll.first xs [] [] [] ⟨by simp,by simp,by simp,by simp⟩;have d:(eM {Su.zero with tabs:=(ep [] [] [] xs).1} [] ((ep [] [] [] xs).2.zip xs)).2=[]:=by
  split at h
  ·assumption
  exact h
 rw[if_pos d];dsimp only;have a:=IL ((ep [] [] [] xs).2.zip xs) {Su.zero with tabs:=(ep [] [] [] xs).1} [];rw[a];dsimp only;refine⟨λa=>?_,λa=>?_⟩
 ·rw[Ep a]
 rw[fS,if_pos a,fS];dsimp only;have a:=Ja (J4 e.r a (.inr b)) (J5 a b) ((ep [] [] [] xs).2.zip xs) {Su.zero with tabs:=(ep [] [] [] xs).1} rfl d;have b:((ep [] [] [] xs).2.zip xs).map (λb=>(b.1,F2 id b.2))=(ep [] [] [] xs).2.zip xs:=by
  simp only[J1];exact List.map_id _
 rw[b]at a;dsimp only at a;rw[a];rfl
theorem J7 {l:bL} {c:Cg} (h:(ek l []).2=[]) (a:c.kind=3):
 (dj (ek l []).1.tabs c≠0->ek l [c]=(Su.zero,[(dj (ek l []).1.tabs c,-1)]))/\
 (dj (ek l []).1.tabs c=0->ek l [c]=({(ek l []).1 with tabs:=gC (ek l []).1.tabs c},[])):=by
 unfold ek lh at*;split
 ·rename_i b b b
  rw[b]at h;cases h
 rename_i b b b
 rw[b]at h;dsimp only at h;rw[if_pos (.inr rfl)]at h⊢;rw[if_neg (by rw[h];simp)];exact J6 h a
end Go.Proofs.YteamkimbmdgdbaaGreatDoor
namespace Go.Proofs.YteamkimbmdgdbaaGreatDoor
open Go.RowKit
theorem IZ (b c:Hd) (a:List Int) (w:af) (f:dQ w b a) (g:dQ w c a):
 Calls Tryz.prog 34 #[b.val,c.val] w λd e=>d=.returned (.bool true)/\ag w e:=
 (FF b c a a w f g).mono (λd e h=>⟨by rw[h.1];simp,h.2⟩)
theorem JF (j k:Hd) (e:List cT) (w:af) (f:aF w 12 j cT.cells e) (l:aF w 12 k cT.cells e):
 Calls Tryz.prog 100 #[j.val,k.val] w λL M=>L=.returned (.bool true)/\ag w M:=by
 obtain⟨m,a,N⟩:=j;obtain⟨n,o,O⟩:=k;have p:e.length=a:=f.1;have P:e.length=o:=l.1;obtain rfl:a=o:=ae
 have j:a<=9223372036854775807:=f.2.1;have Q:=Z f;have R:=Z l;have S:=Z p;have j:((a:Int) !=(a:Int))=false:=ai
 clear f l p P;show Calls Tryz.prog 100 #[U m a N,U n a O] w _;go_enter Tryz.func100,Tryz.ntmps100
 go_upto_region 4 with(fail)
 go_loopg [5] (a+1) (λc d f=>∃b:Nat,d=.int .i64 b/\b<=a/\a-b<c/\Hid (ag w f))
 case atStart=>exact⟨0,rfl,by omega,by omega,Z (ag.refl _)⟩
 case round=>
 obtain⟨d,rfl,aa,q,g⟩:=hrel;have r:=Z q;clear q;by_cases f:d<a
 case pos=>
  have f:(d:Int)<(a:Int):=ae
  have s:d<e.length:=by have:=S.out;omega
  obtain⟨t,u,f,j,b⟩:=(Q.out.same g.out).2.2 d s;have T:m=some ⟨t,u,none⟩:=f;clear f;subst T;obtain⟨v,x,f,j,c⟩:=(R.out.same g.out).2.2 d s;have V:n=some ⟨v,x,none⟩:=f;clear f;subst V;generalize e[d]=W at b c;obtain⟨⟨i,y,⟨z,A,B⟩⟩,C,⟨D,E,⟨F,G,H⟩⟩,I⟩:=W;have e:=bM (show ac wr (ab t (u+d*12)) i by have h:=b 0 _ rfl;simpa using h);have e:=bM (b 1 _ rfl);have e:=bM (b 2 _ rfl);have e:=bM (b 3 _ rfl);have e:=bM (b 4 _ rfl);have e:=bM (b 5 _ rfl);have e:=bM (b 6 _ rfl);have e:=bM (b 7 _ rfl);have e:=bM (b 8 _ rfl);have e:=bM (b 9 _ rfl);have e:=bM (b 10 _ rfl);have e:=bM (b 11 _ rfl);have e:=bM (show ac wr (ab v (x+d*12)) i by have h:=c 0 _ rfl;simpa using h);have e:=bM (c 1 _ rfl);have e:=bM (c 2 _ rfl);have e:=bM (c 3 _ rfl);have e:=bM (c 4 _ rfl);have e:=bM (c 5 _ rfl);have e:=bM (c 6 _ rfl);have e:=bM (c 7 _ rfl);have e:=bM (c 8 _ rfl);have e:=bM (c 9 _ rfl);have e:=bM (c 10 _ rfl);have e:=bM (c 11 _ rfl);clear b c;have b:(i !=i)=false:=ai
  have b:(y !=y)=false:=ai
  have b:(z !=z)=false:=ai
  have b:(A !=A)=false:=ai
  have b:(B.toList==B.toList)=true:=ai
  have b:(C !=C)=false:=ai
  have b:(D !=D)=false:=ai
  have b:(E !=E)=false:=ai
  have b:(F !=F)=false:=ai
  have b:(G !=G)=false:=ai
  have b:(H.toList==H.toList)=true:=ai
  have b:(I !=I)=false:=ai
  go_upto_region 6 with(fail)
  refine wp_region_quiet_below ak ak ?_;repeat (go_big_quiet_step (fail))
  refine wpQuiet_nil ?_;intro _ X;obtain⟨⟨J,osq⟩,Y⟩:=X;subst Y;have K:=Z (ag.reg wr J osq);generalize Sort.grow (redrawn wr J) osq=ad at K⊢;go_wp2;go_roundg (a-d)
  case measure=>have:=r.out;omega
  exact⟨d+1,by go_num,by omega,by have:=r.out;omega,Z (g.out.trans K.out)⟩
 case neg=>
 have a:¬(d:Int)<(a:Int):=ae
 go_wp2;go_ret;exact⟨rfl,g.out⟩
def I0 (b:af) (c d:aB):Prop:=∀a,ag b a->Calls Tryz.prog 50 #[.agg c.cells.toArray,.agg d.cells.toArray] a λb c=>b=.returned (.bool true)/\ag a c
theorem J8 {d:af} {m n:Int} {I J:Hd} {i j:List aB} {t u:Hd} {q:List cT} {v b:Hd} {r:List Int} {o p:Int} {x y:Hd} {z A:List RA}
 (B:aF d 8 I aB.cells i) (K:aF d 8 J aB.cells j) (Q:aF d 12 t cT.cells q) (L:aF d 12 u cT.cells q) (R:dQ d v r) (S:dQ d b r) (T:aF d 6 x RA.cells z) (V:aF d 6 y RA.cells A)
 (W:fh (z.map RA.at_) (A.map RA.at_)=true) (a6:i.length=j.length) (X:∀a (h:a<i.length) (Y:a<j.length),I0 d i[a] j[a]):I0 d (.mk m n I i t q v r o p x z) (.mk m n J j u q b r o p y A):=by
 intro g e;have M:=Z (λc (d:ag g c)=>JF t u q c (Q.same (e.trans d)) (L.same (e.trans d)));have N:=Z (λc (d:ag g c)=>IZ v b r c (dQ.same R (e.trans d)) (dQ.same S (e.trans d)));have O:=Z (λc (d:ag g c)=>HZ x y z A c (T.same (e.trans d)) (V.same (e.trans d)) W);have a7:=Z (B.same e);have a8:=Z (K.same e);have a9:=Z (λa h Y c (d:ag g c)=>X a h Y c (e.trans d));obtain⟨aa,c,ba⟩:=I;obtain⟨ad,ah,bb⟩:=J;have aj:i.length=c:=B.1;have al:j.length=ah:=K.1;obtain rfl:c=ah:=ae
 have d:c<=9223372036854775807:=B.2.1;have bc:=Z aj;have bd:=Z al;obtain⟨am,an,ao⟩:=t;obtain⟨ap,ar,au⟩:=u;obtain⟨av,aw,ax⟩:=v;obtain⟨ay,aA,aC⟩:=b;obtain⟨aD,aE,aG⟩:=x;obtain⟨aH,aI,aJ⟩:=y;replace M:Hid (Rt 100 #[U am an ao,U ap ar au] g (.bool true)):=M;replace N:Hid (Rt 34 #[U av aw ax,U ay aA aC] g (.bool true)):=N;replace O:Hid (Rt 57 #[U aD aE aG,U aH aI aJ] g (.bool true)):=O;clear B K Q L R S T V X e W a6 aj al;show Calls Tryz.prog 50 #[.agg #[m,n,U aa c ba,U am an ao,U av aw ax,o,p,U aD aE aG],.agg #[m,n,U ad c bb,U ap ar au,U ay aA aC,o,p,U aH aI aJ]] g _;go_enter Tryz.func50,Tryz.ntmps50
 go_upto_region 1 with(fail)
 obtain⟨r,e,g,d,q⟩:=nb g 105 _;rw[e];clear e;have e:=d;obtain⟨be,r,k,d,t⟩:=nc q 105 _;rw[r];clear r;have aK:=Z (e.out.trans d.out);have l:=qb d g;clear d e g q t;have tk:((c:Int) !=(c:Int))=false:=ai
 have bf:(m !=m)=false:=ai
 have bg:(n !=n)=false:=ai
 have bi:(o !=o)=false:=ai
 have bk:(p !=p)=false:=ai
 have bl:=az l;have bm:=az k;have bo:=aY l;have bp:=aY k;have C:=bh l;have D:=bh k;have bq:=bj l;have br:=bj k;have bs:=bQ l;have bt:=bQ k;have bu:=cd l;have bv:=cd k;go_wp2_with fail
 refine(M.out be aK.out).mono ?_;rintro aL bw ⟨rfl,E⟩;have aM:=Z (aK.out.trans E);have aN:=qb (Z E) l;have aO:=qb (Z E) k;clear bl bm bo bp C D bq br bs bt bu bv E;have bx:=bn aN;have bz:=bn aO;go_wp2_with fail
 refine(N.out bw aM.out).mono ?_;rintro aL bA ⟨rfl,F⟩;have aP:=Z (aM.out.trans F);have aQ:=qb (Z F) aN;have aR:=qb (Z F) aO;clear bx bz F;have bB:=b7 aQ;have bC:=b7 aR;go_wp2_with fail
 refine(O.out bA aP.out).mono ?_;rintro aL bD ⟨rfl,G⟩;have aS:=Z (aP.out.trans G);have bE:=qb (Z G) aQ;have bF:=qb (Z G) aR;clear bB bC G bf bg bi bk tk;go_upto_region 4 with(fail)
 go_loopg [5] (c+1) (λd e f=>∃a:Nat,e=.int .i64 a/\a<=c/\c-a<d/\Hid (ag bD f))
 case atStart=>exact⟨0,rfl,by omega,by omega,Z (ag.refl _)⟩
 case round=>
 obtain⟨a,rfl,cl,aT,s⟩:=hrel;have aU:=Z aT;clear aT;have C:=bh (qb s bE);have D:=bh (qb s bF);by_cases d:a<c
 case neg=>
  have d:¬(a:Int)<(c:Int):=ae
  go_wp2;go_ret;exact⟨rfl,aS.out.trans s.out⟩
 case pos=>
 have d:(a:Int)<(c:Int):=ae
 have aV:a<i.length:=by have:=bc.out;omega
 have aW:a<j.length:=by have:=bd.out;omega
 have P:=Z (aS.out.trans s.out);obtain⟨aX,aZ,d,e,f⟩:=(a7.out.same P.out).2.2 a aV;have bG:aa=some ⟨aX,aZ,none⟩:=d;clear d;subst bG;obtain⟨a0,a1,d,L,b⟩:=(a8.out.same P.out).2.2 a aW;have bH:ad=some ⟨a0,a1,none⟩:=d;clear d;subst bH;have H:=Z (λd (e:ag wr d)=>a9.out a aV aW d (P.out.trans e));obtain⟨bI,d⟩:=aq i[a];obtain⟨bJ,e⟩:=aq j[a];rw[<-d]at f H;rw[<-e]at b H;clear d e;obtain⟨a2,bK,⟨bL,bN,bO⟩,cm,⟨bP,bR,bS⟩,cn,⟨bT,bU,bV⟩,co,bW,bX,⟨bY,bZ,b0⟩,cp⟩:=bI;obtain⟨a3,b1,⟨b2,b3,b4⟩,cq,⟨b5,b6,b8⟩,cr,⟨b9,ca,cb⟩,cs,cc,ce,⟨cf,cg,ch⟩,ct⟩:=bJ;have d:=bM (show ac wr (ab aX (aZ+a*8)) a2 by have h:=f 0 _ rfl;simpa using h);have d:=bM (f 1 _ rfl);have d:=bM (f 2 _ rfl);have d:=bM (f 3 _ rfl);have d:=bM (f 4 _ rfl);have d:=bM (f 5 _ rfl);have d:=bM (f 6 _ rfl);have d:=bM (f 7 _ rfl);have d:=bM (show ac wr (ab a0 (a1+a*8)) a3 by have h:=b 0 _ rfl;simpa using h);have d:=bM (b 1 _ rfl);have d:=bM (b 2 _ rfl);have d:=bM (b 3 _ rfl);have d:=bM (b 4 _ rfl);have d:=bM (b 5 _ rfl);have d:=bM (b 6 _ rfl);have d:=bM (b 7 _ rfl);have d:Hid (Rt 50 #[.agg #[a2,bK,U bL bN bO,U bP bR bS,U bT bU bV,bW,bX,U bY bZ b0],.agg #[a3,b1,U b2 b3 b4,U b5 b6 b8,U b9 ca cb,cc,ce,U cf cg ch]] wr (.bool true)):=H;have ci:=gX (w:=wr) d.out;have e:=bM C;have e:=bM D;clear f b H d;go_upto_region 6 with(fail)
 clear C D;refine wp_region_quiet_below ak ak ?_;repeat (go_big_quiet_step (first|(go_at_call 50;exact ci _ _)))
 refine wpQuiet_nil ?_;intro _ cj;obtain⟨⟨a4,osq⟩,ck⟩:=cj;subst ck;have a5:=Z (ag.reg wr a4 osq);generalize Sort.grow (redrawn wr a4) osq=cu at a5⊢;go_wp2;go_roundg (c-a)
 case measure=>have:=aU.out;omega
 exact⟨a+1,by go_num,by omega,by have:=aU.out;omega,Z (s.out.trans a5.out)⟩
theorem J9 {b a:List At} (h:b=a):fh b a=true:=by rw[h];exact HV a
theorem Ka {c:af} {f g:Nat->Prop} {d:aB} (i:dJ c f d):∀{b:aB},dJ c g b->d.pl=b.pl->I0 c d b:=by
 induction i with
 |mk j u v k w l x m y n=>
  intro b o e;cases o with
  |@mk z A B C D E F G H I J K p L q r M s N t O=>
   rw[aB.pl,aB.pl]at e;injection e with e1 e2 e3 e4 e5 e6 e7 e8
   subst e1 e2 e4 e5 e6 e7;rw[aB.iB,aB.iB]at e3;have b:=congrArg List.length e3;simp only[List.length_map]at b;refine J8 j p k r l s m.a.1 t.a.1 (J9 e8) b (λc h b=>n _ (List.getElem_mem h) (q _ (List.getElem_mem b)) ?_);have c:=congrArg (λd=>d[c]?) e3;simpa[h,b]using c
theorem Kb {aL aM:Nat} {w:af} {h h2:Hd} {aN aO:List RT} {k d:cc} (z:fJ aL w h aN k) (A:fJ aM w h2 aO d) (B:k.qs.map eu.qy=d.qs.map eu.qy):
 Calls Tryz.prog 30 #[.agg (bz h k),.agg (bz h2 d)] w λu aL=>u=.returned (.bool true)/\ag w aL:=by
 have v:=congrArg List.length B;simp only[List.length_map]at v;have aP:=Z (λa (b:a<k.qs.length) (h2:a<d.qs.length)=>show k.qs[a].name=d.qs[a].name/\I0 w k.qs[a].rp d.qs[a].rp by
  have u:(k.qs.map eu.qy)[a]'(by simpa using b)=(d.qs.map eu.qy)[a]'(by simpa using h2):=by simp only[B]
  simp only[List.getElem_map,eu.qy]at u;injection u with s t
  exact⟨s,Ka (z.q _ (List.getElem_mem b)) (A.q _ (List.getElem_mem h2)) t⟩)
 have L1:=Z z.l6;have L2:=Z A.l6;clear z A B;obtain⟨aQ,aR,aS⟩:=h;obtain⟨hA2,aT,c⟩:=h2;obtain⟨⟨aU,aV,aW⟩,⟨aX,aY,aZ⟩,⟨a0,a1,a2⟩,⟨a3,a4,a5⟩,⟨a6,a7,a8⟩,⟨C,b,F⟩,bC,bD,bE,bF,bG,l⟩:=k;obtain⟨⟨a9,ba,bb⟩,⟨bc,bd,be⟩,⟨bf,bg,bh⟩,⟨bi,bj,bk⟩,⟨bl,bm,bn⟩,⟨D,G,H⟩,bH,bI,bJ,bK,bL,m⟩:=d;have I:l.length=b:=L1.out.1;have J:m.length=G:=L2.out.1;have v:l.length=m.length:=v;obtain rfl:b=G:=ae
 have k:b<=9223372036854775807:=L1.out.2.1;have bo:=Z I;have bp:=Z J;have bq:((b:Int) !=(b:Int))=false:=ai
 clear v I J;replace L1:Hid (aF w 9 ⟨C,b,F⟩ eu.cells l):=L1;replace L2:Hid (aF w 9 ⟨D,b,H⟩ eu.cells m):=L2;show Calls Tryz.prog 30 #[.agg #[U aQ aR aS,U aU aV aW,U aX aY aZ,U a0 a1 a2,U a3 a4 a5,U a6 a7 a8,U C b F],.agg #[U hA2 aT c,U a9 ba bb,U bc bd be,U bf bg bh,U bi bj bk,U bl bm bn,U D b H]] w _;go_enter Tryz.func30,Tryz.ntmps30
 go_upto_region 1 with(fail)
 obtain⟨A,u,v,k,z⟩:=nb w 37 _;rw[u];clear u;have u:=k;obtain⟨br,A,K,k,B⟩:=nc z 37 _;rw[A];clear A;have L:=Z (u.out.trans k.out);have M:=qb k v;clear k u v z B;have x:=cd M;have y:=cd K;go_upto_region 4 with(fail)
 clear x y bq;go_loopg [5] (b+1) (λe f g=>∃a:Nat,f=.int .i64 a/\a<=b/\b-a<e/\Hid (ag br g))
 case atStart=>exact⟨0,rfl,by omega,by omega,Z (ag.refl _)⟩
 case round=>
 obtain⟨a,rfl,bN,N,o⟩:=hrel;have O:=Z N;clear N;have x:=cd (qb o M);have y:=cd (qb o K);by_cases k:a<b
 case neg=>
  have e:¬(a:Int)<(b:Int):=ae
  go_wp2;go_ret;exact⟨rfl,L.out.trans o.out⟩
 case pos=>
 have k:(a:Int)<(b:Int):=ae
 have P:a<l.length:=by have:=bo.out;omega
 have Q:a<m.length:=by have:=bp.out;omega
 have E:=Z (L.out.trans o.out);obtain⟨f,g,s,k,e⟩:=(L1.out.same E.out).2.2 a P;have bs:C=some ⟨f,g,none⟩:=s;clear s;subst bs;obtain⟨i,j,t,k,c⟩:=(L2.out.same E.out).2.2 a Q;have bt:D=some ⟨i,j,none⟩:=t;clear t;subst bt;obtain⟨p,k⟩:=aP.out a P Q;have n:=Z (λn (r:ag wr n)=>k n (E.out.trans r));replace p:l[a].name=m[a].name:=p;replace n:Hid (Rt 50 #[.agg l[a].rp.cells.toArray,.agg m[a].rp.cells.toArray] wr (.bool true)):=n;clear k;obtain⟨bu,k⟩:=aq l[a];obtain⟨bv,l⟩:=aq m[a];rw[<-k]at e n p;rw[<-l]at c n p;clear k l;obtain⟨r,⟨R,S,⟨T,d,V⟩,bO,⟨W,X,Y⟩,bP,⟨aa,ad,ah⟩,bQ,aj,al,⟨am,an,ao⟩,bR⟩⟩:=bu;obtain⟨bw,⟨ap,ar,⟨au,av,aw⟩,bS,⟨ax,ay,az⟩,bT,⟨aA,aB,aC⟩,bU,aD,aE,⟨aG,aH,aI⟩,bV⟩⟩:=bv;obtain rfl:r=bw:=p;have k:=bM (show ac wr (ab f (g+a*9)) r by have h:=e 0 _ rfl;simpa using h);have k:=bM (show ac wr (ab i (j+a*9)) r by have h:=c 0 _ rfl;simpa using h);have IP:=bM (show ac wr (ab f (g+a*9+1)) R from e 1 _ rfl);have IQ:=bM (show ac wr (ab f (g+a*9+1+1)) S from e 2 _ rfl);have IR:=bM (show ac wr (ab f (g+a*9+1+2)) (U T d V)from e 3 _ rfl);have IS:=bM (show ac wr (ab f (g+a*9+1+3)) (U W X Y)from e 4 _ rfl);have Kc:=bM (show ac wr (ab f (g+a*9+1+4)) (U aa ad ah)from e 5 _ rfl);have Kd:=bM (show ac wr (ab f (g+a*9+1+5)) aj from e 6 _ rfl);have u16:=bM (show ac wr (ab f (g+a*9+1+6)) al from e 7 _ rfl);have Ke:=bM (show ac wr (ab f (g+a*9+1+7)) (U am an ao)from e 8 _ rfl);have u20:=bM (show ac wr (ab i (j+a*9+1)) ap from c 1 _ rfl);have u21:=bM (show ac wr (ab i (j+a*9+1+1)) ar from c 2 _ rfl);have u22:=bM (show ac wr (ab i (j+a*9+1+2)) (U au av aw)from c 3 _ rfl);have u23:=bM (show ac wr (ab i (j+a*9+1+3)) (U ax ay az)from c 4 _ rfl);have u24:=bM (show ac wr (ab i (j+a*9+1+4)) (U aA aB aC)from c 5 _ rfl);have u25:=bM (show ac wr (ab i (j+a*9+1+5)) aD from c 6 _ rfl);have u26:=bM (show ac wr (ab i (j+a*9+1+6)) aE from c 7 _ rfl);have u27:=bM (show ac wr (ab i (j+a*9+1+7)) (U aG aH aI)from c 8 _ rfl);have d:Hid (Rt 50 #[.agg #[R,S,U T d V,U W X Y,U aa ad ah,aj,al,U am an ao],.agg #[ap,ar,U au av aw,U ax ay az,U aA aB aC,aD,aE,U aG aH aI]] wr (.bool true)):=n;have bx:=gX (w:=wr) d.out;have f:=bM x;have f:=bM y;have f:(r.toList==r.toList)=true:=ai
 clear e c n d;go_upto_region 6 with(fail)
 clear x y;refine wp_region_quiet_below ak ak ?_;repeat (go_big_quiet_step (first|(go_at_call 50;exact bx _ _)))
 refine wpQuiet_nil ?_;intro _ bA;obtain⟨⟨aJ,osq⟩,bB⟩:=bA;subst bB;have aK:=Z (ag.reg wr aJ osq);generalize Sort.grow (redrawn wr aJ) osq=bW at aK⊢;go_wp2;go_roundg (b-a)
 case measure=>have:=O.out;omega
 exact⟨a+1,by go_num,by omega,by have:=O.out;omega,Z (o.out.trans aK.out)⟩
end Go.Proofs.YteamkimbmdgdbaaGreatDoor
namespace Go.Proofs.YteamkimbmdgdbaaGreatDoor
open Go.RowKit
theorem Kf {w:af} {aC n:Nat->Prop} {o p:cG} (e:eZ w aC o) (g:eZ w n p) (h:o.ru=p.ru):
 Calls Tryz.prog 49 #[.agg o.cells.toArray,.agg p.cells.toArray] w λq aC=>q=.returned (.bool true)/\ag w aC:=by
 obtain⟨r,s,t,⟨z,A,B⟩,aD,u,⟨C,a,W⟩,i,v,x,⟨D,E,F⟩,aE,⟨G,H,I⟩,aG⟩:=o;obtain⟨ba,bb,bc,⟨J,K,L⟩,bd,be,⟨M,X,Y⟩,bf,bg,bi,⟨N,O,P⟩,bk,⟨Q,R,S⟩,bl⟩:=p;simp only[cG.ru]at h;injection h with l m e3 e4 e5 e6 e7 e8 e9 e10
 subst l m e3 e4 e5 e6 e7 e8 e9 e10;have aa:i.length=a:=e.lf.1;have aH:i.length=X:=g.lf.1;obtain rfl:a=X:=ae
 have o:a<=9223372036854775807:=e.lf.2.1;have aI:=Z aa;have L1:Hid (aF w 4 ⟨C,a,W⟩ Fx.cells i):=Z e.lf;have L2:Hid (aF w 4 ⟨M,a,Y⟩ Fx.cells i):=Z g.lf;have aJ:Hid (Rt 34 #[U z A B,U J K L] w (.bool true)):=Z (λc b=>IZ ⟨z,A,B⟩ ⟨J,K,L⟩ aD c (dQ.same e.lc b) (dQ.same g.lc b));have aK:Hid (Rt 34 #[U D E F,U N O P] w (.bool true)):=Z (λc b=>IZ ⟨D,E,F⟩ ⟨N,O,P⟩ aE c (dQ.same e.lb b) (dQ.same g.lb b));have aL:Hid (Rt 100 #[U G H I,U Q R S] w (.bool true)):=Z (λc b=>JF ⟨G,H,I⟩ ⟨Q,R,S⟩ aG c (e.ls.same b) (g.ls.same b));clear e g aa aH;show Calls Tryz.prog 49 #[.agg #[r,s,t,U z A B,u,U C a W,v,x,U D E F,U G H I],.agg #[r,s,t,U J K L,u,U M a Y,v,x,U N O P,U Q R S]] w _;go_enter Tryz.func49,Tryz.ntmps49
 go_upto_region 1 with(fail)
 obtain⟨z,g,o,e,p⟩:=nb w 64 _;rw[g];clear g;have g:=e;obtain⟨aM,z,c,e,A⟩:=nc p 64 _;rw[z];clear z;have n:=Z (g.out.trans e.out);have d:=qb e o;clear e g o p A;have ad:(r !=r)=false:=ai
 have ah:(s.toList==s.toList)=true:=ai
 have aj:(t !=t)=false:=ai
 have al:(u !=u)=false:=ai
 have aN:(v !=v)=false:=ai
 have aO:(x !=x)=false:=ai
 have aP:((a:Int) !=(a:Int))=false:=ai
 have aQ:=az d;have aR:=az c;have aS:=aY d;have aT:=aY c;have aU:=bh d;have aV:=bh c;have aW:=bn d;have aX:=bn c;have aZ:=bQ d;have a0:=bQ c;have a1:=cd d;have a2:=cd c;have a3:=b7 d;have a4:=b7 c;go_upto_region 4 with(fail)
 clear aQ aR aS aT aU aV aW aX aZ a0 a1 a2 a3 a4 ad ah aj al aN aO aP;go_loopg [5] (a+1) (λe f g=>∃b:Nat,f=.int .i64 b/\b<=a/\a-b<e/\Hid (ag aM g))
 case atStart=>exact⟨0,rfl,by omega,by omega,Z (ag.refl _)⟩
 case round=>
 obtain⟨b,rfl,bm,am,f⟩:=hrel;have an:=Z am;clear am;have T:=bQ (qb f d);have V:=bQ (qb f c);by_cases e:b<a
 case pos=>
  have e:(b:Int)<(a:Int):=ae
  have ao:b<i.length:=by have:=aI.out;omega
  have ap:=Z (n.out.trans f.out);obtain⟨aq,ar,l,e,j⟩:=(L1.out.same ap.out).2.2 b ao;have a5:C=some ⟨aq,ar,none⟩:=l;clear l;subst a5;obtain⟨au,av,m,e,k⟩:=(L2.out.same ap.out).2.2 b ao;have a6:M=some ⟨au,av,none⟩:=m;clear m;subst a6;generalize i[b]=a7 at j k;obtain⟨y,⟨aw,ax,ay⟩⟩:=a7;have e:=bM (show ac wr (ab aq (ar+b*4)) y by have h:=j 0 _ rfl;simpa using h);have e:=bM (j 1 _ rfl);have e:=bM (j 2 _ rfl);have e:=bM (j 3 _ rfl);have e:=bM (show ac wr (ab au (av+b*4)) y by have h:=k 0 _ rfl;simpa using h);have e:=bM (k 1 _ rfl);have e:=bM (k 2 _ rfl);have e:=bM (k 3 _ rfl);clear j k;have ad:(y !=y)=false:=ai
  have ah:(aw !=aw)=false:=ai
  have aj:(ax !=ax)=false:=ai
  have al:(ay.toList==ay.toList)=true:=ai
  have e:=bM T;have e:=bM V;go_upto_region 6 with(fail)
  clear T V;refine wp_region_quiet_below ak ak ?_;repeat (go_big_quiet_step (fail))
  refine wpQuiet_nil ?_;intro _ a8;obtain⟨⟨aA,osq⟩,a9⟩:=a8;subst a9;have aB:=Z (ag.reg wr aA osq);generalize Sort.grow (redrawn wr aA) osq=bo at aB⊢;go_wp2;go_roundg (a-b)
  case measure=>have:=an.out;omega
  exact⟨b+1,by go_num,by omega,by have:=an.out;omega,Z (f.out.trans aB.out)⟩
 case neg=>
 have a:¬(b:Int)<(a:Int):=ae
 have y:=Z (n.out.trans f.out);have ao:=qb f d;have ap:=qb f c;have aw:=bj ao;have ax:=bj ap;go_wp2_with fail
 refine(aJ.out wr y.out).mono ?_;rintro q ay ⟨rfl,j⟩;have aq:=Z (y.out.trans j);have ar:=qb (Z j) ao;have au:=qb (Z j) ap;clear aw ax j T V;have aA:=bN ar;have aB:=bN au;go_wp2_with fail
 refine(aK.out ay aq.out).mono ?_;rintro q a5 ⟨rfl,k⟩;have av:=Z (aq.out.trans k);have a:=qb (Z k) ar;have b:=qb (Z k) au;clear aA aB k;have a:=iT a;have a:=iT b;go_wp2_with fail
 refine(aL.out a5 av.out).mono ?_;rintro q a ⟨rfl,a6⟩;go_wp2;go_ret;exact⟨rfl,av.out.trans a6⟩
theorem Kg {I aW:Nat} {w:af} {h h2:Hd} {b4 b5:List RT} {x i:cc} (H:fJ I w h b4 x) (I:fJ aW w h2 b5 i)
 (k:x.os=i.os) (n:x.bs=i.bs) (al:x.ms.map ei.mt=i.ms.map ei.mt) (aI:x.ks=i.ks) (aW:x.rs.map cG.ru=i.rs.map cG.ru):
 Calls Tryz.prog 29 #[.agg (bz h x),.agg (bz h2 i)] w λz ay=>z=.returned (.bool true)/\ag w ay:=by
 have aJ:=congrArg List.length al;have aK:=congrArg List.length aW;simp only[List.length_map]at aJ aK;have b6:=Z (λa (b:a<x.ms.length) (h2:a<i.ms.length)=>show x.ms[a].mt=i.ms[a].mt/\fp w _ x.ms[a]/\fp w _ i.ms[a] by
  have z:(x.ms.map ei.mt)[a]'(by simpa using b)=(i.ms.map ei.mt)[a]'(by simpa using h2):=by simp only[al]
  simp only[List.getElem_map]at z;exact⟨z,H.m _ (List.getElem_mem b),I.m _ (List.getElem_mem h2)⟩)
 have aX:=Z (λa (b:a<x.rs.length) (h2:a<i.rs.length) C (c:ag w C)=>show Calls Tryz.prog 49 #[.agg x.rs[a].cells.toArray,.agg i.rs[a].cells.toArray] C λz ay=>z=.returned (.bool true)/\ag C ay by
  have z:(x.rs.map cG.ru)[a]'(by simpa using b)=(i.rs.map cG.ru)[a]'(by simpa using h2):=by simp only[aW]
  simp only[List.getElem_map]at z;exact Kf ((H.r _ (List.getElem_mem b)).keep (Kp.of_same (l:=[]) c) ai) ((I.r _ (List.getElem_mem h2)).keep (Kp.of_same (l:=[]) c) ai) z)
 have L1:=Z H.l1;have L2:=Z H.l2;have L3:=Z H.l3;have aA:=Z H.l4;have aB:=Z H.l5;have aL:=Z I.l1;have aM:=Z I.l2;have M3:=Z I.l3;have aN:=Z I.l4;have aO:=Z I.l5;clear H I al aW;obtain⟨b7,b8,b9⟩:=h;obtain⟨hA2,ca,b⟩:=h2;obtain⟨⟨aZ,o,bi⟩,⟨a0,q,bk⟩,⟨a1,s,bm⟩,⟨a2,t,bo⟩,⟨a3,u,bp⟩,⟨cb,cd,ce⟩,S,T,K,V,W,c4⟩:=x;obtain⟨⟨a4,bq,br⟩,⟨a5,bt,bu⟩,⟨a6,bv,bw⟩,⟨a7,bx,bA⟩,⟨a8,bB,bC⟩,⟨cf,cg,ch⟩,ci,cj,L,ck,X,c5⟩:=i;obtain rfl:S=ci:=k;obtain rfl:T=cj:=n;obtain rfl:V=ck:=aI;have aJ:K.length=L.length:=aJ;have aK:W.length=X.length:=aK;have bD:S.length=o:=L1.out.1;have cl:S.length=bq:=aL.out.1;have bE:T.length=q:=L2.out.1;have cm:T.length=bt:=aM.out.1;have bF:K.length=s:=L3.out.1;have bG:L.length=bv:=M3.out.1;have bH:V.length=t:=aA.out.1;have cn:V.length=bx:=aN.out.1;have bI:W.length=u:=aB.out.1;have bJ:X.length=bB:=aO.out.1;obtain rfl:o=bq:=ae
 obtain rfl:q=bt:=ae
 obtain rfl:s=bv:=ae
 obtain rfl:t=bx:=ae
 obtain rfl:u=bB:=ae
 have v:o<=9223372036854775807:=L1.out.2.1;have d:q<=9223372036854775807:=L2.out.2.1;have a9:s<=9223372036854775807:=L3.out.2.1;have ba:t<=9223372036854775807:=aA.out.2.1;have x:u<=9223372036854775807:=aB.out.2.1;have co:=Z bD;have cp:=Z bE;have cq:=Z bF;have cr:=Z bG;have cs:=Z bH;have ct:=Z bI;have cu:=Z bJ;replace L1:Hid (aF w 2 ⟨aZ,o,bi⟩ Og.cells S):=L1;replace aL:Hid (aF w 2 ⟨a4,o,br⟩ Og.cells S):=aL;replace L2:Hid (aF w 6 ⟨a0,q,bk⟩ Bk.cells T):=L2;replace aM:Hid (aF w 6 ⟨a5,q,bu⟩ Bk.cells T):=aM;replace L3:Hid (aF w 4 ⟨a1,s,bm⟩ ei.cells K):=L3;replace M3:Hid (aF w 4 ⟨a6,s,bw⟩ ei.cells L):=M3;replace aA:Hid (aF w 3 ⟨a2,t,bo⟩ dR.cells V):=aA;replace aN:Hid (aF w 3 ⟨a7,t,bA⟩ dR.cells V):=aN;replace aB:Hid (aF w 10 ⟨a3,u,bp⟩ cG.cells W):=aB;replace aO:Hid (aF w 10 ⟨a8,u,bC⟩ cG.cells X):=aO;replace aX:Hid (∀a (c:a<W.length) (h2:a<X.length) C,ag w C->Calls Tryz.prog 49 #[.agg W[a].cells.toArray,.agg X[a].cells.toArray] C λz ay=>z=.returned (.bool true)/\ag C ay):=aX;clear aJ aK bD cl bE cm bF bG bH cn bI bJ;show Calls Tryz.prog 29 #[.agg #[U b7 b8 b9,U aZ o bi,U a0 q bk,U a1 s bm,U a2 t bo,U a3 u bp,U cb cd ce],.agg #[U hA2 ca b,U a4 o br,U a5 q bu,U a6 s bw,U a7 t bA,U a8 u bC,U cf cg ch]] w _;go_enter Tryz.func29,Tryz.ntmps29
 go_upto_region 1 with(fail)
 obtain⟨ay,z,H,x,I⟩:=nb w 37 _;rw[z];clear z;have z:=x;obtain⟨aC,ay,A,x,aJ⟩:=nc I 37 _;rw[ay];clear ay;have am:=Z (z.out.trans x.out);have D:=qb x H;clear x z H I aJ;have cv:=aY D;have cw:=aY A;have Y:((o:Int) !=(o:Int))=false:=ai
 have cx:=bh D;have cy:=bh A;have an:((q:Int) !=(q:Int))=false:=ai
 have cz:=bj D;have cA:=bj A;have bb:((s:Int) !=(s:Int))=false:=ai
 have cB:=bn D;have cC:=bn A;have bc:((t:Int) !=(t:Int))=false:=ai
 have cD:=bQ D;have cE:=bQ A;have bd:((u:Int) !=(u:Int))=false:=ai
 go_upto_region 4 with(fail)
 clear cv cw cx cy cz cA cB cC cD cE Y an bb bc bd;go_loopg [5] (o+1) (λc e f=>∃a:Nat,e=.int .i64 a/\a<=o/\o-a<c/\Hid (ag aC f))
 case atStart=>exact⟨0,rfl,by omega,by omega,Z (ag.refl _)⟩
 case round=>
 obtain⟨a,rfl,M,y,c⟩:=hrel;have g:=Z y;clear y;have j:=aY (qb c D);have f:=aY (qb c A);by_cases N:a<o
 case pos=>
  have x:(a:Int)<(o:Int):=ae
  have E:a<S.length:=by have:=co.out;omega
  have F:=Z (am.out.trans c.out);obtain⟨v,G,k,x,e⟩:=(L1.out.same F.out).2.2 a E;have aj:aZ=some ⟨v,G,none⟩:=k;clear k;subst aj;obtain⟨d,P,n,x,b⟩:=(aL.out.same F.out).2.2 a E;have ao:a4=some ⟨d,P,none⟩:=n;clear n;subst ao;generalize S[a]=ap at e b;obtain⟨B,Q⟩:=ap;have x:=bM (show ac wr (ab v (G+a*2)) B by have h:=e 0 _ rfl;simpa using h);have x:=bM (e 1 _ rfl);have x:=bM (show ac wr (ab d (P+a*2)) B by have h:=b 0 _ rfl;simpa using h);have x:=bM (b 1 _ rfl);clear e b;have e:(B.toList==B.toList)=true:=ai
  have Y:(Q !=Q)=false:=ai
  have e:=bM j;have e:=bM f;go_upto_region 6 with(fail)
  clear j f;refine wp_region_quiet_below ak ak ?_;repeat (go_big_quiet_step (fail))
  refine wpQuiet_nil ?_;intro _ ar;obtain⟨⟨R,osq⟩,au⟩:=ar;subst au;have ad:=Z (ag.reg wr R osq);generalize Sort.grow (redrawn wr R) osq=av at ad⊢;go_wp2;go_roundg (o-a)
  case measure=>have:=g.out;omega
  exact⟨a+1,by go_num,by omega,by have:=g.out;omega,Z (c.out.trans ad.out)⟩
 case neg=>
 have P:¬(a:Int)<(o:Int):=ae
 go_upto_region 9 with(fail)
 obtain⟨c6,rfl⟩:∃E:World,E=wr:=⟨_,rfl⟩;have cF:=c;clear c N P M g j f;go_loopg [6] (q+1) (λe o x=>∃a:Nat,o=.int .i64 a/\a<=q/\q-a<e/\Hid (ag aC x))
 case atStart=>exact⟨0,rfl,by omega,by omega,cF⟩
 case round=>
 obtain⟨a,rfl,M,y,c⟩:=hrel;have g:=Z y;clear y;have j:=bh (qb c D);have f:=bh (qb c A);by_cases N:a<q
 case pos=>
  have o:(a:Int)<(q:Int):=ae
  have F:a<T.length:=by have:=cp.out;omega
  have G:=Z (am.out.trans c.out);obtain⟨v,Q,k,o,e⟩:=(L2.out.same G.out).2.2 a F;have aw:a0=some ⟨v,Q,none⟩:=k;clear k;subst aw;obtain⟨d,R,n,o,b⟩:=(aM.out.same G.out).2.2 a F;have ax:a5=some ⟨d,R,none⟩:=n;clear n;subst ax;generalize T[a]=aD at e b;obtain⟨B,ad,aj,ao,ap,ar⟩:=aD;have o:=bM (show ac wr (ab v (Q+a*6)) B by have h:=e 0 _ rfl;simpa using h);have o:=bM (e 1 _ rfl);have o:=bM (e 2 _ rfl);have o:=bM (e 3 _ rfl);have o:=bM (e 4 _ rfl);have o:=bM (e 5 _ rfl);have o:=bM (show ac wr (ab d (R+a*6)) B by have h:=b 0 _ rfl;simpa using h);have o:=bM (b 1 _ rfl);have o:=bM (b 2 _ rfl);have o:=bM (b 3 _ rfl);have o:=bM (b 4 _ rfl);have o:=bM (b 5 _ rfl);clear e b;have e:(B.toList==B.toList)=true:=ai
  have Y:(ad !=ad)=false:=ai
  have an:(aj !=aj)=false:=ai
  have bb:(ao !=ao)=false:=ai
  have bc:(ap !=ap)=false:=ai
  have bd:(ar !=ar)=false:=ai
  have e:=bM j;have e:=bM f;go_upto_region 11 with(fail)
  clear j f;refine wp_region_quiet_below ak ak ?_;repeat (go_big_quiet_step (fail))
  refine wpQuiet_nil ?_;intro _ aE;obtain⟨⟨au,osq⟩,aG⟩:=aE;subst aG;have av:=Z (ag.reg wr au osq);generalize Sort.grow (redrawn wr au) osq=aH at av⊢;go_wp2;go_roundg (q-a)
  case measure=>have:=g.out;omega
  exact⟨a+1,by go_num,by omega,by have:=g.out;omega,Z (c.out.trans av.out)⟩
 case neg=>
 have P:¬(a:Int)<(q:Int):=ae
 go_upto_region 14 with(fail)
 obtain⟨c7,rfl⟩:∃E:World,E=wr:=⟨_,rfl⟩;have cH:=c;clear c N P M g j f;go_loopg [7] (t+1) (λe o q=>∃a:Nat,o=.int .i64 a/\a<=t/\t-a<e/\Hid (ag aC q))
 case atStart=>exact⟨0,rfl,by omega,by omega,cH⟩
 case round=>
 obtain⟨a,rfl,M,y,c⟩:=hrel;have g:=Z y;clear y;have j:=bn (qb c D);have f:=bn (qb c A);by_cases N:a<t
 case pos=>
  have o:(a:Int)<(t:Int):=ae
  have F:a<V.length:=by have:=cs.out;omega
  have G:=Z (am.out.trans c.out);obtain⟨v,Q,k,o,e⟩:=(aA.out.same G.out).2.2 a F;have ar:a2=some ⟨v,Q,none⟩:=k;clear k;subst ar;obtain⟨d,R,n,o,b⟩:=(aN.out.same G.out).2.2 a F;have au:a7=some ⟨d,R,none⟩:=n;clear n;subst au;generalize V[a]=av at e b;obtain⟨B,ad,aj⟩:=av;have o:=bM (show ac wr (ab v (Q+a*3)) B by have h:=e 0 _ rfl;simpa using h);have o:=bM (e 1 _ rfl);have o:=bM (e 2 _ rfl);have o:=bM (show ac wr (ab d (R+a*3)) B by have h:=b 0 _ rfl;simpa using h);have o:=bM (b 1 _ rfl);have o:=bM (b 2 _ rfl);clear e b;have e:(B !=B)=false:=ai
  have Y:(ad !=ad)=false:=ai
  have an:(aj !=aj)=false:=ai
  have e:=bM j;have e:=bM f;go_upto_region 16 with(fail)
  clear j f;refine wp_region_quiet_below ak ak ?_;repeat (go_big_quiet_step (fail))
  refine wpQuiet_nil ?_;intro _ aw;obtain⟨⟨ao,osq⟩,ax⟩:=aw;subst ax;have ap:=Z (ag.reg wr ao osq);generalize Sort.grow (redrawn wr ao) osq=aD at ap⊢;go_wp2;go_roundg (t-a)
  case measure=>have:=g.out;omega
  exact⟨a+1,by go_num,by omega,by have:=g.out;omega,Z (c.out.trans ap.out)⟩
 case neg=>
 have P:¬(a:Int)<(t:Int):=ae
 go_upto_region 19 with(fail)
 obtain⟨c8,rfl⟩:∃E:World,E=wr:=⟨_,rfl⟩;have cI:=c;clear c N P M g j f;go_loopg [8] (u+1) (λe o q=>∃a:Nat,o=.int .i64 a/\a<=u/\u-a<e/\Hid (ag aC q))
 case atStart=>exact⟨0,rfl,by omega,by omega,cI⟩
 case round=>
 obtain⟨a,rfl,M,y,c⟩:=hrel;have g:=Z y;clear y;have j:=bQ (qb c D);have f:=bQ (qb c A);by_cases N:a<u
 case pos=>
  have o:(a:Int)<(u:Int):=ae
  have G:a<W.length:=by have:=ct.out;omega
  have Q:a<X.length:=by have:=cu.out;omega
  have F:=Z (am.out.trans c.out);obtain⟨v,R,k,o,e⟩:=(aB.out.same F.out).2.2 a G;have au:a3=some ⟨v,R,none⟩:=k;clear k;subst au;obtain⟨d,ad,n,o,b⟩:=(aO.out.same F.out).2.2 a Q;have av:a8=some ⟨d,ad,none⟩:=n;clear n;subst av;have B:=Z (λC (o:ag wr C)=>aX.out a G Q C (F.out.trans o));obtain⟨aw,o⟩:=aq W[a];obtain⟨ax,q⟩:=aq X[a];rw[<-o]at e B;rw[<-q]at b B;clear o q;obtain⟨aj,aD,i,⟨aE,aG,aH⟩,cN,aP,⟨aQ,aR,aS⟩,cO,aT,aU,⟨aV,be,bf⟩,cP,⟨bg,bK,bL⟩,cQ⟩:=aw;obtain⟨ao,bN,bO,⟨bP,bR,bS⟩,cR,bT,⟨bU,bV,bW⟩,cS,bX,bY,⟨bZ,b0,b1⟩,cT,⟨b2,b3,cJ⟩,cU⟩:=ax;have IP:=bM (show ac wr (ab v (R+a*10)) aj by have h:=e 0 _ rfl;simpa using h);have IQ:=bM (e 1 _ rfl);have IR:=bM (e 2 _ rfl);have IS:=bM (e 3 _ rfl);have Kc:=bM (e 4 _ rfl);have Kd:=bM (e 5 _ rfl);have u16:=bM (e 6 _ rfl);have Ke:=bM (e 7 _ rfl);have Kr:=bM (e 8 _ rfl);have Ks:=bM (e 9 _ rfl);have u20:=bM (show ac wr (ab d (ad+a*10)) ao by have h:=b 0 _ rfl;simpa using h);have u21:=bM (b 1 _ rfl);have u22:=bM (b 2 _ rfl);have u23:=bM (b 3 _ rfl);have u24:=bM (b 4 _ rfl);have u25:=bM (b 5 _ rfl);have u26:=bM (b 6 _ rfl);have u27:=bM (b 7 _ rfl);have u28:=bM (b 8 _ rfl);have u29:=bM (b 9 _ rfl);have i:Hid (Rt 49 #[.agg #[aj,aD,i,U aE aG aH,aP,U aQ aR aS,aT,aU,U aV be bf,U bg bK bL],.agg #[ao,bN,bO,U bP bR bS,bT,U bU bV bW,bX,bY,U bZ b0 b1,U b2 b3 cJ]] wr (.bool true)):=B;have cK:=gX (w:=wr) i.out;have o:=bM j;have o:=bM f;clear e b B i;go_upto_region 21 with(fail)
  clear j f;refine wp_region_quiet_below ak ak ?_;repeat (go_big_quiet_step (first|(go_at_call 49;exact cK _ _)))
  refine wpQuiet_nil ?_;intro _ cL;obtain⟨⟨ap,osq⟩,cM⟩:=cL;subst cM;have ar:=Z (ag.reg wr ap osq);generalize Sort.grow (redrawn wr ap) osq=cV at ar⊢;go_wp2;go_roundg (u-a)
  case measure=>have:=g.out;omega
  exact⟨a+1,by go_num,by omega,by have:=g.out;omega,Z (c.out.trans ar.out)⟩
 case neg=>
 have P:¬(a:Int)<(u:Int):=ae
 go_upto_region 24 with(fail)
 obtain⟨c9,rfl⟩:∃E:World,E=wr:=⟨_,rfl⟩;have cJ:=c;clear c N P M g j f;go_loopg [9] (s+1) (λe i o=>∃a:Nat,i=.int .i64 a/\a<=s/\s-a<e/\Hid (ag aC o))
 case atStart=>exact⟨0,rfl,by omega,by omega,cJ⟩
 case round=>
 obtain⟨a,rfl,M,y,c⟩:=hrel;have g:=Z y;clear y;have j:=bj (qb c D);have f:=bj (qb c A);by_cases N:a<s
 case neg=>
  have P:¬(a:Int)<(s:Int):=ae
  go_wp2;go_ret;exact⟨rfl,am.out.trans c.out⟩
 case pos=>
 have i:(a:Int)<(s:Int):=ae
 have bK:a<K.length:=by have:=cq.out;omega
 have bL:a<L.length:=by have:=cr.out;omega
 have aP:=Z (am.out.trans c.out);obtain⟨v,be,k,i,ao⟩:=(L3.out.same aP.out).2.2 a bK;have cK:a1=some ⟨v,be,none⟩:=k;clear k;subst cK;obtain⟨d,ad,n,aQ,b⟩:=(M3.out.same aP.out).2.2 a bL;have cL:a6=some ⟨d,ad,none⟩:=n;clear n;subst cL;obtain⟨ap,i,k⟩:=b6.out a bK bL;replace ap:K[a].mt=L[a].mt:=ap;have Q:=Z (i.l.same aP.out);have aj:=Z (k.l.same aP.out);replace Q:Hid (aF wr 7 K[a].h Wg.cells K[a].terms):=Q;replace aj:Hid (aF wr 7 L[a].h Wg.cells L[a].terms):=aj;clear i k;generalize K[a]=bf at ao Q ap;generalize L[a]=cM at b aj ap;obtain⟨R,au,ar,⟨aD,e,aR⟩,av⟩:=bf;obtain⟨db,dc,da,⟨aE,bN,aS⟩,dd⟩:=cM;simp only[ei.mt]at ap;injection ap with f1 f2 f3 f4
 subst f1 f2 f3 f4;have bO:av.length=e:=Q.out.1;obtain rfl:e=bN:=by have h2:av.length=bN:=aj.out.1;omega
 have i:e<=9223372036854775807:=Q.out.2.1;have cN:=Z bO;clear bO;have IP:=(show ac wr (ab v (be+a*4)) R by have h:=ao 0 _ rfl;simpa using h);have IQ:=(ao 1 _ rfl);have IR:=(ao 2 _ rfl);have IS:=(ao 3 _ rfl);have u20:=(show ac wr (ab d (ad+a*4)) R by have h:=b 0 _ rfl;simpa using h);have u21:=(b 1 _ rfl);have u22:=(b 2 _ rfl);have u23:=(b 3 _ rfl);replace Q:Hid (aF wr 7 ⟨aD,e,aR⟩ Wg.cells av):=Q;replace aj:Hid (aF wr 7 ⟨aE,e,aS⟩ Wg.cells av):=aj;replace IS:ac wr (ab v (be+a*4+3)) (U aD e aR):=IS;replace u23:ac wr (ab d (ad+a*4+3)) (U aE e aS):=u23;go_upto_region 27 with(first|(refine wpList_store_row rfl 55 (.tmp 10) (.tmp 140) rfl wr.heap.size #[R,au,ar,U aD e aR] rfl rfl 55 #[ah,O 0,O 0,aa] (J.new wr 55 #[ah,O 0,O 0,aa]) ak rfl bl ?_;rw[World.setRow_alloc_new])|fail)
 obtain⟨bg,i,cO,aw,-⟩:=nb wr 55 #[R,au,ar,U aD e aR];rw[i];clear i j;try rw[oX]
 replace u20:=(ag.cell aw.out (p:=(ab d (ad+a*4))) aQ).trans u20;replace u21:=(ag.cell aw.out (p:=(ab d (ad+a*4+1))) aQ).trans u21;replace u22:=(ag.cell aw.out (p:=(ab d (ad+a*4+2))) aQ).trans u22;replace u23:=(ag.cell aw.out (p:=(ab d (ad+a*4+3))) aQ).trans u23;clear f IP IQ IR IS;have f:=bj (qb aw (qb c A));go_upto_region 28 with(first|(refine wpList_store_row rfl 55 (.tmp 11) (.tmp 145) rfl bg.heap.size #[R,au,ar,U aE e aS] rfl rfl 55 #[ah,O 0,O 0,aa] (J.new bg 55 #[ah,O 0,O 0,aa]) ak rfl bl ?_;rw[World.setRow_alloc_new])|fail)
 obtain⟨cP,d,aG,i,-⟩:=nb bg 55 #[R,au,ar,U aE e aS];rw[d];clear d f u20 u21 u22 u23;try rw[oX]
 have aH:=qb i cO;have d:=Z (aw.out.trans i.out);have cQ:=Z (Q.out.same d.out);have cR:=Z (aj.out.same d.out);have cS:=Z (c.out.trans d.out);have bP:(R.toList==R.toList)=true:=ai
 have Y:(au !=au)=false:=ai
 have an:(ar !=ar)=false:=ai
 have cT:((e:Int) !=(e:Int))=false:=ai
 have cU:=az aH;have cV:=aY aH;have cW:=bh aH;have aT:=bj aH;have cX:=az aG;have cY:=aY aG;have cZ:=bh aG;have aU:=bj aG;go_upto_region 31 with(fail)
 obtain⟨de,rfl⟩:∃E:World,E=wr:=⟨_,rfl⟩;clear cU cV cW aT cX cY cZ aU bP Y an cT ao b;go_loopg [12] (e+1) (λc d f=>∃b:Nat,d=.int .i64 b/\b<=e/\e-b<c/\Hid (ag cP f))
 case atStart=>exact⟨0,rfl,by omega,by omega,Z (ag.refl _)⟩
 case round=>
 obtain⟨B,rfl,df,bR,ax⟩:=hrel;have bS:=Z bR;clear bR;have aT:=bj (qb ax aH);have aU:=bj (qb ax aG);by_cases b:B<e
 case neg=>
  have b:¬(B:Int)<(e:Int):=ae
  go_wp2;go_roundg (s-a)
  case measure=>have:=g.out;omega
  exact⟨a+1,by go_num,by omega,by have:=g.out;omega,Z (cS.out.trans ax.out)⟩
 case pos=>
 have a:(B:Int)<(e:Int):=ae
 have bT:B<av.length:=by have:=cN.out;omega
 obtain⟨a9,bU,al,a,F⟩:=(cQ.out.same ax.out).2.2 B bT;have c0:aD=some ⟨a9,bU,none⟩:=al;clear al;subst c0;obtain⟨ba,bV,aI,a,G⟩:=(cR.out.same ax.out).2.2 B bT;have c1:aE=some ⟨ba,bV,none⟩:=aI;clear aI;subst c1;generalize av[B]=bf at F G;obtain⟨aV,bW,bX,bY,bZ,b0,b1⟩:=bf;have a:=bM (show ac wr (ab a9 (bU+B*7)) aV by have h:=F 0 _ rfl;simpa using h);have a:=bM (F 1 _ rfl);have a:=bM (F 2 _ rfl);have a:=bM (F 3 _ rfl);have a:=bM (F 4 _ rfl);have a:=bM (F 5 _ rfl);have a:=bM (F 6 _ rfl);have a:=bM (show ac wr (ab ba (bV+B*7)) aV by have h:=G 0 _ rfl;simpa using h);have a:=bM (G 1 _ rfl);have a:=bM (G 2 _ rfl);have a:=bM (G 3 _ rfl);have a:=bM (G 4 _ rfl);have a:=bM (G 5 _ rfl);have a:=bM (G 6 _ rfl);clear F G;have bP:(aV !=aV)=false:=ai
 have Y:(bW !=bW)=false:=ai
 have an:(bX !=bX)=false:=ai
 have bb:(bY !=bY)=false:=ai
 have bc:(bZ !=bZ)=false:=ai
 have bd:(b0 !=b0)=false:=ai
 have a:(b1 !=b1)=false:=ai
 have a:=bM aT;have a:=bM aU;go_upto_region 33 with(fail)
 clear aT aU;refine wp_region_quiet_below ak ak ?_;repeat (go_big_quiet_step (fail))
 refine wpQuiet_nil ?_;intro _ c2;obtain⟨⟨b2,osq⟩,c3⟩:=c2;subst c3;have b3:=Z (ag.reg wr b2 osq);generalize Sort.grow (redrawn wr b2) osq=dg at b3⊢;go_wp2;go_roundg (e-B)
 case measure=>have:=bS.out;omega
 exact⟨B+1,by go_num,by omega,by have:=bS.out;omega,Z (ax.out.trans b3.out)⟩
end Go.Proofs.YteamkimbmdgdbaaGreatDoor

import Derived.Test.YteamkimbmdgdbaaGreatDoorK01
import Derived.Test.YteamkimbmdgdbaaGreatDoorK02
import Derived.Test.YteamkimbmdgdbaaGreatDoorK04
import Derived.Test.YteamkimbmdgdbaaGreatDoorK18
import Derived.Test.YteamkimbmdgdbaaGreatDoorK26
import Derived.Test.YteamkimbmdgdbaaGreatDoorK27
import Derived.Test.YteamkimbmdgdbaaGreatDoorK28
import Derived.Test.YteamkimbmdgdbaaGreatDoorK29
import Derived.Test.YteamkimbmdgdbaaGreatDoorK31
import Derived.Test.YteamkimbmdgdbaaGreatDoorK32
import Derived.Outline
set_option linter.unusedSimpArgs false
set_option linter.unusedVariables false
set_option maxHeartbeats 16000000
set_option maxRecDepth 100000
namespace Go.Proofs.YteamkimbmdgdbaaGreatDoor
open Go.RowKit
theorem IW (a:At) (b:List At):d9 (a::b)=a.name::a.was++d9 b:=by simp[d9]
theorem Jx {b:Tb} {a:Cg} (h:gm b a=0):bD a.name=true/\bH b.attrs a.name<0:=by
 unfold gm at h;cases hn:bD a.name with
 |false=>rw[hn]at h;simp at h
 |true=>
  rw[hn]at h;simp only[if_true]at h;by_cases c:0<=bH b.attrs a.name
  ·rw[if_pos c]at h;cases h
  exact⟨rfl,by omega⟩
theorem Jy {a:Cg} (h:g1 a=true) (b:aw) (c:bm):gB ⟨b,a.dE,c,a.dflt⟩=true:=h
theorem Kt {a:Tb} {b:Cg} (c:mc a) (f:b.kind=1) (h:gn a b (bH a.attrs b.attr).toNat=0):mc (dt a b):=by
 unfold gn at h;rw[if_pos f]at h;cases ht:g1 b with
 |false=>rw[ht]at h;simp at h
 |true=>
  rw[ht]at h;simp only[if_true]at h;by_cases d:gm a b=0
  ·rw[if_neg (by simpa using d)]at h
   by_cases g:a.attrs.length=12
   ·rw[if_pos g]at h;cases h
   obtain⟨l,m⟩:=Jx d;have g:(dt a b).attrs=a.attrs++[⟨b.name,b.dE,[],b.dflt⟩]:=by simp[dt,g2,f]
   have i:(dt a b).key=a.key:=by simp[dt,ni,f]
   have j:d9 (dt a b).attrs=d9 a.attrs++[b.name]:=by rw[g,D3];simp[d9]
   have n:(dt a b).attrs.length=a.attrs.length+1:=by rw[g];simp
   have:=c.rZ;refine⟨c.nm,by omega,by omega,by rw[i];exact c.k1,?_,?_,?_,?_⟩
   ·intro o k
    rw[g]at k;rcases cY k with e|e
    ·exact c.at_ o e
    rw[List.mem_singleton]at e;subst e;exact Jy ht _ _
   ·intro o k
    rw[j]at k;rcases cY k with e|e
    ·exact c.names o e
    rw[List.mem_singleton]at e;subst e;exact l
   ·rw[j,List.nodup_append]
    refine⟨c.nodup,by simp,?_⟩;intro a k a e o;rw[List.mem_singleton]at e;subst e o;exact D4 m k
   intro b a;rw[i]at a⊢;have:=oR.1 (c.key b a);rw[oR,n];exact⟨⟨this.1.1,by omega⟩,this.2⟩
  rw[if_pos d]at h;exact absurd h d
theorem Ku {a:Tb} {b:Cg} (c:mc a) (j:b.kind=4) (d:0<=bH a.attrs b.attr) (h:gn a b (bH a.attrs b.attr).toNat=0):mc (dt a b):=by
 obtain⟨f,k⟩:∃f:Nat,bH a.attrs b.attr=f:=⟨_,(Int.toNat_of_nonneg d).symm⟩;have i:f<a.attrs.length:=by have:=(nj a.attrs b.attr).2;omega
 rw[k]at h;simp only[Int.toNat_natCast]at h;unfold gn at h;rw[if_neg ae,if_neg ae,if_neg ae]at h;cases ht:g1 b with
 |false=>rw[ht]at h;simp at h
 |true=>
  obtain⟨i,n,g,o⟩:=D2 a.attrs f i;obtain⟨d,p⟩:∃d,d=a.attrs[f]:=⟨_,rfl⟩;rw[<-p]at g;have i:(dt a b).attrs=i++⟨d.name,b.dE,d.was,b.dflt⟩::n:=by
   have:(dt a b).attrs=a.attrs.modify f (λd=>⟨d.name,b.dE,d.was,b.dflt⟩):=by simp[dt,g2,j,k]
   rw[this,g,<-o,r0]
  have d:(dt a b).key=a.key:=by simp[dt,ni,j]
  have f:d9 (dt a b).attrs=d9 a.attrs:=by rw[i,g,D3,D3,IW,IW]
  have a:(dt a b).attrs.length=a.attrs.length:=by rw[i,g];simp
  refine⟨c.nm,by rw[a];exact c.l1,by rw[a];exact c.rZ,by rw[d];exact c.k1,?_,by rw[f];exact c.names,by rw[f];exact c.nodup,by rw[d,a];exact c.key⟩;intro l m;rw[i]at m;rcases cY m with e|e
  ·exact c.at_ l (by rw[g];exact jX (.inl e))
  rcases dd e with e|e
  ·subst e;exact Jy ht _ _
  exact c.at_ l (by rw[g];exact jX (.inr (List.mem_cons_of_mem _ e)))
end Go.Proofs.YteamkimbmdgdbaaGreatDoor
namespace Go.Proofs.YteamkimbmdgdbaaGreatDoor
open Go.RowKit
theorem Kv {a:Tb} {b:Cg} (d:mc a) (i:b.kind=3) (j:0<=bH a.attrs b.attr) (h:gn a b (bH a.attrs b.attr).toNat=0):mc (dt a b):=by
 obtain⟨g,o⟩:∃g:Nat,bH a.attrs b.attr=g:=⟨_,(Int.toNat_of_nonneg j).symm⟩;have j:g<a.attrs.length:=by have:=(nj a.attrs b.attr).2;omega
 unfold gn at h;rw[if_neg ae,if_neg ae,if_pos i]at h;obtain⟨p,q⟩:=Jx h;obtain⟨k,j,e,r⟩:=D2 a.attrs g j;obtain⟨c,s⟩:∃c,c=a.attrs[g]:=⟨_,rfl⟩;rw[<-s]at e;have k:(dt a b).attrs=k++⟨b.name,c.kind,c.was++[c.name],c.dflt⟩::j:=by
  have:(dt a b).attrs=a.attrs.modify g (λc=>⟨b.name,c.kind,c.was++[c.name],c.dflt⟩):=by simp[dt,g2,i,o]
  rw[this,e,<-r,r0]
 have g:(dt a b).key=a.key:=by simp[dt,ni,i]
 have l:(d9 (dt a b).attrs).Perm (b.name::d9 a.attrs):=by
  rw[k,e,D3,D3,IW,IW];simp only;have f:(b.name::(c.was++[c.name])++d9 j).Perm (b.name::(c.name::c.was++d9 j)):=by
   rw[List.cons_append];refine List.Perm.cons _ ?_;exact List.Perm.append_right _ (List.perm_append_singleton _ _)
  refine(List.Perm.append_left _ f).trans ?_;exact List.perm_middle
 have a:(dt a b).attrs.length=a.attrs.length:=by rw[k,e];simp
 refine⟨d.nm,by rw[a];exact d.l1,by rw[a];exact d.rZ,by rw[g];exact d.k1,?_,?_,?_,by rw[g,a];exact d.key⟩
 ·intro m n
  rw[k]at n;rcases cY n with f|f
  ·exact d.at_ m (by rw[e];exact jX (.inl f))
  rcases dd f with f|f
  ·subst f
   have a:=d.at_ c (by rw[e];exact jX (.inr List.mem_cons_self));exact a
  exact d.at_ m (by rw[e];exact jX (.inr (List.mem_cons_of_mem _ f)))
 ·intro m n
  rcases dd (l.mem_iff.1 n)with f|f
  ·subst f;exact p
  exact d.names m f
 rw[l.nodup_iff,List.nodup_cons];exact⟨D4 q,d.nodup⟩
theorem Jz (a:List Int) (c:Int->Int) (b:Nat) (d:b<a.length):(a.map c).getD b 0=c (a.getD b 0):=by
 simp[List.getD_eq_getElem?_getD,d]
theorem Jj (a:List Int) (b:Nat) (c:b<a.length):a.getD b 0∈a:=by
 simp[List.getD_eq_getElem?_getD,c]
theorem Kw {a:Tb} {b:Cg} (c:mc a) (j:b.kind=2) (e:0<=bH a.attrs b.attr) (h:gn a b (bH a.attrs b.attr).toNat=0):mc (dt a b):=by
 obtain⟨d,k⟩:∃d:Nat,bH a.attrs b.attr=d:=⟨_,(Int.toNat_of_nonneg e).symm⟩;have f:d<a.attrs.length:=by have:=(nj a.attrs b.attr).2;omega
 rw[k]at h;simp only[Int.toNat_natCast]at h;unfold gn at h;rw[if_neg ae,if_pos j]at h;have l:∀e∈a.key,e≠(d:Int):=by
  intro e g i;have:a.key.any (λe=>decide (e=(d:Int)))=true:=List.any_eq_true.2 ⟨e,g,by simp[i]⟩;rw[this]at h;simp at h
 obtain⟨q,r,f,s⟩:=D2 a.attrs d f;obtain⟨m,m⟩:∃m,m=a.attrs[d]:=⟨_,rfl⟩;rw[<-m]at f;have m:(dt a b).attrs=q++r:=by
  have:(dt a b).attrs=a.attrs.eraseIdx d:=by simp[dt,g2,j,k]
  rw[this,f,<-s,vV]
 have n:(dt a b).key=a.key.map (λe=>if(d:Int)<e then e-1 else e):=by simp[dt,ni,j,k]
 have d:(dt a b).attrs.length+1=a.attrs.length:=by rw[m,f];simp;omega
 have o:(dt a b).key.length=a.key.length:=by rw[n,List.length_map]
 have d:=oR.1 (c.key 0 c.k1);have d:=l _ (Jj a.key 0 c.k1);have d:(d9 (dt a b).attrs).Sublist (d9 a.attrs):=by
  rw[m,f,D3,D3,IW];exact List.Sublist.append_left (List.sublist_append_right _ _) _
 have:=c.rZ;refine⟨c.nm,by omega,by omega,by rw[o];exact c.k1,?_,λb g=>c.names b (d.subset g),c.nodup.sublist d,?_⟩
 ·intro b g
  rw[m]at g;refine c.at_ b ?_;rw[f];rcases cY g with i|i
  ·exact jX (.inl i)
  exact jX (.inr (List.mem_cons_of_mem _ i))
 intro i b;rw[o]at b;have t:=oR.1 (c.key i b);have c:=l _ (Jj a.key i b);rw[oR,n,Jz _ _ _ b];refine⟨by split<;>omega,?_⟩;rcases t.2 with p|p
 ·exact .inl p
 by_cases b:i=0
 ·exact .inl b
 right
 rw[Jz _ _ _ ae];have a:=l _ (Jj a.key (i-1) ae);split<;>split<;>omega
theorem Kx {c:Tb} {b:Cg} (d:mc c) (f:d7 b=true) (e:b.kind≠1->0<=bH c.attrs b.attr) (h:gn c b (bH c.attrs b.attr).toNat=0):mc (dt c b):=by
 rcases vW f with a|a|a|a
 ·exact Kt d a h
 ·exact Kw d a (e ae) h
 ·exact Kv d a (e ae) h
 exact Ku d a (e ae) h
theorem Ky {a c:List Tb} (e:c.length=a.length) (f:∀b (h:b<a.length),(c[b]'ae).name=a[b].name) (d:aw):cS c d=cS a d:=by
 have:c.map Tb.name=a.map Tb.name:=by
  apply List.ext_getElem
  ·simp[e]
  intro b c a;simp at c a;simpa using f b a
 have b:∀a:List Tb,cS a d=cn (λb=>decide (b=d)) (a.map Tb.name):=by
  intro a;unfold cS cn;rw[List.findIdx?_map];rfl
 rw[b,b,this]
theorem Kz (a:List Tb) (c:Cg) (b:Nat) (d:b<a.length):((gC a c)[b]'(by rw[r1];exact d)).name=a[b].name:=by
 simp only[gC,List.getElem_modify];split<;>rfl
end Go.Proofs.YteamkimbmdgdbaaGreatDoor
namespace Go.Proofs.YteamkimbmdgdbaaGreatDoor
open Go.RowKit
def F4 (c:Tb) (b:Cg) (a:Int):Int:=
 if b.kind≠2 then a else if a=bH c.attrs b.attr then -1 else if bH c.attrs b.attr<a then a-1 else a
theorem KA {b:Tb} {c:Cg} (p:mc b) (r:d7 c=true) (s:c.kind≠1->0<=bH b.attrs c.attr) (h:gn b c (bH b.attrs c.attr).toNat=0)
 (a:Nat) (t:a<b.attrs.length) (u:0<=F4 b c a) (n:aw) (f:b.attrs[a].has n):bH (dt b c).attrs n=F4 b c a:=by
 have v:=Ib (Kx p r s h).nodup;suffices w:∃(d:Nat) (o:d<(dt b c).attrs.length),F4 b c a=d/\(dt b c).attrs[d].has n by
  obtain⟨d,o,e,g⟩:=w;rw[e];exact Ip v d o n g
 have i:b.attrs[a]?=some b.attrs[a]:=List.getElem?_eq_getElem t;generalize b.attrs[a]=l at f i;have m:∀(d:Nat) (p:At),(dt b c).attrs[d]?=some p->p.has n->F4 b c a=d->∃(d:Nat) (o:d<(dt b c).attrs.length),F4 b c a=d/\(dt b c).attrs[d].has n:=by
  intro d p e g j;obtain⟨o,e⟩:=List.getElem?_eq_some_iff.1 e;exact⟨d,o,j,by rw[e];exact g⟩
 rcases vY r s with⟨j,g⟩|⟨e,k,A,x,B,y⟩
 ·refine m a l ?_ f (by simp[F4,j])
  rw[g,List.getElem?_append_left t,i]
 rw[x]at i;rcases y with⟨j,g⟩|⟨j,g⟩|⟨j,g⟩
 ·have b:¬(a:Int)=bH b.attrs c.attr:=by
   intro d;unfold F4 at u;rw[if_neg ae,if_pos d]at u;omega
  by_cases d:(a:Nat)<e.length
  ·refine m a l ?_ f ?_
   ·rw[g,List.getElem?_append_left d,<-i,List.getElem?_append_left d]
   unfold F4;rw[if_neg ae,if_neg b,if_neg ae]
  refine m (a-1) l ?_ f ?_
  ·rw[g,List.getElem?_append_right ae,<-i,List.getElem?_append_right ae]
   have:a-e.length=(a-1-e.length)+1:=ae
   rw[this,List.getElem?_cons_succ]
  unfold F4;rw[if_neg ae,if_neg b,if_pos ae];omega
 ·by_cases z:a=e.length
  ·subst z
   refine m e.length ⟨c.name,k.kind,k.was++[k.name],k.dflt⟩ ?_ ?_ (by simp[F4,j])
   ·rw[g];simp
   have:l=k:=by
    have b:=i;simp at b;exact b.symm
   rw[this]at f;rcases f with q|q
   ·right;simp[q]
   right;simp[q]
  refine m a l ?_ f (by simp[F4,j]);rw[g,<-i];by_cases b:a<e.length
  ·rw[List.getElem?_append_left b,List.getElem?_append_left b]
  rw[List.getElem?_append_right ae,List.getElem?_append_right ae];have:a-e.length=(a-e.length-1)+1:=ae
  rw[this,List.getElem?_cons_succ,List.getElem?_cons_succ]
 by_cases q:a=e.length
 ·subst q
  refine m e.length ⟨k.name,c.dE,k.was,c.dflt⟩ ?_ ?_ (by simp[F4,j])
  ·rw[g];simp
  have:l=k:=by
   have b:=i;simp at b;exact b.symm
  rw[this]at f;exact f
 refine m a l ?_ f (by simp[F4,j]);rw[g,<-i];by_cases b:a<e.length
 ·rw[List.getElem?_append_left b,List.getElem?_append_left b]
 rw[List.getElem?_append_right ae,List.getElem?_append_right ae];have:a-e.length=(a-e.length-1)+1:=ae
 rw[this,List.getElem?_cons_succ,List.getElem?_cons_succ]
end Go.Proofs.YteamkimbmdgdbaaGreatDoor
namespace Go.Proofs.YteamkimbmdgdbaaGreatDoor
open Go.RowKit
def KB (d:List Tb) (a:Int) (e:af) (b:Ending):Prop:=
 (a≠0/\b=.returned (.tuple #[.agg #[aa],a]))\/(a=0/\∃(a:Hd) (c:List RT),b=.returned (.tuple #[.agg #[a.val],O 0])/\bI e a c/\c.map RT.tb=d)
end Go.Proofs.YteamkimbmdgdbaaGreatDoor
namespace Go.Proofs.YteamkimbmdgdbaaGreatDoor
open Go.RowKit
theorem KC (h:Hd) (b:List RT) (a:Cg) (c:af) (e:bI c h b) (f:dh b) (g:aG a.name) (i:aG a.dflt.s):
 Calls Tryz.prog 31 #[.agg #[h.val],a.val] c λj d=>KB (gC (b.map RT.tb) a) (dj (b.map RT.tb) a) d j/\ag c d:=
 (En h b a c e f g i).mono λ_ _ h=>⟨h.1.imp id (λ⟨a,b,c,d,e,f,_⟩=>⟨a,b,c,d,e,f⟩),h.2⟩
end Go.Proofs.YteamkimbmdgdbaaGreatDoor
namespace Go.Proofs.YteamkimbmdgdbaaGreatDoor
open Go.RowKit
def RO.To {α β:Type} (φ:α->β) (r:RO α) (r':RO β):Prop:=∀a,r=.ok a->r'=.ok (φ a)
def RO.Nz {α:Type} (r:RO α):Prop:=∀a,r≠.bad 0 a
section
variable {α β γ δ:Type} {φ:α->β} {ψ:γ->δ} {r:RO α} {r':RO β}
theorem RO.To.ok {a:α}:RO.To φ (.ok a) (.ok (φ a)):=λb h=>by injection h with h;rw[h]
theorem RO.To.rfl {r:RO α}:RO.To (λa=>a) r r:=λ_ h=>h
theorem RO.To.bind {c:α->RO γ} {d:β->RO δ} (h:RO.To φ r r') (e:∀a,r=.ok a->RO.To ψ (c a) (d (φ a))):RO.To ψ (r.bind c) (r'.bind d):=λb c=>by
 obtain⟨a,d,c⟩:=RO.ct c;rw[h a d];exact e a d b c
theorem RO.To.ap {b c:Bool} {d a e f:Int} (g:b=true->c=true) (h:b=true->RO.To φ r r'):RO.To φ (RO.ap b d a r) (RO.ap c e f r'):=λe c=>by
 obtain⟨d,c⟩:=RO.ce c;rw[g d];exact h d e c
theorem RO.To.ite {a:Prop} [Decidable a] {b:RO α} {c:RO β} (h:a->RO.To φ r r') (d:¬a->RO.To φ b c):RO.To φ (if a then r else b) (if a then r' else c):=by
 by_cases b:a
 ·rw[if_pos b,if_pos b];exact h b
 rw[if_neg b,if_neg b];exact d b
theorem RO.Nz.ok {a:α}:(RO.ok a).Nz:=λb h=>by cases h
theorem RO.Nz.bind {c:α->RO γ} (h:r.Nz) (d:∀a,(c a).Nz):(r.bind c).Nz:=by
 cases r with
 |ok a=>exact d a
 |bad f a=>exact λb e=>h b (by injection e with h1 h2;rw[h1,h2])
theorem RO.Nz.ap {b:Bool} {c a:Int} (d:r.Nz) (h:c≠0:=by decide):(RO.ap b c a r).Nz:=by
 unfold RO.ap;split
 ·exact d
 exact λc e=>h (by injection e)
theorem RO.Nz.ite {a:Prop} [Decidable a] {b:RO α} (h:r.Nz) (c:b.Nz):(if a then r else b).Nz:=by split<;>assumption
end
theorem IQ (at_:Int) (a:List At) (b:aw):(cO at_ a b).Nz:=.ap .ok
theorem JA (at_:Int) (a:List At):∀(b:bm) (c:List Int),(dv at_ a c b).Nz
 |[],_=>.ok
 |_::b,_=>(IQ _ _ _).bind λ_=>.ap (JA at_ a b _)
theorem IX (a:List Tb) (at_:Int) (b:aw):(dS a at_ b).Nz:=.ap .ok
theorem I4 (b:List Tb) (at_:Int) (t a:aw):(fC b at_ t a).Nz:=(IX _ _ _).bind λ_=>(IQ _ _ _).bind λ_=>.ok
theorem JB (a:List At) (at_:Int):∀(b:List cL) (c:List Wg),(fe a at_ c b).Nz
 |[],_=>.ok
 |_::b,_=>RO.Nz.bind (show(pe _ _ _).Nz from(IQ _ _ _).bind λ_=>.ap (.ap (.ap .ok))) λ_=>JB a at_ b _
theorem JC (a:List At) (at_:Int):∀(b:List du) (c:List Fx),(fg a at_ c b).Nz
 |[],_=>.ok
 |_::b,_=>(IQ _ _ _).bind λ_=>.ap (.ap (.ap (JC a at_ b _)))
theorem JD {at_:Int} {b:dG->RO (Sd×Int)} (c:∀a,(b a).Nz) (a:dG):(jK at_ b a).Nz:=.ite (.ap .ok) (c a)
theorem Jk {at_:Int} {c:dG->RO (Sd×Int)} (a:∀d,(c d).Nz):∀(b:List bB) (d:List cT),(eT at_ c d b).Nz
 |[],_=>.ok
 |_::b,_=>RO.Nz.bind (show(jL _ _ _).Nz from .ap ((JD a _).bind λ_=>(JD a _).bind λ_=>.ap (.ap .ok))) λ_=>Jk a b _
theorem JE (b:List Tb) (at_:Int):∀(a:List Vr) (c:List (ByteArray×Int)),(gG b at_ c a).Nz
 |[],_=>.ok
 |_::a,_=>.ap ((IX _ _ _).bind λ_=>JE b at_ a _)
theorem I5 (at_:Int) (a:List At) (b:aw):(ee at_ a b).Nz:=.ap .ok
theorem Jl (at_:Int) (c:List At):∀(b:bm) (d:List Int) (a:List At),(fz at_ c d a b).Nz
 |[],_,_=>.ok
 |_::b,_,_=>(I5 _ _ _).bind λ_=>.ap (Jl at_ c b _ _)
theorem Jm (at_:Int) (b:List At):∀(a r:List At),(hZ at_ b r a).Nz
 |[],_=>.ok
 |_::a,_=>.ite (Jm at_ b a _) (.ap (Jm at_ b a _))
theorem KD (a:List Tb) (b:Int) (c:aw) (d:List bB) (e:bm) (f g:aw) (i at_:Int) (j:List Pl):(cy a b c d e f g i at_ j).Nz:=
 .ap<|.ite ((IX _ _ _).bind λ_=>.ok)<|.ite (.ap ((Jk (λ_=>.ap ((I5 _ _ _).bind λ_=>.ok)) _ _).bind λ_=>.ok))<|.ite ((Jl _ _ _ _ _).bind λ_=>.ok)<|
  .ite ((Jm _ _ _ _).bind λ_=>.ap .ok)<|.ite (.ap .ok)<|.ite ((I5 _ _ _).bind λ_=>.ap (.ap .ok))<|
   (Jl _ _ _ _ _).bind λ_=>.ap (RO.Nz.bind (.ite (.ap .ok) ((I5 _ _ _).bind λ_=>.ap .ok)) λ_=>.ap .ok)
mutual
theorem JF (a:List Tb):∀b:Ex,(fR a b).Nz
 |.mk _ _ kids _ _ _ _ _ _=>by
  rw[fR];exact(JG a kids).bind λ_=>.ap ((KD _ _ _ _ _ _ _ _ _ _).bind λ_=>.ok)
theorem JG (a:List Tb):∀b:List Ex,(fi a b).Nz
 |[]=>by rw[fi];exact .ok
 |e::es=>by
  rw[fi];exact(JF a e).bind λ_=>(JG a es).bind λ_=>.ok
end
theorem JH (a:List Tb) (b:aI) (c:Int):(jJ a b c).Nz:=(IX _ _ _).bind λ_=>.ap ((JA _ _ _ _).bind λ_=>.ok)
theorem KE (a:Su) (b:aI):(db a b).Nz:=
 .ite (.ap (.ap .ok))<|.ite ((I4 _ _ _ _).bind λ_=>RO.Nz.bind (.ite .ok (.ite (.ap .ok) (.ite (.ap .ok) (λa c=>by cases c)))) λ_=>.ok)<|
  .ite ((IX _ _ _).bind λ_=>.ap (.ap ((JB _ _ _ _).bind λ_=>.ok)))<|.ite ((I4 _ _ _ _).bind λ_=>.ap (.ap (.ap .ok)))<|
  .ite ((JH _ _ _).bind λ_=>.ok)<|.ite ((JH _ _ _).bind λ_=>(IQ _ _ _).bind λ_=>.ap ((JC _ _ _ _).bind λ_=>.ok))<|
  .ite ((I4 _ _ _ _).bind λ_=>(I4 _ _ _ _).bind λ_=>.ap .ok)<|
  .ite (.ap ((JE _ _ _ _).bind λ_=>(Jk (λ_=>.ap ((IQ _ _ _).bind λ_=>.ok)) _ _).bind λ_=>.ok))<|.ite ((JF _ _).bind λ_=>.ok) .ok
def F8 (a b:List At):Prop:=∀c,0<=bH a c->bH b c=bH a c/\(cE b (bH a c)).kind=(cE a (bH a c)).kind
def IK (g:ByteArray->ByteArray) (a:aw):ByteArray:=if a=e0 then e0 else g a
structure I6 (g:ByteArray->ByteArray) (T U:List Tb):Prop where
 f:∀s,0<=cS T s->cS U (g s)=cS T s
 f2:∀s,0<=cS T s->cS U (IK g s)=cS T s
 c:∀t:Int,0<=t/\t<T.length->F8 (dw T t).attrs (dw U t).attrs
mutual
def I7 (g:ByteArray->ByteArray):Ex->Ex
 |.mk kind table kids conds names attr cN agg at_=>.mk kind (if kind=1 then g table else table) (IY g kids) conds names attr cN agg at_
def IY (g:ByteArray->ByteArray):List Ex->List Ex
 |[]=>[]
 |e::l=>I7 g e::IY g l
end
def IP (g:ByteArray->ByteArray) (a:aI):aI:=
 {a with name:=if a.kind=1 then g a.name else a.name,table:=IK g a.table,other:=IK g a.other,vars:=a.vars.map λb=>{b with table:=g b.table},expr:=I7 g a.expr}
section
variable {a b:List At} {at_:Int}
theorem JI {b:aw} {c:Int} (h:cO at_ a b=.ok c):0<=bH a b/\c=bH a b:=by
 unfold cO at h;obtain⟨d,h⟩:=RO.ce h;injection h with h
 exact⟨of_decide_eq_true d,h.symm⟩
theorem IR (h:F8 a b) (c:aw):RO.To (λd=>d) (cO at_ a c) (cO at_ b c):=λd f=>by
 obtain⟨e,rfl⟩:=JI f;unfold cO;rw[(h c e).1,decide_eq_true e];rfl
theorem I8 (h:F8 a b) {d:aw} {c:Int} (e:cO at_ a d=.ok c):(cE b c).kind=(cE a c).kind:=by
 obtain⟨f,rfl⟩:=JI e;exact(h d f).2
theorem JJ (h:F8 a b):∀(c:bm) (d:List Int),RO.To (λe=>e) (dv at_ a d c) (dv at_ b d c)
 |[],_=>.rfl
 |s::c,_=>(IR h s).bind λ_ _=>.ap id λ_=>JJ h c _
theorem JK (h:F8 a b):∀(d:List cL) (e:List Wg),RO.To (λc=>c) (fe a at_ e d) (fe b at_ e d)
 |[],_=>.rfl
 |y::d,_=>RO.To.bind (φ:=λc=>c) (show RO.To (λc=>c) (pe a at_ y) (pe b at_ y)from(IR h _).bind λc c=>.ap id λ_=>.ap id λ_=>.ap (λe=>by rw[I8 h c];exact e) λ_=>.rfl) λ_ _=>JK h d _
theorem JL (h:F8 a b):∀(c:List du) (d:List Fx),RO.To (λe=>e) (fg a at_ d c) (fg b at_ d c)
 |[],_=>.rfl
 |f::c,_=>(IR h _).bind λe d=>.ap id λ_=>.ap id λ_=>.ap (λe=>by rw[I8 h d];exact e) λ_=>JL h c _
theorem JM {c g:dG->RO (Sd×Int)} (h:∀b,RO.To (λa=>a) (c b) (g b)):∀(d:List bB) (e:List cT),RO.To (λa=>a) (eT at_ c e d) (eT at_ g e d)
 |[],_=>.rfl
 |a::d,_=>RO.To.bind (φ:=λa=>a) (show RO.To (λa=>a) (jL at_ c a) (jL at_ g a)from .ap id λ_=>
  have a:∀b,RO.To (λa=>a) (jK at_ c b) (jK at_ g b):=λb=>.ite (λ_=>.rfl) (λ_=>h b)
  (a _).bind λ_ _=>(a _).bind λ_ _=>.rfl) λ_ _=>JM h d _
end
section
variable {T U:List Tb} {g:ByteArray->ByteArray} {at_:Int} (h:I6 g T U)
include h
theorem KF (a:aw):RO.To (λb=>b) (dS T at_ a) (dS U at_ (g a)):=λb b=>by
 unfold dS at*;obtain⟨c,b⟩:=RO.ce b;rw[h.f a (of_decide_eq_true c),c];exact b
theorem Jn (a:aw):RO.To (λb=>b) (dS T at_ a) (dS U at_ (IK g a)):=λb b=>by
 unfold dS at*;obtain⟨c,b⟩:=RO.ce b;rw[h.f2 a (of_decide_eq_true c),c];exact b
theorem Ja (t a:aw):RO.To (λb=>b) (fC T at_ t a) (fC U at_ (IK g t) a):=
 (Jn h t).bind λ_ d=>(IR (h.c _ (qz d)) a).bind λb b=>λe e=>by
  rw[I8 (h.c _ (qz d)) b];exact e
theorem JN (a:aI) (b:Int) (d:a.kind≠1):RO.To (λe=>e) (jJ T a b) (jJ U (IP g a) b):=by
 have f:(IP g a).name=a.name:=if_neg d;show RO.To _ _ ((dS U a.at_ (IK g a.table)).bind λt=>RO.ap (decide (0<a.names.length)) 1 a.at_<|(dv a.at_ (dw U t).attrs [] a.names).bind λd=>.ok {Ru.zero with kind:=b,name:=(IP g a).name,table:=t,cD:=d});rw[f];exact(Jn h _).bind λ_ a=>.ap id λ_=>(JJ (h.c _ (qz a)) _ _).bind λ_ _=>.rfl
omit h in
theorem JO {b:aI} {c:Int} {r:Ru} (a:jJ T b c=.ok r):0<=r.table/\r.table<T.length:=by
 unfold jJ at a;obtain⟨t,d,a⟩:=RO.ct a;obtain⟨_,a⟩:=RO.ce a;obtain⟨_,_,a⟩:=RO.ct a;injection a with a
 rw[<-a];exact qz d
theorem JP:∀(a:List Vr) (b:List (ByteArray×Int)),RO.To (λc=>c) (gG T at_ b a) (gG U at_ b (a.map λv=>{v with table:=g v.table}))
 |[],_=>.rfl
 |v::a,_=>.ap id λ_=>(KF h _).bind λ_ _=>JP a _
omit h in
theorem JQ:∀(e:List Vr) (d r:List (ByteArray×Int)),gG T at_ d e=.ok r->(∀b∈d,0<=b.2/\b.2<T.length)->∀b∈r,0<=b.2/\b.2<T.length
 |[],d,r,a,hl=>by
  rw[gG]at a;injection a with a
  rw[<-a];exact hl
 |v::e,d,r,a,hl=>by
  rw[gG]at a;obtain⟨_,a⟩:=RO.ce a;obtain⟨t,f,a⟩:=RO.ct a;refine JQ e _ r a (λb c=>?_);rcases gA c with c|c
  ·exact hl b c
  rw[c];exact qz f
theorem KG {b:List (ByteArray×Int)} (i:∀a∈b,0<=a.2/\a.2<T.length) (d:dG):RO.To (λj=>j) (hY T at_ b d) (hY U at_ b d):=by
 unfold hY;refine .ap id λe=>?_;have f:F8 (dw T ((b[(cn (λa:ByteArray×Int=>decide (a.1=d.var)) b).toNat]?).getD (e0,0)).2).attrs (dw U ((b[(cn (λa:ByteArray×Int=>decide (a.1=d.var)) b).toNat]?).getD (e0,0)).2).attrs:=by
  refine h.c _ ?_;rcases mj (λa:ByteArray×Int=>decide (a.1=d.var)) b with⟨_,k⟩|⟨p,g,l,_⟩
  ·rw[List.any_eq_true]at e
   obtain⟨a,m,hq⟩:=e;obtain⟨n,o,rfl⟩:=List.mem_iff_getElem.1 m;rw[k n o]at hq;cases hq
  rw[l,Int.toNat_natCast,List.getElem?_eq_getElem g];exact i _ (List.getElem_mem g)
 exact(IR f _).bind λa a=>λb b=>by
  rw[I8 f a];exact b
variable (hq:∀t:Int,0<=t/\t<T.length->(dw U t).attrs.map iY=(dw T t).attrs.map iY)
include hq
end
theorem KH {T U:List Tb} {g:ByteArray->ByteArray} (h:I6 g T U) {a:aI} (d:a.kind≠1) (e:a.kind≠10) {b:Su} (f:b.tabs=T) (q:List Qy):
 RO.To (λi=>{i with tabs:=U,queries:=q}) (db b a) (db {b with tabs:=U,queries:=q} (IP g a)):=by
 subst f;have b:(IP g a).name=a.name:=if_neg d;unfold db;refine .ite (λ_=>?_) λ_=>.ite (λ_=>?_) λ_=>.ite (λ_=>?_) λ_=>.ite (λ_=>?_) λ_=>.ite (λ_=>?_) λ_=>.ite (λ_=>?_) λ_=>.ite (λ_=>?_) λ_=>.ite (λ_=>?_) λ_=>.ite (λh=>absurd h e) λ_=>.ok
 ·unfold nD
  rw[b];exact .ap id λ_=>.ap id λ_=>.ok
 ·unfold mr
  rw[b];exact(Ja h _ _).bind λe _=>RO.To.bind (φ:=λe=>e) .rfl λ_ _=>.ok
 ·unfold mu
  rw[b];exact(Jn h _).bind λt e=>.ap id λ_=>.ap id λ_=>(JK (h.c _ (qz e)) _ _).bind λ_ _=>.ok
 ·unfold mv
  exact(Ja h _ _).bind λe _=>.ap id λ_=>.ap id λ_=>.ap id λ_=>.ok
 ·unfold pf
  exact(JN h a 1 d).bind λ_ _=>.ok
 ·unfold mw
  exact(JN h a 2 d).bind λr d=>(IR (h.c _ (JO d)) _).bind λe _=>.ap id λ_=>(JL (h.c _ (JO d)) _ _).bind λ_ _=>.ok
 ·unfold mx
  rw[b];exact(Ja h _ _).bind λd _=>(Ja h _ _).bind λq _=>.ap id λ_=>.ok
 unfold my;rw[b];refine .ap (λj=>?_) λ_=>(JP h _ _).bind λb b=>(JM (KG h (JQ _ _ _ b (λb k=>by cases k))) _ _).bind λ_ _=>.ok;show(aZ ((a.vars.map _).length:Int) 1 3&&_)=true;rw[List.length_map];exact j
theorem IS:∀(c:List ((Int×Int)×aI)) (b:Su) (d:List (Int×Int)),(eM b d c).2=[]->d=[]
 |[],b,d,h=>by rw[eM]at h;exact h
 |(g,x)::c,b,d,h=>by
  rw[eM]at h;split at h
  ·cases hp:db b x with
   |ok e=>rw[hp]at h;exact IS c e d h
   |bad e a=>
    rw[hp]at h;dsimp only at h;split at h
    ·exact IS c b d h
    exact absurd (IS c b _ h) ai
  exact absurd (IS c b _ h) ai
end Go.Proofs.YteamkimbmdgdbaaGreatDoor
namespace Go.Proofs.YteamkimbmdgdbaaGreatDoor
open Go.RowKit
theorem JR {g:Int}:∀(f:List dl) (e a:List At),fy g e f=.ok a->(∀b∈e,b.was.length<=0)->∀b∈a,b.was.length<=0
 |[],e,a,h,hl=>by
  rw[fy]at h;injection h with h
  subst h;exact hl
 |c::f,e,a,h,hl=>by
  rw[fy]at h;obtain⟨_,h⟩:=RO.ce h;obtain⟨_,h⟩:=RO.ce h;obtain⟨_,h⟩:=RO.ce h;obtain⟨_,h⟩:=RO.ce h;refine JR f _ a h (λb d=>?_);rcases gA d with d|d
  ·exact hl b d
  subst d;exact Nat.le_refl _
theorem JS:∀(d:List aI) (b:List Tb) (e:cI) (f:List (Int×Int)),gU b 0->gU (ep b e f d).1 0
 |[],b,e,f,h=>by rw[ep];exact h
 |x::d,b,e,f,h=>by
  rw[p0];refine JS d _ _ _ ?_;unfold fI;split
  ·exact h
  split
  ·cases a:fL b x with
   |ok j=>
    intro g c;rcases gA c with c|c
    ·exact h g c
    subst c;unfold fL at a;obtain⟨_,a⟩:=RO.ce a;obtain⟨b,i,a⟩:=RO.ct a;obtain⟨_,a⟩:=RO.ce a;obtain⟨b,_,a⟩:=RO.ct a;injection a with a
    subst a;exact JR _ _ _ i ai
   |bad c g=>exact h
  exact h
theorem IT:∀(b:List ((Int×Int)×aI)) (a:Su) (c:List (Int×Int)),(eM a c b).1.tabs=a.tabs
 |[],a,c=>rfl
 |(g,x)::b,a,c=>by
  rw[eM];split
  ·cases hp:db a x with
   |ok d=>exact(IT b d c).trans (r5 hp).tabs
   |bad d e=>
    dsimp only;split
    ·exact IT b a c
    exact IT b a _
  exact IT b a _
theorem KI (c:List aI):gU (cP c []).1.tabs 0:=by
 have b:gU Su.zero.tabs 0:=λd a=>by cases a
 unfold cP;split
 ·dsimp only
  rw[fS];dsimp only;split
  ·rw[IT]
   exact JS _ _ _ _ (λd a=>by cases a)
  exact b
 exact b
theorem KJ (l:bL):gU (ek l []).1.tabs 0:=by
 unfold ek lh;split
 ·exact λb a=>by cases a
 rw[if_pos (.inr rfl)];exact KI _
end Go.Proofs.YteamkimbmdgdbaaGreatDoor
namespace Go.Proofs.YteamkimbmdgdbaaGreatDoor
open Go.RowKit
mutual
theorem JT:∀a:Ex,I7 id a=a
 |.mk kind table kids conds names attr cN agg at_=>by
  rw[I7,JU kids];simp
theorem JU:∀a:List Ex,IY id a=a
 |[]=>by rw[IY]
 |e::a=>by rw[IY,JT e,JU a]
end
theorem Jo (a:aw):IK id a=a:=by
 unfold IK;split
 ·rename_i h;rw[h]
 rfl
theorem KK (a:aI):IP id a=a:=by
 unfold IP;rw[Jo,Jo,JT];simp
theorem F8.refl (a:List At):F8 a a:=λ_ _=>⟨rfl,rfl⟩
theorem KL {b:Tb} {a:Cg} (j:mc b) (k:d7 a=true) (l:a.kind≠1->0<=bH b.attrs a.attr) (h:gn b a (bH b.attrs a.attr).toNat=0) (c:a.kind=1\/a.kind=3):F8 b.attrs (dt b a).attrs:=by
 intro g i;rcases sE b.attrs g with⟨f,_⟩|⟨e,d,f,m⟩
 ·omega
 have i:F4 b a e=e:=by unfold F4;rw[if_pos ae]
 have g:=KA j k l h e d (by rw[i];omega) g m;rw[i]at g;refine⟨g.trans f.symm,?_⟩;rw[f,HJ d];unfold cE;rw[Int.toNat_natCast];show(((g2 b.attrs a (bH b.attrs a.attr).toNat)[e]?).getD _).kind=_;unfold g2;rcases c with c|c
 ·rw[if_pos c,List.getElem?_append_left d,List.getElem?_eq_getElem d]
  rfl
 rw[if_neg ae,if_neg ae,if_pos c,List.getElem?_modify,List.getElem?_eq_getElem d];simp only[Option.map_eq_map,Option.map_some,Option.getD_some];split<;>rfl
theorem JV {a:List Tb} {b:Nat} (h:b<a.length):dw a (b:Int)=a[b]:=by
 unfold dw;rw[Int.toNat_natCast,List.getElem?_eq_getElem h];rfl
theorem KM {a:List Tb} {c:Cg} (i:∀d∈a,mc d) (h:dj a c=0) (j:c.kind=1\/c.kind=3):I6 id a (gC a c):=by
 obtain⟨k,b,p,e,l,q,m,n⟩:=rY h;have c:∀b,cS (gC a c) b=cS a b:=λb=>Ky (r1 a c) (λf g=>Kz a c f g) b;refine⟨λb _=>c b,λb _=>by rw[Jo];exact c b,λd f=>?_⟩;obtain⟨g,rfl⟩:=Int.eq_ofNat_of_zero_le f.1;have a:g<a.length:=by have:=f.2;omega
 rw[JV a,JV (by rw[r1];exact a),vX e l g a];split
 ·rename_i o
  subst o;exact KL (i _ (List.getElem_mem e)) k m n j
 exact .refl _
end Go.Proofs.YteamkimbmdgdbaaGreatDoor
namespace Go.Proofs.YteamkimbmdgdbaaGreatDoor
open Go.RowKit
def PO.Sf {a:Type} (b:PO a) (c:List ao):Prop:=∀d a,b=.ok d a->a<:+c
theorem PO.Sf.bind {c f:Type} {d:PO c} {e:c->List ao->PO f} {c:List ao} (h:d.Sf c) (g:∀b a,a<:+c->(e b a).Sf c):(d.bind e).Sf c:=by
 cases d with
 |bad i b=>intro c a h;cases h
 |ok b a=>exact g b a (h b a rfl)
theorem PO.Sf.ok {b:Type} {d:b} {b:List ao} {c:List ao} (h:b<:+c):(PO.ok d b).Sf c:=by
 intro b b a;injection a with _ a
 subst a;exact h
theorem PO.Sf.bad {a:Type} {b c:Int} {d:List ao}:(PO.bad b c:PO a).Sf d:=by intro a a h;cases h
theorem PO.Sf.ite {a:Type} {b:Prop} [Decidable b] {c d:PO a} {a:List ao} (h:c.Sf a) (e:d.Sf a):(if b then c else d).Sf a:=by split<;>assumption
theorem Jb {b:Type} (c:Int) (a:List ao) (d:Int) (e:List ao):(e8 c a d:PO b).Sf e:=by cases a<;>exact .bad
theorem F7 {a:List ao} {b:List ao} (h:a<:+b):a.tail<:+b:=(List.tail_suffix a).trans h
theorem KO {a:List ao} {b:List ao} (c:Nat) (h:a<:+b):a.drop c<:+b:=(List.drop_suffix c a).trans h
theorem F0 (c:Int) (b:bm):∀(a:List ao) (d:List ao),a<:+d->(aR c a b).Sf d:=by
 induction b with
 |nil=>intro a d h;cases a<;>exact .ok h
 |cons e b f=>
  intro a d h;have:aR c a (e::b)=if bu a e then aR c a.tail b else e8 c a 4:=by cases a<;>rfl
  rw[this];exact .ite (f _ _ (F7 h)) (Jb _ _ _ _)
theorem JW (c:Int) (a:List ao) (d:Int) (b:List ao) (h:a<:+b):(ey c a d).Sf b:=by
 cases a with
 |nil=>exact .bad
 |cons e f=>exact .ite (.ok (F7 h)) .bad
theorem F2 (c:Int) (a:List ao) (b:List ao) (h:a<:+b):(bW c a).Sf b:=(JW c a 1 b h).bind λ_ _ h=>.ok h
theorem F5 (c:Int) (a:List ao) (b:List ao) (h:a<:+b):(cq c a).Sf b:=(JW c a 2 b h).bind λ_ _ h=>.ok h
theorem IU (c:Int) (a:List ao) (d:bm) (b:List ao) (h:a<:+b):(dK c a d).Sf b:=by
 unfold dK;split
 ·exact .ok (F7 h)
 exact Jb _ _ _ _
theorem KP {e:Type} (g:aw) (f:List ao->PO e) (i:∀a b,a<:+b->(f a).Sf b):∀(c:Nat) (d:List e) (a:List ao) (b:List ao),a<:+b->(da g f c d a).Sf b:=by
 intro c;induction c with
 |zero=>intro d a b h;exact .ok h
 |succ c j=>intro d a b h;exact .ite ((i _ _ (F7 h)).bind λb a h=>j _ _ _ h) (.ok h)
theorem IZ {a:Type} (d:aw) (c:List ao->PO a) (e:∀a b,a<:+b->(c a).Sf b) (a:List ao) (b:List ao) (h:a<:+b):(dA d c a).Sf b:=
 (e _ _ h).bind λ_ _ h=>KP d c e _ _ _ _ h
theorem Jp (a:Int) (b:List ao) (c:List ao) (h:b<:+c):(hT a b).Sf c:=IZ _ _ (F2 a) _ _ h
theorem JX (c:Int) (a:List ao) (b:List ao) (h:a<:+b):(fO c a).Sf b:=by
 cases a with
 |nil=>exact .ok h
 |cons e d=>
  have a:d<:+b:=F7 h;exact .ite (.ok a) (.ite (.ok a) (.ite ((F5 c d b a).bind λ_ _ h=>.ok h) (.ite ((F5 c d b a).bind λ_ _ h=>.ok h) (.ite (.ok a) (.ite (.ok a) (.ite (.ok a) (.ok h)))))))
theorem JY (c:Int) (a:List ao) (b:List ao) (h:a<:+b):(jF c a).Sf b:=
 (JX c a b h).bind λd a h=>by cases d with|none=>exact Jb _ _ _ _|some d=>exact .ok h
theorem JZ (c:Int) (a:List ao) (b:List ao) (h:a<:+b):(jG c a).Sf b:=
 (JX c a b h).bind λd a h=>by
  cases d with
  |none=>exact(F2 c a b h).bind λe a h=>.ite ((F2 c _ b (F7 h)).bind λ_ _ h=>.ok h) (.ok h)
  |some d=>exact .ok h
theorem KQ (b:Int) (c:List ao) (a:List ao) (h:c<:+a):(mn b c).Sf a:=
 .ite (F5 b _ a (F7 h)) (.ite ((F5 b _ a (F7 h)).bind λ_ _ h=>.ok h) (.ok h))
theorem KR (b:Int) (c:List ao) (a:List ao) (h:c<:+a):(kB b c).Sf a:=
 (JZ b c a h).bind λ_ _ h=>(IU b _ _ a h).bind λ_ _ h=>(JZ b _ a h).bind λ_ _ h=>(KQ b _ a h).bind λ_ _ h=>.ok h
theorem J0 (a:Int) (c:List ao) (b:List ao) (h:c<:+b):(jH a c).Sf b:=
 (F0 a _ _ b h).bind λ_ _ h=>IZ _ _ (KR a) _ _ h
theorem KS (b:Int) (c:List ao) (a:List ao) (h:c<:+a):(kC b c).Sf a:=
 (F2 b c a h).bind λ_ _ h=>(IU b _ _ a h).bind λ_ _ h=>.ite ((JY b _ a (F7 h)).bind λ_ _ h=>.ok h) (.ok h)
theorem KT (b:Int) (c:List ao) (a:List ao) (h:c<:+a):(kD b c).Sf a:=
 (F2 b c a h).bind λ_ _ h=>(F0 b _ _ a h).bind λ_ _ h=>(JY b _ a h).bind λ_ _ h=>.ok h
theorem KU (b:Int) (c:List ao) (a:List ao) (h:c<:+a):(kE b c).Sf a:=
 (F2 b c a h).bind λ_ _ h=>(F2 b _ a h).bind λ_ _ h=>.ok h
theorem KV (b:Int) (d:aw) (e f g i j:Int) (c:List ao) (a:List ao) (h:c<:+a):(ly b d e f g i j c).Sf a:=
 (PO.Sf.ite (F5 b _ a (F7 h)) (.ok h)).bind λ_ _ h=>(F0 b _ _ a h).bind λ_ _ h=>.ok h
theorem KW (b:Int) (d:aw) (e f g:Int) (c:List ao) (a:List ao) (h:c<:+a):(qJ b d e f g c).Sf a:=
 (PO.Sf.ite (F5 b _ a (F7 h)) (.ok h)).bind λ_ _ h=>(F0 b _ _ a h).bind λ_ _ h=>(F5 b _ a h).bind λ_ _ h=>KV _ _ _ _ _ _ _ _ a h
theorem KY (b:Int) (d:aw) (e f:Int) (c:List ao) (a:List ao) (h:c<:+a):(mq b d e f c).Sf a:=
 (F0 b _ _ a h).bind λ_ _ h=>(F5 b _ a h).bind λ_ _ h=>KW _ _ _ _ _ _ a h
theorem KZ (b:Int) (c:List ao) (a:List ao) (h:c<:+a):(iU b c).Sf a:=
 (F2 b c a h).bind λ_ _ h=>(IU b _ _ a h).bind λ_ _ h=>(PO.Sf.ite (F5 b _ a h) (.ok h)).bind λ_ _ h=>KY _ _ _ _ _ a h
theorem J1 (c:Int) (d:aw) (a:List ao) (b:List ao) (h:a<:+b):(lx c d a).Sf b:=.ite (.ok h) (Jp c a b h)
theorem J2 (b:Int) (d:Nat) (c:List ao) (a:List ao) (h:c<:+a):(em b d c).Sf a:=
 .ite ((J0 b c a h).bind λ_ _ h=>.ok h) (.ite ((F0 b _ _ a h).bind λ_ _ h=>(J1 b _ _ a h).bind λ_ _ h=>.ok h) (.ite
  ((F0 b _ _ a h).bind λ_ _ h=>(F2 b _ a h).bind λ_ _ h=>(F0 b _ _ a h).bind λ_ _ h=>(F2 b _ a h).bind λ_ _ h=>.ok h) (.ite
  (
   (
   F0 b _ _ a h).bind λ_ _ h=>(J1 b _ _ a h).bind λ_ _ h=>(F0 b _ _ a h).bind λ_ _ h=>(IU b _ _ a h).bind λ_ _ h=>
   (PO.Sf.ite (.ok h) (F2 b _ a h)).bind λ_ _ h=>(F0 b _ _ a h).bind λ_ _ h=>(F2 b _ a h).bind λ_ _ h=>.ok h) (.ok h))))
theorem Jc (c:Int):∀(d:Nat) (b:List ao) (a:List ao),b<:+a->(eb c d b).Sf a:=by
 intro d;induction d with
 |zero=>intro b a h;exact Jb _ _ _ _
 |succ d e=>
  intro b a h;unfold eb;cases hU b 0 fP with
  |none=>exact(F2 c b a h).bind λ_ _ h=>.ok h
  |some f=>
   exact(e _ a (KO 2 h)).bind λd b h=>(PO.Sf.ite ((F0 c _ _ a h).bind λ_ _ h=>(e _ a h).bind λ_ _ h=>.ok h) (.ok h)).bind λ_ _ h=>
    (J2 c f _ a h).bind λ_ _ h=>(F0 c _ _ a h).bind λ_ _ h=>.ok h
theorem Jd (b:Int) (c:List ao) (a:List ao) (h:c<:+a):(gF b c).Sf a:=
 (F2 b c a h).bind λ_ _ h=>(F0 b _ _ a h).bind λ_ _ h=>(F2 b _ a h).bind λ_ _ h=>.ok h
theorem J3 (b:Int) (d:aI) (c:List ao) (a:List ao) (h:c<:+a):(hW b d c).Sf a:=
 (F0 b _ _ a h).bind λ_ _ h=>(F2 b _ a h).bind λ_ _ h=>(F0 b _ _ a h).bind λ_ _ h=>(Jp b _ a h).bind λ_ _ h=>(F0 b _ _ a h).bind λ_ _ h=>.ok h
theorem J4 (c:Int):∀(d:Nat) (e:List cL) (b:List ao) (a:List ao),b<:+a->(hV c d e b).Sf a
 |0,_,_,_,h=>.ok h
 |d+1,e,b,a,h=>.ite (.ok h) ((KZ c b a h).bind λb b h=>J4 c d _ b a h)
theorem K0 (b:Int) (d:aI) (c:List ao) (a:List ao) (h:c<:+a):(en b d c).Sf a:=by
 unfold en;refine .ite ?_ (.ite ?_ (.ite ?_ (.ite ?_ (.ite ?_ (.ite ?_ (.ite ?_ (.ite ?_ (.ite ?_ ?_))))))))
 ·exact(F0 b _ _ a h).bind λ_ _ h=>(IZ _ _ (KS b) _ a h).bind λ_ _ h=>(F0 b _ _ a h).bind λ_ _ h=>(Jp b _ a h).bind λ_ _ h=>.ok h
 ·exact(F0 b _ _ a h).bind λ_ _ h=>(F5 b _ a h).bind λ_ _ h=>.ok h
 ·exact(F0 b _ _ a h).bind λ_ _ h=>(Jd b _ a h).bind λ_ _ h=>(F0 b _ _ a h).bind λ_ _ h=>(IU b _ _ a h).bind λ_ _ h=>
   .ite ((F5 b _ a h).bind λ_ _ h=>.ok h) (.ite ((F5 b _ a h).bind λ_ _ h=>(F5 b _ a h).bind λ_ _ h=>.ok h) (.ok h))
 ·exact(F0 b _ _ a h).bind λ_ _ h=>(F2 b _ a h).bind λ_ _ h=>(F0 b _ _ a h).bind λ_ _ h=>(F5 b _ a h).bind λ_ _ h=>(F0 b _ _ a h).bind λ_ _ h=>(J4 b _ _ _ a h).bind λ_ _ h=>.ok h
 ·exact(Jd b _ a h).bind λ_ _ h=>(F0 b _ _ a h).bind λ_ _ h=>(IU b _ _ a h).bind λ_ _ h=>.ok h
 ·exact J3 b d c a h
 ·exact(J3 b d c a h).bind λ_ _ h=>(F0 b _ _ a h).bind λ_ _ h=>(F2 b _ a h).bind λ_ _ h=>.ite ((IZ _ _ (KT b) _ a (F7 h)).bind λ_ _ h=>.ok h) (.ok h)
 ·exact(Jd b _ a h).bind λ_ _ h=>(F0 b _ _ a h).bind λ_ _ h=>(Jd b _ a h).bind λ_ _ h=>.ok h
 ·exact(IZ _ _ (KU b) _ a h).bind λ_ _ h=>(J0 b _ a h).bind λ_ _ h=>.ok h
 exact(F0 b _ _ a h).bind λ_ _ h=>(Jc b _ _ a h).bind λ_ _ h=>.ok h
def F6 (a:List ao):Prop:=a.Pairwise λa b=>a.at_<b.at_
mutual
def Ex.All (a:Int->Prop):Ex->Prop
 |.mk _ _ kids _ _ _ _ _ at_=>a at_/\Ex.F3 a kids
def Ex.F3 (a:Int->Prop):List Ex->Prop
 |[]=>True
 |e::es=>e.All a/\Ex.F3 a es
end
mutual
theorem Ex.All.imp {b c:Int->Prop} (h:∀a,b a->c a):∀d:Ex,d.All b->d.All c
 |.mk _ _ kids _ _ _ _ _ _,a=>by
  rw[Ex.All]at a⊢;exact⟨h _ a.1,Ex.F3.imp h kids a.2⟩
theorem Ex.F3.imp {b c:Int->Prop} (h:∀a,b a->c a):∀d:List Ex,Ex.F3 b d->Ex.F3 c d
 |[],_=>by rw[Ex.F3];trivial
 |e::es,a=>by
  rw[Ex.F3]at a⊢;exact⟨Ex.All.imp h e a.1,Ex.F3.imp h es a.2⟩
end
theorem F6.suf {a b:List ao} (h:F6 a) (c:b<:+a):F6 b:=List.Pairwise.sublist c.sublist h
theorem K4 {a b:List ao} (h:F6 a) (c:b<:+a) (d:b≠[]):cZ a<=cZ b:=by
 cases a with
 |nil=>exact absurd (List.suffix_nil.1 c) d
 |cons f g=>
  rcases List.suffix_cons_iff.1 c with e|c
  ·rw[e];exact Int.le_refl _
  cases b with
  |nil=>exact absurd rfl d
  |cons i j=>exact Int.le_of_lt (List.rel_of_pairwise_cons h (c.subset (List.mem_cons_self ..)))
theorem J5 {a b:List ao} (h:F6 a) (c:b<:+a) (d:b.length<a.length):∀e∈b,cZ a<e.at_:=by
 cases a with
 |nil=>simp at d
 |cons e g=>
  rcases List.suffix_cons_iff.1 c with f|c
  ·rw[f]at d;exact absurd d (Nat.lt_irrefl _)
  exact λa a=>List.rel_of_pairwise_cons h (c.subset a)
def IL (b:Int) (c d:List ao) (a:Int):Prop:=cZ c<=a/\a<b/\∀b∈d,a<b.at_
theorem IL.mono {d:Int} {a e b f:List ao} (h:F6 b) (i:a<:+b) (j:a≠[]) (k:f<:+e) {g:Int} (c:IL d a e g):IL d b f g:=
 ⟨Int.le_trans (K4 h i j) c.1,c.2.1,λa b=>c.2.2 a (k.subset b)⟩
theorem J6 {a:List ao}:∀(b:bm) (c d:Nat),hU a c b=some d->2<=a.length
 |[],c,d,h=>by rw[hU]at h;cases h
 |s::b,c,d,h=>by
  rw[hU]at h;split at h
  ·rename_i e
   cases a with
   |nil=>cases e
   |cons f a=>
    cases a with
    |nil=>simp[el]at e
    |cons g a=>simp
  exact J6 b _ _ h
theorem Jq (c j:Int):∀(g:Nat) (a:List ao),F6 a->(∀d∈a,d.at_<j)->∀e f,eb c g a=.ok e f->f.length<a.length/\e.All (IL j a f)
 |0,a,hi,hL,e,f,h=>by
  rw[eb]at h;cases a<;>cases h
 |g+1,a,hi,hL,e,f,h=>by
  have F:=Jc c (g+1) a a (List.suffix_refl a) e f h;rw[eb]at h;have t:f.length<a.length->IL j a f (cZ a):=λk=>⟨Int.le_refl _,by cases a with|nil=>simp at k|cons d b=>exact hL d (List.mem_cons_self ..),J5 hi F k⟩;cases ho:hU a 0 fP with
  |none=>
   rw[ho]at h;obtain⟨b,i,k,l⟩:=PO.bind_some h;injection l with h1 s
   subst h1 s;have:=yE c a b i k;exact⟨this,by rw[Ex.All,Ex.F3];exact⟨t this,trivial⟩⟩
  |some G=>
   rw[ho]at h;dsimp only at h;have s:=J6 _ _ _ ho;obtain⟨m,n,u,h⟩:=PO.bind_some h;obtain⟨v,p,i,h⟩:=PO.bind_some h;obtain⟨b,w,H,h⟩:=PO.bind_some h;obtain⟨_,x,k,h⟩:=PO.bind_some h;injection h with h3 h4
   subst h3 h4;have l:a.drop 2<:+a:=List.drop_suffix 2 a;have id:=hi.suf l;obtain⟨f,y⟩:=Jq c j g (a.drop 2) id (λd f=>hL d (l.subset f)) m n u;have q:=Jc c g (a.drop 2) _ (List.suffix_refl _) m n u;have z:=J2 c G p _ (List.suffix_refl _) b w H;have A:=F0 c _ w _ (List.suffix_refl _) _ x k;have B:a.drop 2≠[]:=λe=>by rw[e]at f;simp at f
   have f:(a.drop 2).length<a.length:=by rw[List.length_drop];omega
   have C:p<:+n/\Ex.F3 (IL j a p) v:=by
    split at i
    ·obtain⟨_,o,I,i⟩:=PO.bind_some i
     obtain⟨r,D,E,i⟩:=PO.bind_some i;injection i with h5 h6
     subst h5 h6;have f:=F0 c _ n _ (List.suffix_refl _) _ o I;have k:=Jc c g o _ (List.suffix_refl _) r D E;obtain⟨c,g⟩:=Jq c j g o (id.suf (f.trans q)) (λd c=>hL d (((f.trans q).trans l).subset c)) r D E;have e:o≠[]:=λe=>by rw[e]at c;simp at c
     refine⟨k.trans f,?_⟩;rw[Ex.F3,Ex.F3,Ex.F3];exact⟨Ex.All.imp (λ_ b=>b.mono hi l B (k.trans f)) m y,Ex.All.imp (λ_ b=>b.mono hi ((f.trans q).trans l) e (List.suffix_refl _)) r g,trivial⟩
    injection i with h5 h6
    subst h5 h6;rw[Ex.F3,Ex.F3];exact⟨List.suffix_refl _,Ex.All.imp (λ_ b=>b.mono hi l B (List.suffix_refl _)) m y,trivial⟩
   have a:x.length<a.length:=by
    have:=A.length_le;have:=z.length_le;have:=C.1.length_le;omega
   refine⟨a,?_⟩;rw[Ex.All];have c:=A.trans z;exact⟨t a,Ex.F3.imp (λ_ b=>⟨b.1,b.2.1,λd a=>b.2.2 d (c.subset a)⟩) v C.2⟩
def PO.Al {a:Type} (b:PO a) (c:a->Prop):Prop:=∀a d,b=.ok a d->c a
theorem PO.Al.bind {a b:Type} {e:PO a} {c:a->List ao->PO b} {d:b->Prop} (h:∀a b,(c a b).Al d):(e.bind c).Al d:=by
 intro d e c;obtain⟨a,b,_,c⟩:=PO.bind_some c;exact h a b d e c
theorem PO.Al.A3 {a b:Type} {c:PO a} {d:a->List ao->PO b} {e:a->Prop} {f:b->Prop} (g:c.Al e) (h:∀a b,e a->(d a b).Al f):(c.bind d).Al f:=by
 intro d e c;obtain⟨a,b,f,c⟩:=PO.bind_some c;exact h a b (g a b f) d e c
theorem PO.Al.ok {b:Type} {c:b} {d:List ao} {q:b->Prop} (h:q c):(PO.ok c d).Al q:=by
 intro b b a;injection a with a _
 subst a;exact h
theorem PO.Al.ite {b:Type} {c:Prop} [Decidable c] {d e:PO b} {a:b->Prop} (h:d.Al a) (b:e.Al a):(if c then d else e).Al a:=by split<;>assumption
def J7 (a b:aI):Prop:=b.kind=a.kind/\b.at_=a.at_
theorem J8 (b:Int) (a:aI) (c:List ao):(hW b a c).Al (J7 a):=.bind λ_ _=>.bind λ_ _=>.bind λ_ _=>.bind λ_ _=>.bind λ_ _=>.ok ⟨rfl,rfl⟩
theorem K8 (b:Int) (a:aI) (c:List ao):(en b a c).Al (J7 a):=
 .ite (.bind λ_ _=>.bind λ_ _=>.bind λ_ _=>.bind λ_ _=>.ok ⟨rfl,rfl⟩)<|.ite (.bind λ_ _=>.bind λ_ _=>.ok ⟨rfl,rfl⟩)<|
  .ite (.bind λ_ _=>.bind λ_ _=>.bind λ_ _=>.bind λ_ _=>.ite (.bind λ_ _=>.ok ⟨rfl,rfl⟩) (.ite (.bind λ_ _=>.bind λ_ _=>.ok ⟨rfl,rfl⟩) (.ok ⟨rfl,rfl⟩)))<|
  .ite (.bind λ_ _=>.bind λ_ _=>.bind λ_ _=>.bind λ_ _=>.bind λ_ _=>.bind λ_ _=>.ok ⟨rfl,rfl⟩)<|.ite (.bind λ_ _=>.bind λ_ _=>.bind λ_ _=>.ok ⟨rfl,rfl⟩)<|
  .ite (J8 b a c)<|.ite (.A3 (J8 b a c) λ_ _ h=>.bind λ_ _=>.bind λ_ _=>.ite (.bind λ_ _=>.ok h) (.ok h))<|
  .ite (.bind λ_ _=>.bind λ_ _=>.bind λ_ _=>.ok ⟨rfl,rfl⟩)<|.ite (.bind λ_ _=>.bind λ_ _=>.ok ⟨rfl,rfl⟩) (.bind λ_ _=>.bind λ_ _=>.ok ⟨rfl,rfl⟩)
def IJ (a:Int):List aI->Int
 |[]=>a
 |x::_=>x.at_
def IM (a:Int):List aI->Prop
 |[]=>True
 |x::xs=>x.at_<IJ a xs/\(x.kind=10->x.expr.All λb=>x.at_<=b/\b<IJ a xs)/\IM a xs
theorem K9 (c j:Int) (b:List ao) (o:F6 b) (t:∀k∈b,k.at_<j) (f:aI) (l:List ao) (h:iV c b=.ok f l):
 l<:+b.tail/\f.at_=cZ b/\(f.kind=10->f.expr.All (IL j b l)):=by
 unfold iV at h;obtain⟨u,m,g,h⟩:=PO.bind_some h;obtain⟨v,e,w,h⟩:=PO.bind_some h;obtain⟨p,n,a,h⟩:=PO.bind_some h;obtain⟨_,x,y,h⟩:=PO.bind_some h;injection h with h1 h2
 subst h1 h2;have z:m=b.tail:=by
  unfold dK at g;split at g
  ·injection g with _ d
   exact d.symm
  cases b<;>cases g
 have q:e<:+m:=PO.Sf.ite (.ok (List.suffix_refl _)) (F2 c m _ (List.suffix_refl _)) v e w;have A:=K0 c _ e _ (List.suffix_refl _) p n a;have r:=F0 c _ n _ (List.suffix_refl _) _ x y;have s:=K8 c _ e p n a;subst z;refine⟨r.trans (A.trans q),s.2,λf=>?_⟩;have f:u=10:=s.1.symm.trans f;unfold en at a;dsimp only at a;rw[f]at a;simp only[show((10:Int)=1)=False from by simp,show((10:Int)=2)=False from by simp,show((10:Int)=3)=False from by simp,show((10:Int)=4)=False from by simp,show((10:Int)=5)=False from by simp,show((10:Int)=6)=False from by simp,show((10:Int)=7)=False from by simp,show((10:Int)=8)=False from by simp,show((10:Int)=9)=False from by simp,if_false]at a;unfold nA at a;obtain⟨_,i,B,a⟩:=PO.bind_some a;obtain⟨d,C,D,a⟩:=PO.bind_some a;injection a with h1 h2
 subst h1 h2;have a:=F0 c _ e _ (List.suffix_refl _) _ i B;have a:i<:+b:=a.trans (q.trans (List.tail_suffix b));obtain⟨b,c⟩:=Jq c j 12 i (o.suf a) (λk b=>t k (a.subset b)) d C D;have e:i≠[]:=λd=>by rw[d]at b;simp at b
 exact Ex.All.imp (λ_ b=>b.mono o a e r) d c
theorem J9 (m d:Int):∀(l:Nat) (e:List aI) (a:List ao),F6 a->(∀c∈a,c.at_<d)->∀f i,iW m l e a=.ok f i->∃b,f=e++b/\IM d b/\(b≠[]->a≠[]/\IJ d b=cZ a)
 |0,e,a,hi,hL,f,i,h=>by
  rw[iW]at h;injection h with h _
  exact⟨[],by rw[h,List.append_nil],trivial,λg=>absurd rfl g⟩
 |l+1,e,[],hi,hL,f,i,h=>by
  rw[iW]at h;injection h with h _
  exact⟨[],by rw[h,List.append_nil],trivial,λg=>absurd rfl g⟩
 |l+1,e,c::a,hi,hL,f,i,h=>by
  rw[iW]at h;split at h
  ·cases h
  obtain⟨n,g,s,h⟩:=PO.bind_some h;obtain⟨q,o,t⟩:=K9 m d (c::a) hi hL n g s;have p:g<:+c::a:=q.trans (List.tail_suffix _);obtain⟨b,u,v,w⟩:=J9 m d l (e++[n]) g (hi.suf p) (λc e=>hL c (p.subset e)) f i h;have r:∀j,IL d (c::a) g j->j<IJ d b:=λj k=>by
   cases b with
   |nil=>exact k.2.1
   |cons z b=>
    obtain⟨x,a⟩:=w ai;rw[a];cases g with
    |nil=>exact absurd rfl x
    |cons y g=>exact k.2.2 y (List.mem_cons_self ..)
  refine⟨n::b,by rw[u];simp,⟨?_,λa=>?_,v⟩,λ_=>⟨by simp,o⟩⟩
  ·rw[o]
   have:=q.length_le;exact r _ ⟨Int.le_refl _,hL c (List.mem_cons_self ..),J5 hi p (by simp at this⊢;omega)⟩
  exact Ex.All.imp (λj k=>⟨by rw[o];exact k.1,r j k⟩) _ (t a)
theorem La {d b:Int} {a:List ao} (f:F6 a) (g:∀c∈a,c.at_<b) {c:List aI} {e:List ao} (h:qK d a=.ok c e):IM b c:=by
 obtain⟨c,a,b,_⟩:=J9 d b _ [] a f g c e h;rw[a];exact b
end Go.Proofs.YteamkimbmdgdbaaGreatDoor
namespace Go.Proofs.YteamkimbmdgdbaaGreatDoor
open Go.RowKit
def RO.At {α:Type} (r:RO α) (q:Int->Prop):Prop:=∀b a,r=.bad b a->q a
section
variable {α β:Type} {r:RO α} {q:Int->Prop} {at_:Int}
theorem RO.At.ok {a:α}:(RO.ok a).At q:=by intro a a h;cases h
theorem RO.At.bad {a:Int} (h:q at_):(RO.bad a at_:RO α).At q:=by intro a a h;injection h with _ h;subst h;assumption
theorem RO.At.bind {c:α->RO β} (h:r.At q) (d:∀a,(c a).At q):(r.bind c).At q:=by
 cases r with
 |ok a=>exact d a
 |bad e a=>intro c c b;injection b with _ b;subst b;exact h e a rfl
theorem RO.At.ap {a:Bool} {b:Int} (h:q at_) (c:r.At q):(RO.ap a b at_ r).At q:=by
 unfold RO.ap;split
 ·exact c
 exact .bad h
theorem RO.At.ite {a:Prop} [Decidable a] {b:RO α} (h:r.At q) (c:b.At q):(if a then r else b).At q:=by split<;>assumption
variable (h:q at_)
include h
theorem IV (a:List At) (b:aw):(cO at_ a b).At q:=.ap h .ok
theorem Ka (b:List At):∀(a:bm) (c:List Int),(dv at_ b c a).At q
 |[],_=>.ok
 |_::a,_=>(IV h _ _).bind λ_=>.ap h (Ka b a _)
theorem I0 (a:List Tb) (b:aw):(dS a at_ b).At q:=.ap h .ok
theorem Je (a:List Tb) (b c:aw):(fC a at_ b c).At q:=(I0 h _ _).bind λ_=>(IV h _ _).bind λ_=>.ok
theorem Kb (b:List At):∀(a:List cL) (c:List Wg),(fe b at_ c a).At q
 |[],_=>.ok
 |_::a,_=>RO.At.bind (show(pe _ _ _).At q from(IV h _ _).bind λ_=>.ap h (.ap h (.ap h .ok))) λ_=>Kb b a _
theorem Kc (b:List At):∀(a:List du) (c:List Fx),(fg b at_ c a).At q
 |[],_=>.ok
 |_::a,_=>(IV h _ _).bind λ_=>.ap h (.ap h (.ap h (Kc b a _)))
theorem Kd {b:dG->RO (Sd×Int)} (c:∀a,(b a).At q) (a:dG):(jK at_ b a).At q:=.ite (.ap h .ok) (c a)
theorem Jr {c:dG->RO (Sd×Int)} (a:∀d,(c d).At q):∀(b:List bB) (d:List cT),(eT at_ c d b).At q
 |[],_=>.ok
 |_::b,_=>RO.At.bind (show(jL _ _ _).At q from .ap h ((Kd h a _).bind λ_=>(Kd h a _).bind λ_=>.ap h (.ap h .ok))) λ_=>Jr a b _
theorem Ke (b:List Tb):∀(a:List Vr) (c:List (ByteArray×Int)),(gG b at_ c a).At q
 |[],_=>.ok
 |_::a,_=>.ap h ((I0 h _ _).bind λ_=>Ke b a _)
theorem Jf (a:List At) (b:aw):(ee at_ a b).At q:=.ap h .ok
theorem Js (b:List At):∀(a:bm) (c:List Int) (d:List At),(fz at_ b c d a).At q
 |[],_,_=>.ok
 |_::a,_,_=>(Jf h _ _).bind λ_=>.ap h (Js b a _ _)
theorem Jt (b:List At):∀(a r:List At),(hZ at_ b r a).At q
 |[],_=>.ok
 |_::a,_=>.ite (Jt b a _) (.ap h (Jt b a _))
theorem Lb (a:List Tb) (b:Int) (c:aw) (d:List bB) (e:bm) (f g:aw) (i:Int) (j:List Pl):(cy a b c d e f g i at_ j).At q:=
 .ap h<|.ite ((I0 h _ _).bind λ_=>.ok)<|.ite (.ap h ((Jr h (λ_=>.ap h ((Jf h _ _).bind λ_=>.ok)) _ _).bind λ_=>.ok))<|.ite ((Js h _ _ _ _).bind λ_=>.ok)<|
  .ite ((Jt h _ _ _).bind λ_=>.ap h .ok)<|.ite (.ap h .ok)<|.ite ((Jf h _ _).bind λ_=>.ap h (.ap h .ok))<|
   (Js h _ _ _ _).bind λ_=>.ap h (RO.At.bind (.ite (.ap h .ok) ((Jf h _ _).bind λ_=>.ap h .ok)) λ_=>.ap h .ok)
omit h
mutual
theorem Kf (b:List Tb):∀c:Ex,c.All q->(fR b c).At q
 |.mk _ _ kids _ _ _ _ _ _,a=>by
  rw[Ex.All]at a;rw[fR];exact(Kg b kids a.2).bind λ_=>.ap a.1 ((Lb a.1 _ _ _ _ _ _ _ _ _).bind λ_=>.ok)
theorem Kg (b:List Tb):∀c:List Ex,Ex.F3 q c->(fi b c).At q
 |[],_=>by rw[fi];exact .ok
 |e::es,a=>by
  rw[Ex.F3]at a;rw[fi];exact(Kf b e a.1).bind λ_=>(Kg b es a.2).bind λ_=>.ok
end
end
theorem Kh {q:Int->Prop} (b:List Tb) (a:aI) (c:Int) (h:q a.at_):(jJ b a c).At q:=(I0 h _ _).bind λ_=>.ap h ((Ka h _ _ _).bind λ_=>.ok)
theorem Lc {q:Int->Prop} (b:Su) (a:aI) (h:q a.at_) (c:a.kind=10->a.expr.All q):(db b a).At q:=
 .ite (.ap h (.ap h .ok))<|.ite ((Je h _ _ _).bind λ_=>RO.At.bind (.ite .ok (.ite (.ap h .ok) (.ite (.ap h .ok) (.bad h)))) λ_=>.ok)<|
  .ite ((I0 h _ _).bind λ_=>.ap h (.ap h ((Kb h _ _ _).bind λ_=>.ok)))<|.ite ((Je h _ _ _).bind λ_=>.ap h (.ap h (.ap h .ok)))<|
  .ite ((Kh _ _ _ h).bind λ_=>.ok)<|.ite ((Kh _ _ _ h).bind λ_=>(IV h _ _).bind λ_=>.ap h ((Kc h _ _ _).bind λ_=>.ok))<|
  .ite ((Je h _ _ _).bind λ_=>(Je h _ _ _).bind λ_=>.ap h .ok)<|
  .ite (.ap h ((Ke h _ _ _).bind λ_=>(Jr h (λ_=>.ap h ((IV h _ _).bind λ_=>.ok)) _ _).bind λ_=>.ok))<|by
   split
   ·rename_i a
    exact(Kf _ _ (c a)).bind λ_=>.ok
   exact .ok
inductive I1 (L:Int):List aI->List (Int×Int)->List aI->Prop
 |nil:I1 L [] [] []
 |bad {x:aI} {xs:List aI} {e a:Int} {fs:List (Int×Int)} {ys:List aI}:x.at_<=a->a<IJ L xs->I1 L xs fs ys->I1 L (x::xs) ((e,a)::fs) ys
 |good {x:aI} {xs:List aI} {fs:List (Int×Int)} {ys:List aI}:I1 L xs fs ys->I1 L (x::xs) fs (x::ys)
def Ju (b:List Tb) (d:cI) (c:aI):List Tb×(Int×Int):=
 if(eo d c).2≠0 then(b,((eo d c).2,c.at_))
 else if c.kind=1 then match fL b c with|.ok t=>(b++[t],(0,0))|.bad e a=>(b,(e,a))else(b,(0,0))
theorem Jv (b:List Tb) (c:cI) (d:List (Int×Int)) (a:aI) (e:List aI):ep b c d (a::e)=ep (Ju b c a).1 (eo c a).1 (d++[(Ju b c a).2]) e:=by
 rw[ep];unfold Ju;split
 ·rfl
 split
 ·cases fL b a<;>rfl
 rfl
theorem Jw:∀(a:List aI) (b:List Tb) (c:cI) (d:List (Int×Int)),ep b c d a=((ep b c [] a).1,d++(ep b c [] a).2)
 |[],b,c,d=>by rw[ep,ep];simp
 |x::a,b,c,d=>by
  rw[Jv,Jv b c [],Jw a _ _ (d++_),Jw a _ _ ([]++_)];simp
theorem Ki:∀(a:List aI) (b:List Tb) (c:cI),(ep b c [] a).2.length=a.length
 |[],_,_=>by rw[ep];rfl
 |x::a,b,c=>by
  rw[Jv,Jw];simp[Ki a]
end Go.Proofs.YteamkimbmdgdbaaGreatDoor
namespace Go.Proofs.YteamkimbmdgdbaaGreatDoor
open Go.RowKit
def IN (d:Int) (e:List aI) (b:Int):Prop:=∃f a c,e=f++a::c/\a.kind=10/\a.at_<=b/\b<IJ d c
theorem IN.cons {a b:Int} {c:List aI} (h:IN a c b) (d:aI):IN a (d::c) b:=by
 obtain⟨e,f,g,i,j,k,l⟩:=h;exact⟨d::e,f,g,by rw[i];rfl,j,k,l⟩
theorem Kj {t U:List Tb} (h:I6 id t U) (n:Int):∀(e:List ((Int×Int)×aI)) (a:Su) (q:List Qy) (g:List (Int×Int)),a.tabs=t->(eM a [] e).2=[]->IM n (e.map (·.2))->
 ∃q' i,eM {a with tabs:=U,queries:=q} g e=({(eM a [] e).1 with tabs:=U,queries:=q'},g++i)/\∀f∈i,IN n (e.map (·.2)) f.2
 |[],a,q,g,_,_,_=>⟨q,[],by rw[eM,eM,List.append_nil],λf b=>by cases b⟩
 |(k,d)::e,a,q,g,hs,hf,hi=>by
  rw[eM]at hf⊢;by_cases o:k.1=0
  case neg=>
   rw[if_neg o]at hf;exact absurd (IS _ _ _ hf) ai
  rw[if_pos o]at hf;rw[if_pos o,eM,if_pos o];have next:∀(c:Su) (l:List Qy) (o:List (Int×Int)),c.tabs=t->(eM c [] e).2=[]->∃q' i,eM {c with tabs:=U,queries:=l} o e=({(eM c [] e).1 with tabs:=U,queries:=q'},o++i)/\∀f∈i,IN n (d::e.map (·.2)) f.2:=λc l o p r=>by
   obtain⟨q',i,m,o⟩:=Kj h n e c l o p r hi.2.2;exact⟨q',i,m,λf b=>(o f b).cons d⟩
  by_cases p:d.kind=1
  ·have m:∀(a:Su),db a d=.ok a:=λa=>by unfold db;simp[p]
   rw[m]at hf⊢;rw[m];exact next a q g hs hf
  cases b:db a d with
  |bad s u=>
   rw[b]at hf;dsimp only at hf;by_cases m:s=0
   ·subst m
    exact absurd b (KE a d u)
   rw[if_neg m]at hf;exact absurd (IS _ _ _ hf) ai
  |ok c=>
   rw[b]at hf;dsimp only at hf⊢;have s:=(r5 b).tabs.trans hs;by_cases u:d.kind=10
   case neg=>
    have r:=KH h p u hs q c b;rw[KK]at r;rw[r];exact next c q g s hf
   have x:∀(a:Su),db a d=lE a d:=λa=>by unfold db;simp[u]
   obtain⟨o,y⟩:∃o,c={a with queries:=o}:=by
    rw[x]at b;unfold lE at b;obtain⟨f,_,b⟩:=RO.ct b;injection b with b
    exact⟨_,b.symm⟩
   cases j:db {a with tabs:=U,queries:=q} d with
   |ok m=>
    dsimp only;obtain⟨l,v⟩:∃l,m={c with tabs:=U,queries:=l}:=by
     rw[x]at j;unfold lE at j;obtain⟨f,_,j⟩:=RO.ct j;injection j with j
     exact⟨_,by rw[<-j,y]⟩
    rw[v];exact next c l g s hf
   |bad v m=>
    dsimp only;have z:({a with tabs:=U,queries:=q}:Su)={c with tabs:=U,queries:=q}:=by rw[y]
    split
    ·rw[z]
     exact next c q g s hf
    rw[z];obtain⟨q',i,a,A⟩:=next c q (g++[(v,m)]) s hf;refine⟨q',(v,m)::i,by rw[a];simp,λf w=>?_⟩;rcases dd w with rfl|w
    ·have:=Lc (q:=λm=>d.at_<=m/\m<IJ n (e.map (·.2))) _ d ⟨Int.le_refl _,hi.1⟩ hi.2.1 v m j
     exact⟨[],d,e.map (·.2),rfl,u,this.1,this.2⟩
    exact A f w
theorem Ld {b:Int} {xs:List aI} {c:Cg} (h:(cP xs []).2=[]) (i:IM b xs) (j:c.kind=1):
 (dj (cP xs []).1.tabs c≠0->cP xs [c]=(Su.zero,[(dj (cP xs []).1.tabs c,-1)]))/\
 (dj (cP xs []).1.tabs c=0->((cP xs [c]).2=[]->∃q,(cP xs [c]).1={(cP xs []).1 with tabs:=gC (cP xs []).1.tabs c,queries:=q})/\∀d∈(cP xs [c]).2,IN b xs d.2):=by
 unfold cP at*;split
 case isFalse a=>rw[if_neg a]at h;cases h
 rename_i a
 rw[if_pos a]at h;dsimp only at h⊢;rw[fS]at h⊢;dsimp only at h⊢;obtain⟨a,k⟩:=ll.first xs [] [] [] ⟨by simp,by simp,by simp,by simp⟩;have e:(eM {Su.zero with tabs:=(ep [] [] [] xs).1} [] ((ep [] [] [] xs).2.zip xs)).2=[]:=by
  split at h
  ·assumption
  exact h
 rw[if_pos e];dsimp only;have a:=IT ((ep [] [] [] xs).2.zip xs) {Su.zero with tabs:=(ep [] [] [] xs).1} [];rw[a];dsimp only;refine⟨λa=>?_,λa=>?_⟩
 ·rw[Ep a]
 rw[fS,if_pos a,fS];dsimp only;have f:((ep [] [] [] xs).2.zip xs).map (·.2)=xs:=by
  rw[List.map_snd_zip];rw[Ki];exact Nat.le_refl _
 obtain⟨l,b,a,g⟩:=Kj (KM k.r a (.inl j)) b ((ep [] [] [] xs).2.zip xs) {Su.zero with tabs:=(ep [] [] [] xs).1} [] [] rfl e (by rw[f];exact i);rw[f]at g;have a:eM {Su.zero with tabs:=gC (ep [] [] [] xs).1 c} [] ((ep [] [] [] xs).2.zip xs)=_:=a;rw[a];dsimp only[List.nil_append];split
 ·exact⟨λ_=>⟨l,rfl⟩,λd m=>by cases m⟩
 rename_i a
 exact⟨λh=>absurd h a,g⟩
theorem IN.at{f n:Int} {xs:List aI} (h:IN f xs n) (r:IM f xs):∃(i:Nat) (j:i<xs.length),xs[i].kind=10/\∀m (c:m<xs.length),xs[m].at_<=n↔m<=i:=by
 obtain⟨e,s,k,g,t,u,v⟩:=h;have w:∀{b:List aI},IM f b->∀m (c:m<b.length) a (d:a<b.length),m<a->b[m].at_<b[a].at_:=by
  intro b;induction b with
  |nil=>intro _ m c;cases c
  |cons o b p=>
   intro l m c a d i;have x:∀a (d:a<b.length),o.at_<b[a].at_:=λa d=>by
    cases b with
    |nil=>cases d
    |cons y b=>
     have q:o.at_<y.at_:=l.1;cases a with
     |zero=>exact q
     |succ a=>exact Int.lt_trans q (p l.2.2 0 ai (a+1) d ae)
   cases m with
   |zero=>
    cases a with
    |zero=>omega
    |succ a=>exact x a (by simpa using d)
   |succ m=>
    cases a with
    |zero=>omega
    |succ a=>exact p l.2.2 m (by simpa using c) a (by simpa using d) ae
 have j:e.length<xs.length:=by rw[g];simp
 have l:xs[e.length]=s:=by simp[g]
 refine⟨e.length,j,by rw[l];exact t,λm c=>?_⟩;have o:=w r;constructor
 ·intro b
  refine Decidable.byContradiction λb=>?_;have q:e.length+1<=m:=ae
  have p:e.length+1<xs.length:=ae
  have x:IJ f k=xs[e.length+1].at_:=by
   cases k with
   |nil=>simp[g]at p
   |cons y k=>simp[g,IJ]
  rw[x]at v;rcases Nat.lt_or_eq_of_le q with h|h
  ·have:=o _ p _ c h
   omega
  subst h;omega
 intro p;rcases Nat.lt_or_eq_of_le p with h|h
 ·have:=o _ c _ j h
  rw[l]at this;omega
 subst h;rw[l];exact u
end Go.Proofs.YteamkimbmdgdbaaGreatDoor
namespace Go.Proofs.YteamkimbmdgdbaaGreatDoor
open Go.RowKit
theorem Lf {a:bL} (i:a.length<=20000) (j:a≠[]) {c:Int} {d:bL} {e:Int} {b:Nat} (h:nR a=.tok c d e b):1<=b/\b<=a.length:=by
 rw[ED]at h;have g:∀f,mg f a=.tok c d e b->1<=b/\b<=a.length:=λf k=>⟨(EG f a i j c d e b k).l1,(EG f a i j c d e b k).l2⟩;cases h1:jQ a with
 |bad l=>rw[h1]at h;cases h
 |tok l m n o=>rw[h1]at h;exact g 0 (h1.trans h)
 |none=>
  rw[h1]at h;cases h2:jR a with
  |bad l=>rw[h2]at h;cases h
  |tok l m n o=>rw[h2]at h;exact g 1 (h2.trans h)
  |none=>
   rw[h2]at h;cases h3:jb a with
   |bad l=>rw[h3]at h;cases h
   |tok l m n o=>rw[h3]at h;exact g 2 (h3.trans h)
   |none=>
    rw[h3]at h;cases h4:g5 a with
    |bad l=>rw[h4]at h;cases h
    |tok l m n o=>rw[h4]at h;exact g 3 (h4.trans h)
    |none=>rw[h4]at h;cases h
theorem Kk:∀(f:Nat) (a:bL) (c:Nat) (d:List ao),a.length<=20000->F6 d->(∀b∈d,b.at_<c)->
 F6 (g6 f a c d).1/\∀b∈(g6 f a c d).1,b.at_<((c+a.length:Nat):Int)
 |0,a,c,d,hl,hi,hL=>⟨hi,λb g=>Int.lt_of_lt_of_le (hL b g) ae⟩
 |f+1,[],c,d,hl,hi,hL=>⟨hi,λb g=>Int.lt_of_lt_of_le (hL b g) ae⟩
 |f+1,e::a,c,d,hl,hi,hL=>by
  have j:F6 ([]:List ao)/\∀b∈([]:List ao),b.at_<((c+(e::a).length:Nat):Int):=⟨List.Pairwise.nil,λb g=>by cases g⟩;rw[EH];cases hr:nR (e::a)with
  |none=>exact j
  |bad g=>exact j
  |tok k b l g=>
   dsimp only;split
   ·exact j
   obtain⟨j,p⟩:=Lf hl ai hr;have j:=m4 ((e::a).drop g) false;rw[List.length_drop]at j;obtain⟨m,n⟩:=Kk f (((e::a).drop g).drop (cQ false ((e::a).drop g))) (c+g+cQ false ((e::a).drop g)) (d++[⟨k,dY b,l,c⟩]) (by simp only[List.length_drop];omega)
    (List.pairwise_append.2 ⟨hi,List.pairwise_singleton _ _,λa b d d=>by rw[aA d];exact hL a b⟩)
    (
     λo i=>by
     rcases cY i with i|i
     ·have:=hL o i;omega
     rw[aA i];show(c:Int)<_;omega)
   refine⟨m,λa b=>Int.lt_of_lt_of_le (n a b) ?_⟩;simp only[List.length_drop];omega
theorem Lg {a:bL} {c:List aI} {e:List ao} (h:gi a=.ok c e):IM a.length c:=by
 unfold gi at h;split at h
 ·have d:F6 (dq a).1/\∀b∈(dq a).1,b.at_<(a.length:Int):=by
   unfold dq;split
   ·exact⟨List.Pairwise.nil,λb f=>by cases f⟩
   have c:=m4 a false;obtain⟨f,g⟩:=Kk (a.length+1) (a.drop (cQ false a)) (cQ false a) [] (by rw[List.length_drop];omega) List.Pairwise.nil (λb f=>by cases f);refine⟨f,λb a=>Int.lt_of_lt_of_le (g b a) ?_⟩;rw[List.length_drop];omega
  exact La d.1 d.2 h
 cases h
end Go.Proofs.YteamkimbmdgdbaaGreatDoor
namespace Go.Proofs.YteamkimbmdgdbaaGreatDoor
open Go.RowKit
theorem Kl (c d:Hd) (b:List Int) (a:af) (g:dQ a c b) (i:dQ a d b):
 Calls Tryz.prog 34 #[c.val,d.val] a λe f=>e=.returned (.bool true)/\ag a f:=
 (FF c d b b a g i).mono (λe f h=>⟨by rw[h.1];simp,h.2⟩)
theorem Lh (k l:Hd) (e:List cT) (f:af) (g:aF f 12 k cT.cells e) (m:aF f 12 l cT.cells e):
 Calls Tryz.prog 100 #[k.val,l.val] f λL M=>L=.returned (.bool true)/\ag f M:=by
 obtain⟨n,a,N⟩:=k;obtain⟨o,p,O⟩:=l;have q:e.length=a:=g.1;have P:e.length=p:=m.1;obtain rfl:a=p:=ae
 have k:a<=9223372036854775807:=g.2.1;have Q:=Z g;have R:=Z m;have S:=Z q;have k:((a:Int) !=(a:Int))=false:=ai
 clear g m q P;show Calls Tryz.prog 100 #[U n a N,U o a O] f _;go_enter Tryz.func100,Tryz.ntmps100
 go_upto_region 4 with(fail)
 go_loopg [5] (a+1) (λc d g=>∃b:Nat,d=.int .i64 b/\b<=a/\a-b<c/\Hid (ag f g))
 case atStart=>exact⟨0,rfl,by omega,by omega,Z (ag.refl _)⟩
 case round=>
 obtain⟨d,rfl,aa,r,i⟩:=hrel;have s:=Z r;clear r;by_cases f:d<a
 case pos=>
  have f:(d:Int)<(a:Int):=ae
  have t:d<e.length:=by have:=S.out;omega
  obtain⟨u,v,f,g,b⟩:=(Q.out.same i.out).2.2 d t;have T:n=some ⟨u,v,none⟩:=f;clear f;subst T;obtain⟨w,x,f,g,c⟩:=(R.out.same i.out).2.2 d t;have V:o=some ⟨w,x,none⟩:=f;clear f;subst V;generalize e[d]=W at b c;obtain⟨⟨j,y,⟨z,A,B⟩⟩,C,⟨D,E,⟨F,G,H⟩⟩,I⟩:=W;have e:=bM (show ac wr (ab u (v+d*12)) j by have h:=b 0 _ rfl;simpa using h);have e:=bM (b 1 _ rfl);have e:=bM (b 2 _ rfl);have e:=bM (b 3 _ rfl);have e:=bM (b 4 _ rfl);have e:=bM (b 5 _ rfl);have e:=bM (b 6 _ rfl);have e:=bM (b 7 _ rfl);have e:=bM (b 8 _ rfl);have e:=bM (b 9 _ rfl);have e:=bM (b 10 _ rfl);have e:=bM (b 11 _ rfl);have e:=bM (show ac wr (ab w (x+d*12)) j by have h:=c 0 _ rfl;simpa using h);have e:=bM (c 1 _ rfl);have e:=bM (c 2 _ rfl);have e:=bM (c 3 _ rfl);have e:=bM (c 4 _ rfl);have e:=bM (c 5 _ rfl);have e:=bM (c 6 _ rfl);have e:=bM (c 7 _ rfl);have e:=bM (c 8 _ rfl);have e:=bM (c 9 _ rfl);have e:=bM (c 10 _ rfl);have e:=bM (c 11 _ rfl);clear b c;have b:(j !=j)=false:=ai
  have b:(y !=y)=false:=ai
  have b:(z !=z)=false:=ai
  have b:(A !=A)=false:=ai
  have b:(B.toList==B.toList)=true:=ai
  have b:(C !=C)=false:=ai
  have b:(D !=D)=false:=ai
  have b:(E !=E)=false:=ai
  have b:(F !=F)=false:=ai
  have b:(G !=G)=false:=ai
  have b:(H.toList==H.toList)=true:=ai
  have b:(I !=I)=false:=ai
  go_upto_region 6 with(fail)
  refine wp_region_quiet_below ak ak ?_;repeat (go_big_quiet_step (fail))
  refine wpQuiet_nil ?_;intro _ X;obtain⟨⟨J,osq⟩,Y⟩:=X;subst Y;have K:=Z (ag.reg wr J osq);generalize Sort.grow (redrawn wr J) osq=ad at K⊢;go_wp2;go_roundg (a-d)
  case measure=>have:=s.out;omega
  exact⟨d+1,by go_num,by omega,by have:=s.out;omega,Z (i.out.trans K.out)⟩
 case neg=>
 have a:¬(d:Int)<(a:Int):=ae
 go_wp2;go_ret;exact⟨rfl,i.out⟩
end Go.Proofs.YteamkimbmdgdbaaGreatDoor

import Derived.Test.YteamkimbmdgdbaaGreatDoorK28
set_option linter.unusedSimpArgs false
set_option linter.unusedVariables false
set_option maxHeartbeats 16000000
set_option maxRecDepth 100000
namespace Go.Proofs.YteamkimbmdgdbaaGreatDoor
open Go.RowKit
def ev (b:List Tb) (a c:Int):Prop:=(0<=a/\a<b.length)/\0<=c/\c<(dw b a).attrs.length
theorem qz {b:List Tb} {c a:Int} {d:aw} (h:dS b c d=.ok a):0<=a/\a<b.length:=by
 unfold dS at h;obtain⟨e,h⟩:=RO.ce h;injection h with h
 subst h;exact⟨by simpa using e,(lr _ _).2⟩
theorem m6 {b:List At} {c a:Int} {d:aw} (h:cO c b d=.ok a):0<=a/\a<b.length:=by
 unfold cO at h;obtain⟨e,h⟩:=RO.ce h;injection h with h
 subst h;exact⟨by simpa using e,(nj _ _).2⟩
theorem qA {b:List Tb} {c:Int} {d e:aw} {a:Int×Int×Int} (h:fC b c d e=.ok a):ev b a.1 a.2.1:=by
 unfold fC at h;obtain⟨a,f,h⟩:=RO.ct h;obtain⟨a,g,h⟩:=RO.ct h;injection h with h
 subst h;exact⟨qz f,m6 g⟩
theorem so {i:Int} {f:List At}:∀(e:bm) (b c:List Int),dv i f b e=.ok c->(∀a∈b,0<=a/\a<f.length)->b.Nodup->(∀a∈c,0<=a/\a<f.length)/\c.Nodup/\c.length=b.length+e.length
 |[],b,c,h,hl,hd=>by
  rw[dv]at h;injection h with h
  subst h;exact⟨hl,hd,by simp⟩
 |s::e,b,c,h,hl,hd=>by
  rw[dv]at h;obtain⟨a,f,h⟩:=RO.ct h;obtain⟨g,h⟩:=RO.ce h;have j:=m6 f;have k:a∉b:=λf=>by
   have:b.any (λd=>decide (d=a))=true:=List.any_eq_true.2 ⟨a,f,by simp⟩;rw[this]at g;cases g
  have:=so e (b++[a]) c h (λl d=>by
   rcases cY d with d|d
   ·exact hl l d
   ·rw[aA d];exact j) (by
   rw[List.nodup_append];exact⟨hd,by simp,λa b a c a=>k (by rw[aA c]at a;exact a▸b)⟩)
  refine⟨this.1,this.2.1,?_⟩;rw[this.2.2];simp;omega
def kw (c:List Tb) (b:List Int) (a:Sd):Prop:=(a.var= -1/\a.v.ok=true)\/(0<=a.var/\a.var<b.length/\ev c ((b[a.var.toNat]?).getD 0) a.col)
structure wO (tabs:List Tb) (r:Ru):Prop where
 cD:∀c∈r.cD,ev tabs r.table c
 fixed:∀f∈r.fixed,ev tabs r.table f.col
 tests:∀t∈r.tests,kw tabs r.tables t.l/\kw tabs r.tables t.r
 col:(r.kind=4/\r.tables≠[])\/ev tabs r.table r.col
 other:r.kind=3->ev tabs r.other r.lA
structure hO (s:Su):Prop where
 b:∀x∈s.blocks,ev s.tabs x.table x.col
 k:∀x∈s.keeps,ev s.tabs x.table x.col
 m:∀x∈s.kG,∀y∈x.terms,ev s.tabs x.table y.col
 r:∀x∈s.rules,wO s.tabs x
theorem gA {a:Type} {x b:a} {l:List a} (h:x∈l++[b]):x∈l\/x=b:=by
 rcases cY h with h|h
 ·exact .inl h
 exact .inr (aA h)
theorem wP {f:List At} {i:Int}:∀(g:List cL) (e c:List Wg),fe f i e g=.ok c->(∀b∈e,0<=b.col/\b.col<f.length)->∀b∈c,0<=b.col/\b.col<f.length
 |[],e,c,h,hl=>by
  rw[fe]at h;injection h with h
  subst h;exact hl
 |b::g,e,c,h,hl=>by
  rw[fe]at h;obtain⟨b,a,h⟩:=RO.ct h;refine wP g _ c h (λj d=>?_);rcases gA d with d|d
  ·exact hl j d
  subst d;unfold pe at a;obtain⟨b,k,a⟩:=RO.ct a;obtain⟨_,a⟩:=RO.ce a;obtain⟨_,a⟩:=RO.ce a;obtain⟨_,a⟩:=RO.ce a;injection a with a
  subst a;exact m6 k
theorem wQ {e:List At} {b:Int}:∀(g:List du) (d a:List Fx),fg e b d g=.ok a->(∀b∈d,0<=b.col/\b.col<e.length)->∀b∈a,0<=b.col/\b.col<e.length
 |[],d,a,h,hl=>by
  rw[fg]at h;injection h with h
  subst h;exact hl
 |f::g,d,a,h,hl=>by
  rw[fg]at h;obtain⟨b,i,h⟩:=RO.ct h;obtain⟨_,h⟩:=RO.ce h;obtain⟨_,h⟩:=RO.ce h;obtain⟨_,h⟩:=RO.ce h;refine wQ g _ a h (λj c=>?_);rcases gA c with c|c
  ·exact hl j c
  subst c;exact m6 i
theorem wR {b:List Tb} {e:aI} {d:Int} {a:Ru} (h:jJ b e d=.ok a):(0<=a.table/\a.table<b.length)/\(∀e∈a.cD,0<=e/\e<(dw b a.table).attrs.length)/\a.cD≠[]/\a.kind=d/\a.fixed=[]/\a.tests=[]/\a.col=0:=by
 unfold jJ at h;obtain⟨a,f,h⟩:=RO.ct h;obtain⟨c,h⟩:=RO.ce h;obtain⟨g,i,h⟩:=RO.ct h;injection h with h
 subst h;have b:=so _ _ _ i ai ai;refine⟨qz f,b.1,λa=>?_,rfl,rfl,rfl,rfl⟩;have b:=b.2.2;have a:g=[]:=a;rw[a]at b;simp at c b;rw[b]at c;simp at c
theorem wS {m:Int} {j:dG->RO (Sd×Int)} {P:Sd->Prop} (n:∀d b,j d=.ok b->P b.1) (o:∀f:V,f.ok=true->P ⟨-1,0,f⟩):∀(k:List bB) (i e:List cT),eT m j i k=.ok e->(∀f∈i,P f.l/\P f.r)->∀f∈e,P f.l/\P f.r
 |[],i,e,h,hl=>by
  rw[eT]at h;injection h with h
  subst h;exact hl
 |c::k,i,e,h,hl=>by
  rw[eT]at h;obtain⟨f,a,h⟩:=RO.ct h;refine wS n o k _ e h (λq g=>?_);rcases gA g with g|g
  ·exact hl q g
  subst g;unfold jL at a;obtain⟨_,a⟩:=RO.ce a;obtain⟨b,s,a⟩:=RO.ct a;obtain⟨e,t,a⟩:=RO.ct a;obtain⟨_,a⟩:=RO.ce a;obtain⟨_,a⟩:=RO.ce a;injection a with a
  subst a;have p:∀d b,jK m j d=.ok b->P b.1:=λd b h=>by
   unfold jK at h;split at h
   ·obtain⟨u,h⟩:=RO.ce h
    injection h with h
    subst h;exact o _ u
   exact n d b h
  exact⟨p _ _ s,p _ _ t⟩
theorem wT {f:List Tb} {c:Int}:∀(e:List Vr) (b a:List (ByteArray×Int)),gG f c b e=.ok a->(∀c∈b,0<=c.2/\c.2<f.length)->(∀c∈a,0<=c.2/\c.2<f.length)/\a.length=b.length+e.length
 |[],b,a,h,hl=>by
  rw[gG]at h;injection h with h
  subst h;exact⟨hl,by simp⟩
 |v::e,b,a,h,hl=>by
  rw[gG]at h;obtain⟨_,h⟩:=RO.ce h;obtain⟨b,g,h⟩:=RO.ct h;have:=wT e _ a h (λi d=>by
   rcases gA d with d|d
   ·exact hl i d
   subst d;exact qz g)
  refine⟨this.1,?_⟩;rw[this.2];simp;omega
theorem FT {d:List Tb} {g:Int} {a:List (ByteArray×Int)} (i:∀e∈a,0<=e.2/\e.2<d.length) {f:dG} {b:Sd×Int} (h:hY d g a f=.ok b):kw d (a.map (·.2)) b.1:=by
 unfold hY at h;obtain⟨j,h⟩:=RO.ce h;dsimp only at h;obtain⟨d,k,h⟩:=RO.ct h;injection h with h
 subst h;obtain⟨e,d,l⟩:=List.any_eq_true.1 j;obtain⟨m,n,o⟩:=List.mem_iff_getElem.1 d;rcases mj (λb:ByteArray×Int=>decide (b.1=f.var)) a with⟨_,p⟩|⟨r,c,q,_,_⟩
 ·have:=p m n
  rw[o,l]at this;cases this
 right
 have a:=m6 k;rw[q]at a⊢;refine⟨by simp,by simpa using c,?_,?_⟩
 ·simp[c]
  exact i _ (List.getElem_mem c)
 simpa[c]using a
theorem hO.part {d j:Su} {o:aI} (a:hO d) (h:db d o=.ok j):hO j:=by
 have g:∀e:Ru,wO d.tabs e->hO {d with rules:=d.rules++[e]}:=λe p=>⟨a.b,a.k,a.m,λf c=>by
  rcases gA c with c|c
  ·exact a.r f c
  subst c;exact p⟩
 unfold db at h;split at h
 ·unfold nD at h
  obtain⟨_,h⟩:=RO.ce h;obtain⟨_,h⟩:=RO.ce h;injection h with h
  subst h;exact⟨a.b,a.k,a.m,a.r⟩
 split at h
 ·unfold mr at h
  obtain⟨j,l,h⟩:=RO.ct h;obtain⟨j,c,h⟩:=RO.ct h;injection h with h
  subst h;refine⟨λn f=>?_,a.k,a.m,a.r⟩;rcases gA f with f|f
  ·exact a.b n f
  subst f;have i:=qA l;split at c
  ·injection c with c;subst c;exact i
  split at c
  ·obtain⟨_,c⟩:=RO.ce c
   injection c with c;subst c;exact i
  split at c
  ·obtain⟨_,c⟩:=RO.ce c
   injection c with c;subst c;exact i
  cases c
 split at h
 ·unfold mu at h
  obtain⟨j,f,h⟩:=RO.ct h;obtain⟨_,h⟩:=RO.ce h;obtain⟨_,h⟩:=RO.ce h;obtain⟨j,i,h⟩:=RO.ct h;injection h with h
  subst h;refine⟨a.b,a.k,λl c=>?_,a.r⟩;rcases gA c with c|c
  ·exact a.m l c
  subst c;exact λc j=>⟨qz f,wP _ _ _ i ai c j⟩
 split at h
 ·unfold mv at h
  obtain⟨j,f,h⟩:=RO.ct h;obtain⟨_,h⟩:=RO.ce h;obtain⟨_,h⟩:=RO.ce h;obtain⟨_,h⟩:=RO.ce h;injection h with h
  subst h;refine⟨a.b,λi c=>?_,a.m,a.r⟩;rcases gA c with c|c
  ·exact a.k i c
  subst c;exact qA f
 split at h
 ·unfold pf at h
  obtain⟨e,i,h⟩:=RO.ct h;injection h with h
  subst h;obtain⟨i,l,q,j,o,p,s⟩:=wR i;refine g e ⟨λc f=>⟨i,l c f⟩,by rw[o];simp,by rw[p];simp,.inr ⟨i,?_⟩,λn=>by rw[j]at n;cases n⟩;rw[s];obtain⟨c,f⟩:=List.exists_mem_of_ne_nil _ q;have:=l c f;exact⟨Int.le_refl _,by omega⟩
 split at h
 ·unfold mw at h
  obtain⟨e,i,h⟩:=RO.ct h;obtain⟨f,l,h⟩:=RO.ct h;obtain⟨_,h⟩:=RO.ce h;obtain⟨e,c,h⟩:=RO.ct h;injection h with h
  subst h;obtain⟨e,i,o,j,p,n,q⟩:=wR i;exact g _ ⟨λf o=>⟨e,i f o⟩,λf i=>⟨e,wQ _ _ _ c ai f i⟩,by dsimp only;rw[n];simp,.inr ⟨e,m6 l⟩,λc=>by dsimp only at c;rw[j]at c;cases c⟩
 split at h
 ·unfold mx at h
  obtain⟨e,c,h⟩:=RO.ct h;obtain⟨e,f,h⟩:=RO.ct h;obtain⟨_,h⟩:=RO.ce h;injection h with h
  subst h;exact g _ ⟨by simp[Ru.zero],by simp[Ru.zero],by simp[Ru.zero],.inr (qA c),λ_=>qA f⟩
 split at h
 ·unfold my at h
  obtain⟨f,h⟩:=RO.ce h;obtain⟨i,n,h⟩:=RO.ct h;obtain⟨e,q,h⟩:=RO.ct h;injection h with h
  subst h;have l:=wT _ _ _ n ai;refine g _ ⟨by simp[Ru.zero],by simp[Ru.zero],wS (P:=kw d.tabs (i.map (·.2))) (λc c c=>FT l.1 c) (λc c=>.inl ⟨rfl,c⟩) _ _ _ q ai,.inl ⟨rfl,λc=>?_⟩,λs=>by cases s⟩;have c:i.map (·.2)=[]:=c;have d:=l.2;rw[List.map_eq_nil_iff]at c;rw[c]at d;simp[aZ]at f d;rw[<-d]at f;simp at f
 split at h
 ·unfold lE at h
  obtain⟨c,_,h⟩:=RO.ct h;injection h with h
  subst h;exact⟨a.b,a.k,a.m,a.r⟩
 injection h with h
 subst h;exact a
theorem hO.second (c:List ((Int×Int)×aI)):∀(a:Su) (b:List (Int×Int)),hO a->hO (eM a b c).1/\(eM a b c).1.tabs=a.tabs:=by
 induction c with
 |nil=>intro a b h;exact⟨h,rfl⟩
 |cons e c d=>
  intro a b h;obtain⟨i,f⟩:=e;rw[eM];split
  ·cases hp:db a f with
   |ok g=>
    have:=d g b (h.part hp);exact⟨this.1,this.2.trans (r5 hp).tabs⟩
   |bad g j=>
    dsimp only;split
    ·exact d a b h
    exact d a _ h
  exact d a _ h
theorem wU {n:Int}:∀(g:List dl) (l b:List At),fy n l g=.ok b->((∀e∈l,gB e=true)/\(∀x∈d9 l,bD x=true)/\(d9 l).Nodup)->(∀e∈b,gB e=true)/\(∀x∈d9 b,bD x=true)/\(d9 b).Nodup
 |[],l,b,h,hl=>by
  rw[fy]at h;injection h with h
  subst h;exact hl
 |c::g,l,b,h,hl=>by
  rw[fy]at h;obtain⟨i,h⟩:=RO.ce h;obtain⟨o,h⟩:=RO.ce h;obtain⟨p,h⟩:=RO.ce h;obtain⟨j,h⟩:=RO.ce h;obtain⟨q,r,s⟩:=hl;have t:=D4 (l:=l) (x:=c.name) (by simpa using o);simp only[aZ,Bool.and_eq_true,decide_eq_true_eq]at i;have m:d9 (l++[⟨c.name,c.k,[],c.d⟩])=d9 l++[c.name]:=by rw[D3];rfl
  refine wU g _ b h ⟨λe f=>?_,λx a=>?_,?_⟩
  ·rcases gA f with f|f
   ·exact q e f
   subst f;simp only[gB,ky,hP,Bool.and_eq_true,decide_eq_true_eq,Bool.or_eq_true];simp only[Bool.or_eq_true,decide_eq_true_eq]at j;exact⟨i.2,p,j⟩
  ·rw[m]at a
   rcases gA a with a|a
   ·exact r x a
   subst a;exact i.1
  rw[m,List.nodup_append];exact⟨s,by simp,λx a b e b=>t (by rw[aA e]at b;exact b▸a)⟩
theorem FU {e:Nat} {a:List Int} (h:∀c∈a,0<=c/\c<(e:Int)) (g:a.Nodup):∀b,b<(d2 a).length->gl e (d2 a) b=true:=by
 intro b d;have f:=oJ a;have i:=rJ a;have g:(d2 a).Nodup:=f.nodup_iff.2 g;have e:∀c∈d2 a,0<=c/\c<(e:Int):=λc e=>h c (f.mem_iff.1 e);rw[oR];have c:(d2 a).getD b 0=(d2 a)[b]:=by simp[d]
 refine⟨by rw[c];exact e _ (List.getElem_mem d),?_⟩;by_cases e:b=0
 ·exact .inl e
 right
 have a:(d2 a).getD (b-1) 0=(d2 a)[b-1]'ae:=by simp[show b-1<(d2 a).length by omega]
 rw[c,a];have a:=List.pairwise_iff_getElem.1 i (b-1) b ae d ae;have a:=List.pairwise_iff_getElem.1 g (b-1) b ae d ae;omega
theorem FV {e:List Tb} {a:aI} {c:Tb} (k:bD a.name=true) (h:fL e a=.ok c):mc c/\c.name=a.name/\e.length<20:=by
 unfold fL at h;obtain⟨f,h⟩:=RO.ce h;obtain⟨g,i,h⟩:=RO.ct h;obtain⟨d,h⟩:=RO.ce h;obtain⟨j,l,h⟩:=RO.ct h;injection h with h
 subst h;have m:=r4 _ _ _ _ i;have c:=wU _ _ _ i ⟨by simp,by simp[d9],by simp[d9]⟩;have e:=so _ _ _ l ai ai;simp[aZ]at f m d;have i:=e.2.2;simp at i;refine⟨⟨k,?_,?_,?_,c.1,c.2.1,c.2.2,FU e.1 e.2.1⟩,rfl,f.1⟩
 ·show 1<=g.length
  omega
 ·show g.length<=12
  omega
 show 1<=(d2 j).length;rw[(oJ j).length_eq];have:0<a.names.length:=by
  rcases Nat.eq_zero_or_pos a.names.length with b|b
  ·simp at b;rw[b]at d;simp at d
  exact b
 omega
structure ll (tabs:List Tb) (u:cI):Prop where
 n:tabs.length<=20
 r:∀t∈tabs,mc t
 d:(tabs.map Tb.name).Nodup
 u:∀t∈tabs,ec u 1 t.name=true
theorem FW {a:cI} {d:Int×ByteArray} {b:Int} {c:aw} (h:ec a b c=true):ec (d::a) b c=true:=by
 unfold ec at*;rw[List.any_cons,h,Bool.or_true]
theorem wV {a:cI} {d:aI} {b:Int} {c:aw} (h:ec a b c=true):ec (eo a d).1 b c=true:=by
 unfold eo;repeat' split
 all_goals first|exact h|exact FW h
theorem FX {b:cI} {a:aI} (c:a.kind=1) (h:(eo b a).2=0):bD a.name=true/\ec b 1 a.name=false/\ec (eo b a).1 1 a.name=true:=by
 have d:aZ a.kind 1 10=true:=by rw[c];rfl
 have e:¬a.kind=5:=ae
 have f:fQ a.kind=1:=by rw[c];rfl
 have c:eo b a=if bD a.name then(if ec b 1 a.name then(b,9)else((1,a.name)::b,0))else(b,1):=by
  unfold eo;rw[if_pos d,if_neg e,f]
 rw[c]at h⊢;clear c;cases hn:bD a.name with
 |false=>rw[hn]at h;cases h
 |true=>
  rw[hn]at h;cases hu:ec b 1 a.name with
  |true=>rw[hu]at h;cases h
  |false=>exact⟨rfl,rfl,by simp[ec]⟩
theorem ll.first:∀(xs:List aI) (b:List Tb) (u:cI) (f:List (Int×Int)),ll b u->∃k,ll (ep b u f xs).1 k
 |[],b,u,f,h=>⟨u,by rw[ep];exact h⟩
 |x::xs,b,u,f,h=>by
  rw[p0];refine ll.first xs _ _ _ ?_;have e:ll b (eo u x).1:=⟨h.n,h.r,h.d,λa c=>wV (h.u a c)⟩;unfold fI;split
  ·exact e
  rename_i l
  split
  ·rename_i m
   cases c:fL b x with
   |ok o=>
    obtain⟨b,p,q⟩:=FX m (by simpa using l);obtain⟨s,j,b⟩:=FV b c;refine⟨by simp;omega,λg a=>?_,?_,λg a=>?_⟩
    ·rcases gA a with a|a
     ·exact h.r g a
     subst a;exact s
    ·rw[List.map_append,List.nodup_append]
     refine⟨h.d,by simp,λb t v i w=>?_⟩;obtain⟨y,z,rfl⟩:=List.mem_map.1 t;have i:v=o.name:=by simpa using i
     have:=h.u y z;rw[w,i,j,p]at this;cases this
    rcases gA a with a|a
    ·exact wV (h.u g a)
    subst a;rw[j];exact q
   |bad a g=>exact e
  exact e
theorem ll.valid {a:List Tb} {b:cI} (h:ll a b):eK a=true:=by
 rw[vU];refine⟨h.n,λb a=>⟨h.r _ (List.getElem_mem a),?_⟩⟩;refine nh b a ai (λc e=>?_);have:=List.pairwise_iff_getElem.1 h.d c b aC (by simpa using a) e;simpa using this
theorem FY {a:List aI} (h:(cP a []).2=[]):eK (cP a []).1.tabs=true/\hO (cP a []).1:=by
 unfold cP at*;split
 ·rename_i c
  rw[if_pos c]at h;dsimp only at h⊢;rw[fS]at*;dsimp only at h⊢;obtain⟨c,d⟩:=ll.first a [] [] [] ⟨by simp,by simp,by simp,by simp⟩;have b:=hO.second ((ep [] [] [] a).2.zip a) {Su.zero with tabs:=(ep [] [] [] a).1} [] ⟨by simp[Su.zero],by simp[Su.zero],by simp[Su.zero],by simp[Su.zero]⟩;split
  ·exact⟨by rw[b.2];exact d.valid,b.1⟩
  rename_i a
  rw[if_neg a]at h;exact absurd h a
 rename_i a
 rw[if_neg a]at h;cases h
theorem FZ {a:List Tb} {b c:Int} (h:ev a b c):lj a b c=true:=by
 obtain⟨⟨d,e⟩,f,g⟩:=h;unfold lj;simp[d,e,f,g]
theorem wW (h:Hd) (a:List RT) (b c:Int) (w:af) (d:bI w h a) (e:ev (a.map RT.tb) b c):
 Calls Tryz.prog 23 #[.agg #[h.val],b,c] w λf g=>f=.returned (.bool true)/\ag w g:=by
 have a:=FR h a b c w d;rw[FZ e]at a;exact a
theorem F0 (h:Hd) (f:List RT) (H:Hd) (c:List Int) (x:cT) (w:af) (aa:bI w h f) (y:dQ w H c) (ad:kw (f.map RT.tb) c x.l) (ah:kw (f.map RT.tb) c x.r):
 Calls Tryz.prog 24 #[.agg #[h.val],H.val,.agg x.cells.toArray] w λz I=>z=.returned (.bool true)/\ag w I:=by
 obtain⟨a,o,b,p⟩:=x;have K:=Z ad;have L:=Z ah;have aB:=Z aa;have aC:=Z y;have M:=y.1;have aj:=y.2.1;clear ad ah aa y;obtain⟨i,j,m⟩:=h;obtain⟨al,am,aD⟩:=H;have M:c.length=am:=M;have aj:am<=9223372036854775807:=aj;subst M;have K:Hid (kw (f.map RT.tb) c a):=K;have L:Hid (kw (f.map RT.tb) c b):=L;have aE:=Z (λ(d e:Int) (q:ev (f.map RT.tb) d e) g (t:ag w g)=>wW ⟨i,j,m⟩ f d e g (aB.same t) q);show Calls Tryz.prog 24 #[.agg #[U i j m],U al c.length aD,.agg #[a.var,a.col,a.v.k,a.v.n,a.v.s,o,b.var,b.col,b.v.k,b.v.n,b.v.s,p]] w _;go_enter Tryz.func24,Tryz.ntmps24
 go_upto_region 3 with(fail)
 have A:=Z (show ag w (((w.alloc (.cells #[U i j m] 29)).alloc (.cells #[a.var,a.col,a.v.k,a.v.n,a.v.s,o,b.var,b.col,b.v.k,b.v.n,b.v.s,p] 73)).alloc (.cells #[a.var,a.col,a.v.k,a.v.n,a.v.s,b.var,b.col,b.v.k,b.v.n,b.v.s] 71))from(((ag.refl w).alloc _).alloc _).alloc _);have N:=Z (J.new ((w.alloc (.cells #[U i j m] 29)).alloc (.cells #[a.var,a.col,a.v.k,a.v.n,a.v.s,o,b.var,b.col,b.v.k,b.v.n,b.v.s,p] 73)) 71 #[a.var,a.col,a.v.k,a.v.n,a.v.s,b.var,b.col,b.v.k,b.v.n,b.v.s]);rw[show((w.alloc (.cells #[U i j m] 29)).alloc (.cells #[a.var,a.col,a.v.k,a.v.n,a.v.s,o,b.var,b.col,b.v.k,b.v.n,b.v.s,p] 73)).heap.size=w.heap.size+1+1 by simp]at N;have an:=Z (((J.new w 29 #[U i j m]).alloc (.cells #[a.var,a.col,a.v.k,a.v.n,a.v.s,o,b.var,b.col,b.v.k,b.v.n,b.v.s,p] 73)).alloc (.cells #[a.var,a.col,a.v.k,a.v.n,a.v.s,b.var,b.col,b.v.k,b.v.n,b.v.s] 71));obtain⟨ao,i⟩:=aq (((w.alloc (.cells #[U i j m] 29)).alloc (.cells #[a.var,a.col,a.v.k,a.v.n,a.v.s,o,b.var,b.col,b.v.k,b.v.n,b.v.s,p] 73)).alloc (.cells #[a.var,a.col,a.v.k,a.v.n,a.v.s,b.var,b.col,b.v.k,b.v.n,b.v.s] 71));rw[<-i]at A N an⊢;clear i;go_loopg [8] 3 (λe g i=>∃d:Nat,g=.int .i64 d/\d<=2/\2-d<e/\Hid (ag ao i))
 case atStart=>exact⟨0,rfl,by omega,by omega,Z (ag.refl ao)⟩
 obtain⟨d,rfl,aM,ap,q⟩:=hrel;have B:=Z ap;clear ap;by_cases i:d<2
 case neg=>
  have e:¬(d:Int)<2:=ae
  go_wp2;go_ret;exact⟨rfl,A.trans q⟩
 have i:(d:Int)<2:=ae
 have i:=Kp.of_same (l:=[]) q;have g:=Z (i.blk N ai);have ar:=Z (i.blk an ai);clear i;have aF:∃i:Sd,kw (f.map RT.tb) c i/\ac wr (ab (w.heap.size+1+1) (d*5)) i.var/\ac wr (ab (w.heap.size+1+1) (d*5+1)) i.col/\ac wr (ab (w.heap.size+1+1) (d*5+2)) i.v.k/\ac wr (ab (w.heap.size+1+1) (d*5+3)) i.v.n/\ac wr (ab (w.heap.size+1+1) (d*5+4)) i.v.s:=by
  have e:d=0\/d=1:=ae
  rcases e with rfl|rfl
  ·exact⟨a,K,J.cell g 0,J.cell g 1,J.cell g 2,J.cell g 3,J.cell g 4⟩
  exact⟨b,L,J.cell g 5,J.cell g 6,J.cell g 7,J.cell g 8,J.cell g 9⟩
 obtain⟨⟨t,P,⟨Q,R,S⟩⟩,aG,C,D,T,W,X⟩:=aF;dsimp only at C D T W X;rcases aG with⟨Y,E⟩|⟨au,av,u⟩
 ·have Y:t= -1:=Y
  subst Y;have F:Hid (Calls Tryz.prog 42 #[.agg #[Q,R,S]] wr λz I=>z=.returned (.bool true)/\ag wr I):=Z (by
   have a:=ng ⟨Q,R,S⟩ wr;have E:(⟨Q,R,S⟩:V).ok=true:=E;rw[E]at a;exact a)
  clear E;go_wp2_with fail
  refine F.mono ?_;rintro z a ⟨rfl,e⟩;have G:=Z (q.trans e);clear e C D T W X;go_wp2_with fail
  go_roundg (2-d)
  case measure=>have:=B.out;omega
  exact⟨d+1,by go_num,by omega,by have:=B.out;omega,G⟩
 have au:0<=t:=au;have av:t<c.length:=av;obtain⟨e,rfl⟩:∃e:Nat,t=e:=⟨t.toNat,by omega⟩;have a:e<c.length:=by omega
 have u:ev (f.map RT.tb) ((c[((e:Nat):Int).toNat]?).getD 0) P:=u;obtain⟨i,j,b,m,g⟩:=(aC.same (A.trans q)).2.2 e a;obtain⟨aw,F⟩:=aq (c[e]);have aH:ev (f.map RT.tb) aw P:=by
  simp only[Int.toNat_natCast,List.getElem?_eq_getElem a,Option.getD_some]at u;rw[F];exact u
 have aI:al=some ⟨i,j,none⟩:=b;have G:=g 0 (O c[e]) rfl;rw[<-F]at G;simp only[Nat.mul_one,Nat.add_zero]at G;clear g b u;subst aI;have a:(e:Int)<(c.length:Int):=ae
 have a:((e:Int)== -1)=false:=aU
 have a:decide ((e:Int)<0)=false:=ai
 have a:decide ((c.length:Int)<=(e:Int))=false:=aU
 have a:decide (c.length<=e)=false:=aU
 have a:=J.lt ar;have ax:=az ar;have a:=Z (A.trans q);have b:=bM C;have b:=bM D;have b:=bM G;have b:=bM ax;have aJ:=gX (λb c=>aE aw P aH b (a.trans c));have a:=Z F;clear F;go_upto_region 8 with(fail)
 clear C D T W X G ax;refine wp_region_quiet_below ak ak ?_;repeat (go_big_quiet_step (first|(go_at_call 23;exact aJ _ _)))
 refine wpQuiet_nil ?_;intro _ aK;obtain⟨⟨ay,osq⟩,aL⟩:=aK;subst aL;have aA:=Z (ag.reg wr ay osq);generalize Sort.grow (redrawn wr ay) osq=aN at aA⊢;go_wp2;go_roundg (2-d)
 case measure=>have:=B.out;omega
 exact⟨d+1,by go_num,by omega,by have:=B.out;omega,Z (q.out.trans aA.out)⟩
end Go.Proofs.YteamkimbmdgdbaaGreatDoor

import Derived.Test.YteamkimbmdgdbaaGreatDoorK01
import Derived.Test.YteamkimbmdgdbaaGreatDoorCards
import Derived.Test.YteamkimbmdgdbaaGreatDoorTie
set_option linter.unusedSimpArgs false
set_option linter.unusedVariables false
set_option maxHeartbeats 16000000
set_option maxRecDepth 100000
namespace Go.Proofs.YteamkimbmdgdbaaGreatDoor
open Go.Proofs.Tryz
open Go.ChangeShapes Go.WideShapes Go.RowKit
theorem Tryz.own:ownKnob prog.godebug=none:=am
theorem Tryz.laidOut:laidOutB prog=true:=am
def oN:List (String×DataW Unit):=[("math/bits.deBruijn32tab",Rows.laid_math_bits_deBruijn32tab),("math/bits.deBruijn64tab",Rows.laid_math_bits_deBruijn64tab),("internal/strconv.uint64pow10",Rows.laid_internal_strconv_uint64pow10),("strconv.ErrRange",Rows.laid_strconv_ErrRange),("strconv.ErrSyntax",Rows.laid_strconv_ErrSyntax),("cleanse/parser.words",Rows.laid_cleanse_parser_words)]
theorem vd:prog.globalNamed "cleanse/parser.words" =some 0:=am
theorem Bm:(prog.globals[0]?).map (·.type)=some 191:=am
theorem Bn:prog.cellsOf 9=1:=am
theorem Bo:prog.cellsOf 191=10:=am
theorem Bp (os:Os) (a:Array Value):laidMetH prog oN ((World.doorLaid prog 4000 os).forCall (λ_ _=>0) ⟨#[],a,[]⟩).memory:=
 laidMetH_of_parts3 (fuel:=8) (laidMet_of_run' 8 am am) am am
def ve {H:Type}:DataW H:=.agg (fF.map λa=>.lit (.string a.data.toList))
theorem Bq:Rows.laid_cleanse_parser_words (H:=Unit)=ve:=am
theorem Bs {c:World} (h:laidMetH prog oN c):bV c ⟨some ⟨0,0,none⟩,10,10⟩ fF/\0<c.heap.size:=by
 rw[MakeChecks.laidMetH_plain _ _ _ am]at h;have f:=h.tail.tail.tail.tail.tail;rw[Bq]at f;obtain⟨w,⟨x,y,n,z,A,B,o,p,q,r,_,_⟩,_⟩:=f;obtain rfl:=Option.some.inj (vd.symm.trans o);obtain rfl:=Option.some.inj (Bm.symm.trans p);obtain⟨g,C,rfl,s,t,D,i⟩:=DataW.trod_array underlying191 r;simp only[Bn,Bo,Nat.mul_one]at i t;have o:g.map (·.1)=fF.map λb=>(DataW.lit (.string b.data.toList):DataW Unit):=by
  have:=congrArg Prod.fst s;simp only[ve,DataW.agg.injEq]at this;exact this.symm
 have j:∀(a:Nat) (d:ByteArray),fF[a]?=some d->c.cell? ⟨0,a,none⟩=some (.string d):=by
  intro a d k;have l:a<10:=(List.getElem?_eq_some_iff.1 k).1;have i:=i a l;have l:g[a]?=some g[a]:=List.getElem?_eq_getElem af;rw[l]at i;obtain⟨b,u,f,_⟩:=DataW.trod_string underlying9 i;have e:(g.map (·.1))[a]?=some (DataW.lit (.string b.data.toList)):=by rw[List.getElem?_map,l,f];rfl
  rw[o,List.getElem?_map,k]at e;have m:d.data.toList=b.data.toList:=by
   injection e with e
   injection e with e
   injection e
  have v:d=b:=by
   cases d;cases b;simp only at m;rw[Array.toList_inj.1 m]
  have d:n.toList[a]?=some (.string b):=by
   have:=congrArg (·[0]?) u;simpa[List.getElem?_take,List.getElem?_drop]using this
  rw[World.var?_cell vd q a,v];simpa using d
 have e:0<c.heap.size:=by
  rcases Nat.lt_or_ge 0 c.heap.size with h|h
  ·exact h
  have:=j 0 _ rfl;simp[World.cell?,Array.getElem?_eq_none h]at this
 refine⟨⟨⟨rfl,by decide,λk u=>⟨_,0,rfl,e,λl v m=>?_⟩⟩,show∀b∈fF,b.size<=9223372036854775807 by decide+kernel⟩,e⟩;cases l with
 |zero=>
  have a:v=.string fF[k]:=by simpa[dt]using m.symm
  rw[a];simpa using j k _ (List.getElem?_eq_getElem u)
 |succ l=>simp[dt]at m
def PO.Le {a:Type} (b:PO a) (n:Nat):Prop:=∀c a,b=.ok c a->a.length<=n
theorem PO.Le.bind {c d:Type} {r:PO c} {f:c->List ao->PO d} {n:Nat} (h:r.Le n) (hf:∀a ts,ts.length<=n->(f a ts).Le n):(r.bind f).Le n:=by
 exact qr
theorem PO.Le.ok {α:Type} {a:α} {ts:List ao} {n:Nat} (h:ts.length<=n):(PO.ok a ts).Le n:=by
 intro c c b;injection b with _ b
 subst b;exact h
theorem PO.Le.bad {α:Type} {a b:Int} {c:Nat}:(PO.bad a b:PO α).Le c:=by intro a a h;cases h
theorem PO.Le.ite {d:Type} {a:Prop} [Decidable a] {b c:PO d} {n:Nat} (h:b.Le n) (d:c.Le n):(if a then b else c).Le n:=by split<;>assumption
theorem oV {b:Type} (c:Int) (a:List ao) (d:Int) (n:Nat):(eQ c a d:PO b).Le n:=by cases a<;>exact .bad
theorem iG {a:List ao} {b:Nat} (h:a.length<=b):a.tail.length<=b:=aF
theorem vz {a:List ao} {b:Nat} (c:Nat) (h:a.length<=b):(a.drop c).length<=b:=aF
theorem b8 (c:Int) (b:bk):∀(a:List ao) (n:Nat),a.length<=n->(aW c a b).Le n:=by
 induction b with
 |nil=>intro a n h;cases a<;>exact .ok h
 |cons d b e=>
  intro a n h;have:aW c a (d::b)=if bB a d then aW c a.tail b else eQ c a 4:=by cases a<;>rfl
  rw[this];exact .ite (e _ _ (iG h)) (oV _ _ _ _)
theorem vA (c:Int) (a:List ao) (d:Int) (b:Nat) (h:a.length<=b):(ez c a d).Le b:=by
 cases a with
 |nil=>exact .bad
 |cons e f=>exact .ite (.ok (by simp at h;omega)) .bad
theorem dK (b:Int) (a:List ao) (n:Nat) (h:a.length<=n):(bN b a).Le n:=(vA b a 1 n h).bind λ_ _ h=>.ok h
theorem fw (c:Int) (a:List ao) (b:Nat) (h:a.length<=b):(cB c a).Le b:=(vA c a 2 b h).bind λ_ _ h=>.ok h
theorem iH (c:Int) (a:List ao) (d:bk) (b:Nat) (h:a.length<=b):(dP c a d).Le b:=by
 unfold dP;split
 ·exact .ok (iG h)
 exact oV _ _ _ _
theorem BM {e:Type} (g:av) (f:List ao->PO e) (i:∀a b,a.length<=b->(f a).Le b):∀(c:Nat) (d:List e) (a:List ao) (b:Nat),a.length<=b->(db g f c d a).Le b:=by
 intro c;induction c with
 |zero=>intro d a b h;exact .ok h
 |succ c j=>intro d a b h;exact .ite ((i _ _ (iG h)).bind λb a h=>j _ _ _ h) (.ok h)
theorem ml {a:Type} (d:av) (c:List ao->PO a) (e:∀a b,a.length<=b->(c a).Le b) (a:List ao) (b:Nat) (h:a.length<=b):(dC d c a).Le b:=
 (e _ _ h).bind λ_ _ h=>BM d c e _ _ _ _ h
theorem sd (a:Int) (b:List ao) (c:Nat) (h:b.length<=c):(hP a b).Le c:=ml _ _ (dK a) _ _ h
theorem vB (c:Int) (a:List ao) (b:Nat) (h:a.length<=b):(f6 c a).Le b:=by
 cases a with
 |nil=>exact .ok h
 |cons e d=>
  have a:d.length<=b:=by simp at h;omega
  exact .ite (.ok a) (.ite (.ok a) (.ite ((fw c d b a).bind λ_ _ h=>.ok h) (.ite ((fw c d b a).bind λ_ _ h=>.ok h) (.ite (.ok a) (.ite (.ok a) (.ite (.ok a) (.ok h)))))))
theorem vC (c:Int) (a:List ao) (b:Nat) (h:a.length<=b):(jo c a).Le b:=
 (vB c a b h).bind λd a h=>by cases d with|none=>exact oV _ _ _ _|some d=>exact .ok h
theorem vD (c:Int) (a:List ao) (b:Nat) (h:a.length<=b):(jp c a).Le b:=
 (vB c a b h).bind λd a h=>by
  cases d with
  |none=>exact(dK c a b h).bind λe a h=>.ite ((dK c _ b (iG h)).bind λ_ _ h=>.ok h) (.ok h)
  |some d=>exact .ok h
theorem BO (b:Int) (c:List ao) (a:Nat) (h:c.length<=a):(l8 b c).Le a:=
 .ite (fw b _ a (iG h)) (.ite ((fw b _ a (iG h)).bind λ_ _ h=>.ok h) (.ok h))
theorem vE (b:Int) (c:List ao) (a:Nat) (h:c.length<=a):(j3 b c).Le a:=
 (vD b c a h).bind λ_ _ h=>(iH b _ _ a h).bind λ_ _ h=>(vD b _ a h).bind λ_ _ h=>(BO b _ a h).bind λ_ _ h=>.ok h
theorem qt (a:Int) (c:List ao) (b:Nat) (h:c.length<=b):(jq a c).Le b:=
 (b8 a _ _ b h).bind λ_ _ h=>ml _ _ (vE a) _ _ h
theorem se (b:Int) (c:List ao) (a:Nat) (h:c.length<=a):(j4 b c).Le a:=
 (dK b c a h).bind λ_ _ h=>(iH b _ _ a h).bind λ_ _ h=>.ite ((vC b _ a (iG h)).bind λ_ _ h=>.ok h) (.ok h)
theorem sf (b:Int) (c:List ao) (a:Nat) (h:c.length<=a):(j5 b c).Le a:=
 (dK b c a h).bind λ_ _ h=>(b8 b _ _ a h).bind λ_ _ h=>(vC b _ a h).bind λ_ _ h=>.ok h
theorem sg (b:Int) (c:List ao) (a:Nat) (h:c.length<=a):(k8 b c).Le a:=
 (dK b c a h).bind λ_ _ h=>(dK b _ a h).bind λ_ _ h=>.ok h
theorem BP (b:Int) (d:av) (e f g i j:Int) (c:List ao) (a:Nat) (h:c.length<=a):(k7 b d e f g i j c).Le a:=
 (PO.Le.ite (fw b _ a (iG h)) (.ok h)).bind λ_ _ h=>(b8 b _ _ a h).bind λ_ _ h=>.ok h
theorem BQ (b:Int) (d:av) (e f g:Int) (c:List ao) (a:Nat) (h:c.length<=a):(ql b d e f g c).Le a:=
 (PO.Le.ite (fw b _ a (iG h)) (.ok h)).bind λ_ _ h=>(b8 b _ _ a h).bind λ_ _ h=>(fw b _ a h).bind λ_ _ h=>BP _ _ _ _ _ _ _ _ a h
theorem vF (b:Int) (d:av) (e f:Int) (c:List ao) (a:Nat) (h:c.length<=a):(l9 b d e f c).Le a:=
 (b8 b _ _ a h).bind λ_ _ h=>(fw b _ a h).bind λ_ _ h=>BQ _ _ _ _ _ _ a h
theorem BR (b:Int) (c:List ao) (a:Nat) (h:c.length<=a):(iB b c).Le a:=
 (dK b c a h).bind λ_ _ h=>(iH b _ _ a h).bind λ_ _ h=>(PO.Le.ite (fw b _ a h) (.ok h)).bind λ_ _ h=>vF _ _ _ _ _ a h
theorem BS (d:Int) (a:List ao) (e:Int):∀c b,ez d a e=.ok c b->b.length<a.length:=by
 intro c b h;cases a with
 |nil=>cases h
 |cons f g=>
  simp only[ez]at h;split at h
  ·injection h with _ h;subst h;simp
  cases h
theorem BT (b:Int) (a:List ao):∀c d,bN b a=.ok c d->d.length<a.length:=by
 intro c d h;unfold bN at h;cases hk:ez b a 1 with
 |bad e c=>rw[hk]at h;cases h
 |ok e f=>
  rw[hk]at h;injection h with _ h
  subst h;exact BS b a 1 _ _ hk
theorem PO.bind_some {d e:Type} {c:PO d} {f:d->List ao->PO e} {d:e} {e:List ao} (h:c.bind f=.ok d e):∃a b,c=.ok a b/\f a b=.ok d e:=by
 cases c with
 |bad g a=>cases h
 |ok a b=>exact⟨a,b,rfl,h⟩
theorem BU (a:Int) (b:List ao):∀c us,iB a b=.ok c us->us.length<b.length:=by
 intro c us h;obtain⟨d,c,e,f⟩:=PO.bind_some h;have b:=BT a b d c e;have b:us.length<=c.length:=by
  exact PO.Le.bind (iH a _ _ c.length (Nat.le_refl _)) (λ_ _ h=>(PO.Le.ite (fw a _ _ h) (.ok h)).bind λ_ _ h=>vF _ _ _ _ _ _ h) _ _ f
 omega
theorem vG (c:Int) (d:av) (a:List ao) (b:Nat) (h:a.length<=b):(k6 c d a).Le b:=.ite (.ok h) (sd c a b h)
theorem BV (b:Int) (d:Nat) (c:List ao) (a:Nat) (h:c.length<=a):(eA b d c).Le a:=
 .ite ((qt b c a h).bind λ_ _ h=>.ok h) (.ite ((b8 b _ _ a h).bind λ_ _ h=>(vG b _ _ a h).bind λ_ _ h=>.ok h) (.ite
  ((b8 b _ _ a h).bind λ_ _ h=>(dK b _ a h).bind λ_ _ h=>(b8 b _ _ a h).bind λ_ _ h=>(dK b _ a h).bind λ_ _ h=>.ok h) (.ite
  (
   (
   b8 b _ _ a h).bind λ_ _ h=>(vG b _ _ a h).bind λ_ _ h=>(b8 b _ _ a h).bind λ_ _ h=>(iH b _ _ a h).bind λ_ _ h=>
   (PO.Le.ite (.ok h) (dK b _ a h)).bind λ_ _ h=>(b8 b _ _ a h).bind λ_ _ h=>(dK b _ a h).bind λ_ _ h=>.ok h) (.ok h))))
theorem BW (c:Int):∀(d:Nat) (b:List ao) (a:Nat),b.length<=a->(d7 c d b).Le a:=by
 intro d;induction d with
 |zero=>intro b a h;exact oV _ _ _ _
 |succ d e=>
  intro b a h;unfold d7;cases hQ b 0 f8 with
  |none=>exact(dK c b a h).bind λ_ _ h=>.ok h
  |some f=>
   exact(e _ a (vz 2 h)).bind λd b h=>(PO.Le.ite ((b8 c _ _ a h).bind λ_ _ h=>(e _ a h).bind λ_ _ h=>.ok h) (.ok h)).bind λ_ _ h=>
    (BV c f _ a h).bind λ_ _ h=>(b8 c _ _ a h).bind λ_ _ h=>.ok h
end Go.Proofs.YteamkimbmdgdbaaGreatDoor

import Derived.Test.YteamkimbmdgdbaaGreatDoorK01
import Derived.Test.YteamkimbmdgdbaaGreatDoorCards
import Derived.Test.YteamkimbmdgdbaaGreatDoorTie
set_option linter.unusedSimpArgs false
set_option linter.unusedVariables false
set_option maxHeartbeats 16000000
set_option maxRecDepth 100000
namespace Go.Proofs.YteamkimbmdgdbaaGreatDoor
open Go.ChangeShapes Go.WideShapes Go.RowKit
theorem Tryz.own:ownKnob Tryz.prog.godebug=none:=ak
theorem Tryz.laidOut:laidOutB Tryz.prog=true:=ak
def nB:List (String×DataW Unit):=[("math/bits.deBruijn32tab",Rows.laid_math_bits_deBruijn32tab),("math/bits.deBruijn64tab",Rows.laid_math_bits_deBruijn64tab),("internal/strconv.uint64pow10",Rows.laid_internal_strconv_uint64pow10),("strconv.ErrRange",Rows.laid_strconv_ErrRange),("strconv.ErrSyntax",Rows.laid_strconv_ErrSyntax),("cleanse/parser.words",Rows.laid_cleanse_parser_words)]
theorem sM:Tryz.prog.globalNamed "cleanse/parser.words" =some 0:=ak
theorem xW:(Tryz.prog.globals[0]?).map (·.type)=some 191:=ak
theorem xX:Tryz.prog.cellsOf 9=1:=ak
theorem xY:Tryz.prog.cellsOf 191=10:=ak
theorem xZ (os:Os) (a:Array Value):laidMetH Tryz.prog nB ((World.doorLaid Tryz.prog 4000 os).forCall (λ_ _=>0) ⟨#[],a,[]⟩).memory:=
 laidMetH_of_parts3 (fuel:=8) (laidMet_of_run' 8 ak ak) ak ak
def sN {H:Type}:DataW H:=.agg (fb.map λa=>.lit (.string a.data.toList))
theorem ya:Rows.laid_cleanse_parser_words (H:=Unit)=sN:=ak
theorem yb {c:World} (h:laidMetH Tryz.prog nB c):b4 c ⟨some ⟨0,0,none⟩,10,10⟩ fb/\0<c.heap.size:=by
 rw[MakeChecks.laidMetH_plain _ _ _ ak]at h;have f:=h.tail.tail.tail.tail.tail;rw[ya]at f;obtain⟨w,⟨x,y,n,z,A,B,o,p,q,r,_,_⟩,_⟩:=f;obtain rfl:=Option.some.inj (sM.symm.trans o);obtain rfl:=Option.some.inj (xW.symm.trans p);obtain⟨g,C,rfl,s,t,D,i⟩:=DataW.trod_array Tryz.underlying191 r;simp only[xX,xY,Nat.mul_one]at i t;have o:g.map (·.1)=fb.map λb=>(DataW.lit (.string b.data.toList):DataW Unit):=by
  have:=congrArg Prod.fst s;simp only[sN,DataW.agg.injEq]at this;exact this.symm
 have j:∀(a:Nat) (d:ByteArray),fb[a]?=some d->c.cell? ⟨0,a,none⟩=some (.string d):=by
  intro a d k;have l:a<10:=(List.getElem?_eq_some_iff.1 k).1;have i:=i a l;have l:g[a]?=some g[a]:=List.getElem?_eq_getElem ae;rw[l]at i;obtain⟨b,u,f,_⟩:=DataW.trod_string Tryz.underlying9 i;have e:(g.map (·.1))[a]?=some (DataW.lit (.string b.data.toList)):=by rw[List.getElem?_map,l,f];rfl
  rw[o,List.getElem?_map,k]at e;have m:d.data.toList=b.data.toList:=by
   injection e with e
   injection e with e
   injection e
  have v:d=b:=by
   cases d;cases b;simp only at m;rw[Array.toList_inj.1 m]
  have d:n.toList[a]?=some (.string b):=by
   have:=congrArg (·[0]?) u;simpa[List.getElem?_take,List.getElem?_drop]using this
  rw[World.var?_cell sM q a,v];simpa using d
 have e:0<c.heap.size:=by
  rcases Nat.lt_or_ge 0 c.heap.size with h|h
  ·exact h
  have:=j 0 _ rfl;simp[World.cell?,Array.getElem?_eq_none h]at this
 refine⟨⟨⟨rfl,by decide,λk u=>⟨_,0,rfl,e,λl v m=>?_⟩⟩,show∀b∈fb,b.size<=9223372036854775807 by decide+kernel⟩,e⟩;cases l with
 |zero=>
  have a:v=.string fb[k]:=by simpa[dF]using m.symm
  rw[a];simpa using j k _ (List.getElem?_eq_getElem u)
 |succ l=>simp[dF]at m
def PO.Le {a:Type} (b:PO a) (n:Nat):Prop:=∀c a,b=.ok c a->a.length<=n
theorem PO.Le.bind {c d:Type} {b:PO c} {f:c->List ao->PO d} {n:Nat} (h:b.Le n) (e:∀a ts,ts.length<=n->(f a ts).Le n):(b.bind f).Le n:=by
 cases b with
 |bad g a=>intro b ts h;cases h
 |ok a ts=>exact e a ts (h a ts rfl)
theorem PO.Le.ok {α:Type} {a:α} {ts:List ao} {n:Nat} (h:ts.length<=n):(PO.ok a ts).Le n:=by
 intro c c b;injection b with _ b
 subst b;exact h
theorem PO.Le.bad {α:Type} {a b:Int} {c:Nat}:(PO.bad a b:PO α).Le c:=by intro a a h;cases h
theorem PO.Le.ite {d:Type} {a:Prop} [Decidable a] {b c:PO d} {n:Nat} (h:b.Le n) (d:c.Le n):(if a then b else c).Le n:=by split<;>assumption
theorem nJ {b:Type} (c:Int) (a:List ao) (d:Int) (n:Nat):(e8 c a d:PO b).Le n:=by cases a<;>exact .bad
theorem h7 {a:List ao} {b:Nat} (h:a.length<=b):a.tail.length<=b:=aC
theorem s9 {a:List ao} {b:Nat} (c:Nat) (h:a.length<=b):(a.drop c).length<=b:=aC
theorem b5 (c:Int) (b:bm):∀(a:List ao) (n:Nat),a.length<=n->(aR c a b).Le n:=by
 induction b with
 |nil=>intro a n h;cases a<;>exact .ok h
 |cons d b e=>
  intro a n h;have:aR c a (d::b)=if bu a d then aR c a.tail b else e8 c a 4:=by cases a<;>rfl
  rw[this];exact .ite (e _ _ (h7 h)) (nJ _ _ _ _)
theorem tc (c:Int) (a:List ao) (d:Int) (b:Nat) (h:a.length<=b):(ey c a d).Le b:=by
 cases a with
 |nil=>exact .bad
 |cons e f=>exact .ite (.ok (by simp at h;omega)) .bad
theorem dx (b:Int) (a:List ao) (n:Nat) (h:a.length<=n):(bW b a).Le n:=(tc b a 1 n h).bind λ_ _ h=>.ok h
theorem eU (c:Int) (a:List ao) (b:Nat) (h:a.length<=b):(cq c a).Le b:=(tc c a 2 b h).bind λ_ _ h=>.ok h
theorem h8 (c:Int) (a:List ao) (d:bm) (b:Nat) (h:a.length<=b):(dK c a d).Le b:=by
 unfold dK;split
 ·exact .ok (h7 h)
 exact nJ _ _ _ _
theorem yy {e:Type} (g:aw) (f:List ao->PO e) (i:∀a b,a.length<=b->(f a).Le b):∀(c:Nat) (d:List e) (a:List ao) (b:Nat),a.length<=b->(da g f c d a).Le b:=by
 intro c;induction c with
 |zero=>intro d a b h;exact .ok h
 |succ c j=>intro d a b h;exact .ite ((i _ _ (h7 h)).bind λb a h=>j _ _ _ h) (.ok h)
theorem lG {a:Type} (d:aw) (c:List ao->PO a) (e:∀a b,a.length<=b->(c a).Le b) (a:List ao) (b:Nat) (h:a.length<=b):(dA d c a).Le b:=
 (e _ _ h).bind λ_ _ h=>yy d c e _ _ _ _ h
theorem qP (a:Int) (b:List ao) (c:Nat) (h:b.length<=c):(hT a b).Le c:=lG _ _ (dx a) _ _ h
theorem td (c:Int) (a:List ao) (b:Nat) (h:a.length<=b):(fO c a).Le b:=by
 cases a with
 |nil=>exact .ok h
 |cons e d=>
  have a:d.length<=b:=by simp at h;omega
  exact .ite (.ok a) (.ite (.ok a) (.ite ((eU c d b a).bind λ_ _ h=>.ok h) (.ite ((eU c d b a).bind λ_ _ h=>.ok h) (.ite (.ok a) (.ite (.ok a) (.ite (.ok a) (.ok h)))))))
theorem te (c:Int) (a:List ao) (b:Nat) (h:a.length<=b):(jF c a).Le b:=
 (td c a b h).bind λd a h=>by cases d with|none=>exact nJ _ _ _ _|some d=>exact .ok h
theorem tf (c:Int) (a:List ao) (b:Nat) (h:a.length<=b):(jG c a).Le b:=
 (td c a b h).bind λd a h=>by
  cases d with
  |none=>exact(dx c a b h).bind λe a h=>.ite ((dx c _ b (h7 h)).bind λ_ _ h=>.ok h) (.ok h)
  |some d=>exact .ok h
theorem yz (b:Int) (c:List ao) (a:Nat) (h:c.length<=a):(mn b c).Le a:=
 .ite (eU b _ a (h7 h)) (.ite ((eU b _ a (h7 h)).bind λ_ _ h=>.ok h) (.ok h))
theorem tg (b:Int) (c:List ao) (a:Nat) (h:c.length<=a):(kB b c).Le a:=
 (tf b c a h).bind λ_ _ h=>(h8 b _ _ a h).bind λ_ _ h=>(tf b _ a h).bind λ_ _ h=>(yz b _ a h).bind λ_ _ h=>.ok h
theorem pi (a:Int) (c:List ao) (b:Nat) (h:c.length<=b):(jH a c).Le b:=
 (b5 a _ _ b h).bind λ_ _ h=>lG _ _ (tg a) _ _ h
theorem qQ (b:Int) (c:List ao) (a:Nat) (h:c.length<=a):(kC b c).Le a:=
 (dx b c a h).bind λ_ _ h=>(h8 b _ _ a h).bind λ_ _ h=>.ite ((te b _ a (h7 h)).bind λ_ _ h=>.ok h) (.ok h)
theorem qR (b:Int) (c:List ao) (a:Nat) (h:c.length<=a):(kD b c).Le a:=
 (dx b c a h).bind λ_ _ h=>(b5 b _ _ a h).bind λ_ _ h=>(te b _ a h).bind λ_ _ h=>.ok h
theorem qS (b:Int) (c:List ao) (a:Nat) (h:c.length<=a):(kE b c).Le a:=
 (dx b c a h).bind λ_ _ h=>(dx b _ a h).bind λ_ _ h=>.ok h
theorem yA (b:Int) (d:aw) (e f g i j:Int) (c:List ao) (a:Nat) (h:c.length<=a):(ly b d e f g i j c).Le a:=
 (PO.Le.ite (eU b _ a (h7 h)) (.ok h)).bind λ_ _ h=>(b5 b _ _ a h).bind λ_ _ h=>.ok h
theorem yB (b:Int) (d:aw) (e f g:Int) (c:List ao) (a:Nat) (h:c.length<=a):(qJ b d e f g c).Le a:=
 (PO.Le.ite (eU b _ a (h7 h)) (.ok h)).bind λ_ _ h=>(b5 b _ _ a h).bind λ_ _ h=>(eU b _ a h).bind λ_ _ h=>yA _ _ _ _ _ _ _ _ a h
theorem th (b:Int) (d:aw) (e f:Int) (c:List ao) (a:Nat) (h:c.length<=a):(mq b d e f c).Le a:=
 (b5 b _ _ a h).bind λ_ _ h=>(eU b _ a h).bind λ_ _ h=>yB _ _ _ _ _ _ a h
theorem yC (b:Int) (c:List ao) (a:Nat) (h:c.length<=a):(iU b c).Le a:=
 (dx b c a h).bind λ_ _ h=>(h8 b _ _ a h).bind λ_ _ h=>(PO.Le.ite (eU b _ a h) (.ok h)).bind λ_ _ h=>th _ _ _ _ _ a h
theorem yD (d:Int) (a:List ao) (e:Int):∀c b,ey d a e=.ok c b->b.length<a.length:=by
 intro c b h;cases a with
 |nil=>cases h
 |cons f g=>
  simp only[ey]at h;split at h
  ·injection h with _ h;subst h;simp
  cases h
theorem yE (b:Int) (a:List ao):∀c d,bW b a=.ok c d->d.length<a.length:=by
 intro c d h;unfold bW at h;cases hk:ey b a 1 with
 |bad e c=>rw[hk]at h;cases h
 |ok e f=>
  rw[hk]at h;injection h with _ h
  subst h;exact yD b a 1 _ _ hk
theorem PO.bind_some {d e:Type} {c:PO d} {f:d->List ao->PO e} {d:e} {e:List ao} (h:c.bind f=.ok d e):∃a b,c=.ok a b/\f a b=.ok d e:=by
 cases c with
 |bad g a=>cases h
 |ok a b=>exact⟨a,b,rfl,h⟩
theorem yF (a:Int) (b:List ao):∀c us,iU a b=.ok c us->us.length<b.length:=by
 intro c us h;obtain⟨d,c,e,f⟩:=PO.bind_some h;have b:=yE a b d c e;have b:us.length<=c.length:=by
  exact PO.Le.bind (h8 a _ _ c.length (Nat.le_refl _)) (λ_ _ h=>(PO.Le.ite (eU a _ _ h) (.ok h)).bind λ_ _ h=>th _ _ _ _ _ _ h) _ _ f
 omega
theorem tj (c:Int) (d:aw) (a:List ao) (b:Nat) (h:a.length<=b):(lx c d a).Le b:=.ite (.ok h) (qP c a b h)
theorem yG (b:Int) (d:Nat) (c:List ao) (a:Nat) (h:c.length<=a):(em b d c).Le a:=
 .ite ((pi b c a h).bind λ_ _ h=>.ok h) (.ite ((b5 b _ _ a h).bind λ_ _ h=>(tj b _ _ a h).bind λ_ _ h=>.ok h) (.ite
  ((b5 b _ _ a h).bind λ_ _ h=>(dx b _ a h).bind λ_ _ h=>(b5 b _ _ a h).bind λ_ _ h=>(dx b _ a h).bind λ_ _ h=>.ok h) (.ite
  (
   (
   b5 b _ _ a h).bind λ_ _ h=>(tj b _ _ a h).bind λ_ _ h=>(b5 b _ _ a h).bind λ_ _ h=>(h8 b _ _ a h).bind λ_ _ h=>
   (PO.Le.ite (.ok h) (dx b _ a h)).bind λ_ _ h=>(b5 b _ _ a h).bind λ_ _ h=>(dx b _ a h).bind λ_ _ h=>.ok h) (.ok h))))
theorem yH (c:Int):∀(d:Nat) (b:List ao) (a:Nat),b.length<=a->(eb c d b).Le a:=by
 intro d;induction d with
 |zero=>intro b a h;exact nJ _ _ _ _
 |succ d e=>
  intro b a h;unfold eb;cases hU b 0 fP with
  |none=>exact(dx c b a h).bind λ_ _ h=>.ok h
  |some f=>
   exact(e _ a (s9 2 h)).bind λd b h=>(PO.Le.ite ((b5 c _ _ a h).bind λ_ _ h=>(e _ a h).bind λ_ _ h=>.ok h) (.ok h)).bind λ_ _ h=>
    (yG c f _ a h).bind λ_ _ h=>(b5 c _ _ a h).bind λ_ _ h=>.ok h
end Go.Proofs.YteamkimbmdgdbaaGreatDoor

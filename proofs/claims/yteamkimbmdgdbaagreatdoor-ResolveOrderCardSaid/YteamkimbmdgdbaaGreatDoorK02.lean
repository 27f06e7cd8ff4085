import Derived.Test.YteamkimbmdgdbaaGreatDoorK01
import Derived.Test.YteamkimbmdgdbaaGreatDoorCards
import Derived.Test.YteamkimbmdgdbaaGreatDoorTie
set_option linter.unusedSimpArgs false
set_option linter.unusedVariables false
set_option maxHeartbeats 16000000
set_option maxRecDepth 100000
namespace Go.Proofs.YteamkimbmdgdbaaGreatDoor
open Go.Proofs.Tryz
open Go.ChangeShapes Go.WideShapes Go.RowKit
theorem Tryz.own:ownKnob prog.godebug=none:=am
theorem Tryz.laidOut:laidOutB prog=true:=am
def oI:List (String×DataW Unit):=[("math/bits.deBruijn32tab",Rows.laid_math_bits_deBruijn32tab),("math/bits.deBruijn64tab",Rows.laid_math_bits_deBruijn64tab),("internal/strconv.uint64pow10",Rows.laid_internal_strconv_uint64pow10),("strconv.ErrRange",Rows.laid_strconv_ErrRange),("strconv.ErrSyntax",Rows.laid_strconv_ErrSyntax),("cleanse/parser.words",Rows.laid_cleanse_parser_words)]
theorem uV:prog.globalNamed "cleanse/parser.words" =some 0:=am
theorem A8:(prog.globals[0]?).map (·.type)=some 191:=am
theorem A9:prog.cellsOf 9=1:=am
theorem Ba:prog.cellsOf 191=10:=am
theorem Bb (os:Os) (a:Array Value):laidMetH prog oI ((World.doorLaid prog 4000 os).forCall (λ_ _=>0) ⟨#[],a,[]⟩).memory:=
 laidMetH_of_parts3 (fuel:=8) (laidMet_of_run' 8 am am) am am
def uW {H:Type}:DataW H:=.agg (fJ.map λa=>.lit (.string a.data.toList))
theorem Bc:Rows.laid_cleanse_parser_words (H:=Unit)=uW:=am
theorem Bd {c:World} (h:laidMetH prog oI c):b5 c ⟨some ⟨0,0,none⟩,10,10⟩ fJ/\0<c.heap.size:=by
 rw[MakeChecks.laidMetH_plain _ _ _ am]at h;have f:=h.tail.tail.tail.tail.tail;rw[Bc]at f;obtain⟨w,⟨x,y,n,z,A,B,o,p,q,r,_,_⟩,_⟩:=f;obtain rfl:=Option.some.inj (uV.symm.trans o);obtain rfl:=Option.some.inj (A8.symm.trans p);obtain⟨g,C,rfl,s,t,D,i⟩:=DataW.trod_array underlying191 r;simp only[A9,Ba,Nat.mul_one]at i t;have o:g.map (·.1)=fJ.map λb=>(DataW.lit (.string b.data.toList):DataW Unit):=by
  have:=congrArg Prod.fst s;simp only[uW,DataW.agg.injEq]at this;exact this.symm
 have j:∀(a:Nat) (d:ByteArray),fJ[a]?=some d->c.cell? ⟨0,a,none⟩=some (.string d):=by
  intro a d k;have l:a<10:=(List.getElem?_eq_some_iff.1 k).1;have i:=i a l;have l:g[a]?=some g[a]:=List.getElem?_eq_getElem af;rw[l]at i;obtain⟨b,u,f,_⟩:=DataW.trod_string underlying9 i;have e:(g.map (·.1))[a]?=some (DataW.lit (.string b.data.toList)):=by rw[List.getElem?_map,l,f];rfl
  rw[o,List.getElem?_map,k]at e;have m:d.data.toList=b.data.toList:=by
   injection e with e
   injection e with e
   injection e
  have v:d=b:=by
   cases d;cases b;simp only at m;rw[Array.toList_inj.1 m]
  have d:n.toList[a]?=some (.string b):=by
   have:=congrArg (·[0]?) u;simpa[List.getElem?_take,List.getElem?_drop]using this
  rw[World.var?_cell uV q a,v];simpa using d
 have e:0<c.heap.size:=by
  rcases Nat.lt_or_ge 0 c.heap.size with h|h
  ·exact h
  have:=j 0 _ rfl;simp[World.cell?,Array.getElem?_eq_none h]at this
 refine⟨⟨⟨rfl,by decide,λk u=>⟨_,0,rfl,e,λl v m=>?_⟩⟩,show∀b∈fJ,b.size<=9223372036854775807 by decide+kernel⟩,e⟩;cases l with
 |zero=>
  have a:v=.string fJ[k]:=by simpa[cq]using m.symm
  rw[a];simpa using j k _ (List.getElem?_eq_getElem u)
 |succ l=>simp[cq]at m
def PO.Le {a:Type} (b:PO a) (n:Nat):Prop:=∀c a,b=.ok c a->a.length<=n
theorem PO.Le.bind {c d:Type} {r:PO c} {f:c->List aq->PO d} {n:Nat} (h:r.Le n) (hf:∀a ts,ts.length<=n->(f a ts).Le n):(r.bind f).Le n:=by
 exact qf
theorem PO.Le.ok {α:Type} {a:α} {ts:List aq} {n:Nat} (h:ts.length<=n):(PO.ok a ts).Le n:=by
 intro c c b;injection b with _ b
 subst b;exact h
theorem PO.Le.bad {α:Type} {a b:Int} {c:Nat}:(PO.bad a b:PO α).Le c:=by intro a a h;cases h
theorem PO.Le.ite {d:Type} {a:Prop} [Decidable a] {b c:PO d} {n:Nat} (h:b.Le n) (d:c.Le n):(if a then b else c).Le n:=by split<;>assumption
theorem oQ {b:Type} (c:Int) (a:List aq) (d:Int) (n:Nat):(fI c a d:PO b).Le n:=by cases a<;>exact .bad
theorem iz {a:List aq} {b:Nat} (h:a.length<=b):a.tail.length<=b:=aF
theorem vu {a:List aq} {b:Nat} (c:Nat) (h:a.length<=b):(a.drop c).length<=b:=aF
theorem b8 (c:Int) (b:bk):∀(a:List aq) (n:Nat),a.length<=n->(aW c a b).Le n:=by
 induction b with
 |nil=>intro a n h;cases a<;>exact .ok h
 |cons d b e=>
  intro a n h;have:aW c a (d::b)=if bB a d then aW c a.tail b else fI c a 4:=by cases a<;>rfl
  rw[this];exact .ite (e _ _ (iz h)) (oQ _ _ _ _)
theorem vv (c:Int) (a:List aq) (d:Int) (b:Nat) (h:a.length<=b):(eO c a d).Le b:=by
 cases a with
 |nil=>exact .bad
 |cons e f=>exact .ite (.ok (by simp at h;omega)) .bad
theorem dI (b:Int) (a:List aq) (n:Nat) (h:a.length<=n):(bW b a).Le n:=(vv b a 1 n h).bind λ_ _ h=>.ok h
theorem fx (c:Int) (a:List aq) (b:Nat) (h:a.length<=b):(cu c a).Le b:=(vv c a 2 b h).bind λ_ _ h=>.ok h
theorem iA (c:Int) (a:List aq) (d:bk) (b:Nat) (h:a.length<=b):(dZ c a d).Le b:=by
 unfold dZ;split
 ·exact .ok (iz h)
 exact oQ _ _ _ _
theorem BB {e:Type} (g:ax) (f:List aq->PO e) (i:∀a b,a.length<=b->(f a).Le b):∀(c:Nat) (d:List e) (a:List aq) (b:Nat),a.length<=b->(dp g f c d a).Le b:=by
 intro c;induction c with
 |zero=>intro d a b h;exact .ok h
 |succ c j=>intro d a b h;exact .ite ((i _ _ (iz h)).bind λb a h=>j _ _ _ h) (.ok h)
theorem me {a:Type} (d:ax) (c:List aq->PO a) (e:∀a b,a.length<=b->(c a).Le b) (a:List aq) (b:Nat) (h:a.length<=b):(dO d c a).Le b:=
 (e _ _ h).bind λ_ _ h=>BB d c e _ _ _ _ h
theorem r2 (a:Int) (b:List aq) (c:Nat) (h:b.length<=c):(io a b).Le c:=me _ _ (dI a) _ _ h
theorem vw (c:Int) (a:List aq) (b:Nat) (h:a.length<=b):(go c a).Le b:=by
 cases a with
 |nil=>exact .ok h
 |cons e d=>
  have a:d.length<=b:=by simp at h;omega
  exact .ite (.ok a) (.ite (.ok a) (.ite ((fx c d b a).bind λ_ _ h=>.ok h) (.ite ((fx c d b a).bind λ_ _ h=>.ok h) (.ite (.ok a) (.ite (.ok a) (.ite (.ok a) (.ok h)))))))
theorem vx (c:Int) (a:List aq) (b:Nat) (h:a.length<=b):(jX c a).Le b:=
 (vw c a b h).bind λd a h=>by cases d with|none=>exact oQ _ _ _ _|some d=>exact .ok h
theorem vy (c:Int) (a:List aq) (b:Nat) (h:a.length<=b):(jY c a).Le b:=
 (vw c a b h).bind λd a h=>by
  cases d with
  |none=>exact(dI c a b h).bind λe a h=>.ite ((dI c _ b (iz h)).bind λ_ _ h=>.ok h) (.ok h)
  |some d=>exact .ok h
theorem BC (b:Int) (c:List aq) (a:Nat) (h:c.length<=a):(m6 b c).Le a:=
 .ite (fx b _ a (iz h)) (.ite ((fx b _ a (iz h)).bind λ_ _ h=>.ok h) (.ok h))
theorem vz (b:Int) (c:List aq) (a:Nat) (h:c.length<=a):(k7 b c).Le a:=
 (vy b c a h).bind λ_ _ h=>(iA b _ _ a h).bind λ_ _ h=>(vy b _ a h).bind λ_ _ h=>(BC b _ a h).bind λ_ _ h=>.ok h
theorem qg (a:Int) (c:List aq) (b:Nat) (h:c.length<=b):(jZ a c).Le b:=
 (b8 a _ _ b h).bind λ_ _ h=>me _ _ (vz a) _ _ h
theorem r3 (b:Int) (c:List aq) (a:Nat) (h:c.length<=a):(k8 b c).Le a:=
 (dI b c a h).bind λ_ _ h=>(iA b _ _ a h).bind λ_ _ h=>.ite ((vx b _ a (iz h)).bind λ_ _ h=>.ok h) (.ok h)
theorem r4 (b:Int) (c:List aq) (a:Nat) (h:c.length<=a):(k9 b c).Le a:=
 (dI b c a h).bind λ_ _ h=>(b8 b _ _ a h).bind λ_ _ h=>(vx b _ a h).bind λ_ _ h=>.ok h
theorem r5 (b:Int) (c:List aq) (a:Nat) (h:c.length<=a):(la b c).Le a:=
 (dI b c a h).bind λ_ _ h=>(dI b _ a h).bind λ_ _ h=>.ok h
theorem BD (b:Int) (d:ax) (e f g i j:Int) (c:List aq) (a:Nat) (h:c.length<=a):(lZ b d e f g i j c).Le a:=
 (PO.Le.ite (fx b _ a (iz h)) (.ok h)).bind λ_ _ h=>(b8 b _ _ a h).bind λ_ _ h=>.ok h
theorem BE (b:Int) (d:ax) (e f g:Int) (c:List aq) (a:Nat) (h:c.length<=a):(rW b d e f g c).Le a:=
 (PO.Le.ite (fx b _ a (iz h)) (.ok h)).bind λ_ _ h=>(b8 b _ _ a h).bind λ_ _ h=>(fx b _ a h).bind λ_ _ h=>BD _ _ _ _ _ _ _ _ a h
theorem vA (b:Int) (d:ax) (e f:Int) (c:List aq) (a:Nat) (h:c.length<=a):(m8 b d e f c).Le a:=
 (b8 b _ _ a h).bind λ_ _ h=>(fx b _ a h).bind λ_ _ h=>BE _ _ _ _ _ _ a h
theorem BF (b:Int) (c:List aq) (a:Nat) (h:c.length<=a):(jg b c).Le a:=
 (dI b c a h).bind λ_ _ h=>(iA b _ _ a h).bind λ_ _ h=>(PO.Le.ite (fx b _ a h) (.ok h)).bind λ_ _ h=>vA _ _ _ _ _ a h
theorem BG (d:Int) (a:List aq) (e:Int):∀c b,eO d a e=.ok c b->b.length<a.length:=by
 intro c b h;cases a with
 |nil=>cases h
 |cons f g=>
  simp only[eO]at h;split at h
  ·injection h with _ h;subst h;simp
  cases h
theorem BH (b:Int) (a:List aq):∀c d,bW b a=.ok c d->d.length<a.length:=by
 intro c d h;unfold bW at h;cases hk:eO b a 1 with
 |bad e c=>rw[hk]at h;cases h
 |ok e f=>
  rw[hk]at h;injection h with _ h
  subst h;exact BG b a 1 _ _ hk
theorem PO.bind_some {d e:Type} {c:PO d} {f:d->List aq->PO e} {d:e} {e:List aq} (h:c.bind f=.ok d e):∃a b,c=.ok a b/\f a b=.ok d e:=by
 cases c with
 |bad g a=>cases h
 |ok a b=>exact⟨a,b,rfl,h⟩
theorem BI (a:Int) (b:List aq):∀c us,jg a b=.ok c us->us.length<b.length:=by
 intro c us h;obtain⟨d,c,e,f⟩:=PO.bind_some h;have b:=BH a b d c e;have b:us.length<=c.length:=by
  exact PO.Le.bind (iA a _ _ c.length (Nat.le_refl _)) (λ_ _ h=>(PO.Le.ite (fx a _ _ h) (.ok h)).bind λ_ _ h=>vA _ _ _ _ _ _ h) _ _ f
 omega
theorem vB (c:Int) (d:ax) (a:List aq) (b:Nat) (h:a.length<=b):(lY c d a).Le b:=.ite (.ok h) (r2 c a b h)
theorem BJ (b:Int) (d:Nat) (c:List aq) (a:Nat) (h:c.length<=a):(eG b d c).Le a:=
 .ite ((qg b c a h).bind λ_ _ h=>.ok h) (.ite ((b8 b _ _ a h).bind λ_ _ h=>(vB b _ _ a h).bind λ_ _ h=>.ok h) (.ite
  ((b8 b _ _ a h).bind λ_ _ h=>(dI b _ a h).bind λ_ _ h=>(b8 b _ _ a h).bind λ_ _ h=>(dI b _ a h).bind λ_ _ h=>.ok h) (.ite
  (
   (
   b8 b _ _ a h).bind λ_ _ h=>(vB b _ _ a h).bind λ_ _ h=>(b8 b _ _ a h).bind λ_ _ h=>(iA b _ _ a h).bind λ_ _ h=>
   (PO.Le.ite (.ok h) (dI b _ a h)).bind λ_ _ h=>(b8 b _ _ a h).bind λ_ _ h=>(dI b _ a h).bind λ_ _ h=>.ok h) (.ok h))))
theorem BK (c:Int):∀(d:Nat) (b:List aq) (a:Nat),b.length<=a->(ev c d b).Le a:=by
 intro d;induction d with
 |zero=>intro b a h;exact oQ _ _ _ _
 |succ d e=>
  intro b a h;unfold ev;cases iq b 0 gp with
  |none=>exact(dI c b a h).bind λ_ _ h=>.ok h
  |some f=>
   exact(e _ a (vu 2 h)).bind λd b h=>(PO.Le.ite ((b8 c _ _ a h).bind λ_ _ h=>(e _ a h).bind λ_ _ h=>.ok h) (.ok h)).bind λ_ _ h=>
    (BJ c f _ a h).bind λ_ _ h=>(b8 c _ _ a h).bind λ_ _ h=>.ok h
end Go.Proofs.YteamkimbmdgdbaaGreatDoor

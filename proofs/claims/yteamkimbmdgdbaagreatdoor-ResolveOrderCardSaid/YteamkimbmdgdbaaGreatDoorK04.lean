import Derived.Test.YteamkimbmdgdbaaGreatDoorK00
import Derived.Test.YteamkimbmdgdbaaGreatDoorK01
set_option linter.unusedSimpArgs false
set_option linter.unusedVariables false
set_option maxHeartbeats 16000000
set_option maxRecDepth 100000
namespace Go.Proofs.YteamkimbmdgdbaaGreatDoor
open Go.Proofs.Tryz
open Go.RowKit Go.Sort
section
variable {P:Program} {Q:Exit->Act->World->Prop}
theorem Bj {id:Nat} {b:Act} {w:ah} {l:List Oper} {C:World->Prop} (a:Nat) (g:P.follows .mixedOrders=true) (e:qd .any l.toArray a=true) (c:Region.lexB .any (l.take a).toArray=true) (i:C w.drew)
 (h:wpQuiet P (l.take a).toArray C (λd=>∀w',C w'->wpList P l.toArray Q (l.drop a) d w') (l.take a) b):(Code.region id l.toArray true).wp P Q b w:=by
 have f:gF .any l.toArray l.toArray.pop a:=vf e;have e:l.length=a+1:=by have:=f.l0;simpa using this
 have j:l.toArray.pop=(l.take a).toArray:=by
  rw[List.pop_toArray,List.dropLast_eq_take,e,Nat.add_sub_cancel]
 have f:gF .any l.toArray (l.take a).toArray a:=j▸f;refine wp_region_any g ?_;rw[f.l0];simp only[Region.lexB,Bool.and_eq_true]at c;have j:=wpAnyQ_lex (C:=C) (md:=.any) c.1 (l.take a) 0 (Array.replicate (l.take a).toArray.size false) b aj (by simpa using c.2) h;have c:=wpAny_of_quiet (Q':=j0 P l.toArray a Q) (λd w' g k=>by
  have g:=k w' g;have k:l.drop a=[l[a]'af]:=by rw[List.drop_eq_getElem_cons af,List.drop_of_length_le af]
  rw[k]at g;show wpOp P l.toArray Q a _ d w';unfold wpOp;have d:l.toArray[a]?=some (l[a]'af):=aj
  simp only[d];exact g) _ _ _ _ i j
 have d:(l.take a).length=a:=aF
 rw[d]at c;refine ve f a _ _ b _ ⟨by simp,by simp;omega,λa a=>by simp[Array.getD,a,Nat.lt_succ_of_lt a];omega,by simp[Array.getD]⟩ ?_ c;intro a a a b e;exfalso
 simp[Array.getD,Nat.lt_succ_of_lt a]at e
theorem Bm {id:Nat} {c:Act} {w:ah} {l:List Oper} (a:Nat) (e:P.follows .mixedOrders=true) (f:qd .any l.toArray a=true) (g:Region.lexB .any (l.take a).toArray=true)
 (h:wpQuiet P (l.take a).toArray (λw'=>∃b:Regrown,w'=grow (redrawn w b.d) b.os) (λi=>∀w',(∃b:Regrown,w'=grow (redrawn w b.d) b.os)->wpList P l.toArray Q (l.drop a) i w') (l.take a) c):(Code.region id l.toArray true).wp P Q c w:=
 Bj a e f g ⟨⟨w.drawn+1,#[]⟩,by rw[grow_empty];rfl⟩ h
end
structure Kp (l:List Nat) (w w':ah):Prop where
 os:w'.os=w.os
 tape:w'.tape=w.tape
 output:w'.output=w.output
 size:w.heap.size<=w'.heap.size
 block:∀k,k<w.heap.size->k∉l->w'.heap[k]?=w.heap[k]?
section
variable {l l':List Nat} {w w' w'':ah}
theorem Kp.refl (l:List Nat) (w:ah):Kp l w w:=⟨rfl,rfl,rfl,Nat.le_refl _,λ_ _ _=>rfl⟩
theorem Kp.trans (h:Kp l w w') (k:Kp l w' w''):Kp l w w'':=
 ⟨k.os.trans h.os,k.tape.trans h.tape,k.output.trans h.output,bJ h.size k.size,λa b c=>(k.block a (aV b h.size) c).trans (h.block a b c)⟩
theorem Kp.mono (h:Kp l w w') (a:∀k∈l,k∈l'):Kp l' w w':=⟨h.os,h.tape,h.output,h.size,λk b c=>h.block k b (λb=>c (a k b))⟩
theorem Kp.of_same (h:ag w w'):Kp l w w':=⟨h.os,h.tape,h.output,h.size,λa b _=>h.block a b⟩
theorem Kp.old {b:ah} (h:Kp l w w') (a:Kp l' b w) (d:∀k∈l,k<b.heap.size->k∈l'):Kp l' b w':=
 ⟨h.os.trans a.os,h.tape.trans a.tape,h.output.trans a.output,bJ a.size h.size,λk b c=>(h.block k (aV b a.size) (λe=>c (d k e b))).trans (a.block k b c)⟩
theorem Kp.same (h:Kp [] w w'):ag w w':=⟨h.os,h.tape,h.output,h.size,λa b=>h.block a b aj⟩
theorem Kp.fY {a:ah} (h:Kp l w w') (c:ag a w) (d:∀b∈l,a.heap.size<=b):ag a w':=
 (h.old (Kp.of_same (l:=[]) c) (λb a c=>absurd (d b a) af)).same
theorem Kp.cell (h:Kp l w w') {p:Addr} (a:p.block<w.heap.size) (b:p.block∉l):w'.cell? p=w.cell? p:=World.cell?_of_block (h.block p.block a b)
theorem Kp.blk (h:Kp l w w') {g:Nat} {t:aX} {cs:aQ} (a:aa w g t cs) (b:g∉l):aa w' g t cs:=(h.block g a.lt b).trans a
theorem Kp.drew (h:Kp l w w'):Kp l w w'.drew:=⟨h.os,h.tape,h.output,h.size,h.block⟩
theorem Kp.drewN (h:Kp l w w') (a:Nat):Kp l w (w'.drewN a):=⟨h.os,h.tape,h.output,h.size,h.block⟩
theorem Kp.alloc (h:Kp l w w') (o:Obj):Kp l w (w'.alloc o):=h.trans (Kp.of_same ((ag.refl w').alloc o))
theorem Kp.setCell (h:Kp l w w') {p:Addr} (a:p.block∈l\/w.heap.size<=p.block) (u:aA):Kp l w (w'.setCell p u):=
 ⟨h.os,h.tape,h.output,by rw[show(w'.setCell p u).heap.size=w'.heap.size by simp];exact h.size,λb d c=>by
  have e:b≠p.block:=by
   rintro rfl;rcases a with a|a
   ·exact c a
   omega
  exact(Below.heap_setCell w' p u b e).trans (h.block b d c)⟩
theorem Kp.grown (h:Kp l w w') {row:Option Nat} (a:w'.grownBy w'' row) (f:∀g,row=some g->g∈l\/w.heap.size<=g):Kp l w w'':=
 ⟨a.os.trans h.os,a.tape.trans h.tape,a.output.trans h.output,bJ h.size a.size,λb c d=>by
  refine(a.block b (aV c h.size) ?_).trans (h.block b c d);intro i;rcases f b i.symm with e|e
  ·exact d e
  omega⟩
end
section
variable {P:Program} {w:ah} {T kt et:aX} {d:TypeDesc} {r clock:Nat} {es:Array MapEntry}
theorem fK (w:ah) (a:Obj):(w.alloc a).heap[w.heap.size]?=some a:=by
 show(w.heap.push a)[w.heap.size]?=some a;simp
theorem d0 (f:P.underlying T=some (.map kt et)) (c:P.underlying kt=some d) (w:ah) (es:Array MapEntry) (clock:Nat) (a b:aA) (g:MapKept.IsKey d a) (i:Instr.findNow d a es.toList 0=some none):
 (Instr.mapUpdate T (.map (some w.heap.size)) a b).run P (w.alloc (.map es clock))=.ok () (w.alloc (.map (es.push ⟨a,b,clock⟩) (clock+1))):=by
 have e:(w.alloc (.map es clock)).heap[w.heap.size]?=some (.map es clock):=fK _ _;have j:∀b a:Obj,{w.alloc b with heap:=(w.alloc b).heap.setIfInBounds w.heap.size a}=w.alloc a:=λb a=>by
  show({w with heap:=(w.heap.push b).setIfInBounds w.heap.size a}:World)={w with heap:=w.heap.push a};congr 1
  apply Array.ext_getElem?;intro a;by_cases h:w.heap.size=a
  ·subst h;simp
  rw[Array.getElem?_setIfInBounds_ne h,Array.getElem?_push,Array.getElem?_push,if_neg (λa=>h a.symm),if_neg (λa=>h a.symm)]
 refine Eq.trans ?_ (congrArg (Result.ok ()) (j (.map es clock) _));simp[Instr.mapUpdate,MapKept.run_getObj_map e,MapKept.run_checkKey c g,MapKept.run_findKey c i,MapKept.run_setObj_map _ e,Result.andThen,run_underlying f]
theorem jj (c:P.underlying T=some (.map kt et)) (a:P.underlying kt=some d) (e:w.heap[r]?=some (.map es clock)) {key:aA} (f:MapKept.IsKey d key) {g:Nat} {b:aA} (i:Instr.findNow d key es.toList 0=some (some (g,b))):
 (Instr.lookup T (.map (some r)) key false).run P w=.ok b w:=by
 simp[Instr.lookup,MapKept.run_getObj_map e,MapKept.run_checkKey a f,MapKept.run_findKey a i,Result.andThen,run_underlying c]
def cR (d:TypeDesc) (w:ah) (r:Nat) (l:List (Value×Value)):Prop:=∃es clock,w.heap[r]?=some (.map es clock)/\es.toList.map (λa=>(a.key,a.val))=l/\∀a∈es.toList,MapKept.IsKey d a.key
theorem cR.lt {l:List (Value×Value)} (h:cR d w r l):r<w.heap.size:=by
 obtain⟨es,b,a,_⟩:=h;exact(Array.getElem?_eq_some_iff.1 a).1
theorem cR.kp {l:List (Value×Value)} (h:cR d w r l) {k:List Nat} {a:ah} (c:Kp k w a) (e:r∉k):cR d a r l:=by
 obtain⟨es,f,b,g,i⟩:=h;exact⟨es,f,(c.block r (Array.getElem?_eq_some_iff.1 b).1 e).trans b,g,i⟩
theorem cR.made (d:TypeDesc) (w:ah):cR d (w.alloc (.map #[] 0)) w.heap.size []:=⟨#[],0,fK _ _,rfl,λ_ h=>by simp at h⟩
theorem vh (w:ah) (r:Nat) (o:Obj):Kp [r] w {w with heap:=w.heap.setIfInBounds r o}:=
 ⟨rfl,rfl,rfl,by simp,λa b b=>by
  have:r≠a:=λa=>b (by simp[a]);simp[this]⟩
theorem cR.push {l:List (Value×Value)} (h:cR d w r l) (n:P.underlying T=some (.map kt et)) (j:P.underlying kt=some d) (a b:aA) (f:MapKept.IsKey d a) (o:∀p∈l,p.1≠a):
 ∃g,(Instr.mapUpdate T (.map (some r)) a b).run P w=.ok () g/\cR d g r (l++[(a,b)])/\Kp [r] w g:=by
 obtain⟨es,c,i,k,m⟩:=h;have q:Instr.findNow d a es.toList 0=some none:=by
  rcases MapKept.findNow_spec f es.toList 0 m with⟨s,_⟩|⟨v,e,_,t,u⟩
  ·exact s
  exact absurd u (o (e.key,e.val) (by rw[<-k];exact List.mem_map.2 ⟨e,List.mem_of_getElem? t,rfl⟩))
 have g:=(Array.getElem?_eq_some_iff.1 i).1;refine⟨_,?_,⟨es.push ⟨a,b,c⟩,c+1,?_,?_,?_⟩,vh w r (.map (es.push ⟨a,b,c⟩) (c+1))⟩
 ·simp[Instr.mapUpdate,MapKept.run_getObj_map i,MapKept.run_checkKey j f,MapKept.run_findKey j q,MapKept.run_setObj_map _ i,Result.andThen,run_underlying n]
 ·simp[g]
 ·simp[k]
 intro s e;simp only[Array.toList_push,List.mem_append,List.mem_singleton]at e;rcases e with e|rfl
 ·exact m s e
 exact f
theorem cR.find {l:List (Value×Value)} (h:cR d w r l) (b:aA) (n:MapKept.IsKey d b):
 (∃es c,w.heap[r]?=some (.map es c)/\Instr.findNow d b es.toList 0=some none/\∀p∈l,p.1≠b)\/
 ∃es c e a,w.heap[r]?=some (.map es c)/\Instr.findNow d b es.toList 0=some (some (e,a.val))/\es.toList[e]?=some a/\a.key=b/\l[e]?=some (b,a.val):=by
 obtain⟨es,c,i,j,o⟩:=h;rcases MapKept.findNow_spec n es.toList 0 o with⟨g,f⟩|⟨e,a,g,f,k⟩
 ·refine .inl ⟨es,c,i,g,?_⟩
  intro p m;rw[<-j]at m;obtain⟨a,q,rfl⟩:=List.mem_map.1 m;exact f a q
 refine .inr ⟨es,c,e,a,i,by simpa using g,f,k,?_⟩;rw[<-j,List.getElem?_map,f];simp[k]
end
inductive RO (α:Type) where
 |ok (a:α)
 |bad (e at_:Int)
def RO.bind {b c:Type} (d:RO b) (f:b->RO c):RO c:=
 match d with
 |.ok a=>f a
 |.bad e a=>.bad e a
def RO.ap {a:Type} (b:Bool) (c d:Int) (e:RO a):RO a:=if b then e else .bad c d
structure Og where
 name:ByteArray
 trust:Int
structure Bk where
 name:ByteArray
 table:Int
 col:Int
 bh:Int
 n:Int
 m:Int
structure Wg where
 col:Int
 meas:Int
 jW:Int
 num:Int
 den:Int
 gives:Int
 takes:Int
structure Mt where
 name:ByteArray
 table:Int
 at_:Int
 terms:List Wg
structure dV where
 table:Int
 col:Int
 bh:Int
structure Sd where
 var:Int
 col:Int
 v:V
structure cG where
 l:Sd
 op:Int
 r:Sd
 add:Int
structure Fx where
 col:Int
 v:V
structure Ru where
 kind:Int
 name:ByteArray
 table:Int
 cQ:List Int
 col:Int
 fixed:List Fx
 other:Int
 l7:Int
 tables:List Int
 tests:List cG
inductive Pl where
 |mk (kind table:Int) (kids:List Pl) (tests:List cG) (cQ:List Int) (col agg:Int) (attrs:List At)
def Pl.attrs:Pl->List At
 |.mk _ _ _ _ _ _ _ l=>l
structure Qy where
 name:ByteArray
 plan:Pl
structure Su where
 tabs:List Tb
 origins:List Og
 blocks:List Bk
 fr:List Mt
 keeps:List dV
 rules:List Ru
 queries:List Qy
def Su.zero:Su:=⟨[],[],[],[],[],[],[]⟩
def aY (n a b:Int):Bool:=decide (a<=n)&&decide (n<=b)
def ei (k:Int):Int:=if k=6\/k=7\/k=8 then 9 else k
abbrev ce:=List (Int×ByteArray)
def dd (a:ce) (k:Int) (b:ax):Bool:=a.any λa=>decide (a.1=k)&&decide (a.2=b)
def bL (b:ce) (a:aB):ce×Int:=
 if aY a.kind 1 10 then
  if a.kind=5 then(b,0)
  else if bC a.name then
   (if dd b (ei a.kind) a.name then(b,9)else((ei a.kind,a.name)::b,0))
  else(b,1)
 else(b,1)
def cS (at_:Int) (l:List At) (s:ax):RO Int:=RO.ap (decide (0<=bu l s)) 8 at_ (.ok (bu l s))
def dA (a:Int) (b:List At):List Int->List ByteArray->RO (List Int)
 |l,[]=>.ok l
 |l,s::ns=>(cS a b s).bind λc=>RO.ap (!l.any λd=>decide (d=c)) 9 a (dA a b (l++[c]) ns)
def l8 (a:Int):List Int->List Int
 |[]=>[a]
 |y::l=>if a<=y then a::y::l else y::l8 a l
def ej:List Int->List Int
 |[]=>[]
 |x::l=>l8 x (ej l)
def gg (a:Int):List At->List cZ->RO (List At)
 |l,[]=>.ok l
 |l,c::cs=>RO.ap (bC c.name&&aY c.k 1 4) 1 a (RO.ap (decide (bu l c.name<0)) 9 a (RO.ap c.d.ok 2 a (RO.ap (decide (c.d.k=0)||decide (c.d.k=c.k)) 10 a (gg a (l++[⟨c.name,c.k,[],c.d⟩]) cs))))
def eP (b:List Tb) (x:aB):RO Tb:=
 RO.ap (decide (b.length<20)&&aY x.cQ.length 1 12) 3 x.at_<|
  (gg x.at_ [] x.cQ).bind λa=>RO.ap (decide (0<x.names.length)) 1 x.at_<|(dA x.at_ a [] x.names).bind λb=>.ok ⟨x.name,a,ej b⟩
def d1 (tabs:List Tb) (at_:Int) (s:ax):RO Int:=RO.ap (decide (0<=cE tabs s)) 8 at_ (.ok (cE tabs s))
def dB (tabs:List Tb) (a:Int):Tb:=(tabs[a.toNat]?).getD ⟨e0,[],[]⟩
def cH (l:List At) (a:Int):At:=(l[a.toNat]?).getD ⟨e0,0,[],V.zero⟩
def fT (tabs:List Tb) (at_:Int) (a b:ax):RO (Int×Int×Int):=
 (d1 tabs at_ a).bind λa=>(cS at_ (dB tabs a).attrs b).bind λb=>.ok (a,b,(cH (dB tabs a).attrs b).kind)
def lh (b:Su) (a:aB):RO Su:=
 RO.ap (decide (b.origins.length<64)) 3 a.at_<|RO.ap (aY a.n 0 100) 2 a.at_<|.ok {b with origins:=b.origins++[⟨a.name,a.n⟩]}
def j1 (c:Su) (a:aB):RO Su:=
 (fT c.tabs a.at_ a.table a.attr).bind λb=>
  (
   
   if a.bh=1\/a.bh=2 then RO.ok (⟨a.name,b.1,b.2.1,a.bh,0,0⟩:Bk)
   else if a.bh=3 then RO.ap (aY a.n 1 24) 2 a.at_ (.ok ⟨a.name,b.1,b.2.1,a.bh,a.n,0⟩)
   else if a.bh=4 then RO.ap (aY a.n 1 64&&(decide (0<a.m)&&decide (a.n.tmod a.m=0))) 2 a.at_ (.ok ⟨a.name,b.1,b.2.1,a.bh,a.n,a.m⟩)
   else .bad 1 a.at_).bind λa=>.ok {c with blocks:=c.blocks++[a]}
def l9 (b a:Int):Bool:=(decide (0<a)&&decide (a<=1000000000))&&(decide (b.natAbs<=1000000000)&&decide (Nat.gcd b.natAbs a.natAbs=1))
def oK (b:List At) (c:Int) (a:ct):RO Wg:=
 (cS c b a.attr).bind λd=>RO.ap (aY a.meas 1 5) 1 c<|
  RO.ap (((l9 a.num a.den&&(decide (0<=a.num)&&decide (a.num<=a.den)))&&aY a.gives 0 1000)&&(aY a.takes 0 1000&&(!decide (a.meas=5)||aY a.jW 0 999999999))) 2 c<|
   RO.ap (if a.meas=1 then true else if a.meas=5 then decide ((cH b d).kind=2)||decide ((cH b d).kind=3)else decide ((cH b d).kind=1)) 10 c<|
    .ok ⟨d,a.meas,if a.meas=5 then a.jW else 0,a.num,a.den,a.gives,a.takes⟩
def fu (a:List At) (b:Int):List Wg->List ct->RO (List Wg)
 |l,[]=>.ok l
 |l,y::ys=>(oK a b y).bind λc=>fu a b (l++[c]) ys
def j2 (b:Su) (a:aB):RO Su:=
 (d1 b.tabs a.at_ a.table).bind λc=>RO.ap (aY a.terms.length 1 12) 3 a.at_<|RO.ap (aY a.n 0 10000) 2 a.at_<|
  (fu (dB b.tabs c).attrs a.at_ [] a.terms).bind λd=>.ok {b with fr:=b.fr++[⟨a.name,c,a.n,d⟩]}
def j3 (c:Su) (a:aB):RO Su:=
 (fT c.tabs a.at_ a.table a.attr).bind λb=>RO.ap (aY a.bh 1 6) 1 a.at_<|
  RO.ap (!c.keeps.any λd=>decide (d.table=b.1)&&decide (d.col=b.2.1)) 9 a.at_<|RO.ap (!decide (a.bh=4)||decide (b.2.2=1)) 10 a.at_<|
   .ok {c with keeps:=c.keeps++[⟨b.1,b.2.1,a.bh⟩]}
def Ru.zero:Ru:=⟨0,e0,0,[],0,[],0,0,[],[]⟩
def jk (b:List Tb) (a:aB) (d:Int):RO Ru:=
 (d1 b a.at_ a.table).bind λc=>RO.ap (decide (0<a.names.length)) 1 a.at_<|(dA a.at_ (dB b c).attrs [] a.names).bind λb=>
  .ok {Ru.zero with kind:=d,name:=a.name,table:=c,cQ:=b}
def li (a:Su) (b:Ru):RO Su:=.ok {a with rules:=a.rules++[b]}
def ma (a:Su) (b:aB):RO Su:=(jk a.tabs b 1).bind (li a)
def fw (b:List At) (a:Int):List Fx->List da->RO (List Fx)
 |l,[]=>.ok l
 |l,f::fs=>(cS a b f.name).bind λc=>RO.ap (!l.any λd=>decide (d.col=c)) 9 a<|RO.ap f.v.ok 2 a<|RO.ap (decide (f.v.k=(cH b c).kind)) 10 a<|
  fw b a (l++[⟨c,f.v⟩]) fs
def j4 (b:Su) (a:aB):RO Su:=
 (jk b.tabs a 2).bind λc=>(cS a.at_ (dB b.tabs c.table).attrs a.attr).bind λd=>RO.ap (!c.cQ.any λe=>decide (e=d)) 1 a.at_<|
  (fw (dB b.tabs c.table).attrs a.at_ [] a.fixed).bind λa=>li b {c with col:=d,fixed:=a}
def j5 (b:Su) (a:aB):RO Su:=
 (fT b.tabs a.at_ a.table a.attr).bind λc=>(fT b.tabs a.at_ a.other a.k6).bind λd=>RO.ap (decide (c.2.2=d.2.2)) 10 a.at_<|
  li b {Ru.zero with kind:=3,name:=a.name,table:=c.1,col:=c.2.1,other:=d.1,l7:=d.2.1}
def jl (b:Int) (d:cF->RO (Sd×Int)) (a:cF):RO (Sd×Int):=
 if a.c then RO.ap a.v.ok 2 b (.ok (⟨-1,0,a.v⟩,a.v.k))else d a
def jm (b:Int) (e:cF->RO (Sd×Int)) (a:bm):RO cG:=
 RO.ap (aY a.op 1 4) 1 b<|(jl b e a.l).bind λd=>(jl b e a.r).bind λf=>RO.ap (aY a.add (-1000000000) 1000000000) 2 b<|
  RO.ap (!(a.l.c&&a.r.c)&&(decide (d.2=f.2)&&(!decide (d.2=0)&&(decide (a.add=0)||(decide (d.2=2)||decide (d.2=3)))))) 10 b<|.ok ⟨d.1,a.op,f.1,a.add⟩
def fe (a:Int) (b:cF->RO (Sd×Int)):List cG->List bm->RO (List cG)
 |l,[]=>.ok l
 |l,c::cs=>(jm a b c).bind λd=>fe a b (l++[d]) cs
def gG (b:List Tb) (a:Int):List (ByteArray×Int)->List Vr->RO (List (ByteArray×Int))
 |l,[]=>.ok l
 |l,v::vs=>RO.ap (!l.any λc=>decide (c.1=v.name)) 9 a<|(d1 b a v.table).bind λc=>gG b a (l++[(v.name,c)]) vs
def iw (f:List Tb) (c:Int) (a:List (ByteArray×Int)) (b:cF):RO (Sd×Int):=
 RO.ap (a.any λd=>decide (d.1=b.var)) 8 c<|
  let d:=co (λe:ByteArray×Int=>decide (e.1=b.var)) a
  let e:=(dB f ((a[d.toNat]?).getD (e0,0)).2).attrs
  (cS c e b.attr).bind λa=>.ok (⟨d,a,V.zero⟩,(cH e a).kind)
def j6 (b:Su) (a:aB):RO Su:=
 RO.ap (aY a.vars.length 1 3&&aY a.conds.length 1 12) 3 a.at_<|(gG b.tabs a.at_ [] a.vars).bind λc=>
  (fe a.at_ (iw b.tabs a.at_ c) [] a.conds).bind λd=>li b {Ru.zero with kind:=4,name:=a.name,tables:=c.map (·.2),tests:=d}
def ew (l:List At) (a:ax):Int:=co (λb=>decide (b.name=a)) l
def ek (b:Int) (l:List At) (a:ax):RO Int:=RO.ap (decide (0<=ew l a)) 8 b (.ok (ew l a))
def fL (b:Int) (l:List At):List Int->List At->List ByteArray->RO (List Int×List At)
 |c,a,[]=>.ok (c,a)
 |c,a,n::ns=>(ek b l n).bind λd=>RO.ap (!c.any λe=>decide (e=d)) 9 b (fL b l (c++[d]) (a++[cH l d]) ns)
def mb (a:Int) (l:List At) (b:cF):RO (Sd×Int):=
 RO.ap (decide (b.var=e0)) 8 a<|(ek a l b.attr).bind λa=>.ok (⟨0,a,V.zero⟩,(cH l a).kind)
def hJ (b:Int) (l:List At):List At->List At->RO (List At)
 |r,[]=>.ok r
 |r,a::m=>if ew l a.name<0 then hJ b l (r++[a]) m else RO.ap (decide ((cH l (ew l a.name)).kind=a.kind)) 10 b (hJ b l r m)
def d9:List At->List At->Bool
 |[],[]=>true
 |a::l,b::m=>(decide (a.name=b.name)&&decide (a.kind=b.kind))&&d9 l m
 |_,_=>false
def iy (a:At):At:=⟨(a.was++[a.name]).headD e0,a.kind,[],V.zero⟩
def ey (a:Int):Option Nat:=if a=1 then some 0 else if a=2\/a=3\/a=7\/a=8 then some 1 else if a=4\/a=5\/a=6 then some 2 else none
def bH (a:List Pl) (b:Nat):List At:=match a[b]? with|some c=>c.attrs|none=>[]
def cy (l:List Tb) (b:Int) (o:ax) (m:List bm) (j:bk) (k e:ax) (i a:Int) (d:List Pl):RO Pl:=
 RO.ap (decide (ey b=some d.length)) 1 a<|
  let c:=bH d 0
  let n:=bH d 1
  if b=1 then(d1 l a o).bind λo=>.ok (.mk b o d [] [] 0 0 ((dB l o).attrs.map iy))
  else if b=2 then RO.ap (aY m.length 1 12) 3 a<|(fe a (mb a c) [] m).bind λl=>.ok (.mk b 0 d l [] 0 0 c)
  else if b=3 then(fL a c [] [] j).bind λg=>.ok (.mk b 0 d [] g.1 0 0 g.2)
  else if b=4 then(hJ a c c n).bind λl=>RO.ap (decide (l.length<=24)) 3 a (.ok (.mk b 0 d [] [] 0 0 l))
  else if b=5\/b=6 then RO.ap (d9 c n) 10 a (.ok (.mk b 0 d [] [] 0 0 c))
  else if b=7 then(ek a c k).bind λf=>RO.ap (bC e) 1 a<|RO.ap (decide (ew c e<0)||decide (ew c e=f)) 9 a<|
   .ok (.mk b 0 d [] [] f 0 (c.modify f.toNat λl=>{l with name:=e}))
  else(fL a c [] [] j).bind λg=>RO.ap (aY i 1 4&&bC e) 1 a<|
   (if i=1 then RO.ap (decide (k=e0)) 1 a (.ok (-1,2))else(ek a c k).bind λf=>RO.ap (!decide (i=2)||decide ((cH c f).kind=2)) 10 a (.ok (f,(cH c f).kind))).bind λ(p:Int×Int)=>
    RO.ap (!j.any λc=>decide (c=e)) 9 a<|.ok (.mk b 0 d [] g.1 p.1 i (g.2++[⟨e,p.2,[],V.zero⟩]))
mutual
def fZ (b:List Tb):Ex->RO (Pl×Int)
 |.mk kind table kids conds names attr cU agg at_=>(eQ b kids).bind λa=>RO.ap (decide (a.2<=12)) 3 at_<|(cy b kind table conds names attr cU agg at_ a.1).bind λb=>.ok (b,a.2)
def eQ (a:List Tb):List Ex->RO (List Pl×Int)
 |[]=>.ok ([],1)
 |e::es=>(fZ a e).bind λb=>(eQ a es).bind λa=>.ok (b.1::a.1,max (b.2+1) a.2)
end
def jn (a:Su) (b:aB):RO Su:=(fZ a.tabs b.expr).bind λc=>.ok {a with queries:=a.queries++[⟨b.name,c.1⟩]}
def ch (b:Su) (a:aB):RO Su:=
 if a.kind=2 then lh b a else if a.kind=3 then j1 b a else if a.kind=4 then j2 b a else if a.kind=5 then j3 b a else if a.kind=6 then ma b a
 else if a.kind=7 then j4 b a else if a.kind=8 then j5 b a else if a.kind=9 then j6 b a else if a.kind=10 then jn b a else .ok b
def cI:List Tb->ce->List (Int×Int)->List aB->List Tb×List (Int×Int)
 |tabs,_,f,[]=>(tabs,f)
 |tabs,u,f,x::xs=>
  if(bL u x).2≠0 then cI tabs (bL u x).1 (f++[((bL u x).2,x.at_)]) xs
  else if x.kind=1 then
   match eP tabs x with
   |.ok t=>cI (tabs++[t]) (bL u x).1 (f++[(0,0)]) xs
   |.bad e a=>cI tabs (bL u x).1 (f++[(e,a)]) xs
  else cI tabs (bL u x).1 (f++[(0,0)]) xs
def gh:List Tb->List Cg->RO (List Tb)
 |s,[]=>.ok s
 |s,c::cs=>if dz s c=0 then gh (gO s c) cs else .bad (dz s c) (-1)
def dr:Su->List (Int×Int)->List ((Int×Int)×aB)->Su×List (Int×Int)
 |s,f,[]=>(s,f)
 |s,f,(g,x)::xs=>
  if g.1=0 then
   match ch s x with
   |.ok s'=>dr s' f xs
   |.bad e a=>if e=0 then dr s f xs else dr s (f++[(e,a)]) xs
  else dr s (f++[g]) xs
def dj (b:List aB) (cs:List Cg):Su×List (Int×Int):=
 if b.length<=200 then
  let d:=cI [] [] [] b
  match gh d.1 cs with
  |.bad e a=>(Su.zero,[(e,a)])
  |.ok tabs=>
   let c:=dr {Su.zero with tabs:=tabs} [] (d.2.zip b)
   if c.2=[]then(c.1,[])else(Su.zero,c.2)
 else(Su.zero,[(3,((b[200]?).getD aB.zero).at_)])
section
variable {P:Program} {w:ah} {T kt et:aX} {d:TypeDesc} {r:Nat}
theorem cR.look {e:List (Value×Value)} (h:cR d w r e) (l:P.underlying T=some (.map kt et)) (c:P.underlying kt=some d) (f:aA) (m:∀w,(zeroValue et).run P w=.ok f w) (b:aA) (g:MapKept.IsKey d b):
 ((∀n∈e,n.1≠b)/\∀a,(Instr.lookup T (.map (some r)) b a).run P w=.ok (if a then .tuple #[f,.bool false]else f) w)\/
 ∃(i:Nat) (f:aA),e[i]?=some (b,f)/\∀a,(Instr.lookup T (.map (some r)) b a).run P w=.ok (if a then .tuple #[f,.bool true]else f) w:=by
 rcases h.find b g with⟨o,p,j,k,q⟩|⟨o,p,i,s,j,k,_,_,t⟩
 ·refine .inl ⟨q,λa=>?_⟩
  simp[Instr.lookup,MapKept.run_getObj_map j,MapKept.run_checkKey c g,MapKept.run_findKey c k,Result.andThen,run_underlying l,m]
 refine .inr ⟨i,s.val,t,λa=>?_⟩;simp[Instr.lookup,MapKept.run_getObj_map j,MapKept.run_checkKey c g,MapKept.run_findKey c k,Result.andThen,run_underlying l]
theorem cR.again {i:List (Value×Value)} (h:cR d w r i) (u:P.underlying T=some (.map kt et)) (s:P.underlying kt=some d) (a e:aA) (m:MapKept.IsKey d a) (v:∃b∈i,b.1=a) (x:∀b∈i,b.1=a->b.2=e):
 ∃n,(Instr.mapUpdate T (.map (some r)) a e).run P w=.ok () n/\cR d n r i/\Kp [r] w n:=by
 have y:=h;rcases h.find a m with⟨j,o,f,t,z⟩|⟨j,o,g,c,f,t,A,p,B⟩
 ·obtain⟨b,k,l⟩:=v
  exact absurd l (z b k)
 obtain⟨F,G,k,C,D⟩:=y;rw[f]at k;injection k with k
 injection k with e1 e2
 subst e1 e2;have b:=(Array.getElem?_eq_some_iff.1 f).1;have E:c.val=e:=x _ (List.mem_of_getElem? B) rfl;have q:j[g]?=some c:=by simpa using A
 refine⟨_,?_,⟨j.modify g λc=>{c with key:=a,val:=e},o,?_,?_,?_⟩,vh w r (.map (j.modify g λc=>{c with key:=a,val:=e}) o)⟩
 ·simp[Instr.mapUpdate,MapKept.run_getObj_map f,MapKept.run_checkKey s m,MapKept.run_findKey s t,MapKept.run_setObj_map _ f,Result.andThen,run_underlying u,q,p,MapKept.run_keyThatStays m]
 ·simp[b]
 ·rw[<-C]
  apply List.ext_getElem?;intro a;simp only[List.getElem?_map,Array.getElem?_toList,Array.getElem?_modify];by_cases l:g=a
  ·subst l
   rw[q];simp[p,E]
  simp[l]
 ·exact MapKept.isKey_modify D g _ (λa l=>by
   rw[q]at l;injection l with l
   rw[<-l];exact p.symm)
end
structure ea (w:ah) (M:Nat) (l:List (Int×Nat)) (u:ce):Prop where
 m:cR (.int .i64) w M (l.map λp=>(.int .i64 p.1,.map (some p.2)))
 inner:∀p∈l,∃es:List ByteArray,cR .string w p.2 (es.map λs=>(.string s,.bool true))/\∀s,s∈es↔(p.1,s)∈u
 one:∀(i j:Nat) (p q:Int×Nat),l[i]?=some p->l[j]?=some q->(p.1=q.1\/p.2=q.2)->i=j
 out:∀p∈l,p.2≠M
 all:∀k s,(k,s)∈u->∃p∈l,p.1=k
theorem ea.kp {w b:ah} {a:Nat} {l:List (Int×Nat)} {u:ce} (h:ea w a l u) {k:List Nat} (c:Kp k w b) (d:∀e∈k,e≠a/\∀p∈l,p.2≠e):ea b a l u:=
 ⟨h.m.kp c (λa=>(d _ a).1 rfl),λp a=>by
  obtain⟨b,e,f⟩:=h.inner p a;exact⟨b,e.kp c (λb=>(d _ b).2 p a rfl),f⟩,h.one,h.out,h.all⟩
theorem ea.start (w:ah):ea (w.alloc (.map #[] 0)) w.heap.size [] []:=
 ⟨cR.made _ _,(λb a=>by cases a),(λa a a a h=>by simp at h),(λb a=>by cases a),(λa a h=>by cases h)⟩
def dC (a:Nat) (l:List (Int×Nat)):List Nat:=a::l.map (·.2)
theorem ea.lt {w:ah} {b:Nat} {l:List (Int×Nat)} {u:ce} (h:ea w b l u):∀c∈dC b l,c<w.heap.size:=by
 intro c a;rcases de a with rfl|a
 ·exact h.m.lt
 obtain⟨d,e,rfl⟩:=List.mem_map.1 a;obtain⟨b,a,_⟩:=h.inner d e;exact a.lt
theorem ea.vi {w:ah} {e:Nat} {f:List (Int×Nat)} {b:ce} (h:ea w e f b) {b:Nat} (c:b∈dC e f) {t:aX} {cs:aQ}:¬aa w b t cs:=by
 intro e;have a:w.heap[b]?=_:=e;rcases de c with rfl|c
 ·obtain⟨d,e,b,_⟩:=h.m
  rw[b]at a;cases a
 obtain⟨g,i,rfl⟩:=List.mem_map.1 c;obtain⟨j,d,_⟩:=h.inner g i;obtain⟨j,k,d,_⟩:=d;rw[d]at a;cases a
section
variable {w w1 w2:ah} {l:List Nat} {g:Nat} {t:aX} {cs:aQ}
theorem qb (a:Hid (ag w w1)) (b:Hid (aa w g t cs)):Hid (aa w1 g t cs):=Z ((Kp.of_same (l:=[]) a.out).blk b.out aj)
theorem cN (a:ag w w1) (b:Hid (aa w g t cs)):Hid (aa w1 g t cs):=Z ((Kp.of_same (l:=[]) a).blk b.out aj)
theorem qk (k:Hid (Kp l w w1)) (a:Hid (ag w1 w2)):Hid (Kp l w w2):=Z (k.out.trans (Kp.of_same a.out))
theorem el (a:Hid (Kp l w w1)) (b:ag w1 w2):Hid (Kp l w w2):=Z (a.out.trans (Kp.of_same b))
theorem qm (k:Hid (Kp l w w1)) (a:Hid (Kp [] w1 w2)):Hid (Kp l w w2):=Z (k.out.trans (a.out.mono (λ_ h=>by cases h)))
theorem qo (k:Hid (Kp l w w1)) (a:Hid (aa w g t cs)) (h:g∉l:=by simp<;>omega):Hid (aa w1 g t cs):=Z (k.out.blk a.out h)
theorem bn (k:Kp l w w1) (a:Hid (aa w g t cs)) (h:g∉l:=by simp<;>omega):Hid (aa w1 g t cs):=Z (k.blk a.out h)
theorem b6 {a:Obj} (b:Kp l (w.alloc a) w1) (c:Hid (aa w g t cs)) (h:g∉l:=by simp<;>omega):Hid (aa w1 g t cs):=Z (b.blk (c.out.alloc a) h)
theorem nb (w:ah) (t:aX) (cs:aQ):∃w1,w.alloc (.cells cs t)=w1/\Hid (aa w1 w.heap.size t cs)/\Hid (ag w w1)/\w1.heap.size=w.heap.size+1:=⟨_,rfl,Z (aa.new w t cs),Z ((ag.refl w).alloc _),by simp⟩
theorem nc {n:Nat} (h:w.heap.size=n) (t:aX) (cs:aQ):∃w1,w.alloc (.cells cs t)=w1/\Hid (aa w1 n t cs)/\Hid (ag w w1)/\w1.heap.size=n+1:=⟨_,rfl,Z (by subst h;exact aa.new w t cs),Z ((ag.refl w).alloc _),by simp[h]⟩
end
def aq.cells (t:aq):List Value:=[.int .i64 t.k,.string t.t,.int .i64 t.n,.int .i64 t.at_]
def aq.val (t:aq):Value:=.agg #[t.k,t.t,t.n,t.at_]
structure aq.bo (t:aq):Prop where
 s:aJ t.t
 n0:0<=t.n
 n1:t.n<=9999999999
 a0:0<=t.at_
 a1:t.at_<=20000
structure ez (w:ah) (P:Nat) (h:Hd) (ts:List aq):Prop where
 lies:aE w 4 h aq.cells ts
 far:∀b o,h.a=some ⟨b,o,none⟩->0<h.n->b<P
 cap:h.n<=h.c
 fine:∀t∈ts,t.bo
 few:ts.length<=5000
def az (w:ah) (P:Nat) (z:Int) (ts:List aq):Prop:=∃h:Hd,aa w P 129 #[h.val,z]/\ez w P h ts
def gT (a b:Int):Value:=.iface 125 (.agg #[a,b])
def PP {α:Type} (z:Int) (P:Nat) (w:ah) (c:PO α) (V:α->Value->World->Prop) (b:Ending) (w':ah):Prop:=
 Kp [P] w w'/\match c with
 |.ok a ts=>∃c,b=.returned c/\V a c w'/\az w' P z ts
 |.bad er at_=>b=.panicked [{v:=gT er at_,recovered:=false}]
section
variable {w w':ah} {P:Nat} {z:Int} {h:Hd} {ts:List aq}
theorem ez.keep (b:ez w P h ts) {l:List Nat} (k:Kp l w w') (g:∀c o,h.a=some ⟨c,o,none⟩->0<h.n->c∉l):ez w' P h ts:=
 ⟨⟨
  b.lies.1,b.lies.2.1,λd e=>by
  obtain⟨c,d,e,f,i⟩:=b.lies.2.2 d e;have j:0<h.n:=by have:=b.lies.1;omega
  exact⟨c,d,e,aV f k.size,λm q r=>(k.cell (p:=⟨c,_,none⟩) f (g c d e j)).trans (i m q r)⟩⟩,b.far,b.cap,b.fine,b.few⟩
theorem ez.own (a:ez w P h ts) (b:Kp [P] w w'):ez w' P h ts:=a.keep b (λb c d e=>by have:=a.far b c d e;simp;omega)
theorem ez.same (a:ez w P h ts) (s:ag w w'):ez w' P h ts:=a.keep (Kp.of_same (l:=[]) s) (λ_ _ _ _=>by simp)
theorem az.same (a:az w P z ts) (s:ag w w'):az w' P z ts:=by
 obtain⟨h,b,c⟩:=a;exact⟨h,aa.below b s b.lt,c.same s⟩
theorem az.grown (a:az w P z ts) {row:Option Nat} (d:w.grownBy w' row) (f:∀g,row=some g->P<g):az w' P z ts:=by
 obtain⟨h,e,b⟩:=a;have f:∀c,c<w.heap.size->c<=P->w'.heap[c]?=w.heap[c]?:=λc i j=>d.block c i (λi=>by have:=f c i.symm;omega);refine⟨h,(f P e.lt (Nat.le_refl _)).trans e,⟨⟨b.lies.1,b.lies.2.1,λc e=>?_⟩,b.far,b.cap,b.fine,b.few⟩⟩;obtain⟨c,e,i,j,k⟩:=b.lies.2.2 c e;have l:0<h.n:=by have:=b.lies.1;omega
 have:=b.far c e i l;exact⟨c,e,i,aV j d.size,λb d e=>(World.cell?_of_block (a:=⟨c,_,none⟩) (f c j af)).trans (k b d e)⟩
theorem az.lt (a:az w P z ts):P<w.heap.size:=by obtain⟨h,b,c⟩:=a;exact b.lt
theorem ez.first {t:aq} {l:List aq} (a:ez w P h (t::l)):∃b c,h.a=some ⟨b,c,none⟩/\b<w.heap.size/\b≠P/\ae w (ac b c) t.k/\ae w (ac b (c+1)) t.t/\ae w (ac b (c+2)) t.n/\ae w (ac b (c+3)) t.at_:=by
 obtain⟨b,c,e,f,d⟩:=a.lies.2.2 0 aj;have g:0<h.n:=by have:=a.lies.1;simp at this;omega
 refine⟨b,c,e,f,bb (a.far b c e g),?_,?_,?_,?_⟩
 ·simpa using d 0 _ rfl
 ·simpa using d 1 _ rfl
 ·simpa using d 2 _ rfl
 simpa using d 3 _ rfl
theorem ez.tail {t:aq} {d:List aq} (b:ez w P h (t::d)) {e f:Nat} (j:h.a=some ⟨e,f,none⟩):ez w P (if h.c=1 then⟨some ⟨e,f,none⟩,h.n-1,h.c-1⟩else⟨some ⟨e,f+4,none⟩,h.n-1,h.c-1⟩) d:=by
 have k:d.length+1=h.n:=by simpa using b.lies.1
 have m:=b.lies.2.1;have m:=b.cap;have m:=b.few;simp only[List.length_cons]at m;by_cases l:h.c=1
 ·rw[if_pos l]
  have g:d=[]:=List.eq_nil_of_length_eq_zero af;subst g;exact⟨⟨by show 0=h.n-1;simp at k;omega,by show h.n-1<=_;omega,λg g=>absurd g aj⟩,λg g _ g=>by simp at k;simp at g;omega,by show h.n-1<=h.c-1;omega,λg g=>absurd g aj,by simp⟩
 rw[if_neg l];refine⟨⟨by show d.length=h.n-1;omega,by show h.n-1<=_;omega,λd k=>?_⟩,λk l g l=>?_,by show h.n-1<=h.c-1;omega,λi l=>b.fine i (by simp[l]),by omega⟩
 ·obtain⟨k,d,i,g,o⟩:=b.lies.2.2 (d+1) aF
  rw[j]at i;injection i with i
  injection i with e1 e2
  subst e1 e2;refine⟨e,f+4,rfl,g,λd i k=>?_⟩;have:=o d i (by simpa using k);rw[<-this];congr 2
  omega
 injection g with g
 injection g with e1 e2
 subst e1;exact b.far e f j af
end
theorem oO {α:Type} (z:Int) (P:Nat) (ts:List aq) (f:Int) (w:ah) (h:az w P z ts):
 Calls prog 46 #[ak P,f] w λj w'=>(∃er a,(fI z ts f:PO α)=.bad er a/\j=.panicked [{v:=gT er a,recovered:=false}])/\w=w':=by
 obtain⟨⟨g,b,k⟩,d,c⟩:=h;have j:ae w (ac P 0) (O g b k):=aa.cell d 0;have j:ae w (ac P 1) z:=aa.cell d 1;have e:ts.length=b:=c.lies.1;have j:b<=9223372036854775807:=c.lies.2.1;cases ts with
 |nil=>
  simp at e;subst e;clear c d;go_enter func46,ntmps46
  go_wp2;exact⟨rfl,⟨7,z,rfl,rfl⟩,rfl⟩
 |cons l n=>
  obtain⟨j,k,i,n,o,p,q,r,s⟩:=c.first;have m:g=some ⟨j,k,none⟩:=i;subst m;have g:0<b:=by simp at e;omega
  have b:((b:Int)==0)=false:=aF
  clear c d i e;go_enter func46,ntmps46
  go_wp2;exact⟨rfl,⟨f,l.at_,rfl,rfl⟩,rfl⟩
theorem Bq {b:List aq} {l:bk} (a:Nat) (c:a<b.length) (d:a<l.length):eF (b.drop a) (l.drop a)=(gn b[a] l[a]&&eF (b.drop (a+1)) (l.drop (a+1))):=by
 rw[List.drop_eq_getElem_cons c,List.drop_eq_getElem_cons d];rfl
theorem vl:∀(a:List aq) (l:bk),a.length<l.length->eF a l=false
 |a,[],h=>absurd h aj
 |[],s::l,_=>rfl
 |t::a,s::l,h=>by
  rw[eF,vl a l (by simpa using h),Bool.and_false]
theorem ez.one {e:ah} {P:Nat} {h:Hd} {ts:List aq} (a:ez e P h ts) (b:Nat) (f:b<ts.length):∃c d,h.a=some ⟨c,d,none⟩/\c<e.heap.size/\ae e (ac c (d+b*4)) (J ts[b].k)/\ae e (ac c (d+b*4+1)) (.string ts[b].t)/\ae e (ac c (d+b*4+2)) (J ts[b].n)/\ae e (ac c (d+b*4+3)) (J ts[b].at_):=by
 obtain⟨c,d,e,f,b⟩:=a.lies.2.2 b f;exact⟨c,d,e,f,by simpa using b 0 _ rfl,b 1 _ rfl,b 2 _ rfl,b 3 _ rfl⟩
theorem r0 (r:Int) (g:Nat) (ts:List aq) (h:Hd) (l:bk) (d:ah) (s:az d g r ts) (i:b5 d h l):
 Calls prog 169 #[ak g,h.val] d λr u=>r=.returned (.bool (eF ts l))/\ag d u:=by
 obtain⟨⟨n,M,o⟩,j,b⟩:=s;obtain⟨v,N,w⟩:=h;have x:=b.lies.1;have r:=b.lies.2.1;have y:=i.1.1;have r:=i.1.2.1;subst x y;have p:=Z j;have z:=Z b;have A:=Z i;have B:ae d (ac g 0) (O n ts.length o):=aa.cell j 0;clear j b i;show Calls prog _ #[ak g,O v l.length w] d _;by_cases q:ts.length<l.length
 ·have a:=Z (vl ts l q)
  generalize eF ts l=c at a⊢;go_enter func169,ntmps169
  go_wp2;go_ret;exact⟨cj a.symm,ag.refl _⟩
 have C:=decide_eq_false q;go_enter func169,ntmps169
 go_wp2;clear B C;go_loopw [18] (λa wr=>∃k:Nat,k<=l.length/\a=.int .i64 k/\Hid (ag d wr)/\Hid (eF ts l=eF (ts.drop k) (l.drop k))) (λa _=>l.length-(intOf a).toNat)
 case atStart=>exact⟨0,Nat.zero_le _,rfl,ag.refl d,Z rfl⟩
 obtain⟨k,P,rfl,S,m⟩:=hrel;by_cases d:k<l.length
 ·have i:k<ts.length:=by omega
  have HP:=Z (m.trans (Bq k i d));obtain⟨D,i,E,j,F,G,H,I⟩:=(z.same S).one k i;obtain⟨J,d,K,i,L⟩:=(A.1.same S).one k d rfl;have d:ae wr (ac g 0) (O n ts.length o):=(S.cells g 0 p.lt).trans (aa.cell p 0);clear m;subst E K;generalize ts[k]=a at HP F G H I;generalize l[k]=c at HP L;have e:gn a c=(decide (a.t=c)&&(decide (a.k=1)||decide (a.k=4))):=rfl;have f:=jV a.t c;have d:D≠wr.heap.size:=af
  have d:J≠wr.heap.size:=af
  by_cases b:a.t=c
  ·by_cases d:a.k=1
   ·have HH:=Z (show gn a c=true by rw[e];simp[b,d])
    have g:(a.t.toList==c.toList)=true:=by rw[f];exact decide_eq_true b
    have g:(a.k !=1)=false:=by simp[d]
    clear e f b d;exact vm
   by_cases g:a.k=4
   ·have HH:=Z (show gn a c=true by rw[e];simp[b,g])
    have i:(a.t.toList==c.toList)=true:=by rw[f];exact decide_eq_true b
    have i:(a.k !=1)=true:=by simp[d]
    have i:(a.k !=4)=false:=by simp[g]
    clear e f b d g;exact vm
   have HH:=Z (show gn a c=false by rw[e];simp[b,d,g]);have i:(a.t.toList==c.toList)=true:=by rw[f];exact decide_eq_true b
   have i:(a.k !=1)=true:=by simp[d]
   have i:(a.k !=4)=true:=by simp[g]
   clear e f b d g;go_wp2;go_ret;exact⟨cj (by rw[HP.out,HH.out];rfl),S.trans ((ag.refl _).alloc _)⟩
  have HH:=Z (show gn a c=false by rw[e];simp[b]);have a:(a.t.toList==c.toList)=false:=by rw[f];exact decide_eq_false b
  clear e f b;go_wp2;go_ret;exact⟨cj (by rw[HP.out,HH.out];rfl),S.trans ((ag.refl _).alloc _)⟩
 go_wp2;go_ret;exact⟨cj (by rw[m.out,List.drop_of_length_le (l:=l) (by omega)];cases List.drop k ts<;>rfl),S.out⟩
theorem oP (c:ah) (a:bk) (t:aX) (e:a.length<=9223372036854775807) (f:∀s∈a,aJ s):b5 (c.alloc (.cells (a.map Value.string).toArray t)) ⟨some ⟨c.heap.size,0,none⟩,a.length,a.length⟩ a:=by
 refine⟨⟨rfl,e,λg i=>⟨c.heap.size,0,rfl,by simp,λd e b=>?_⟩⟩,f⟩;match d,b with
 |0,b=>
  simp[cq]at b;subst b;have:=aa.cell (aa.new c t (a.map Value.string).toArray) g;simp only[Nat.zero_add,Nat.mul_one,Nat.add_zero];rw[this];simp[i]
 |d+1,b=>simp[cq]at b
theorem m9 {ts:List aq} {s:ax} (h:bB ts s=true):∃a b,ts=a::b:=by
 cases ts with
 |nil=>simp[bB,eF]at h
 |cons a b=>exact⟨a,b,rfl⟩
theorem j8 (n:Int) (a:Nat) (ts:List aq) (s:ax) (b:ah) (o:az b a n ts) (u:aJ s):
 Calls prog 162 #[ak a,s] b λe g=>e=.returned (.bool (bB ts s))/\Kp [a] b g/\az g a n (if bB ts s then ts.tail else ts):=by
 have u:=Z (oP b [s] 9 aj (by simpa using u));have n:=Z (r0 n a ts _ [s] _ (o.same ((ag.refl b).alloc _)) u.out);have v:=Z o;clear u o;have p:Hid (Calls prog 169 #[ak a,O (some ⟨b.heap.size,0,none⟩) 1 1] (b.alloc (.cells #[s] 9)) λe g=>e=.returned (.bool (bB ts s))/\ag (b.alloc (.cells #[s] 9)) g):=n;clear n;have w:=Z (λh=>m9 (ts:=ts) (s:=s) h);generalize bB ts s=z at p w⊢;cases z
 case false=>
  go_enter func162,ntmps162
  go_wp2_with fail
  refine p.out.mono ?_;rintro e f ⟨rfl,c⟩;have d:=Z (((ag.refl b).alloc _).trans c);clear c;go_wp2;go_ret;exact⟨rfl,Kp.of_same d.out,v.out.same d.out⟩
 obtain⟨G,A,rfl⟩:=w.out rfl;go_enter func162,ntmps162
 go_wp2_with fail
 refine p.out.mono ?_;rintro e i ⟨rfl,x⟩;have q:=Z (((ag.refl b).alloc _).trans x);clear x;obtain⟨⟨b,c,f⟩,j,d⟩:=v.out.same q.out;obtain⟨k,l,r,e,g,B,C,D,E⟩:=d.first;have F:b=some ⟨k,l,none⟩:=r;subst F;have b:=d.tail r;have e:A.length+1=c:=d.lies.1;have g:c<=9223372036854775807:=d.lies.2.1;have g:c<=f:=d.cap;have g:ae i (ac a 0) (O (some ⟨k,l,none⟩) c f):=aa.cell j 0;have g:i.frozen? (ac a 0)=false:=aa.frozen j 0;have y:=Z j;have m:=Z b;have g:1<=c:=af
 clear r d j b B C D E e;by_cases t:f=1
 ·subst t
  obtain rfl:c=1:=af
  rw[if_pos rfl]at m;go_wp2;go_ret;refine⟨rfl,(Kp.of_same q.out).setCell (.inl aj) _,⟨some ⟨k,l,none⟩,0,0⟩,aa.aR y.out 0 _,?_⟩;exact m.out.own ((Kp.refl [a] i).setCell (.inl aj) _)
 rw[if_neg t]at m;have b:f≠1:=t;go_wp2
 all_goals
  go_ret;refine⟨rfl,(Kp.of_same q.out).setCell (.inl aj) _,⟨some ⟨k,l+4,none⟩,c-1,f-1⟩,aa.aR y.out 0 _,?_⟩;exact m.out.own ((Kp.refl [a] i).setCell (.inl aj) _)
theorem Bs (b:Int) (c:List aq) (l:bk):∀k,k<=l.length->∀a,aW b a (l.drop k)=(match l[k]? with|none=>.ok () a|some c=>if bB a c then aW b a.tail (l.drop (k+1))else fI b a 4):=by
 intro k b a;exact vn
theorem Bt (b:Int) (e:Nat) (j:List aq) (h:Hd) (d:bk) (g:ah) (r:az g e b j) (k:b5 g h d) (s:∀t D,h.a=some ⟨t,D,none⟩->t≠e):
 Calls prog 99 #[ak e,h.val] g λl t=>PP b e g (aW b j d) (λ_ D _=>D=.tuple #[]) l t:=by
 obtain⟨E,P,F⟩:=h;have G:=k.1.1;have t:=k.1.2.1;subst G;have H:=Z r;have u:=Z k;have I:=Z s;clear r k s;show Calls prog _ #[ak e,O E d.length F] g _;go_enter func99,ntmps99
 go_wp2;go_loopw [8] (λi wr=>∃(c:Nat) (f:List aq),c<=d.length/\i=.int .i64 c/\Hid (Kp [e] g wr)/\Hid (az wr e b f)/\Hid (aW b j d=aW b f (d.drop c))) (λc _=>d.length-(intOf c).toNat)
 case atStart=>exact⟨0,j,Nat.zero_le _,rfl,Z (Kp.refl _ _),H,Z rfl⟩
 obtain⟨f,c,Q,rfl,m,v,o⟩:=hrel;by_cases g:f<d.length
 ·have n:=Z (o.out.trans (Bs b j d f af c))
  rw[List.getElem?_eq_getElem g]at n;obtain⟨k,r,w,s,j⟩:=u.1.one f g rfl;have x:=u.2 _ (List.getElem_mem g);have J:=(m.cell s (by simpa using I.out k r w)).trans j;clear j o;subst w;generalize d[f]=i at n J x;have p:=Z (j8 b e c i wr v x);have y:=Z (show(match some i with|none=>PO.ok () c|some i=>if bB c i then aW b c.tail (d.drop (f+1))else fI b c 4)=if bB c i then aW b c.tail (d.drop (f+1))else fI b c 4 from rfl);have q:=Z (n.trans y);clear n y;generalize bB c i=K at p q;cases K
  case false=>
   go_wp2_with fail
   refine p.mono ?_;rintro l z ⟨rfl,A,B⟩;have L:=Z (m.trans A);have M:=Z (show az z e b c from B);clear A B;go_wp2_with fail
   refine(oO (α:=Unit) b e c 4 z M.out).mono ?_;rintro l d ⟨⟨d,d,C,rfl⟩,rfl⟩;have N:=Z C;clear C;go_wp2;refine⟨rfl,?_⟩;rw[q.out];exact⟨L,by rw[if_neg aj,N.out]⟩
  go_wp2_with fail
  refine p.mono ?_;rintro l B ⟨rfl,z,A⟩;have C:=Z (m.trans z);have L:=Z (show az B e b c.tail from A);clear z A;go_wp2;go_roundw
  case rel=>exact⟨f+1,c.tail,by omega,by go_num,C,L,Z (by rw[q.out];rfl)⟩
  simp[intOf];omega
 go_wp2;refine bodyPost_ret (results_none rfl _ _ _) rfl ?_;rw[o.out,List.drop_of_length_le af];exact⟨m,_,rfl,rfl,v⟩
def Bu (b:List aq) (c:Int) (a:aq) (v:aA) (_:ah):Prop:=v=a.val/\a∈b/\a.k=c
theorem r1 (e:Int) (a:Nat) (o:List aq) (d:Int) (w:ah) (u:az w a e o):
 Calls prog 163 #[ak a,d] w λr w'=>PP e a w (eO e o d) (Bu o d) r w':=by
 have x:=Z u;have p:=Z ((ag.refl w).alloc (.cells #[J 0,ai,J 0,J 0] 188));obtain⟨⟨y,b,i⟩,m,f⟩:=u;have u:b<=9223372036854775807:=f.lies.2.1;have u:=m.lt;have u:a≠w.heap.size:=af
 have u:ae w (ac a 0) (O y b i):=aa.cell m 0;cases o with
 |nil=>
  have g:0=b:=f.lies.1;subst g;have j:=Z (oO (α:=aq) e a [] 4 _ (x.out.same p.out));clear f m;go_enter func163,ntmps163
  go_wp2_with fail
  refine j.out.mono ?_;rintro r g ⟨⟨l,n,c,rfl⟩,rfl⟩;have q:=Z (show eO e [] d=.bad l n from c);clear c;go_wp2;refine⟨rfl,?_⟩;rw[q.out];exact⟨Kp.of_same p.out,rfl⟩
 |cons c n=>
  obtain⟨g,j,s,o,u,G,H,I,K⟩:=f.first;have C:y=some ⟨g,j,none⟩:=s;subst C;have o:=f.tail s;have u:n.length+1=b:=f.lies.1;have y:b<=i:=f.cap;have y:((b:Int)==0)=false:=aF
  have y:1<=b:=af
  have y:g≠w.heap.size:=af
  have z:=Z m;have q:=Z o;have y:w.frozen? (ac a 0)=false:=aa.frozen m 0;clear s f m o u;by_cases l:c.k=d
  ·have tk:(c.k !=d)=false:=by simp[l]
   have A:=Z (show eO e (c::n) d=.ok c n by simp[eO,l]);have B:=Z l;clear l;by_cases t:i=1
   ·subst t
    obtain rfl:b=1:=af
    rw[if_pos rfl]at q;go_enter func163,ntmps163
    go_wp2
    all_goals
     refine bodyPost_ret (v:=c.val) ?_ rfl ?_
     ·simp[results,results163,go_sem]
      rfl
     rw[A.out];have f:Kp [a] w (w.setCell (ac a 0) (O (some ⟨g,j,none⟩) 0 0)):=(Kp.refl [a] w).setCell (.inl aj) _;refine⟨(f.alloc _).alloc _,_,rfl,⟨rfl,by simp,B.out⟩,az.same (w:=w.setCell (ac a 0) (O (some ⟨g,j,none⟩) 0 0)) ?_ (((ag.refl _).alloc _).alloc _)⟩;exact⟨⟨some ⟨g,j,none⟩,0,0⟩,aa.aR z.out 0 _,q.out.own f⟩
   rw[if_neg t]at q;have f:i≠1:=t;go_enter func163,ntmps163
   go_wp2
   all_goals
    refine bodyPost_ret (v:=c.val) ?_ rfl ?_
    ·simp[results,results163,go_sem]
     rfl
    rw[A.out];have f:Kp [a] w (w.setCell (ac a 0) (O (some ⟨g,j+4,none⟩) (b-1) (i-1))):=(Kp.refl [a] w).setCell (.inl aj) _;refine⟨(f.alloc _).alloc _,_,rfl,⟨rfl,by simp,B.out⟩,az.same (w:=w.setCell (ac a 0) (O (some ⟨g,j+4,none⟩) (b-1) (i-1))) ?_ (((ag.refl _).alloc _).alloc _)⟩;exact⟨⟨some ⟨g,j+4,none⟩,b-1,i-1⟩,aa.aR z.out 0 _,q.out.own f⟩
  have tk:(c.k !=d)=true:=by simp[l]
  have A:=Z (oO (α:=aq) e a (c::n) 4 _ (x.out.same p.out));have B:=Z (show eO e (c::n) d=.bad 4 c.at_ by simp[eO,l]);clear l;go_enter func163,ntmps163
  go_wp2_with fail
  refine A.out.mono ?_;rintro r a ⟨⟨D,E,t,rfl⟩,rfl⟩;have F:=Z (show PO.bad 4 c.at_=PO.bad D E from t);clear t;go_wp2;refine⟨rfl,?_⟩;rw[B.out,F.out];exact⟨Kp.of_same p.out,rfl⟩
theorem az.fine {b:ah} {c:Nat} {d:Int} {a:List aq} (h:az b c d a) {t:aq} (e:t∈a):t.bo:=by obtain⟨g,i,f⟩:=h;exact f.fine t e
def vo (s:ax) (a:aA) (_:ah):Prop:=a=.string s/\aJ s
def Bx (a:Int) (b:aA) (_:ah):Prop:=b=.int .i64 a/\0<=a/\a<=9999999999
theorem eJ (b:Int) (c:Nat) (a:List aq) (w:ah) (d:az w c b a):
 Calls prog 88 #[ak c] w λe i=>PP b c w (bW b a) vo e i:=by
 have HC:=Z (r1 b c a 1 w d);have HE:=Z (show bW b a=(eO b a 1).bind λc a=>.ok c.t a from rfl);have j:=Z d;clear d;generalize eO b a 1=k at HC HE;generalize bW b a=o at HE⊢;cases k with
 |bad f g=>
  go_enter func88,ntmps88
  exact mc
 |ok f p=>
  go_enter func88,ntmps88
  go_wp2_with fail
  refine HC.mono ?_;rintro e w1 ⟨K1,a,rfl,⟨rfl,g,l⟩,m⟩;have n:=Z (j.fine g).s;clear g l;have a:∀w,(Instr.field 188 f.val 1).run prog w=.ok (.string f.t) w:=λ_=>by kernel_rfl
  go_wp2;go_ret;rw[HE.out];exact⟨K1,_,rfl,⟨rfl,n⟩,m⟩
theorem gq (b:Int) (c:Nat) (a:List aq) (w:ah) (d:az w c b a):
 Calls prog 167 #[ak c] w λe j=>PP b c w (cu b a) Bx e j:=by
 have HC:=Z (r1 b c a 2 w d);have HE:=Z (show cu b a=(eO b a 2).bind λc a=>.ok c.n a from rfl);have k:=Z d;clear d;generalize eO b a 2=l at HC HE;generalize cu b a=p at HE⊢;cases l with
 |bad f g=>
  go_enter func167,ntmps167
  exact mc
 |ok f q=>
  go_enter func167,ntmps167
  go_wp2_with fail
  refine HC.mono ?_;rintro e w1 ⟨K1,a,rfl,⟨rfl,g,m⟩,o⟩;have i:=Z (k.fine g);clear g m;have a:∀w,(Instr.field 188 f.val 2).run prog w=.ok (.int .i64 f.n) w:=λ_=>by kernel_rfl
  go_wp2;go_ret;rw[HE.out];exact⟨K1,_,rfl,⟨rfl,i.n0,i.n1⟩,o⟩
theorem By (e:Int) (c g:Nat) (a:List aq) (b:ax) (d:ah) (i:az d c e a) (j:ae d (ac g 0) (ak c)) (j:aJ b):
 Calls prog 161 #[b,ak g] d λk g=>k=.returned (.bool (bB a b))/\Kp [c] d g/\az g c e (if bB a b then a.tail else a):=by
 have f:=Z (j8 e c a b d i j);clear i j;generalize (if bB a b then a.tail else a)=n at f⊢;generalize bB a b=o at f⊢;go_enter func161,ntmps161
 go_wp2_with fail
 refine f.mono ?_;rintro k a ⟨rfl,l,m⟩;go_wp2;go_ret;exact⟨rfl,l,m⟩
theorem Bz (a:List aq) (l:bk) (k:Nat) (b:Int):gQ a b (l.drop k)=(match l[k]? with|none=>none|some c=>if bB a c then some b else gQ a (b+1) (l.drop (k+1))):=by
 exact vn
def vp (c:Int) (a:Nat) (f:ah) (d:List aq) (g:Option Int) (e:Ending) (b:ah):Prop:=
 Kp [a] f b/\match g with
 |some i=>e=.returned (J (i-1))/\az b a c d.tail
 |none=>e=.returned (J (-1))/\az b a c d
theorem BA (g:Int) (f i:Nat) (c:List aq) (h:Hd) (b:bk) (e:ah) (o:az e f g c) (k:b5 e h b) (q:∀u E,h.a=some ⟨u,E,none⟩->u≠f)
 (w:ae e (ac i 0) (ak f)) (F:i<e.heap.size) (G:i≠f):
 Calls prog 150 #[h.val,.func (.func 161) #[] #[ak i]] e λm u=>vp g f e c (gQ c 1 b) m u:=by
 have u:∀u e,(callFunc 161 u).run prog e=.ok (.enter 161 u) e:=enters_of func161 am rfl;obtain⟨x,y,H⟩:=h;have I:b.length=y:=k.1.1;have u:y<=9223372036854775807:=k.1.2.1;subst I;have z:=Z k;have J:=Z q;have K:=Z w;have L:=Z o;clear k q w o;show Calls prog _ #[O x b.length H,_] e _;go_enter func150,ntmps150
 go_wp2;go_loopw [8] (λj wr=>∃d:Nat,d<=b.length/\j=.int .i64 d/\Hid (Kp [f] e wr)/\Hid (az wr f g c)/\Hid (gQ c 1 b=gQ c ((d:Int)+1) (b.drop d))) (λd _=>b.length-(intOf d).toNat)
 case atStart=>exact⟨0,Nat.zero_le _,rfl,Z (Kp.refl _ _),L,Z rfl⟩
 obtain⟨d,T,rfl,j,A,n⟩:=hrel;by_cases o:d<b.length
 ·have l:=Z (n.out.trans (Bz c b d _))
  rw[List.getElem?_eq_getElem o]at l;obtain⟨e,k,q,w,u⟩:=z.out.1.one d o (v:=.string b[d]) rfl;have M:x=some ⟨e,k,none⟩:=q;have B:aJ b[d]:=z.out.2 _ (List.getElem_mem o);have N:ae wr (ac e (k+d)) (.string b[d]):=(j.out.cell (p:=(ac e (k+d))) w (by simpa using J.out e k q)).trans u;clear q u n;subst M;generalize b[d]=r at l N B;have s:=Z (By g f i c r wr A.out ((j.out.cell (p:=(ac i 0)) F (by simpa using G)).trans K.out) B);have t:Hid (gQ c 1 b=if bB c r then some ((d:Int)+1)else gQ c ((d:Int)+1+1) (b.drop (d+1))):=Z l.out;clear l;generalize bB c r=P at s t;cases P
  case false=>
   go_wp2_with fail
   refine s.out.mono ?_;rintro m Q ⟨rfl,C,D⟩;have R:=Z (j.out.trans C);have S:=Z (show az Q f g c from D);clear C D;go_wp2;go_roundw
   case rel=>exact⟨d+1,by omega,by go_num,R,S,Z (by rw[t.out,if_neg (by simp)];congr 1)⟩
   simp[intOf];omega
  go_wp2_with fail
  refine s.out.mono ?_;rintro m Q ⟨rfl,C,D⟩;have R:=Z (j.out.trans C);have S:=Z (show az Q f g c.tail from D);clear C D;go_wp2;go_ret;rw[t.out];exact⟨R.out,eg af,S.out⟩
 go_wp2;go_ret;rw[n.out,List.drop_of_length_le af];exact⟨j.out,rfl,A.out⟩
def vq (a:Int) (b:aA) (_:ah):Prop:=b=.int .i64 a/\1<=a/\a<=100
theorem vr (d:List aq) (c:bk):∀a b,gQ d a c=some b->a<=b/\b<a+c.length:=by
 induction c with
 |nil=>intro a b h;cases h
 |cons f c e=>
  intro a b h;simp only[gQ]at h;split at h
  ·injection h with h;simp;omega
  have:=e _ _ h;simp;omega
theorem vt (e:Int) (b:Nat) (c:List aq) (h:Hd) (l:bk) (d:ah) (j:az d b e c) (o:b5 d h l) (p:∀q z,h.a=some ⟨q,z,none⟩->q≠b) (q:l.length<=100):
 Calls prog 87 #[ak b,h.val] d λf k=>PP e b d (dZ e c l) vq f k:=by
 have g:=Z ((ag.refl d).alloc (.cells #[ak b] 127));have q:=j.lt;have m:=Z (BA e b d.heap.size c h l _ (j.same g) (o.same g) p aj aj af);have i:=Z (show dZ e c l=(match gQ c 1 l with|some i=>PO.ok i c.tail|none=>fI e c 4)from rfl);have r:=Z (vr c l 1);obtain⟨s,t,u⟩:=h;clear j o p;generalize gQ c 1 l=v at m i r;generalize dZ e c l=D at i⊢;have w:Hid (Calls prog 150 #[O s t u,.func (.func 161) #[] #[ak d.heap.size]] (d.alloc (.cells #[ak b] 127)) λf k=>vp e b (d.alloc (.cells #[ak b] 127)) c v f k):=m;clear m;show Calls prog _ #[ak b,O s t u] d _;cases v with
 |none=>
  go_enter func87,ntmps87
  go_wp2_with fail
  refine w.mono ?_;rintro f x ⟨n,rfl,A⟩;have d:ae x (ao d 0) (ak b):=(n.cell aj aF).trans aj;have B:=Z ((Kp.of_same g).trans n);clear n;go_wp2_with fail
  refine(oO (α:=Int) e b c 4 x A).mono ?_;rintro f b ⟨⟨b,b,y,rfl⟩,rfl⟩;have C:=Z y;clear y;go_wp2;refine⟨rfl,?_⟩;rw[i.out,C.out];exact⟨B,rfl⟩
 |some n=>
  have b:=r n rfl;go_enter func87,ntmps87
  go_wp2_with fail
  refine w.mono ?_;rintro f b ⟨x,rfl,y⟩;have A:=Z ((Kp.of_same g).trans x);clear x;have b:decide (n-1<0)=false:=aF
  go_wp2;go_ret;rw[i.out];exact⟨A,_,rfl,⟨rfl,by omega,by omega⟩,y⟩
end Go.Proofs.YteamkimbmdgdbaaGreatDoor

import Derived.Test.YteamkimbmdgdbaaGreatDoorKM
import Derived.Test.YteamkimbmdgdbaaGreatDoorProg
set_option linter.unusedSimpArgs false
set_option linter.unusedVariables false
set_option maxHeartbeats 16000000
set_option maxRecDepth 100000
namespace Go.Proofs.YteamkimbmdgdbaaGreatDoor
open Go.Proofs.Tryz
open Go.RowKit
def ba (a:ax):List UInt8:=a.data.toList
theorem eZ (a:ax):(ba a).length=a.size:=by simp[ba]
def ee (a:bR):ByteArray:=⟨a.toArray⟩
theorem m3 (a:bR):ba (ee a)=a:=by simp[ba,ee]
theorem uF (a:ax):ee (ba a)=a:=by simp[ba,ee]
theorem oc {a t:ax} (h:ba a=ba t):a=t:=by rw[<-uF a,h,uF]
def ag (w w':ah):Prop:=Below w.heap.size w w'
theorem ag.refl (w:ah):ag w w:=Below.refl _ _
theorem ag.trans {a b c:ah} (h:ag a b) (k:ag b c):ag a c:=Below.trans h (Below.mono k h.size)
theorem ag.size {a b:ah} (h:ag a b):a.heap.size<=b.heap.size:=Below.size h
theorem ag.alloc {a w:ah} (h:ag a w) (o:Obj):ag a (w.alloc o):=Below.alloc h h.size o
theorem ag.drew {a w:ah} (h:ag a w):ag a w.drew:=Below.drew h
theorem ag.drewN {a w:ah} (h:ag a w) (n:Nat):ag a (w.drewN n):=⟨h.os,h.tape,h.output,h.size,h.block⟩
theorem ag.setCell {a w:ah} (h:ag a w) {p:Addr} (b:a.heap.size<=p.block) (u:aA):ag a (w.setCell p u):=Below.setCell h b u
theorem ag.cells {a b:ah} (h:ag a b):∀k o,k<a.heap.size->b.cell? (ac k o)=a.cell? (ac k o):=λk o b=>Below.cell (p:=(ac k o)) h b
theorem ag.frees {a c:ah} (h:ag a c):∀b o,b<a.heap.size->c.frozen? (ac b o)=a.frozen? (ac b o):=λb o c=>Below.frozen (p:=(ac b o)) h c
theorem ag.cell {a b:ah} (h:ag a b) {p:Addr} (c:p.block<a.heap.size):b.cell? p=a.cell? p:=Below.cell h c
theorem uG (a:Addr) (n:Nat):(a.add n).block=a.block:=by unfold Addr.add;split<;>rfl
theorem AE (c:Addr) (a b:Nat):(c.add a).add b=c.add (a+b):=by
 unfold Addr.add;by_cases c:a=0<;>by_cases a:b=0<;>simp[c,a,Nat.add_assoc]
def cA (w:ah) (B size:Nat) (A:aU) (n:Nat) (xs:aP):Prop:=
 xs.length=n*size/\(0<n->∃a,A=some a/\a.block<B/\∀b c,xs[b]?=some c->ae w (a.add b) c)
section
variable {w w':ah} {B B' size n:Nat} {A:aU} {xs:aP}
theorem cA.none_:cA w B size A 0 []:=⟨by simp,λh=>absurd h af⟩
theorem cA.at_ {k:Nat} (h:cA w B 1 A n xs) (a:k<n):∃a u,A=some a/\a.block<B/\xs[k]?=some u/\ae w (a.add k) u:=by
 obtain⟨a,c,d,e⟩:=h.2 af;have b:k<xs.length:=by have:=h.1;omega
 exact⟨a,xs[k],c,d,List.getElem?_eq_getElem b,e k _ (List.getElem?_eq_getElem b)⟩
theorem cA.keep (h:cA w B size A n xs) (b:∀p:Addr,p.block<B->w'.cell? p=w.cell? p):cA w' B size A n xs:=
 ⟨h.1,λa=>by
  obtain⟨c,d,a,e⟩:=h.2 a;exact⟨c,d,a,λc d f=>(b _ (by rw[uG];exact a)).trans (e c d f)⟩⟩
theorem cA.more (h:cA w B size A n xs) (a:B<=B'):cA w B' size A n xs:=
 ⟨h.1,λa=>by
  obtain⟨a,b,d,c⟩:=h.2 a;exact⟨a,b,by omega,c⟩⟩
theorem cA.below (h:cA w B size A n xs) (a:Below B w w'):cA w' B size A n xs:=h.keep λ_ b=>a.cell b
theorem cA.drew (h:cA w B size A n xs):cA w.drew B size A n xs:=h
theorem cA.drewN (h:cA w B size A n xs) (a:Nat):cA (w.drewN a) B size A n xs:=h
theorem cA.alloc (h:cA w B size A n xs) (a:B<=w.heap.size) (o:Obj):cA (w.alloc o) B size A n xs:=h.keep λa b=>World.cell?_alloc_lt w o a af
theorem cA.setCell (h:cA w B size A n xs) {p:Addr} (a:B<=p.block) (u:aA):cA (w.setCell p u) B size A n xs:=
 h.keep λa c=>World.cell?_setCell_other w p a u (λb=>by subst b;omega)
theorem cA.grown (h:cA w B size A n xs) {row:Option Nat} (a:w.grownBy w' row) (b:B<=w.heap.size) (b:∀g,row=some g->B<=g):cA w' B size A n xs:=
 h.keep λc d=>World.cell?_of_block (a.block c.block af (λa=>by have:=b _ a.symm;omega))
theorem cA.kY {base:Nat} {a:aX} {b:Nat} (h:w.ownsRow base a size (O A n b) n xs):cA w w.heap.size size A n xs:=by
 refine⟨h.1,λa=>?_⟩;obtain⟨g,a,c,_,d⟩:=h.form a;have e:A=some ⟨g,0,none⟩:=by injection c
 subst e;exact⟨_,rfl,d,h.cells (g:=g) rfl⟩
end
theorem ag.grown {a b:ah} (h:ag a b):a.grownBy b none:=⟨h.os,h.tape,h.output,h.size,λb c _=>h.block b c⟩
theorem aK {a b:ah} (s:ag a b) {base:Nat} {e:aX} {size:Nat} {v:aA} {n:Nat} {xs:aP} (h:a.ownsRow base e size v n xs):b.ownsRow base e size v n xs:=
 h.kept s.grown (by cases v.ownBlock<;>simp)
theorem eo (w:ah):w.drew.heap=w.heap:=rfl
theorem jd (w:ah) (a:Addr):w.drew.cell? a=w.cell? a:=rfl
theorem AF (w:ah) (b:aA) (t:aX):cA (w.alloc (.cells #[b] t)) (w.heap.size+1) 1 (some ⟨w.heap.size,0,none⟩) 1 [b]:=by
 refine⟨rfl,λ_=>⟨_,rfl,Nat.lt_succ_self _,λc b a=>?_⟩⟩;match c,a with
 |0,a=>simp at a;subst a;simp[Addr.add]
 |c+1,a=>simp at a
theorem od (w:ah) (a:Obj):w.heap.size<=(w.alloc a).drew.heap.size:=by rw[eo];simp
open Go.Sort in
theorem ag.reg (w:ah) (a:Nat) (b:Array Obj):ag w (grow (redrawn w a) b):=below_regrown w a b
open Go.Sort in
theorem kZ {P:Program} {e:FuncId} {f:aQ} {w:ah} {v:aA} (h:∀a,ag w a->Calls P e f a λb w'=>b=.returned v/\ag a w'):
 ∀a c,Calls P e f (grow (redrawn w a) c) λb e=>b=.returned v/\∃p:Regrown,e=grow (redrawn w p.d) p.os:=λa c=>Calls.regrown_of (h _ (ag.reg w a c))
open Go.Sort in
theorem aH {w:ah} {c:Addr} {v:aA} (h:ae w c v):∀a b,(grow (redrawn w a) b).cell? c=some v:=λa b=>cell_regrown h a b
structure Hd where
 a:Option Addr
 n:Nat
 c:Nat
def Hd.val (h:Hd):Value:=.slice h.a h.n h.c
def aE {b:Type} (w:ah) (m:Nat) (h:Hd) (enc:b->List Value) (xs:List b):Prop:=
 xs.length=h.n/\h.n<=9223372036854775807/\∀b (c:b<xs.length),∃c d,h.a=some ⟨c,d,none⟩/\c<w.heap.size/\∀e f,(enc xs[b])[e]?=some f->ae w (ac c (d+b*m+e)) f
theorem aE.same {α:Type} {w w':ah} {m:Nat} {h:Hd} {enc:α->List Value} {xs:List α} (l:aE w m h enc xs) (s:ag w w'):aE w' m h enc xs:=
 ⟨l.1,l.2.1,λa b=>by
  obtain⟨a,c,d,b,e⟩:=l.2.2 a b;exact⟨a,c,d,aV b s.size,λc d f=>(s.cell (p:=⟨a,_,none⟩) b).trans (e c d f)⟩⟩
theorem aE.len {a:Type} {w:ah} {m:Nat} {h:Hd} {enc:a->List Value} {xs:List a} (l:aE w m h enc xs):xs.length=h.n:=l.1
theorem cA.same {w w':ah} {B size n:Nat} {A:aU} {xs:aP} (h:cA w B size A n xs) (a:B<=w.heap.size) (b:ag w w'):cA w' B size A n xs:=
 h.below (Below.mono b a)
def aa (w:ah) (g:Nat) (t:aX) (cs:aQ):Prop:=w.heap[g]?=some (.cells cs t (0,0))
section
variable {w w':ah} {g:Nat} {t:aX} {cs:aQ}
theorem aa.lt (h:aa w g t cs):g<w.heap.size:=by
 rcases Nat.lt_or_ge g w.heap.size with a|b
 ·exact a
 unfold aa at h;rw[Array.getElem?_eq_none b]at h;cases h
theorem aa.cell (h:aa w g t cs) (i:Nat):w.cell? (ac g i)=cs[i]?:=cell_of_row w g i cs t (0,0) h
theorem aa.frozen (h:aa w g t cs) (i:Nat):w.frozen? (ac g i)=false:=by
 unfold aa at h;simp[World.frozen?,h]
theorem aa.new (w:ah) (t:aX) (cs:aQ):aa (w.alloc (.cells cs t)) w.heap.size t cs:=heap_alloc_new w _
theorem aa.drew (h:aa w g t cs):aa w.drew g t cs:=h
theorem aa.drewN (h:aa w g t cs) (n:Nat):aa (w.drewN n) g t cs:=h
theorem aa.alloc (h:aa w g t cs) (o:Obj):aa (w.alloc o) g t cs:=(Below.heap_alloc w o g h.lt).trans h
theorem aa.aR (h:aa w g t cs) (i:Nat) (u:aA):aa (w.setCell (ac g i) u) g t (cs.setIfInBounds i u):=by
 unfold aa at h⊢;simp[World.setCell,Array.getElem?_modify,h]
theorem aa.far (h:aa w g t cs) {p:Addr} (b:g≠p.block) (a:aA):aa (w.setCell p a) g t cs:=(Below.heap_setCell w p a g b).trans h
theorem aa.below {B:Nat} (h:aa w g t cs) (a:Below B w w') (b:g<B):aa w' g t cs:=(a.block g b).trans h
theorem aa.grown {row:Option Nat} (h:aa w g t cs) (a:w.grownBy w' row) (b:some g≠row):aa w' g t cs:=(a.block g h.lt b).trans h
theorem aa.uH {b:Nat} {c:aX} {d:aQ} (h:aa w g t cs) (a:aa w b c d) (e:t≠c):g≠b:=by
 rintro rfl;unfold aa at h a;rw[h]at a;injection a with a
 injection a with _ ht
 exact e ht
theorem lU {c:Nat} {a:aX} {size n:Nat} {b:aA} {xs:aP} (h:w.ownsRow c a size b n xs) (d:aa w g t cs) (e:a≠t):b.ownBlock≠some g:=by
 rcases h.2 with⟨rfl,_⟩|⟨f,j,k,rfl,_,i,_⟩
 ·simp[Value.ownBlock]
 intro b;have:f=g:=by simpa[Value.ownBlock]using b
 subst this;exact aa.uH (t:=a) i d e rfl
end
section
variable {P:Program} (w:ah)
theorem AG (e:Nat) (t f a:aX) (b:TypeInfo) (size:Nat) (c:P.underlying t=some (.slice a)) (d:P.info? a=some b)
 (b:aA) (n:Nat) (xs:aP) (i:w.ownsRow e a size b n xs) (a:Nat):(Builtin.append_ #[t,t] f #[b,O none 0 a]).run P w=.ok b w:=by
 rcases i.2 with⟨rfl,rfl⟩|⟨g,k,l,rfl,_,_,j,_⟩
 ·simp[Builtin.append_,run_underlying c,sizeOf,typeInfo,d,Builtin.lenOf,Builtin.firstCells]
 simp[Builtin.append_,run_underlying c,sizeOf,typeInfo,d,Builtin.lenOf,Builtin.firstCells,j,storeCells]
theorem AH (i:Nat) (t l d:aX) (e:TypeInfo) (m:aA) (size o:Nat) (u:P.underlying t=some (.slice d)) (v:P.info? d=some e) (y:e.zero=some m)
 (z:e.size=size) (C:e.bytes=o) (D:m.cells.size=size) (E:0<size)
 (b:aA) (n:Nat) (xs:aP) (p:w.ownsRow i d size b n xs)
 (B:Nat) (A:aU) (a q:Nat) (c:aP) (j:cA w B size A a c) (F:∀f∈c,f.oneCell'=true)
 (G:n+a<=maxLen) (H:(n+a)*o<=140737488355328) (I:i<=w.heap.size):
 ∃g w',(Builtin.append_ #[t,t] l #[b,O A a q]).run P w=.ok g w'/\w'.ownsRow i d size g (n+a) (xs++c)/\w.grownBy w' b.ownBlock/\
  (g.ownBlock=b.ownBlock\/g.ownBlock=some w.heap.size):=by
 rcases A with _|r
 ·have s:a=0:=by
   rcases Nat.eq_zero_or_pos a with k|k
   ·exact k
   obtain⟨r,h,_⟩:=j.2 k;cases h
  subst s;have k:c=[]:=List.eq_nil_of_length_eq_zero (by simpa using j.1);subst k;exact⟨b,w,AG w i t l d e size u v b n xs p q,by simpa using p,World.grownBy.refl w _,.inl rfl⟩
 have J:∀k f,c[k]?=some f->ae w (r.add k) f:=by
  intro k f x;rcases Nat.eq_zero_or_pos a with s|s
  ·subst s
   have K:c=[]:=List.eq_nil_of_length_eq_zero (by simpa using j.1);subst K;simp at x
  obtain⟨s,h,_,K⟩:=j.2 s;injection h with h
  subst h;exact K k f x
 obtain⟨g,w',a,b,c,_,d⟩:=run_append_own_at (P:=P) w i t l d e m size o u v y z C D E b n xs p r a q c j.1 J F G H I;exact⟨g,w',a,b,c,d⟩
theorem di {o:Oper} {c:Act} {g:Act->World->Prop} {k:Exit->Act->World->Prop} (s x:Operand) (t:aX)
 (l:o.op=.call {callee:=.builtin .append,args:=#[s,x],argTypes:=#[t,t]})
 (base:Nat) (b:aX) (i:TypeInfo) (e:aA) (size f:Nat) (p:P.underlying t=some (.slice b)) (q:P.info? b=some i) (r:i.zero=some e)
 (y:i.size=size) (z:i.bytes=f) (C:e.cells.size=size) (D:0<size)
 (v:aA) (n:Nat) (xs:aP) (E:c.eval s=v) (F:w.ownsRow base b size v n xs)
 (B:Nat) (A:aU) (m j:Nat) (d:aP) (G:c.eval x=.slice A m j) (H:cA w B size A m d) (I:∀u∈d,u.oneCell'=true)
 (J:n+m<=maxLen) (K:(n+m)*f<=140737488355328) (L:base<=w.heap.size)
 (h:∀a w',w'.ownsRow base b size a (n+m) (xs++d)->w.grownBy w' v.ownBlock->(a.ownBlock=v.ownBlock\/a.ownBlock=some w.heap.size)->g (c.put o.dst a) w'):o.wp P c w g k:=by
 obtain⟨a,w',b,c,d,e⟩:=AH (P:=P) w base t o.type b i e size f p q r y z C D v n xs F B A m j d H I J K L;unfold Oper.wp execOp;simp only[l,resolve,invoke,builtin,Sem.run_bind,Sem.run_pure,Result.andThen_ok,List.map_toArray,List.map_cons,List.map_nil,E,G,b];exact h a w' c d e
theorem eL {k:Array Oper} {rest:List Oper} {d:Oper} {e:Act} {l:Exit->Act->World->Prop} (o:d.guard=none) (s x:Operand) (t:aX)
 (p:d.op=.call {callee:=.builtin .append,args:=#[s,x],argTypes:=#[t,t]})
 (base:Nat) (c:aX) (i:TypeInfo) (g:aA) (size j:Nat) (q:P.underlying t=some (.slice c)) (r:P.info? c=some i) (y:i.zero=some g)
 (z:i.size=size) (C:i.bytes=j) (D:g.cells.size=size) (E:0<size)
 (v:aA) (n:Nat) (xs:aP) (F:e.eval s=v) (G:w.ownsRow base c size v n xs)
 (B:Nat) (A:aU) (a m:Nat) (f:aP) (H:e.eval x=.slice A a m) (I:cA w B size A a f) (J:∀u∈f,u.oneCell'=true)
 (K:n+a<=maxLen) (L:(n+a)*j<=140737488355328) (M:base<=w.heap.size)
 (h:∀b w',w'.ownsRow base c size b (n+a) (xs++f)->w.grownBy w' v.ownBlock->(b.ownBlock=v.ownBlock\/b.ownBlock=some w.heap.size)->wpList P k l rest (e.put d.dst b) w'):wpList P k l (d::rest) e w:=
 wpList_plain o λ_ d=>di w s x t p base c i g size j q r y z C D E v n xs F G B A a m f H I J K L M λb w' a c e=>d _ _ (h b w' a c e)
theorem oe {k:Array Oper} {o:Oper} {a:Act} {l:Act->World->Prop} {p:Exit->Act->World->Prop} {q:Prop} (r:o.guard=none) (s x:Operand) (t:aX)
 (u:o.op=.call {callee:=.builtin .append,args:=#[s,x],argTypes:=#[t,t]})
 (e:Nat) (c:aX) (d:TypeInfo) (i:aA) (size j:Nat) (y:P.underlying t=some (.slice c)) (z:P.info? c=some d) (C:d.zero=some i)
 (D:d.size=size) (E:d.bytes=j) (F:i.cells.size=size) (G:0<size)
 (v:aA) (n:Nat) (xs:aP) (H:a.eval s=v) (I:w.ownsRow e c size v n xs)
 (B:Nat) (A:aU) (b m:Nat) (f:aP) (J:a.eval x=.slice A b m) (K:cA w B size A b f) (L:∀g∈f,g.oneCell'=true)
 (M:n+b<=maxLen) (N:(n+b)*j<=140737488355328) (O:e<=w.heap.size)
 (h:∀g w',w'.ownsRow e c size g (n+b) (xs++f)->w.grownBy w' v.ownBlock->(g.ownBlock=v.ownBlock\/g.ownBlock=some w.heap.size)->l (a.put o.dst g) w'):
 if Region.wanted o (yielded k a.tmps)=true then Oper.wp P o a w l p else q:=by
 have g:Region.wanted o (yielded k a.tmps)=true:=by simp[Region.wanted,r]
 rw[if_pos g];exact di w s x t u e c d i size j y z C D E F G v n xs H I B A b m f J K L M N O h
end
theorem be {a:Type} {l:List a} {i:Nat}:l.toArray[i]?=l[i]?:=aj
theorem bf {b:Type} {a:b} {l:List b} {i:Nat}:(a::l)[i+1]?=l[i]?:=List.getElem?_cons_succ
theorem bg {b:Type} {a:b} {l:List b}:(a::l)[0]?=some a:=List.getElem?_cons_zero
theorem oh {a:Type} {b:List a} {c:Nat} {d:a}:b.toArray.setIfInBounds c d=(b.set c d).toArray:=List.setIfInBounds_toArray ..
theorem ol {a:Type} {d b:a} {c:List a}:(d::c).set 0 b=b::c:=rfl
theorem om {a:Type} {b c:a} {d:List a} {a:Nat}:(b::d).set (a+1) c=b::d.set a c:=rfl
theorem ef {g:Program} {c:Region.Mode} {b:Array Oper} {f:Exit->Act->World->Prop} {S:World->Prop} {i:Nat} {d:Array Bool} {a:Act} {w:ah} (e:Nat) {oi:Oper} {v:aA} (k:b[e]?=some oi)
 (l:(Region.noSelect b&&(Region.free c b d e&&(Region.ready c b d).contains e))=true) (m:∀j a w,f (.panic j) (a.put oi.dst v) w->f (.panic j) a w)
 (j:Region.wanted oi (yielded b a.tmps)=true) (n:∀w,S w->(execOp a.eval oi).run g w=.ok (.value v) w) (o:S w) (h:wpAnyH g c b f S i (d.setIfInBounds e true) (a.put oi.dst v) w):wpAnyH g c b f S (i+1) d a w:=
 have b:Region.noSelect b=true/\Region.free c b d e=true/\(Region.ready c b d).contains e=true:=by simpa only[Bool.and_eq_true]using l
 wpAnyH_take k b.1 b.2.1 b.2.2 m (Or.inl ⟨j,n⟩) o h
abbrev Rt (b:Nat) (c:aQ) (w:ah) (d:aA):Prop:=∀a,ag w a->Calls prog b c a λb w'=>b=.returned d/\ag a w'
abbrev Re (b:Nat) (c:aQ) (w:ah) (d:aA):Prop:=∀a,ag w a->Calls prog b c a λb w'=>b=.returned d/\a=w'
abbrev Rs (b:Nat) (c:aQ) (d:aA):Prop:=∀a,Calls prog b c a λb w'=>b=.returned d/\ag a w'
abbrev Rq (b:Nat) (c:aQ) (d:aA):Prop:=∀a,Calls prog b c a λb w'=>b=.returned d/\a=w'
section
variable {w w':ah} {k:Nat} {t:aX} {a0 a1 a2 a3 a4 a5 a6 a7:aA}
theorem rO (h:aa w k t #[a0,a1,a2]):k<w.heap.size/\ae w (ac k 0) a0/\ae w (ac k 1) a1/\ae w (ac k 2) a2:=⟨h.lt,h.cell 0,h.cell 1,h.cell 2⟩
end
structure V where
 k:Int
 n:Int
 s:ByteArray
def V.fields (a:V):Array Value:=#[a.k,a.n,a.s]
def V.val (v:V):Value:=.agg v.fields
def V.cells (v:V):List Value:=[.int .i64 v.k,.int .i64 v.n,.string v.s]
def V.zero:V:=⟨0,0,ByteArray.empty⟩
structure V.fine (v:V):Prop where
 k1:-9223372036854775808<=v.k
 k2:v.k<=9223372036854775807
 n1:-9223372036854775808<=v.n
 n2:v.n<=9223372036854775807
 s1:v.s.size<=9223372036854775807
def V.low (a:Int):Int:=if a=2 then -1000000000 else 0
def V.high (a:Int):Int:=if a=2 then 1000000000 else if a=3 then 73048 else if a=4 then 1 else 0
def V.ok (v:V):Bool:=
 (decide (v.k=1)||decide (v.s.size=0))&&(decide (0<=v.k)&&decide (v.k<=4))&&decide (v.s.size<=200)&&(decide (V.low v.k<=v.n)&&decide (v.n<=V.high v.k))
theorem V.ext' {a b:V} (c:a.k=b.k) (c:a.n=b.n) (c:a.s=b.s):a=b:=by cases a;cases b;simp_all
def V.same (a b:V):Bool:=decide (a.k=b.k)&&(decide (a.n=b.n)&&decide (a.s=b.s))
theorem V.same_iff {a b:V}:V.same a b=true↔a=b:=by
 constructor
 ·intro h;simp[V.same]at h;exact V.ext' h.1 h.2.1 h.2.2
 rintro rfl;simp[V.same]
theorem V.uI {a:V}:a.ok=true↔(a.k=1\/a.s.size=0)/\(0<=a.k/\a.k<=4)/\a.s.size<=200/\V.low a.k<=a.n/\a.n<=V.high a.k:=by
 simp[V.ok];constructor<;>intro h<;>simp_all
def hC (a:UInt8):Bool:=(decide (97<=(a.toNat:Int))&&decide ((a.toNat:Int)<=122))||(decide (65<=(a.toNat:Int))&&decide ((a.toNat:Int)<=90))
def uJ (a:UInt8):Bool:=decide (48<=(a.toNat:Int))&&decide ((a.toNat:Int)<=57)
def hD (a:UInt8):Bool:=hC a||(uJ a||decide ((a.toNat:Int)=95))
def ge:List UInt8->Bool
 |[]=>true
 |c::l=>hC c&&l.all hD
def bC (a:ax):Bool:=ge (ba a)&&(decide (a.size≠0)&&decide (a.size<=24))
theorem AI (a:bR) (b:UInt8):ge (a++[b])=(ge a&&(if a=[]then hC b else hD b)):=by
 cases a with
 |nil=>simp[ge]
 |cons c a=>simp[ge,Bool.and_assoc]
theorem oo (a:ax):a.toList.isEmpty=decide (a.size=0):=by
 rw[ByteArray.toList_eq,<-eZ];show(ba a).isEmpty=_;cases ba a<;>simp
theorem fX (a:ax):a.toList=[]↔a.size=0:=by
 have:=oo a;constructor
 ·intro h;rw[h]at this;simpa using this
 intro h;rw[h]at this;simpa using this
theorem cj {a b:Bool} (h:a=b):Ending.returned (.bool a)=.returned (.bool b):=by rw[h]
theorem eg {a:IntKind} {b c:Int} (h:b=c):Ending.returned (.int a b)=.returned (.int a c):=by rw[h]
theorem AJ (a b:bR) (h:ge a=false):ge (a++b)=false:=by
 cases a with
 |nil=>simp[ge]at h
 |cons c a=>
  simp only[ge,List.cons_append,List.all_append]at h⊢;rw[<-Bool.and_assoc,h,Bool.false_and]
theorem AK (a:ax) (b:Nat) (h:b<a.size):(ba a).take (b+1)=(ba a).take b++[a[b]]:=by
 have a:b<(ba a).length:=by rw[eZ];exact h
 rw[List.take_succ_eq_append_getElem a];rfl
theorem AL (b:ax) (a:Nat) (h:a<b.size):ge ((ba b).take (a+1))=(ge ((ba b).take a)&&(if a=0 then hC b[a]else hD b[a])):=by
 rw[AK b a h,AI];have a:((ba b).take a=[])↔a=0:=by
  rw[<-List.length_eq_zero_iff,List.length_take,eZ];omega
 simp only[a]
theorem AM (a:ax) (b:Nat) (h:ge ((ba a).take b)=false):ge (ba a)=false:=by
 rw[<-List.take_append_drop b (ba a)];exact AJ _ _ h
theorem uK {a:UInt8} {b:Nat}:(if b=0 then hC a else hD a)=true↔((97<=(a.toNat:Int)/\(a.toNat:Int)<=122)\/(65<=(a.toNat:Int)/\(a.toNat:Int)<=90)\/(0<b/\((48<=(a.toNat:Int)/\(a.toNat:Int)<=57)\/(a.toNat:Int)=95))):=by
 split<;>simp[hC,hD,uJ]<;>omega
def k0 (a:Int):Bool:=decide (1<=a)&&decide (a<=4)
def ij (a:Int) (v:V):Bool:=v.ok&&(decide (v.k=0)||decide (v.k=a))
theorem p2 (v:V) (a:ah):Calls prog 42 #[v.val] a λc d=>c=.returned (.bool v.ok)/\ag a d:=by
 obtain⟨b,e,f⟩:=v;show Calls prog 42 #[.agg #[b,e,f]] a _;by_cases g:b=1
 ·subst g
  go_enter func42,ntmps42
  go_wp2
  all_goals
   go_ret;refine⟨cj ?_,(ag.refl _).alloc _⟩;rw[Bool.eq_iff_iff,V.uI];simp only[V.low,V.high,decide_eq_true_eq,oo]at*;first|(simp at*;omega)|omega
 go_enter func42,ntmps42
 go_wp2
 all_goals
  go_ret;refine⟨cj ?_,(ag.refl _).alloc _⟩;rw[Bool.eq_iff_iff,V.uI];simp only[V.low,V.high,decide_eq_true_eq,oo]at*;first|(simp at*;omega)|(simp_all;done)|(simp_all;omega)
theorem p3 (a:ax) (e:ah) (g:a.size<=9223372036854775807):Calls prog 72 #[a] e λg i=>g=.returned (.bool (bC a))/\e=i:=by
 go_enter func72,ntmps72
 go_wp2;go_loop [7] (λc=>∃b:Nat,b<=a.size/\c=.int .i64 b/\ge ((ba a).take b)=true) (λb=>a.size-(intOf b).toNat)
 case atStart=>exact⟨0,Nat.zero_le _,rfl,by simp[ge]⟩
 obtain⟨d,k,rfl,c⟩:=hrel;by_cases e:d<a.size
 ·have b:=AL a d e
  have e:=AM a (d+1);rw[c,Bool.true_and]at b;have f:=Z b;have j:=Z e;have g:=Z c;clear b e c;go_wp2
  all_goals
   first
    |(
     go_round
     case rel=>exact⟨d+1,by omega,by go_num,f.out.trans (uK.2 (by(try simp only[beq_iff_eq]at*);omega))⟩
     simp[intOf];omega)
    |(
     go_ret;refine⟨cj ?_,rfl⟩;rw[bC,j.out (f.out.trans (Bool.eq_false_iff.2 (λh=>by have:=uK.1 h;(try simp only[beq_eq_false_iff_ne]at*);omega)))];rfl)
 obtain rfl:d=a.size:=af
 rw[<-eZ,List.take_length]at c;have d:=Z c;clear c;have c:bC a=(decide (a.size≠0)&&decide (a.size<=24)):=by rw[bC,d.out,Bool.true_and]
 have f:=Z c;clear c;by_cases b:a.size=0
 ·have c:=(fX a).2 b
  have c:(!a.toList.isEmpty)=false:=by rw[c];rfl
  have j:=Z b;clear b;go_wp2;go_ret;exact⟨cj (by rw[f.out,j.out];rfl),rfl⟩
 have c:¬a.toList=[]:=λh=>b ((fX a).1 h);have a:(!a.toList.isEmpty)=true:=by rw[oo];simpa using b
 have j:=Z b;clear b;go_wp2;go_ret;exact⟨cj (by rw[f.out,decide_eq_true j.out,Bool.true_and];exact decide_eq_decide.2 (by omega)),rfl⟩
theorem uL (b:Int) (v:V) (e:ah):Calls prog 73 #[b,v.val] e λg m=>g=.returned (.bool (ij b v))/\ag e m:=by
 have i:=Z (p2 v);obtain⟨a,c,d⟩:=v;have j:(⟨a,c,d⟩:V).val=.agg #[a,c,d]:=rfl;rw[j]at i;show Calls prog 73 #[b,.agg #[a,c,d]] e _;have k:Hid (ij b ⟨a,c,d⟩=((⟨a,c,d⟩:V).ok&&(decide (a=0)||decide (a=b)))):=Z rfl;generalize (⟨a,c,d⟩:V).ok=n at i k;clear j;go_enter func73,ntmps73
 go_wp2_with (first|(go_at_call 42;refine(i.out _).mono ?_;rintro g c ⟨rfl,f⟩;have l:=Z f;have c:=f.cells;have c:=f.size;clear f))
 all_goals
  go_ret;exact⟨cj (by rw[k.out];by_cases g:a=0<;>by_cases c:a=b<;>simp_all),((ag.refl e).alloc _).trans l.out⟩
structure At where
 name:ByteArray
 kind:Int
 was:List ByteArray
 dflt:V
structure Tb where
 name:ByteArray
 attrs:List At
 key:List Int
structure Cg where
 kind:Int
 table:ByteArray
 attr:ByteArray
 name:ByteArray
 dT:Int
 dflt:V
def co {a:Type} (p:a->Bool) (b:List a):Int:=match b.findIdx? p with|some c=>(c:Int)|none=> -1
theorem p4 {b:Type} {c:b->Bool} {a:List b} (b:Nat) (h:b<a.length) (f:c a[b]=true) (g:∀d (e:d<b),c (a[d]'af)=false):co c a=b:=by
 have:a.findIdx? c=some b:=by
  rw[List.findIdx?_eq_some_iff_getElem];exact⟨h,f,λd e=>by simp[g d e]⟩
 simp[co,this]
theorem lV {c:Type} {p:c->Bool} {a:List c} (e:∀b (d:b<a.length),p a[b]=false):co p a= -1:=by
 have:a.findIdx? p=none:=by
  rw[List.findIdx?_eq_none_iff];intro a f;obtain⟨b,d,rfl⟩:=List.mem_iff_getElem.1 f;exact e b d
 simp[co,this]
theorem m4 {f:Type} (c:f->Bool) (a:List f):(co c a= -1/\∀b (e:b<a.length),c a[b]=false)\/∃(d:Nat) (h:d<a.length),co c a=d/\c a[d]=true/\∀b (e:b<d),c (a[b]'af)=false:=by
 cases h:a.findIdx? c with
 |none=>
  left
  refine⟨by simp[co,h],λb e=>?_⟩;rw[List.findIdx?_eq_none_iff]at h;exact h _ (List.getElem_mem e)
 |some d=>
  right
  have g:=h;rw[List.findIdx?_eq_some_iff_getElem]at g;obtain⟨i,j,k⟩:=g;exact⟨d,i,by simp[co,h],j,λb e=>by simpa using k b e⟩
theorem lW {a:Type} (p:a->Bool) (l:List a):-1<=co p l/\co p l<l.length:=by
 rcases m4 p l with⟨h,_⟩|⟨b,h,c,_⟩
 ·omega
 omega
def k4 (a:Tb):List ByteArray:=a.attrs.flatMap λa=>a.name::a.was
def jT:List ByteArray->Bool
 |[]=>false
 |x::l=>l.any (λa=>decide (a=x))||jT l
def gA (c:Nat) (b:List Int) (a:Nat):Bool:=(decide (0<=b.getD a 0)&&decide (b.getD a 0<c))&&(decide (a=0)||decide (b.getD (a-1) 0<b.getD a 0))
def p5 (b:Nat) (a:List Int):Bool:=(List.range a.length).all (gA b a)
def gN (a:At):Bool:=k0 a.kind&&ij a.kind a.dflt
def hE (a:Tb):Bool:=
 bC a.name&&(decide (1<=a.attrs.length)&&decide (a.attrs.length<=12)&&decide (1<=a.key.length))&&a.attrs.all gN&&(k4 a).all bC&&!jT (k4 a)&&p5 a.attrs.length a.key
def cE (a:List Tb) (b:ax):Int:=co (λc=>decide (c.name=b)) a
def bu (l:List At) (a:ax):Int:=
 if 0<=co (λb=>decide (b.name=a)) l then co (λb=>decide (b.name=a)) l else co (λb=>b.was.any λb=>decide (b=a)) l
def gf (a:List Tb):Bool:=decide (a.length<=20)&&(List.range a.length).all λb=>match a[b]? with|some c=>hE c&&decide (cE a c.name=b)|none=>false
def ep (c:Cg):Bool:=
 if c.kind=1 then decide (c.attr.size=0)
 else if c.kind=2 then decide (c.name.size=0)&&(decide (c.dT=0)&&V.same c.dflt V.zero)
 else if c.kind=3 then decide (c.dT=0)&&V.same c.dflt V.zero
 else if c.kind=4 then decide (c.name.size=0)
 else false
def hG (c:Cg):Bool:=k0 c.dT&&ij c.dT c.dflt
def gB (a:Tb) (c:Cg):Int:=if bC c.name then(if 0<=bu a.attrs c.name then 9 else 0)else 1
def gC (a:Tb) (c:Cg) (b:Nat):Int:=
 if c.kind=1 then(if hG c then(if gB a c≠0 then gB a c else if a.attrs.length=12 then 3 else 0)else 1)
 else if c.kind=2 then(if a.key.any (λd=>decide (d=(b:Int)))then 1 else 0)
 else if c.kind=3 then gB a c
 else(if hG c&&!decide ((a.attrs.map At.kind)[b]?=some c.dT)then 0 else 1)
def dz (a:List Tb) (c:Cg):Int:=
 if ep c&&gf a then
  if cE a c.table<0 then 11
  else match a[(cE a c.table).toNat]? with
   |none=>11
   |some b=>if decide (c.kind≠1)&&decide (bu b.attrs c.attr<0)then 11 else gC b c (bu b.attrs c.attr).toNat
 else 1
def hH (c:List At) (b:Cg) (a:Nat):List At:=
 if b.kind=1 then c++[⟨b.name,b.dT,[],b.dflt⟩]
 else if b.kind=2 then c.eraseIdx a
 else if b.kind=3 then c.modify a (λd=>⟨b.name,d.kind,d.was++[d.name],d.dflt⟩)
 else c.modify a (λc=>⟨c.name,b.dT,c.was,b.dflt⟩)
def oq (b:List Int) (a:Cg) (c:Nat):List Int:=if a.kind=2 then b.map (λa=>if(c:Int)<a then a-1 else a)else b
def dH (a:Tb) (b:Cg):Tb:=⟨a.name,hH a.attrs b (bu a.attrs b.attr).toNat,oq a.key b (bu a.attrs b.attr).toNat⟩
def gO (a:List Tb) (b:Cg):List Tb:=a.modify (cE a b.table).toNat (λa=>dH a b)
def At.has (a:At) (b:ax):Prop:=b=a.name\/b∈a.was
theorem rP (a:List At) (c:ax):(bu a c= -1/\∀d∈a,¬d.has c)\/∃(b:Nat) (h:b<a.length),bu a c=b/\a[b].has c:=by
 rcases m4 (λd:At=>decide (d.name=c)) a with⟨e,n⟩|⟨b,f,e,g,_⟩
 ·rcases m4 (λd:At=>d.was.any λi=>decide (i=c)) a with⟨i,o⟩|⟨b,f,i,g,_⟩
  ·left
   refine⟨by simp[bu,e,i],?_⟩;intro d p;obtain⟨j,k,rfl⟩:=List.mem_iff_getElem.1 p;have l:=n j k;have m:=o j k;simp at l m;rintro(h|h)
   ·exact l h.symm
   exact m _ h rfl
  right
  refine⟨b,f,by simp[bu,e,i],.inr ?_⟩;simpa using g
 right
 refine⟨b,f,by simp[bu,e],.inl ?_⟩;simpa using(by simpa using g:a[b].name=c).symm
theorem ou (a:List At) (b:ax):-1<=bu a b/\bu a b<a.length:=by
 rcases rP a b with⟨h,_⟩|⟨c,h,d,_⟩<;>omega
def uM (a:List At):Prop:=∀b c (d:b<a.length) (d:c<a.length) x,a[b].has x->a[c].has x->b=c
theorem AN {a:List At} (h:uM a) (b:Nat) (d:b<a.length) (c:ax) (e:a[b].has c):bu a c=b:=by
 rcases rP a c with⟨_,f⟩|⟨g,i,j,k⟩
 ·exact absurd e (f _ (List.getElem_mem d))
 rw[j,h g b i d c k e]
theorem uN (a:bk):jT a=false↔a.Nodup:=by
 induction a with
 |nil=>simp[jT]
 |cons b a c=>
  simp only[jT,Bool.or_eq_false_iff,c,List.nodup_cons];constructor
  ·rintro⟨a,c⟩
   refine⟨λd=>?_,c⟩;simp at a;exact a b d rfl
  rintro⟨d,a⟩;refine⟨?_,a⟩;simp;rintro a e rfl;exact d e
def d7 (l:List At):List ByteArray:=l.flatMap λa=>a.name::a.was
theorem p6 {b:List At} {c:ax}:c∈d7 b↔∃a∈b,a.has c:=by
 simp[d7,At.has]
theorem uO:∀{d:List At},(d7 d).Nodup->uM d
 |[],_=>λb b b=>by simp at b
 |a::d,h=>by
  have e:((a.name::a.was)++d7 d).Nodup:=h;rw[List.nodup_append]at e;have l:=uO e.2.1;intro f c j k b g i;cases f with
  |zero=>
   cases c with
   |zero=>rfl
   |succ c=>
    exfalso
    have d:b∈a.name::a.was:=by simpa[At.has]using g
    exact e.2.2 b d b (p6.2 ⟨_,List.getElem_mem (by simpa using k),by simpa using i⟩) rfl
  |succ f=>
   cases c with
   |zero=>
    exfalso
    have d:b∈a.name::a.was:=by simpa[At.has]using i
    exact e.2.2 b d b (p6.2 ⟨_,List.getElem_mem (by simpa using j),by simpa using g⟩) rfl
   |succ c=>
    have:=l f c (by simpa using j) (by simpa using k) b (by simpa using g) (by simpa using i);omega
def gD {a:Type} (c:Nat) (d:aQ) (e:ah) (f:a->Value) (g:a->Bool) (i:List a):Prop:=
 ∀b∈i,∀a,ag e a->Calls prog c (#[f b]++d) a λc d=>c=.returned (.bool (g b))/\ag a d
theorem p7 {c:Type} {p:c->Bool} {b:List c} {c:Nat} (g:c<b.length) (e:p b[c]=false) (h:∀a (d:a<b.length),a<c->p b[a]=false):∀a (d:a<b.length),a<c+1->p b[a]=false:=by
 intro a d b;by_cases f:a=c
 ·subst f;exact e
 exact h a d af
theorem AO {d:Type} (g:Nat) (caps:aQ) (f:∀f a,(callFunc g f).run prog a=.ok (.enter g f) a) (h:Hd) (enc:d->List Value) (m:∀f,∃o b i,enc f=[o,b,i]) (p:d->Bool) (xs:List d) (a:ah)
 (c:aE a 3 h enc xs) (n:gD g caps a (λf=>.agg (enc f).toArray) p xs):
 Calls prog 78 #[h.val,.func (.func g) #[] caps] a λe w'=>e=.returned (J (co p xs))/\ag a w':=by
 obtain⟨A,l,i⟩:=h;show Calls prog 78 #[O A l i,.func (.func g) #[] caps] a _;have q:xs.length=l:=c.1;have d:l<=9223372036854775807:=c.2.1;subst q;have HL:=Z c;have HT:=Z n;have H3:=Z m;clear c n m;go_enter func78,ntmps78
 go_wp2;go_loopw [8] (λc wr=>∃k:Nat,k<=xs.length/\c=.int .i64 k/\Hid (ag a wr)/\Hid (∀j (hj:j<xs.length),j<k->p xs[j]=false)) (λc _=>xs.length-(intOf c).toNat)
 case atStart=>exact⟨0,Nat.zero_le _,rfl,ag.refl a,λj _ hj=>absurd hj (Nat.not_lt_zero _)⟩
 obtain⟨k,r,rfl,S,N⟩:=hrel;by_cases hlt:k<xs.length
 ·exact uP
 go_wp2;go_ret;exact⟨eg (lV (λj hj=>N.out j hj af)).symm,S.out⟩
theorem rQ {m:Type} (d:Nat) (f:aQ) (n:∀n b,(callFunc d n).run prog b=.ok (.enter d n) b) (h:Hd) (g:m->List Value) (t:∀n,∃C o p D c E,g n=[C,o,p,D,c,E]) (e:m->Bool) (a:List m) (b:ah)
 (i:aE b 6 h g a) (u:gD d f b (λn=>.agg (g n).toArray) e a):
 Calls prog 102 #[h.val,.func (.func d) #[] f] b λc q=>c=.returned (J (co e a))/\ag b q:=by
 obtain⟨v,r,p⟩:=h;show Calls prog 102 #[O v r p,.func (.func d) #[] f] b _;have F:a.length=r:=i.1;have m:r<=9223372036854775807:=i.2.1;subst F;have G:=Z i;have H:=Z u;have I:=Z t;clear i u t;go_enter func102,ntmps102
 go_wp2;go_loopw [8] (λi wr=>∃k:Nat,k<=a.length/\i=.int .i64 k/\Hid (ag b wr)/\Hid (∀j (hj:j<a.length),j<k->e a[j]=false)) (λi _=>a.length-(intOf i).toNat)
 case atStart=>exact⟨0,Nat.zero_le _,rfl,ag.refl b,λj _ hj=>absurd hj (Nat.not_lt_zero _)⟩
 obtain⟨k,L,rfl,S,N⟩:=hrel;by_cases hlt:k<a.length
 ·obtain⟨o,m,i,n,b⟩:=(G.out.same S.out).2.2 k hlt
  have K:v=some ⟨o,m,none⟩:=i;obtain⟨n,o,p,r,t,u,m⟩:=I.out a[k];have d:Calls prog d (#[Value.agg (g a[k]).toArray]++f) wr λc d=>c=.returned (.bool (e a[k]))/\ag wr d:=H.out a[k] (List.getElem_mem hlt) wr S.out;rw[m]at b d;have s:=b 0 _ rfl;have w:=b 1 _ rfl;have x:=b 2 _ rfl;have y:=b 3 _ rfl;have z:=b 4 _ rfl;have A:=b 5 _ rfl;simp only[Nat.add_zero]at s;have l:=Z d;clear d b m i;subst K;cases hq:e a[k]with
  |true=>
   rw[hq]at l;have HQ:=Z hq;clear hq;go_wp2_with fail
   refine l.out.mono ?_;rintro c q ⟨rfl,B⟩;have S1:=Z B;clear B s w x y z A;exact rR
  |false=>
   rw[hq]at l;have HQ:=Z hq;clear hq;go_wp2_with fail
   refine l.out.mono ?_;rintro c q ⟨rfl,B⟩;have S1:=Z B;clear B s w x y z A;exact rS
 go_wp2;go_ret;exact⟨eg (lV (λj hj=>N.out j hj af)).symm,S.out⟩
section
variable {w:ah} {g:Nat} {t:aX} {l:aP}
variable {a0 a1 a2 a3 a4 a5 a6 a7 a8 a9 eh eu a12 eM fo fS a16 a17 gP il a20 a21 a22 a23 a24:aA}
theorem ay (h:Hid (aa w g t (List.toArray (a0::l)))):ae w (ac g 0) a0:=h.out.cell 0
theorem aS (h:Hid (aa w g t (List.toArray (a0::a1::l)))):ae w (ac g 1) a1:=h.out.cell 1
theorem aZ (h:Hid (aa w g t (List.toArray (a0::a1::a2::l)))):ae w (ac g 2) a2:=h.out.cell 2
theorem bi (h:Hid (aa w g t (List.toArray (a0::a1::a2::a3::l)))):ae w (ac g 3) a3:=h.out.cell 3
theorem bl (h:Hid (aa w g t (List.toArray (a0::a1::a2::a3::a4::l)))):ae w (ac g 4) a4:=h.out.cell 4
theorem bF (h:Hid (aa w g t (List.toArray (a0::a1::a2::a3::a4::a5::l)))):ae w (ac g 5) a5:=h.out.cell 5
theorem b3 (h:Hid (aa w g t (List.toArray (a0::a1::a2::a3::a4::a5::a6::l)))):ae w (ac g 6) a6:=h.out.cell 6
theorem b7 (h:Hid (aa w g t (List.toArray (a0::a1::a2::a3::a4::a5::a6::a7::l)))):ae w (ac g 7) a7:=h.out.cell 7
theorem b4 (h:Hid (aa w g t (List.toArray (a0::a1::a2::a3::a4::a5::a6::a7::a8::l)))):ae w (ac g 8) a8:=h.out.cell 8
theorem je (h:Hid (aa w g t (List.toArray (a0::a1::a2::a3::a4::a5::a6::a7::a8::a9::l)))):ae w (ac g 9) a9:=h.out.cell 9
theorem m5 (h:Hid (aa w g t (List.toArray (a0::a1::a2::a3::a4::a5::a6::a7::a8::a9::eh::l)))):ae w (ac g 10) eh:=h.out.cell 10
theorem ov (h:Hid (aa w g t (List.toArray (a0::a1::a2::a3::a4::a5::a6::a7::a8::a9::eh::eu::l)))):ae w (ac g 11) eu:=h.out.cell 11
theorem p8 (h:Hid (aa w g t (List.toArray (a0::a1::a2::a3::a4::a5::a6::a7::a8::a9::eh::eu::a12::l)))):ae w (ac g 12) a12:=h.out.cell 12
theorem ox (h:Hid (aa w g t (List.toArray (a0::a1::a2::a3::a4::a5::a6::a7::a8::a9::eh::eu::a12::eM::l)))):ae w (ac g 13) eM:=h.out.cell 13
theorem uQ (h:Hid (aa w g t (List.toArray (a0::a1::a2::a3::a4::a5::a6::a7::a8::a9::eh::eu::a12::eM::fo::l)))):ae w (ac g 14) fo:=h.out.cell 14
theorem uR (h:Hid (aa w g t (List.toArray (a0::a1::a2::a3::a4::a5::a6::a7::a8::a9::eh::eu::a12::eM::fo::fS::l)))):ae w (ac g 15) fS:=h.out.cell 15
theorem AP (h:Hid (aa w g t (List.toArray (a0::a1::a2::a3::a4::a5::a6::a7::a8::a9::eh::eu::a12::eM::fo::fS::a16::l)))):ae w (ac g 16) a16:=h.out.cell 16
theorem AQ (h:Hid (aa w g t (List.toArray (a0::a1::a2::a3::a4::a5::a6::a7::a8::a9::eh::eu::a12::eM::fo::fS::a16::a17::l)))):ae w (ac g 17) a17:=h.out.cell 17
theorem AR (h:Hid (aa w g t (List.toArray (a0::a1::a2::a3::a4::a5::a6::a7::a8::a9::eh::eu::a12::eM::fo::fS::a16::a17::gP::l)))):ae w (ac g 18) gP:=h.out.cell 18
theorem AS (h:Hid (aa w g t (List.toArray (a0::a1::a2::a3::a4::a5::a6::a7::a8::a9::eh::eu::a12::eM::fo::fS::a16::a17::gP::il::l)))):ae w (ac g 19) il:=h.out.cell 19
theorem AT (h:Hid (aa w g t (List.toArray (a0::a1::a2::a3::a4::a5::a6::a7::a8::a9::eh::eu::a12::eM::fo::fS::a16::a17::gP::il::a20::l)))):ae w (ac g 20) a20:=h.out.cell 20
theorem AU (h:Hid (aa w g t (List.toArray (a0::a1::a2::a3::a4::a5::a6::a7::a8::a9::eh::eu::a12::eM::fo::fS::a16::a17::gP::il::a20::a21::l)))):ae w (ac g 21) a21:=h.out.cell 21
theorem AV (h:Hid (aa w g t (List.toArray (a0::a1::a2::a3::a4::a5::a6::a7::a8::a9::eh::eu::a12::eM::fo::fS::a16::a17::gP::il::a20::a21::a22::l)))):ae w (ac g 22) a22:=h.out.cell 22
theorem AW (h:Hid (aa w g t (List.toArray (a0::a1::a2::a3::a4::a5::a6::a7::a8::a9::eh::eu::a12::eM::fo::fS::a16::a17::gP::il::a20::a21::a22::a23::l)))):ae w (ac g 23) a23:=h.out.cell 23
theorem AX (h:Hid (aa w g t (List.toArray (a0::a1::a2::a3::a4::a5::a6::a7::a8::a9::eh::eu::a12::eM::fo::fS::a16::a17::gP::il::a20::a21::a22::a23::a24::l)))):ae w (ac g 24) a24:=h.out.cell 24
theorem jf (h:Hid (aa w g t (List.toArray (a0::l)))) (v:aA):aa (w.setCell (ac g 0) v) g t (List.toArray (v::l)):=h.out.aR 0 v
theorem AY (h:Hid (aa w g t (List.toArray (a0::a1::l)))) (v:aA):aa (w.setCell (ac g 1) v) g t (List.toArray (a0::v::l)):=h.out.aR 1 v
theorem uS (h:Hid (aa w g t (List.toArray (a0::a1::a2::l)))) (v:aA):aa (w.setCell (ac g 2) v) g t (List.toArray (a0::a1::v::l)):=h.out.aR 2 v
theorem p9 (h:Hid (aa w g t (List.toArray (a0::a1::a2::a3::l)))) (a:aA):aa (w.setCell (ac g 3) a) g t (List.toArray (a0::a1::a2::a::l)):=h.out.aR 3 a
theorem lX (h:Hid (aa w g t (List.toArray (a0::a1::a2::a3::a4::l)))) (a:aA):aa (w.setCell (ac g 4) a) g t (List.toArray (a0::a1::a2::a3::a::l)):=h.out.aR 4 a
theorem jU (h:Hid (aa w g t (List.toArray (a0::a1::a2::a3::a4::a5::l)))) (v:aA):aa (w.setCell (ac g 5) v) g t (List.toArray (a0::a1::a2::a3::a4::v::l)):=h.out.aR 5 v
theorem uT (h:Hid (aa w g t (List.toArray (a0::a1::a2::a3::a4::a5::a6::l)))) (a:aA):aa (w.setCell (ac g 6) a) g t (List.toArray (a0::a1::a2::a3::a4::a5::a::l)):=h.out.aR 6 a
theorem gE (h:Hid (aa w g t (List.toArray (a0::a1::a2::a3::a4::a5::a6::a7::l)))) (a:aA):aa (w.setCell (ac g 7) a) g t (List.toArray (a0::a1::a2::a3::a4::a5::a6::a::l)):=h.out.aR 7 a
theorem rT (h:Hid (aa w g t (List.toArray (a0::a1::a2::a3::a4::a5::a6::a7::a8::l)))) (v:aA):aa (w.setCell (ac g 8) v) g t (List.toArray (a0::a1::a2::a3::a4::a5::a6::a7::v::l)):=h.out.aR 8 v
theorem AZ (h:Hid (aa w g t (List.toArray (a0::a1::a2::a3::a4::a5::a6::a7::a8::a9::l)))) (a:aA):aa (w.setCell (ac g 9) a) g t (List.toArray (a0::a1::a2::a3::a4::a5::a6::a7::a8::a::l)):=h.out.aR 9 a
theorem A0 (h:Hid (aa w g t (List.toArray (a0::a1::a2::a3::a4::a5::a6::a7::a8::a9::eh::eu::a12::eM::fo::l)))) (a:aA):aa (w.setCell (ac g 14) a) g t (List.toArray (a0::a1::a2::a3::a4::a5::a6::a7::a8::a9::eh::eu::a12::eM::a::l)):=h.out.aR 14 a
theorem A1 (h:Hid (aa w g t (List.toArray (a0::a1::a2::a3::a4::a5::a6::a7::a8::a9::eh::eu::a12::eM::fo::fS::a16::l)))) (a:aA):aa (w.setCell (ac g 16) a) g t (List.toArray (a0::a1::a2::a3::a4::a5::a6::a7::a8::a9::eh::eu::a12::eM::fo::fS::a::l)):=h.out.aR 16 a
theorem A3 (h:Hid (aa w g t (List.toArray (a0::a1::a2::a3::a4::a5::a6::a7::a8::a9::eh::eu::a12::eM::fo::fS::a16::a17::gP::il::l)))) (a:aA):aa (w.setCell (ac g 19) a) g t (List.toArray (a0::a1::a2::a3::a4::a5::a6::a7::a8::a9::eh::eu::a12::eM::fo::fS::a16::a17::gP::a::l)):=h.out.aR 19 a
theorem A4 (h:Hid (aa w g t (List.toArray (a0::a1::a2::a3::a4::a5::a6::a7::a8::a9::eh::eu::a12::eM::fo::fS::a16::a17::gP::il::a20::a21::a22::l)))) (a:aA):aa (w.setCell (ac g 22) a) g t (List.toArray (a0::a1::a2::a3::a4::a5::a6::a7::a8::a9::eh::eu::a12::eM::fo::fS::a16::a17::gP::il::a20::a21::a::l)):=h.out.aR 22 a
end
theorem bj {w:ah} {a:Obj} {p:Addr} {v:Option Value} (h:w.cell? p=v) (b:p.block<w.heap.size:=by first|(dsimp only;omega)|(simp[eo];omega)):(w.alloc a).cell? p=v:=(World.cell?_alloc_lt w a p b).trans h
theorem av {a:Sort _} (x:a):∃y,y=x:=⟨x,rfl⟩
theorem aN {b:Prop} (h:b:=by(intro er a wx HX KX;(try go_wp2);refine⟨rfl,?_⟩;rw[HX.out];exact⟨KX.out,rfl⟩)):b:=h
theorem fb {b:Prop} (K:b) {P:Prop} (h:b->P:=by(intro K er a wx HX KX;(try go_wp2);refine⟨rfl,?_⟩;rw[HX.out];first|exact⟨rfl,(K.trans KX.out).same⟩|exact⟨K.trans KX.out,rfl⟩)):P:=h K
def aJ (s:ax):Prop:=s.size<=9223372036854775807
def cq (s:ax):List Value:=[.string s]
def bU (n:Int):List Value:=[.int .i64 n]
def b5 (w:ah) (h:Hd) (l:bk):Prop:=aE w 1 h cq l/\∀a∈l,aJ a
def cY (w:ah) (h:Hd) (l:List Int):Prop:=aE w 1 h bU l
def rU (w:ah) (h:Hd) (a:List V):Prop:=aE w 3 h V.cells a/\∀b∈a,aJ b.s
structure RA where
 at_:At
 h:Hd
def RA.cells (r:RA):List Value:=[.string r.at_.name,.int .i64 r.at_.kind,r.h.val,.int .i64 r.at_.dflt.k,.int .i64 r.at_.dflt.n,.string r.at_.dflt.s]
def fp (w:ah) (h:Hd) (b:List RA):Prop:=aE w 6 h RA.cells b/\∀a∈b,b5 w a.h a.at_.was/\aJ a.at_.name/\aJ a.at_.dflt.s
structure RT where
 name:ByteArray
 ha:Hd
 ra:List RA
 hk:Hd
 key:List Int
def RT.cells (t:RT):List Value:=[.string t.name,t.ha.val,t.hk.val]
def RT.val (t:RT):Value:=.agg #[t.name,t.ha.val,t.hk.val]
def RT.tb (t:RT):Tb:=⟨t.name,t.ra.map RA.at_,t.key⟩
def fq (w:ah) (a:RT):Prop:=fp w a.ha a.ra/\cY w a.hk a.key/\aJ a.name
def bI (w:ah) (h:Hd) (a:List RT):Prop:=aE w 3 h RT.cells a/\∀b∈a,fq w b
section
variable {w w':ah} {h:Hd}
theorem b5.same {l:bk} (a:b5 w h l) (s:ag w w'):b5 w' h l:=⟨a.1.same s,a.2⟩
theorem cY.same {l:List Int} (a:cY w h l) (s:ag w w'):cY w' h l:=aE.same a s
theorem rU.same {l:List V} (a:rU w h l) (s:ag w w'):rU w' h l:=⟨a.1.same s,a.2⟩
theorem fp.same {l:List RA} (a:fp w h l) (s:ag w w'):fp w' h l:=⟨a.1.same s,λb c=>⟨(a.2 b c).1.same s,(a.2 b c).2⟩⟩
theorem fq.same {t:RT} (a:fq w t) (s:ag w w'):fq w' t:=⟨a.1.same s,a.2.1.same s,a.2.2⟩
theorem bI.same {l:List RT} (a:bI w h l) (s:ag w w'):bI w' h l:=⟨a.1.same s,λb c=>(a.2 b c).same s⟩
theorem aE.one {α:Type} {enc:α->List Value} {xs:List α} (l:aE w 1 h enc xs) (c:Nat) (e:c<xs.length) {v:aA} (f:enc xs[c]=[v]):∃b d,h.a=some ⟨b,d,none⟩/\b<w.heap.size/\ae w (ac b (d+c)) v:=by
 obtain⟨b,d,c,e,g⟩:=l.2.2 c e;have:=g 0 v (by rw[f];rfl);simp only[Nat.mul_one,Nat.add_zero]at this;exact⟨b,d,c,e,this⟩
end
theorem A5 {w:ah} {h:Hd} {b:bk} (a:aE w 1 h cq b):cA w w.heap.size 1 h.a h.n (b.map .string):=by
 refine⟨by simp[a.1],λg=>?_⟩;have i:0<b.length:=by rw[a.1];exact g
 obtain⟨g,i,f,j,_⟩:=a.one 0 i rfl;refine⟨⟨g,i,none⟩,f,j,λe k c=>?_⟩;rw[List.getElem?_map]at c;cases hj:b[e]? with
 |none=>rw[hj]at c;cases c
 |some o=>
  rw[hj]at c;obtain⟨g,l⟩:=List.getElem?_eq_some_iff.1 hj;obtain⟨g,i,d,_,m⟩:=a.one e g rfl;rw[f]at d;injection d with d
  injection d with e1 e2
  subst e1 e2;have:k=.string b[e]:=by rw[l];simpa using c.symm
  rw[this,<-m];unfold Addr.add;split<;>simp_all
theorem jV (a b:ax):(a.toList==b.toList)=decide (a=b):=by
 rw[ByteArray.toList_eq,ByteArray.toList_eq,Bool.eq_iff_iff,beq_iff_eq,decide_eq_true_eq];exact⟨λh=>oc h,λh=>by rw[h]⟩
theorem A6 (h:Hd) (a:bk) (b:ax) (w:ah) (d:b5 w h a):
 Calls prog 181 #[h.val,b] w λe w'=>e=.returned (J (co (λc=>decide (c=b)) a))/\w=w':=by
 obtain⟨f,g,i⟩:=h;show Calls prog 181 #[O f g i,b] w _;have l:=d.1.1;have e:=d.1.2.1;subst l;have m:=Z d.1;clear d;go_enter func181,ntmps181
 go_wp2;go_loop [8] (λd=>∃k:Nat,k<=a.length/\d=.int .i64 k/\Hid (∀j (hj:j<a.length),j<k->decide (a[j]=b)=false)) (λd=>a.length-(intOf d).toNat)
 case atStart=>exact⟨0,Nat.zero_le _,rfl,λj _ hj=>absurd hj (Nat.not_lt_zero _)⟩
 obtain⟨k,q,rfl,N⟩:=hrel;by_cases hlt:k<a.length
 ·obtain⟨e,f,d,g,n⟩:=m.out.one k hlt (v:=.string a[k]) rfl
  have o:=d;clear d;subst o;obtain⟨c,a⟩:=av (a[k]);rw[<-a]at n;have HY:=Z a;clear a;by_cases hq:c=b
  ·have a:(b.toList==c.toList)=true:=by rw[jV];simp[hq]
   exact uU
  have a:(b.toList==c.toList)=false:=by rw[jV];simp;exact λh=>hq h.symm
  have HQ:=Z hq;clear hq;go_wp2;go_round
  case rel=>exact⟨k+1,by omega,by go_num,p7 (p:=λc=>decide (c=b)) hlt (by rw[<-HY.out];exact decide_eq_false HQ.out) N.out⟩
  simp[intOf];omega
 go_wp2;go_ret;exact⟨eg (lV (λj hj=>N j hj af)).symm,rfl⟩
theorem oy {d:Type} (b:d->Bool) (a:List d):a.any b=decide (0<=co b a):=by
 rcases m4 b a with⟨c,e⟩|⟨f,g,c,i,_⟩
 ·rw[c]
  simp only[List.any_eq_false,show decide ((0:Int)<= -1)=false from rfl];intro b j;obtain⟨k,l,rfl⟩:=List.mem_iff_getElem.1 j;simp[e k l]
 rw[c,decide_eq_true af,List.any_eq_true];exact⟨a[f],List.getElem_mem g,i⟩
theorem rV (h:Hd) (l:bk) (a:ax) (w:ah) (e:b5 w h l):
 Calls prog 105 #[h.val,a] w λc w'=>c=.returned (.bool (l.any λb=>decide (b=a)))/\w=w':=by
 have d:=Z (A6 h l a w e);have f:=Z (oy (λb=>decide (b=a)) l);obtain⟨k,b⟩:=av (co (λb=>decide (b=a)) l);rw[<-b]at d f;clear b e;obtain⟨g,i,j⟩:=h;have m:Hid (Calls prog 181 #[O g i j,a] w λc w'=>c=.returned k/\w=w'):=d;clear d;show Calls prog 105 #[O g i j,a] w _;go_enter func105,ntmps105
 go_wp2_with (go_at_call 181;refine m.out.mono ?_;rintro c w' ⟨rfl,rfl⟩)
 go_ret;exact⟨cj f.symm,rfl⟩
theorem A7 (h:Hd) (a:List Int) (b:Int) (w:ah) (d:cY w h a):
 Calls prog 265 #[h.val,b] w λg w'=>g=.returned (J (co (λc=>decide (c=b)) a))/\w=w':=by
 obtain⟨e,i,f⟩:=h;show Calls prog 265 #[O e i f,b] w _;have l:=d.1;have g:=d.2.1;subst l;have m:=Z (show aE w 1 ⟨e,a.length,f⟩ bU a from d);clear d;go_enter func265,ntmps265
 go_wp2;go_loop [8] (λd=>∃k:Nat,k<=a.length/\d=.int .i64 k/\Hid (∀j (hj:j<a.length),j<k->decide (a[j]=b)=false)) (λd=>a.length-(intOf d).toNat)
 case atStart=>exact⟨0,Nat.zero_le _,rfl,λj _ hj=>absurd hj (Nat.not_lt_zero _)⟩
 obtain⟨k,q,rfl,N⟩:=hrel;by_cases hlt:k<a.length
 ·obtain⟨e,f,d,g,n⟩:=m.out.one k hlt (v:=.int .i64 a[k]) rfl
  have o:=d;clear d;subst o;obtain⟨c,a⟩:=av (a[k]);rw[<-a]at n;have HY:=Z a;clear a;by_cases hq:c=b
  ·have a:(b==c)=true:=by simp[hq]
   exact uU
  have a:(b==c)=false:=by simp;exact λh=>hq h.symm
  have HQ:=Z hq;clear hq;go_wp2;go_round
  case rel=>exact⟨k+1,by omega,by go_num,p7 (p:=λc=>decide (c=b)) hlt (by rw[<-HY.out];exact decide_eq_false HQ.out) N.out⟩
  simp[intOf];omega
 go_wp2;go_ret;exact⟨eg (lV (λj hj=>N j hj af)).symm,rfl⟩
theorem qa (h:Hd) (l:List Int) (a:Int) (w:ah) (e:cY w h l):
 Calls prog 188 #[h.val,a] w λc w'=>c=.returned (.bool (l.any λb=>decide (b=a)))/\w=w':=by
 have d:=Z (A7 h l a w e);have f:=Z (oy (λb=>decide (b=a)) l);obtain⟨k,b⟩:=av (co (λb=>decide (b=a)) l);rw[<-b]at d f;clear b e;obtain⟨g,i,j⟩:=h;have m:Hid (Calls prog 265 #[O g i j,a] w λc w'=>c=.returned k/\w=w'):=d;clear d;show Calls prog 188 #[O g i j,a] w _;go_enter func188,ntmps188
 go_wp2_with (go_at_call 265;refine m.out.mono ?_;rintro c w' ⟨rfl,rfl⟩)
 go_ret;exact⟨cj f.symm,rfl⟩
theorem qc {a b:Type} (c:a->b) (d:b->Bool) (b:List a):co d (b.map c)=co (λa=>d (c a)) b:=by
 unfold co;rw[List.findIdx?_map];rfl
structure aq where
 k:Int
 t:ByteArray
 n:Int
 at_:Int
 deriving DecidableEq
inductive PO (α:Type) where
 |ok (a:α) (ts:List aq)
 |bad (e at_:Int)
def PO.bind {b c:Type} (d:PO b) (f:b->List aq->PO c):PO c:=
 match d with
 |.ok a ts=>f a ts
 |.bad e a=>.bad e a
def e0:ByteArray:=⟨#[]⟩
structure cZ where
 name:ByteArray
 k:Int
 d:V
structure ct where
 attr:ByteArray
 meas:Int
 jW:Int
 num:Int
 den:Int
 gives:Int
 takes:Int
structure cF where
 var:ByteArray
 attr:ByteArray
 c:Bool
 v:V
structure bm where
 l:cF
 op:Int
 r:cF
 add:Int
structure da where
 name:ByteArray
 v:V
structure Vr where
 name:ByteArray
 table:ByteArray
inductive Ex where
 |mk (kind:Int) (table:ax) (kids:List Ex) (conds:List bm) (names:bk) (attr cU:ax) (agg at_:Int)
def Ex.zero:Ex:=.mk 0 e0 [] [] [] e0 e0 0 0
structure aB where
 kind:Int
 name:ByteArray
 at_:Int
 table:ByteArray
 attr:ByteArray
 cQ:List cZ
 names:List ByteArray
 bh:Int
 n:Int
 m:Int
 terms:List ct
 other:ByteArray
 k6:ByteArray
 fixed:List da
 vars:List Vr
 conds:List bm
 expr:Ex
def fI {α:Type} (a:Int) (b:List aq) (c:Int):PO α:=
 match b with
 |[]=>.bad 7 a
 |t::_=>.bad c t.at_
def gn (a:aq) (b:ax):Bool:=decide (a.t=b)&&(decide (a.k=1)||decide (a.k=4))
def eF:List aq->List ByteArray->Bool
 |_,[]=>true
 |[],_::_=>false
 |t::ts,s::l=>gn t s&&eF ts l
def bB (ts:List aq) (s:ax):Bool:=eF ts [s]
def aW (a:Int):List aq->List ByteArray->PO Unit
 |ts,[]=>.ok () ts
 |ts,s::l=>if bB ts s then aW a ts.tail l else fI a ts 4
def eO (a:Int) (b:List aq) (c:Int):PO aq:=
 match b with
 |[]=>.bad 7 a
 |t::ts'=>if t.k=c then .ok t ts' else .bad 4 t.at_
def bW (b:Int) (a:List aq):PO ByteArray:=(eO b a 1).bind λb a=>.ok b.t a
def cu (b:Int) (a:List aq):PO Int:=(eO b a 2).bind λb a=>.ok b.n a
def gQ (a:List aq):Int->List ByteArray->Option Int
 |_,[]=>none
 |k,s::l=>if bB a s then some k else gQ a (k+1) l
def dZ (b:Int) (a:List aq) (l:bk):PO Int:=
 match gQ a 1 l with
 |some c=>.ok c a.tail
 |none=>fI b a 4
def dp {a:Type} (b:ax) (c:List aq->PO a):Nat->List a->List aq->PO (List a)
 |0,l,ts=>.ok l ts
 |f+1,l,ts=>if bB ts b then(c ts.tail).bind λa d=>dp b c f (l++[a]) d else .ok l ts
def dO {a:Type} (c:ax) (b:List aq->PO a) (ts:List aq):PO (List a):=
 (b ts).bind λd a=>dp c b (a.length+1) [d] a
def io (a:Int) (b:List aq):PO (List ByteArray):=dO ⟨#[44]⟩ (bW a) b
def go (d:Int) (b:List aq):PO (Option V):=
 match b with
 |[]=>.ok none []
 |a::ts'=>
  if a.k=3 then .ok (some ⟨1,0,a.t⟩) ts'
  else if a.k=2 then .ok (some ⟨2,a.n,e0⟩) ts'
  else if gn a ⟨#[45]⟩then(cu d ts').bind λc b=>.ok (some ⟨2,-c,e0⟩) b
  else if gn a ⟨#[64]⟩then(cu d ts').bind λc b=>.ok (some ⟨3,c,e0⟩) b
  else if gn a ⟨#[116,114,117,101]⟩then .ok (some ⟨4,1,e0⟩) ts'
  else if gn a ⟨#[102,97,108,115,101]⟩then .ok (some ⟨4,0,e0⟩) ts'
  else if gn a ⟨#[110,117,108,108]⟩then .ok (some ⟨0,0,e0⟩) ts'
  else .ok none (a::ts')
def jX (c:Int) (a:List aq):PO V:=
 (go c a).bind λb a=>match b with
  |some b=>.ok b a
  |none=>fI c a 4
def jY (b:Int) (a:List aq):PO cF:=
 (go b a).bind λc a=>match c with
  |some c=>.ok ⟨e0,e0,true,c⟩ a
  |none=>(bW b a).bind λc a=>if bB a ⟨#[46]⟩then(bW b a.tail).bind λb a=>.ok ⟨c,b,false,⟨0,0,e0⟩⟩ a else .ok ⟨e0,c,false,⟨0,0,e0⟩⟩ a
def m6 (b:Int) (a:List aq):PO Int:=
 if bB a ⟨#[43]⟩then cu b a.tail else if bB a ⟨#[45]⟩then(cu b a.tail).bind λb a=>.ok (-b) a else .ok 0 a
def k7 (b:Int) (a:List aq):PO bm:=
 (jY b a).bind λc a=>(dZ b a [⟨#[61]⟩,⟨#[33,61]⟩,⟨#[60]⟩,⟨#[60,61]⟩]).bind λd a=>(jY b a).bind λe a=>(m6 b a).bind λb a=>.ok ⟨c,d,e,b⟩ a
def jZ (b:Int) (a:List aq):PO (List bm):=
 (aW b a [⟨#[119,104,101,114,101]⟩]).bind λ_ a=>dO ⟨#[97,110,100]⟩ (k7 b) a
def gp:List ByteArray:=[⟨#[115,101,108,101,99,116]⟩,⟨#[112,114,111,106,101,99,116]⟩,⟨#[106,111,105,110]⟩,⟨#[117,110,105,111,110]⟩,⟨#[109,105,110,117,115]⟩,⟨#[114,101,110,97,109,101]⟩,⟨#[103,114,111,117,112]⟩]
def iq (a:List aq):Nat->List ByteArray->Option Nat
 |_,[]=>none
 |k,s::l=>if eF a [s,⟨#[40]⟩]then some k else iq a (k+1) l
structure dq where
 conds:List bm
 names:List ByteArray
 attr:ByteArray
 cU:ByteArray
 agg:Int
def dq.zero:dq:=⟨[],[],e0,e0,0⟩
def lY (b:Int) (c:ax) (a:List aq):PO (List ByteArray):=if bB a c then .ok [] a else io b a
def eG (b:Int) (i:Nat) (a:List aq):PO dq:=
 if i=0 then(jZ b a).bind λc a=>.ok {dq.zero with conds:=c} a
 else if i=1 then(aW b a [⟨#[111,110]⟩]).bind λ_ a=>(lY b ⟨#[41]⟩ a).bind λc a=>.ok {dq.zero with names:=c} a
 else if i=5 then
  (aW b a [⟨#[44]⟩]).bind λ_ a=>(bW b a).bind λd a=>(aW b a [⟨#[97,115]⟩]).bind λ_ a=>(bW b a).bind λe a=>.ok {dq.zero with attr:=d,cU:=e} a
 else if i=6 then
  (aW b a [⟨#[111,110]⟩]).bind λ_ a=>(lY b ⟨#[119,105,116,104]⟩ a).bind λc a=>(aW b a [⟨#[119,105,116,104]⟩]).bind λ_ a=>
   (dZ b a [⟨#[99,111,117,110,116]⟩,⟨#[115,117,109]⟩,⟨#[108,101,97,115,116]⟩,⟨#[103,114,101,97,116,101,115,116]⟩]).bind λd a=>
    (if d=1 then .ok e0 a else bW b a).bind λe a=>(aW b a [⟨#[97,115]⟩]).bind λ_ a=>(bW b a).bind λb a=>
     .ok {dq.zero with names:=c,attr:=e,cU:=b,agg:=d} a
 else .ok dq.zero a
def m7 (i:Nat):Bool:=decide (i=2)||(decide (i=3)||decide (i=4))
def db (a:List aq):Int:=
 match a with
 |[]=>0
 |t::_=>t.at_
def ev (a:Int):Nat->List aq->PO Ex
 |0,ts=>fI a ts 3
 |f+1,ts=>
  match iq ts 0 gp with
  |none=>(bW a ts).bind λb c=>.ok (.mk 1 b [] [] [] e0 e0 0 (db ts)) c
  |some c=>
   (ev a f (ts.drop 2)).bind λb d=>
    (if m7 c then(aW a d [⟨#[44]⟩]).bind λ_ e=>(ev a f e).bind λe g=>.ok [b,e] g else .ok [b] d).bind λd b=>
     (eG a c b).bind λb e=>(aW a e [⟨#[41]⟩]).bind λ_ a=>
      .ok (.mk (c+2) e0 d b.conds b.names b.attr b.cU b.agg (db ts)) a
def k8 (b:Int) (a:List aq):PO cZ:=
 (bW b a).bind λc a=>(dZ b a [⟨#[116,101,120,116]⟩,⟨#[110,117,109,98,101,114]⟩,⟨#[100,97,121]⟩,⟨#[102,108,97,103]⟩]).bind λd a=>
  if bB a ⟨#[61]⟩then(jX b a.tail).bind λb a=>.ok ⟨c,d,b⟩ a else .ok ⟨c,d,⟨0,0,e0⟩⟩ a
def lZ (b:Int) (c:ax) (d e f i g:Int) (a:List aq):PO ct:=
 (if bB a ⟨#[116,97,107,101,115]⟩then cu b a.tail else .ok 0 a).bind λj a=>(aW b a [⟨#[59]⟩]).bind λ_ a=>.ok ⟨c,d,e,f,i,g,j⟩ a
def rW (b:Int) (c:ax) (d e f:Int) (a:List aq):PO ct:=
 (if bB a ⟨#[47]⟩then cu b a.tail else .ok 1 a).bind λg a=>(aW b a [⟨#[103,105,118,101,115]⟩]).bind λ_ a=>(cu b a).bind λi a=>lZ b c d e f g i a
def m8 (b:Int) (c:ax) (d e:Int) (a:List aq):PO ct:=
 (aW b a [⟨#[108,101,97,115,116]⟩]).bind λ_ a=>(cu b a).bind λf a=>rW b c d e f a
def jg (b:Int) (a:List aq):PO ct:=
 (bW b a).bind λd a=>(dZ b a [⟨#[101,113,117,97,108]⟩,⟨#[101,100,105,116]⟩,⟨#[106,97,99,99,97,114,100]⟩,⟨#[106,97,114,111]⟩,⟨#[110,101,97,114]⟩]).bind λc a=>(if c=5 then cu b a else .ok 0 a).bind λe a=>m8 b d c e a
def gR (b:Int) (a:List aq):PO (ByteArray×ByteArray):=
 (bW b a).bind λc a=>(aW b a [⟨#[46]⟩]).bind λ_ a=>(bW b a).bind λb a=>.ok (c,b) a
def k9 (b:Int) (a:List aq):PO da:=
 (bW b a).bind λc a=>(aW b a [⟨#[61]⟩]).bind λ_ a=>(jX b a).bind λb a=>.ok ⟨c,b⟩ a
def la (b:Int) (a:List aq):PO Vr:=
 (bW b a).bind λc a=>(bW b a).bind λb a=>.ok ⟨b,c⟩ a
def aB.zero:aB:=⟨0,e0,0,e0,e0,[],[],0,0,0,[],e0,e0,[],[],[],Ex.zero⟩
def oz (b:Int) (c:aB) (a:List aq):PO aB:=
 (aW b a [⟨#[40]⟩]).bind λ_ a=>(dO ⟨#[44]⟩ (k8 b) a).bind λd a=>(aW b a [⟨#[41]⟩,⟨#[107,101,121]⟩]).bind λ_ a=>(io b a).bind λb a=>.ok {c with cQ:=d,names:=b} a
def oA (b:Int) (c:aB) (a:List aq):PO aB:=
 (aW b a [⟨#[116,114,117,115,116]⟩]).bind λ_ a=>(cu b a).bind λb a=>.ok {c with n:=b} a
def oB (b:Int) (e:aB) (a:List aq):PO aB:=
 (aW b a [⟨#[111,110]⟩]).bind λ_ a=>(gR b a).bind λc a=>(aW b a [⟨#[98,121]⟩]).bind λ_ a=>(dZ b a [⟨#[101,120,97,99,116]⟩,⟨#[116,111,107,101,110]⟩,⟨#[112,114,101,102,105,120]⟩,⟨#[115,107,101,116,99,104]⟩]).bind λd a=>
  if d=3 then(cu b a).bind λf a=>.ok {e with table:=c.1,attr:=c.2,bh:=d,n:=f} a
  else if d=4 then(cu b a).bind λf a=>(cu b a).bind λb a=>.ok {e with table:=c.1,attr:=c.2,bh:=d,n:=f,m:=b} a
  else .ok {e with table:=c.1,attr:=c.2,bh:=d} a
def ir (a:Int):Nat->List ct->List aq->PO (List ct)
 |0,l,ts=>.ok l ts
 |f+1,l,ts=>if bB ts ⟨#[125]⟩then .ok l ts else(jg a ts).bind λb c=>ir a f (l++[b]) c
def oC (b:Int) (c:aB) (a:List aq):PO aB:=
 (aW b a [⟨#[111,110]⟩]).bind λ_ a=>(bW b a).bind λd a=>(aW b a [⟨#[97,116]⟩]).bind λ_ a=>(cu b a).bind λe a=>(aW b a [⟨#[123]⟩]).bind λ_ a=>
  (ir b (a.length+1) [] a).bind λb a=>.ok {c with table:=d,n:=e,terms:=b} a
def oD (b:Int) (d:aB) (a:List aq):PO aB:=
 (gR b a).bind λc a=>(aW b a [⟨#[98,121]⟩]).bind λ_ a=>(dZ b a [⟨#[108,97,116,101,115,116]⟩,⟨#[109,111,115,116]⟩,⟨#[116,114,117,115,116,101,100]⟩,⟨#[108,111,110,103,101,115,116]⟩,⟨#[108,101,97,115,116]⟩,⟨#[103,114,101,97,116,101,115,116]⟩]).bind λb a=>.ok {d with table:=c.1,attr:=c.2,bh:=b} a
def iu (b:Int) (c:aB) (a:List aq):PO aB:=
 (aW b a [⟨#[111,110]⟩]).bind λ_ a=>(bW b a).bind λd a=>(aW b a [⟨#[40]⟩]).bind λ_ a=>(io b a).bind λe a=>(aW b a [⟨#[41]⟩]).bind λ_ a=>.ok {c with table:=d,names:=e} a
def oE (b:Int) (c:aB) (a:List aq):PO aB:=
 (iu b c a).bind λc a=>(aW b a [⟨#[116,111]⟩]).bind λ_ a=>(bW b a).bind λd a=>
  if bB a ⟨#[119,104,101,114,101]⟩then(dO ⟨#[44]⟩ (k9 b) a.tail).bind λb a=>.ok {c with attr:=d,fixed:=b} a else .ok {c with attr:=d} a
def oF (b:Int) (d:aB) (a:List aq):PO aB:=
 (gR b a).bind λc a=>(aW b a [⟨#[105,110]⟩]).bind λ_ a=>(gR b a).bind λb a=>.ok {d with table:=c.1,attr:=c.2,other:=b.1,k6:=b.2} a
def oG (b:Int) (c:aB) (a:List aq):PO aB:=
 (dO ⟨#[44]⟩ (la b) a).bind λd a=>(jZ b a).bind λb a=>.ok {c with vars:=d,conds:=b} a
def oH (b:Int) (c:aB) (a:List aq):PO aB:=
 (aW b a [⟨#[61]⟩]).bind λ_ a=>(ev b 12 a).bind λb a=>.ok {c with expr:=b} a
def fJ:List ByteArray:=[⟨#[116,97,98,108,101]⟩,⟨#[115,111,117,114,99,101]⟩,⟨#[98,108,111,99,107]⟩,⟨#[109,97,116,99,104]⟩,⟨#[107,101,101,112]⟩,⟨#[117,110,105,113,117,101]⟩,⟨#[100,101,112,101,110,100]⟩,⟨#[105,110,99,108,117,100,101]⟩,⟨#[100,101,110,121]⟩,⟨#[113,117,101,114,121]⟩]
def eH (b:Int) (a:aB) (c:List aq):PO aB:=
 if a.kind=1 then oz b a c else if a.kind=2 then oA b a c else if a.kind=3 then oB b a c else if a.kind=4 then oC b a c else if a.kind=5 then oD b a c
 else if a.kind=6 then iu b a c else if a.kind=7 then oE b a c else if a.kind=8 then oF b a c else if a.kind=9 then oG b a c else oH b a c
def jh (b:Int) (d:List aq):PO aB:=
 (dZ b d fJ).bind λc a=>(if c=5 then .ok e0 a else bW b a).bind λe a=>
  (eH b {aB.zero with kind:=c,name:=e,at_:=db d} a).bind λd a=>(aW b a (if c=4 then[⟨#[125]⟩]else[⟨#[59]⟩])).bind λ_ a=>.ok d a
def ji (b:Int):Nat->List aB->List aq->PO (List aB)
 |0,l,ts=>.ok l ts
 |f+1,l,ts=>
  match ts with
  |[]=>.ok l []
  |a::ts'=>if l.length=200 then .bad 3 a.at_ else(jh b (a::ts')).bind λc d=>ji b f (l++[c]) d
def rX (b:Int) (a:List aq):PO (List aB):=ji b (a.length+1) [] a
end Go.Proofs.YteamkimbmdgdbaaGreatDoor

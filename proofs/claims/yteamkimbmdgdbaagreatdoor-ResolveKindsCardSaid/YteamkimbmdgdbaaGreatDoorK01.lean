import Derived.Test.YteamkimbmdgdbaaGreatDoorKM
import Derived.Test.YteamkimbmdgdbaaGreatDoorProg
set_option linter.unusedSimpArgs false
set_option linter.unusedVariables false
set_option maxHeartbeats 16000000
set_option maxRecDepth 100000
namespace Go.Proofs.YteamkimbmdgdbaaGreatDoor
open Go.RowKit
def ba (a:aw):List UInt8:=a.data.toList
theorem eJ (a:aw):(ba a).length=a.size:=by simp[ba]
def dY (a:bL):ByteArray:=⟨a.toArray⟩
theorem mi (a:bL):ba (dY a)=a:=by simp[ba,dY]
theorem sy (a:aw):dY (ba a)=a:=by simp[ba,dY]
theorem m7 {a t:aw} (h:ba a=ba t):a=t:=by rw[<-sy a,h,sy]
def ag (w w':af):Prop:=Below w.heap.size w w'
theorem ag.refl (w:af):ag w w:=Below.refl _ _
theorem ag.trans {a b c:af} (h:ag a b) (k:ag b c):ag a c:=Below.trans h (Below.mono k h.size)
theorem ag.size {a b:af} (h:ag a b):a.heap.size<=b.heap.size:=Below.size h
theorem ag.alloc {a w:af} (h:ag a w) (o:Obj):ag a (w.alloc o):=Below.alloc h h.size o
theorem ag.drew {a w:af} (h:ag a w):ag a w.drew:=Below.drew h
theorem ag.drewN {a w:af} (h:ag a w) (n:Nat):ag a (w.drewN n):=⟨h.os,h.tape,h.output,h.size,h.block⟩
theorem ag.setCell {a w:af} (h:ag a w) {p:Addr} (b:a.heap.size<=p.block) (u:ay):ag a (w.setCell p u):=Below.setCell h b u
theorem ag.cells {a b:af} (h:ag a b):∀k o,k<a.heap.size->b.cell? (ab k o)=a.cell? (ab k o):=λk o b=>Below.cell (p:=(ab k o)) h b
theorem ag.frees {a c:af} (h:ag a c):∀b o,b<a.heap.size->c.frozen? (ab b o)=a.frozen? (ab b o):=λb o c=>Below.frozen (p:=(ab b o)) h c
theorem ag.cell {a b:af} (h:ag a b) {p:Addr} (c:p.block<a.heap.size):b.cell? p=a.cell? p:=Below.cell h c
theorem xt (a:Addr) (n:Nat):(a.add n).block=a.block:=by unfold Addr.add;split<;>rfl
def cu (w:af) (B size:Nat) (A:aX) (n:Nat) (xs:bg):Prop:=
 xs.length=n*size/\(0<n->∃a,A=some a/\a.block<B/\∀b c,xs[b]?=some c->ac w (a.add b) c)
section
variable {w w':af} {B B' size n:Nat} {A:aX} {xs:bg}
theorem cu.none_:cu w B size A 0 []:=⟨by simp,λh=>absurd h ae⟩
theorem cu.at_ {k:Nat} (h:cu w B 1 A n xs) (a:k<n):∃a u,A=some a/\a.block<B/\xs[k]?=some u/\ac w (a.add k) u:=by
 obtain⟨a,c,d,e⟩:=h.2 ae;have b:k<xs.length:=by have:=h.1;omega
 exact⟨a,xs[k],c,d,List.getElem?_eq_getElem b,e k _ (List.getElem?_eq_getElem b)⟩
theorem cu.keep (h:cu w B size A n xs) (b:∀p:Addr,p.block<B->w'.cell? p=w.cell? p):cu w' B size A n xs:=
 ⟨h.1,λa=>by
  obtain⟨c,d,a,e⟩:=h.2 a;exact⟨c,d,a,λc d f=>(b _ (by rw[xt];exact a)).trans (e c d f)⟩⟩
theorem cu.more (h:cu w B size A n xs) (a:B<=B'):cu w B' size A n xs:=
 ⟨h.1,λa=>by
  obtain⟨a,b,d,c⟩:=h.2 a;exact⟨a,b,by omega,c⟩⟩
theorem cu.below (h:cu w B size A n xs) (a:Below B w w'):cu w' B size A n xs:=h.keep λ_ b=>a.cell b
theorem cu.drew (h:cu w B size A n xs):cu w.drew B size A n xs:=h
theorem cu.drewN (h:cu w B size A n xs) (a:Nat):cu (w.drewN a) B size A n xs:=h
theorem cu.alloc (h:cu w B size A n xs) (a:B<=w.heap.size) (o:Obj):cu (w.alloc o) B size A n xs:=h.keep λa b=>World.cell?_alloc_lt w o a ae
theorem cu.setCell (h:cu w B size A n xs) {p:Addr} (a:B<=p.block) (u:ay):cu (w.setCell p u) B size A n xs:=
 h.keep λa c=>World.cell?_setCell_other w p a u (λb=>by subst b;omega)
theorem cu.grown (h:cu w B size A n xs) {row:Option Nat} (a:w.grownBy w' row) (b:B<=w.heap.size) (b:∀g,row=some g->B<=g):cu w' B size A n xs:=
 h.keep λc d=>World.cell?_of_block (a.block c.block ae (λa=>by have:=b _ a.symm;omega))
theorem cu.kx {base:Nat} {a:bb} {b:Nat} (h:w.ownsRow base a size (U A n b) n xs):cu w w.heap.size size A n xs:=by
 refine⟨h.1,λa=>?_⟩;obtain⟨g,a,c,_,d⟩:=h.form a;have e:A=some ⟨g,0,none⟩:=by injection c
 subst e;exact⟨_,rfl,d,h.cells (g:=g) rfl⟩
end
theorem ag.grown {a b:af} (h:ag a b):a.grownBy b none:=⟨h.os,h.tape,h.output,h.size,λb c _=>h.block b c⟩
theorem aH {a b:af} (s:ag a b) {base:Nat} {e:bb} {size:Nat} {v:ay} {n:Nat} {xs:bg} (h:a.ownsRow base e size v n xs):b.ownsRow base e size v n xs:=
 h.kept s.grown (by cases v.ownBlock<;>simp)
theorem d5 (w:af):w.drew.heap=w.heap:=rfl
theorem iS (w:af) (a:Addr):w.drew.cell? a=w.cell? a:=rfl
theorem xu (w:af) (b:ay) (t:bb):cu (w.alloc (.cells #[b] t)) (w.heap.size+1) 1 (some ⟨w.heap.size,0,none⟩) 1 [b]:=by
 refine⟨rfl,λ_=>⟨_,rfl,Nat.lt_succ_self _,λc b a=>?_⟩⟩;match c,a with
 |0,a=>simp at a;subst a;simp[Addr.add]
 |c+1,a=>simp at a
theorem m8 (w:af) (a:Obj):w.heap.size<=(w.alloc a).drew.heap.size:=by rw[d5];simp
open Go.Sort in
theorem ag.reg (w:af) (a:Nat) (b:Array Obj):ag w (grow (redrawn w a) b):=below_regrown w a b
open Go.Sort in
theorem gX {P:Program} {e:FuncId} {f:aO} {w:af} {v:ay} (h:∀a,ag w a->Calls P e f a λb w'=>b=.returned v/\ag a w'):
 ∀a c,Calls P e f (grow (redrawn w a) c) λb e=>b=.returned v/\∃p:Regrown,e=grow (redrawn w p.d) p.os:=λa c=>Calls.regrown_of (h _ (ag.reg w a c))
open Go.Sort in
theorem bM {w:af} {c:Addr} {v:ay} (h:ac w c v):∀a b,(grow (redrawn w a) b).cell? c=some v:=λa b=>cell_regrown h a b
structure Hd where
 a:Option Addr
 n:Nat
 c:Nat
def Hd.val (h:Hd):Value:=.slice h.a h.n h.c
def aF {b:Type} (w:af) (m:Nat) (h:Hd) (enc:b->List Value) (xs:List b):Prop:=
 xs.length=h.n/\h.n<=9223372036854775807/\∀b (c:b<xs.length),∃c d,h.a=some ⟨c,d,none⟩/\c<w.heap.size/\∀e f,(enc xs[b])[e]?=some f->ac w (ab c (d+b*m+e)) f
theorem aF.same {α:Type} {w w':af} {m:Nat} {h:Hd} {enc:α->List Value} {xs:List α} (l:aF w m h enc xs) (s:ag w w'):aF w' m h enc xs:=
 ⟨l.1,l.2.1,λa b=>by
  obtain⟨a,c,d,b,e⟩:=l.2.2 a b;exact⟨a,c,d,aT b s.size,λc d f=>(s.cell (p:=⟨a,_,none⟩) b).trans (e c d f)⟩⟩
theorem aF.len {a:Type} {w:af} {m:Nat} {h:Hd} {enc:a->List Value} {xs:List a} (l:aF w m h enc xs):xs.length=h.n:=l.1
theorem cu.same {w w':af} {B size n:Nat} {A:aX} {xs:bg} (h:cu w B size A n xs) (a:B<=w.heap.size) (b:ag w w'):cu w' B size A n xs:=
 h.below (Below.mono b a)
def J (w:af) (g:Nat) (t:bb) (cs:aO):Prop:=w.heap[g]?=some (.cells cs t (0,0))
section
variable {w w':af} {g:Nat} {t:bb} {cs:aO}
theorem J.lt (h:J w g t cs):g<w.heap.size:=by
 rcases Nat.lt_or_ge g w.heap.size with a|b
 ·exact a
 unfold J at h;rw[Array.getElem?_eq_none b]at h;cases h
theorem J.cell (h:J w g t cs) (i:Nat):w.cell? (ab g i)=cs[i]?:=cell_of_row w g i cs t (0,0) h
theorem J.frozen (h:J w g t cs) (i:Nat):w.frozen? (ab g i)=false:=by
 unfold J at h;simp[World.frozen?,h]
theorem J.new (w:af) (t:bb) (cs:aO):J (w.alloc (.cells cs t)) w.heap.size t cs:=heap_alloc_new w _
theorem J.drew (h:J w g t cs):J w.drew g t cs:=h
theorem J.drewN (h:J w g t cs) (n:Nat):J (w.drewN n) g t cs:=h
theorem J.alloc (h:J w g t cs) (o:Obj):J (w.alloc o) g t cs:=(Below.heap_alloc w o g h.lt).trans h
theorem J.aP (h:J w g t cs) (i:Nat) (u:ay):J (w.setCell (ab g i) u) g t (cs.setIfInBounds i u):=by
 unfold J at h⊢;simp[World.setCell,Array.getElem?_modify,h]
theorem J.far (h:J w g t cs) {p:Addr} (b:g≠p.block) (a:ay):J (w.setCell p a) g t cs:=(Below.heap_setCell w p a g b).trans h
theorem J.below {B:Nat} (h:J w g t cs) (a:Below B w w') (b:g<B):J w' g t cs:=(a.block g b).trans h
theorem J.grown {row:Option Nat} (h:J w g t cs) (a:w.grownBy w' row) (b:some g≠row):J w' g t cs:=(a.block g h.lt b).trans h
theorem J.sz {b:Nat} {c:bb} {d:aO} (h:J w g t cs) (a:J w b c d) (e:t≠c):g≠b:=by
 rintro rfl;unfold J at h a;rw[h]at a;injection a with a
 injection a with _ ht
 exact e ht
theorem lm {c:Nat} {a:bb} {size n:Nat} {b:ay} {xs:bg} (h:w.ownsRow c a size b n xs) (d:J w g t cs) (e:a≠t):b.ownBlock≠some g:=by
 rcases h.2 with⟨rfl,_⟩|⟨f,j,k,rfl,_,i,_⟩
 ·simp[Value.ownBlock]
 intro b;have:f=g:=by simpa[Value.ownBlock]using b
 subst this;exact J.sz (t:=a) i d e rfl
end
section
variable {P:Program} (w:af)
theorem xw (e:Nat) (t f a:bb) (b:TypeInfo) (size:Nat) (c:P.underlying t=some (.slice a)) (d:P.info? a=some b)
 (b:ay) (n:Nat) (xs:bg) (i:w.ownsRow e a size b n xs) (a:Nat):(Builtin.append_ #[t,t] f #[b,U none 0 a]).run P w=.ok b w:=by
 rcases i.2 with⟨rfl,rfl⟩|⟨g,k,l,rfl,_,_,j,_⟩
 ·simp[Builtin.append_,run_underlying c,sizeOf,typeInfo,d,Builtin.lenOf,Builtin.firstCells]
 simp[Builtin.append_,run_underlying c,sizeOf,typeInfo,d,Builtin.lenOf,Builtin.firstCells,j,storeCells]
theorem xx (i:Nat) (t l d:bb) (e:TypeInfo) (m:ay) (size o:Nat) (u:P.underlying t=some (.slice d)) (v:P.info? d=some e) (y:e.zero=some m)
 (z:e.size=size) (C:e.bytes=o) (D:m.cells.size=size) (E:0<size)
 (b:ay) (n:Nat) (xs:bg) (p:w.ownsRow i d size b n xs)
 (B:Nat) (A:aX) (a q:Nat) (c:bg) (j:cu w B size A a c) (F:∀f∈c,f.oneCell'=true)
 (G:n+a<=maxLen) (H:(n+a)*o<=140737488355328) (I:i<=w.heap.size):
 ∃g w',(Builtin.append_ #[t,t] l #[b,U A a q]).run P w=.ok g w'/\w'.ownsRow i d size g (n+a) (xs++c)/\w.grownBy w' b.ownBlock/\
  (g.ownBlock=b.ownBlock\/g.ownBlock=some w.heap.size):=by
 rcases A with _|r
 ·have s:a=0:=by
   rcases Nat.eq_zero_or_pos a with k|k
   ·exact k
   obtain⟨r,h,_⟩:=j.2 k;cases h
  subst s;have k:c=[]:=List.eq_nil_of_length_eq_zero (by simpa using j.1);subst k;exact⟨b,w,xw w i t l d e size u v b n xs p q,by simpa using p,World.grownBy.refl w _,.inl rfl⟩
 have J:∀k f,c[k]?=some f->ac w (r.add k) f:=by
  intro k f x;rcases Nat.eq_zero_or_pos a with s|s
  ·subst s
   have K:c=[]:=List.eq_nil_of_length_eq_zero (by simpa using j.1);subst K;simp at x
  obtain⟨s,h,_,K⟩:=j.2 s;injection h with h
  subst h;exact K k f x
 obtain⟨g,w',a,b,c,_,d⟩:=run_append_own_at (P:=P) w i t l d e m size o u v y z C D E b n xs p r a q c j.1 J F G H I;exact⟨g,w',a,b,c,d⟩
theorem c7 {o:Oper} {c:Act} {g:Act->World->Prop} {k:Exit->Act->World->Prop} (s x:Operand) (t:bb)
 (l:o.op=.call {callee:=.builtin .append,args:=#[s,x],argTypes:=#[t,t]})
 (base:Nat) (b:bb) (i:TypeInfo) (e:ay) (size f:Nat) (p:P.underlying t=some (.slice b)) (q:P.info? b=some i) (r:i.zero=some e)
 (y:i.size=size) (z:i.bytes=f) (C:e.cells.size=size) (D:0<size)
 (v:ay) (n:Nat) (xs:bg) (E:c.eval s=v) (F:w.ownsRow base b size v n xs)
 (B:Nat) (A:aX) (m j:Nat) (d:bg) (G:c.eval x=.slice A m j) (H:cu w B size A m d) (I:∀u∈d,u.oneCell'=true)
 (J:n+m<=maxLen) (K:(n+m)*f<=140737488355328) (L:base<=w.heap.size)
 (h:∀a w',w'.ownsRow base b size a (n+m) (xs++d)->w.grownBy w' v.ownBlock->(a.ownBlock=v.ownBlock\/a.ownBlock=some w.heap.size)->g (c.put o.dst a) w'):o.wp P c w g k:=by
 obtain⟨a,w',b,c,d,e⟩:=xx (P:=P) w base t o.type b i e size f p q r y z C D v n xs F B A m j d H I J K L;unfold Oper.wp execOp;simp only[l,resolve,invoke,builtin,Sem.run_bind,Sem.run_pure,Result.andThen_ok,List.map_toArray,List.map_cons,List.map_nil,E,G,b];exact h a w' c d e
theorem d6 {k:Array Oper} {rest:List Oper} {d:Oper} {e:Act} {l:Exit->Act->World->Prop} (o:d.guard=none) (s x:Operand) (t:bb)
 (p:d.op=.call {callee:=.builtin .append,args:=#[s,x],argTypes:=#[t,t]})
 (base:Nat) (c:bb) (i:TypeInfo) (g:ay) (size j:Nat) (q:P.underlying t=some (.slice c)) (r:P.info? c=some i) (y:i.zero=some g)
 (z:i.size=size) (C:i.bytes=j) (D:g.cells.size=size) (E:0<size)
 (v:ay) (n:Nat) (xs:bg) (F:e.eval s=v) (G:w.ownsRow base c size v n xs)
 (B:Nat) (A:aX) (a m:Nat) (f:bg) (H:e.eval x=.slice A a m) (I:cu w B size A a f) (J:∀u∈f,u.oneCell'=true)
 (K:n+a<=maxLen) (L:(n+a)*j<=140737488355328) (M:base<=w.heap.size)
 (h:∀b w',w'.ownsRow base c size b (n+a) (xs++f)->w.grownBy w' v.ownBlock->(b.ownBlock=v.ownBlock\/b.ownBlock=some w.heap.size)->wpList P k l rest (e.put d.dst b) w'):wpList P k l (d::rest) e w:=
 wpList_plain o λ_ d=>c7 w s x t p base c i g size j q r y z C D E v n xs F G B A a m f H I J K L M λb w' a c e=>d _ _ (h b w' a c e)
theorem m9 {k:Array Oper} {o:Oper} {a:Act} {l:Act->World->Prop} {p:Exit->Act->World->Prop} {q:Prop} (r:o.guard=none) (s x:Operand) (t:bb)
 (u:o.op=.call {callee:=.builtin .append,args:=#[s,x],argTypes:=#[t,t]})
 (e:Nat) (c:bb) (d:TypeInfo) (i:ay) (size j:Nat) (y:P.underlying t=some (.slice c)) (z:P.info? c=some d) (C:d.zero=some i)
 (D:d.size=size) (E:d.bytes=j) (F:i.cells.size=size) (G:0<size)
 (v:ay) (n:Nat) (xs:bg) (H:a.eval s=v) (I:w.ownsRow e c size v n xs)
 (B:Nat) (A:aX) (b m:Nat) (f:bg) (J:a.eval x=.slice A b m) (K:cu w B size A b f) (L:∀g∈f,g.oneCell'=true)
 (M:n+b<=maxLen) (N:(n+b)*j<=140737488355328) (O:e<=w.heap.size)
 (h:∀g w',w'.ownsRow e c size g (n+b) (xs++f)->w.grownBy w' v.ownBlock->(g.ownBlock=v.ownBlock\/g.ownBlock=some w.heap.size)->l (a.put o.dst g) w'):
 if Region.wanted o (yielded k a.tmps)=true then Oper.wp P o a w l p else q:=by
 have g:Region.wanted o (yielded k a.tmps)=true:=by simp[Region.wanted,r]
 rw[if_pos g];exact c7 w s x t u e c d i size j y z C D E F G v n xs H I B A b m f J K L M N O h
end
theorem bc {a:Type} {l:List a} {i:Nat}:l.toArray[i]?=l[i]?:=ai
theorem bd {b:Type} {a:b} {l:List b} {i:Nat}:(a::l)[i+1]?=l[i]?:=List.getElem?_cons_succ
theorem be {b:Type} {a:b} {l:List b}:(a::l)[0]?=some a:=List.getElem?_cons_zero
theorem o2 {a:Type} {b:List a} {c:Nat} {d:a}:b.toArray.setIfInBounds c d=(b.set c d).toArray:=List.setIfInBounds_toArray ..
theorem o3 {a:Type} {d b:a} {c:List a}:(d::c).set 0 b=b::c:=rfl
theorem o4 {a:Type} {b c:a} {d:List a} {a:Nat}:(b::d).set (a+1) c=b::d.set a c:=rfl
theorem dZ {g:Program} {c:Region.Mode} {b:Array Oper} {f:Exit->Act->World->Prop} {S:World->Prop} {i:Nat} {d:Array Bool} {a:Act} {w:af} (e:Nat) {oi:Oper} {v:ay} (k:b[e]?=some oi)
 (l:(Region.noSelect b&&(Region.free c b d e&&(Region.ready c b d).contains e))=true) (m:∀j a w,f (.panic j) (a.put oi.dst v) w->f (.panic j) a w)
 (j:Region.wanted oi (yielded b a.tmps)=true) (n:∀w,S w->(execOp a.eval oi).run g w=.ok (.value v) w) (o:S w) (h:wpAnyH g c b f S i (d.setIfInBounds e true) (a.put oi.dst v) w):wpAnyH g c b f S (i+1) d a w:=
 have b:Region.noSelect b=true/\Region.free c b d e=true/\(Region.ready c b d).contains e=true:=by simpa only[Bool.and_eq_true]using l
 wpAnyH_take k b.1 b.2.1 b.2.2 m (Or.inl ⟨j,n⟩) o h
abbrev Rt (b:Nat) (c:aO) (w:af) (d:ay):Prop:=∀a,ag w a->Calls Tryz.prog b c a λb w'=>b=.returned d/\ag a w'
abbrev Re (b:Nat) (c:aO) (w:af) (d:ay):Prop:=∀a,ag w a->Calls Tryz.prog b c a λb w'=>b=.returned d/\a=w'
abbrev Rs (b:Nat) (c:aO) (d:ay):Prop:=∀a,Calls Tryz.prog b c a λb w'=>b=.returned d/\ag a w'
abbrev Rq (b:Nat) (c:aO) (d:ay):Prop:=∀a,Calls Tryz.prog b c a λb w'=>b=.returned d/\a=w'
section
variable {w w':af} {k:Nat} {t:bb} {a0 a1 a2 a3 a4 a5 a6 a7:ay}
theorem qB (h:J w k t #[a0,a1,a2]):k<w.heap.size/\ac w (ab k 0) a0/\ac w (ab k 1) a1/\ac w (ab k 2) a2:=⟨h.lt,h.cell 0,h.cell 1,h.cell 2⟩
end
structure V where
 k:Int
 n:Int
 s:ByteArray
def V.fields (a:V):Array Value:=#[a.k,a.n,a.s]
def V.val (v:V):Value:=.agg v.fields
def V.cells (v:V):List Value:=[.int .i64 v.k,.int .i64 v.n,.string v.s]
def V.zero:V:=⟨0,0,ByteArray.empty⟩
structure V.fine (v:V):Prop where
 k1:-9223372036854775808<=v.k
 k2:v.k<=9223372036854775807
 n1:-9223372036854775808<=v.n
 n2:v.n<=9223372036854775807
 s1:v.s.size<=9223372036854775807
def V.low (a:Int):Int:=if a=2 then -1000000000 else 0
def V.high (a:Int):Int:=if a=2 then 1000000000 else if a=3 then 73048 else if a=4 then 1 else 0
def V.ok (v:V):Bool:=
 (decide (v.k=1)||decide (v.s.size=0))&&(decide (0<=v.k)&&decide (v.k<=4))&&decide (v.s.size<=200)&&(decide (V.low v.k<=v.n)&&decide (v.n<=V.high v.k))
theorem V.ext' {a b:V} (c:a.k=b.k) (c:a.n=b.n) (c:a.s=b.s):a=b:=by cases a;cases b;simp_all
def V.same (a b:V):Bool:=decide (a.k=b.k)&&(decide (a.n=b.n)&&decide (a.s=b.s))
theorem V.same_iff {a b:V}:V.same a b=true↔a=b:=by
 constructor
 ·intro h;simp[V.same]at h;exact V.ext' h.1 h.2.1 h.2.2
 rintro rfl;simp[V.same]
theorem V.sA {a:V}:a.ok=true↔(a.k=1\/a.s.size=0)/\(0<=a.k/\a.k<=4)/\a.s.size<=200/\V.low a.k<=a.n/\a.n<=V.high a.k:=by
 simp[V.ok];constructor<;>intro h<;>simp_all
def gY (a:UInt8):Bool:=(decide (97<=(a.toNat:Int))&&decide ((a.toNat:Int)<=122))||(decide (65<=(a.toNat:Int))&&decide ((a.toNat:Int)<=90))
def sB (a:UInt8):Bool:=decide (48<=(a.toNat:Int))&&decide ((a.toNat:Int)<=57)
def gZ (a:UInt8):Bool:=gY a||(sB a||decide ((a.toNat:Int)=95))
def fK:List UInt8->Bool
 |[]=>true
 |c::l=>gY c&&l.all gZ
def bD (a:aw):Bool:=fK (ba a)&&(decide (a.size≠0)&&decide (a.size<=24))
theorem xy (a:bL) (b:UInt8):fK (a++[b])=(fK a&&(if a=[]then gY b else gZ b)):=by
 cases a with
 |nil=>simp[fK]
 |cons c a=>simp[fK,Bool.and_assoc]
theorem ne (a:aw):a.toList.isEmpty=decide (a.size=0):=by
 rw[ByteArray.toList_eq,<-eJ];show(ba a).isEmpty=_;cases ba a<;>simp
theorem fB (a:aw):a.toList=[]↔a.size=0:=by
 have:=ne a;constructor
 ·intro h;rw[h]at this;simpa using this
 intro h;rw[h]at this;simpa using this
theorem ch {a b:Bool} (h:a=b):Ending.returned (.bool a)=.returned (.bool b):=by rw[h]
theorem d0 {a:IntKind} {b c:Int} (h:b=c):Ending.returned (.int a b)=.returned (.int a c):=by rw[h]
theorem xz (a b:bL) (h:fK a=false):fK (a++b)=false:=by
 cases a with
 |nil=>simp[fK]at h
 |cons c a=>
  simp only[fK,List.cons_append,List.all_append]at h⊢;rw[<-Bool.and_assoc,h,Bool.false_and]
theorem xA (a:aw) (b:Nat) (h:b<a.size):(ba a).take (b+1)=(ba a).take b++[a[b]]:=by
 have a:b<(ba a).length:=by rw[eJ];exact h
 rw[List.take_succ_eq_append_getElem a];rfl
theorem xB (b:aw) (a:Nat) (h:a<b.size):fK ((ba b).take (a+1))=(fK ((ba b).take a)&&(if a=0 then gY b[a]else gZ b[a])):=by
 rw[xA b a h,xy];have a:((ba b).take a=[])↔a=0:=by
  rw[<-List.length_eq_zero_iff,List.length_take,eJ];omega
 simp only[a]
theorem xC (a:aw) (b:Nat) (h:fK ((ba a).take b)=false):fK (ba a)=false:=by
 rw[<-List.take_append_drop b (ba a)];exact xz _ _ h
theorem sC {a:UInt8} {b:Nat}:(if b=0 then gY a else gZ a)=true↔((97<=(a.toNat:Int)/\(a.toNat:Int)<=122)\/(65<=(a.toNat:Int)/\(a.toNat:Int)<=90)\/(0<b/\((48<=(a.toNat:Int)/\(a.toNat:Int)<=57)\/(a.toNat:Int)=95))):=by
 split<;>simp[gY,gZ,sB]<;>omega
def ky (a:Int):Bool:=decide (1<=a)&&decide (a<=4)
def hP (a:Int) (v:V):Bool:=v.ok&&(decide (v.k=0)||decide (v.k=a))
theorem ng (v:V) (a:af):Calls Tryz.prog 42 #[v.val] a λc d=>c=.returned (.bool v.ok)/\ag a d:=by
 obtain⟨b,e,f⟩:=v;show Calls Tryz.prog 42 #[.agg #[b,e,f]] a _;by_cases g:b=1
 ·subst g
  go_enter Tryz.func42,Tryz.ntmps42
  go_wp2
  all_goals
   go_ret;refine⟨ch ?_,(ag.refl _).alloc _⟩;rw[Bool.eq_iff_iff,V.sA];simp only[V.low,V.high,decide_eq_true_eq,ne]at*;first|(simp at*;omega)|omega
 go_enter Tryz.func42,Tryz.ntmps42
 go_wp2
 all_goals
  go_ret;refine⟨ch ?_,(ag.refl _).alloc _⟩;rw[Bool.eq_iff_iff,V.sA];simp only[V.low,V.high,decide_eq_true_eq,ne]at*;first|(simp at*;omega)|(simp_all;done)|(simp_all;omega)
theorem o5 (a:aw) (e:af) (g:a.size<=9223372036854775807):Calls Tryz.prog 72 #[a] e λg i=>g=.returned (.bool (bD a))/\e=i:=by
 go_enter Tryz.func72,Tryz.ntmps72
 go_wp2;go_loop [7] (λc=>∃b:Nat,b<=a.size/\c=.int .i64 b/\fK ((ba a).take b)=true) (λb=>a.size-(intOf b).toNat)
 case atStart=>exact⟨0,Nat.zero_le _,rfl,by simp[fK]⟩
 obtain⟨d,k,rfl,c⟩:=hrel;by_cases e:d<a.size
 ·have b:=xB a d e
  have e:=xC a (d+1);rw[c,Bool.true_and]at b;have f:=Z b;have j:=Z e;have g:=Z c;clear b e c;go_wp2
  all_goals
   first
    |(
     go_round
     case rel=>exact⟨d+1,by omega,by go_num,f.out.trans (sC.2 (by(try simp only[beq_iff_eq]at*);omega))⟩
     simp[intOf];omega)
    |(
     go_ret;refine⟨ch ?_,rfl⟩;rw[bD,j.out (f.out.trans (Bool.eq_false_iff.2 (λh=>by have:=sC.1 h;(try simp only[beq_eq_false_iff_ne]at*);omega)))];rfl)
 obtain rfl:d=a.size:=ae
 rw[<-eJ,List.take_length]at c;have d:=Z c;clear c;have c:bD a=(decide (a.size≠0)&&decide (a.size<=24)):=by rw[bD,d.out,Bool.true_and]
 have f:=Z c;clear c;by_cases b:a.size=0
 ·have c:=(fB a).2 b
  have c:(!a.toList.isEmpty)=false:=by rw[c];rfl
  have j:=Z b;clear b;go_wp2;go_ret;exact⟨ch (by rw[f.out,j.out];rfl),rfl⟩
 have c:¬a.toList=[]:=λh=>b ((fB a).1 h);have a:(!a.toList.isEmpty)=true:=by rw[ne];simpa using b
 have j:=Z b;clear b;go_wp2;go_ret;exact⟨ch (by rw[f.out,decide_eq_true j.out,Bool.true_and];exact decide_eq_decide.2 (by omega)),rfl⟩
theorem sD (b:Int) (v:V) (e:af):Calls Tryz.prog 73 #[b,v.val] e λg m=>g=.returned (.bool (hP b v))/\ag e m:=by
 have i:=Z (ng v);obtain⟨a,c,d⟩:=v;have j:(⟨a,c,d⟩:V).val=.agg #[a,c,d]:=rfl;rw[j]at i;show Calls Tryz.prog 73 #[b,.agg #[a,c,d]] e _;have k:Hid (hP b ⟨a,c,d⟩=((⟨a,c,d⟩:V).ok&&(decide (a=0)||decide (a=b)))):=Z rfl;generalize (⟨a,c,d⟩:V).ok=n at i k;clear j;go_enter Tryz.func73,Tryz.ntmps73
 go_wp2_with (first|(go_at_call 42;refine(i.out _).mono ?_;rintro g c ⟨rfl,f⟩;have l:=Z f;have c:=f.cells;have c:=f.size;clear f))
 all_goals
  go_ret;exact⟨ch (by rw[k.out];by_cases g:a=0<;>by_cases c:a=b<;>simp_all),((ag.refl e).alloc _).trans l.out⟩
structure At where
 name:ByteArray
 kind:Int
 was:List ByteArray
 dflt:V
structure Tb where
 name:ByteArray
 attrs:List At
 key:List Int
structure Cg where
 kind:Int
 table:ByteArray
 attr:ByteArray
 name:ByteArray
 dE:Int
 dflt:V
def cn {a:Type} (p:a->Bool) (b:List a):Int:=match b.findIdx? p with|some c=>(c:Int)|none=> -1
theorem nh {b:Type} {c:b->Bool} {a:List b} (b:Nat) (h:b<a.length) (f:c a[b]=true) (g:∀d (e:d<b),c (a[d]'ae)=false):cn c a=b:=by
 have:a.findIdx? c=some b:=by
  rw[List.findIdx?_eq_some_iff_getElem];exact⟨h,f,λd e=>by simp[g d e]⟩
 simp[cn,this]
theorem lq {c:Type} {p:c->Bool} {a:List c} (e:∀b (d:b<a.length),p a[b]=false):cn p a= -1:=by
 have:a.findIdx? p=none:=by
  rw[List.findIdx?_eq_none_iff];intro a f;obtain⟨b,d,rfl⟩:=List.mem_iff_getElem.1 f;exact e b d
 simp[cn,this]
theorem mj {f:Type} (c:f->Bool) (a:List f):(cn c a= -1/\∀b (e:b<a.length),c a[b]=false)\/∃(d:Nat) (h:d<a.length),cn c a=d/\c a[d]=true/\∀b (e:b<d),c (a[b]'ae)=false:=by
 cases h:a.findIdx? c with
 |none=>
  left
  refine⟨by simp[cn,h],λb e=>?_⟩;rw[List.findIdx?_eq_none_iff]at h;exact h _ (List.getElem_mem e)
 |some d=>
  right
  have g:=h;rw[List.findIdx?_eq_some_iff_getElem]at g;obtain⟨i,j,k⟩:=g;exact⟨d,i,by simp[cn,h],j,λb e=>by simpa using k b e⟩
theorem lr {a:Type} (p:a->Bool) (l:List a):-1<=cn p l/\cn p l<l.length:=by
 rcases mj p l with⟨h,_⟩|⟨b,h,c,_⟩
 ·omega
 omega
def kz (a:Tb):List ByteArray:=a.attrs.flatMap λa=>a.name::a.was
def jA:List ByteArray->Bool
 |[]=>false
 |x::l=>l.any (λa=>decide (a=x))||jA l
def gl (c:Nat) (b:List Int) (a:Nat):Bool:=(decide (0<=b.getD a 0)&&decide (b.getD a 0<c))&&(decide (a=0)||decide (b.getD (a-1) 0<b.getD a 0))
def o6 (b:Nat) (a:List Int):Bool:=(List.range a.length).all (gl b a)
def gB (a:At):Bool:=ky a.kind&&hP a.kind a.dflt
def g0 (a:Tb):Bool:=
 bD a.name&&(decide (1<=a.attrs.length)&&decide (a.attrs.length<=12)&&decide (1<=a.key.length))&&a.attrs.all gB&&(kz a).all bD&&!jA (kz a)&&o6 a.attrs.length a.key
def cS (a:List Tb) (b:aw):Int:=cn (λc=>decide (c.name=b)) a
def bH (l:List At) (a:aw):Int:=
 if 0<=cn (λb=>decide (b.name=a)) l then cn (λb=>decide (b.name=a)) l else cn (λb=>b.was.any λb=>decide (b=a)) l
def eK (a:List Tb):Bool:=decide (a.length<=20)&&(List.range a.length).all λb=>match a[b]? with|some c=>g0 c&&decide (cS a c.name=b)|none=>false
def d7 (c:Cg):Bool:=
 if c.kind=1 then decide (c.attr.size=0)
 else if c.kind=2 then decide (c.name.size=0)&&(decide (c.dE=0)&&V.same c.dflt V.zero)
 else if c.kind=3 then decide (c.dE=0)&&V.same c.dflt V.zero
 else if c.kind=4 then decide (c.name.size=0)
 else false
def g1 (c:Cg):Bool:=ky c.dE&&hP c.dE c.dflt
def gm (a:Tb) (c:Cg):Int:=if bD c.name then(if 0<=bH a.attrs c.name then 9 else 0)else 1
def gn (a:Tb) (c:Cg) (b:Nat):Int:=
 if c.kind=1 then(if g1 c then(if gm a c≠0 then gm a c else if a.attrs.length=12 then 3 else 0)else 1)
 else if c.kind=2 then(if a.key.any (λd=>decide (d=(b:Int)))then 1 else 0)
 else if c.kind=3 then gm a c
 else(if g1 c&&!decide ((a.attrs.map At.kind)[b]?=some c.dE)then 0 else 1)
def dj (a:List Tb) (c:Cg):Int:=
 if d7 c&&eK a then
  if cS a c.table<0 then 11
  else match a[(cS a c.table).toNat]? with
   |none=>11
   |some b=>if decide (c.kind≠1)&&decide (bH b.attrs c.attr<0)then 11 else gn b c (bH b.attrs c.attr).toNat
 else 1
def g2 (c:List At) (b:Cg) (a:Nat):List At:=
 if b.kind=1 then c++[⟨b.name,b.dE,[],b.dflt⟩]
 else if b.kind=2 then c.eraseIdx a
 else if b.kind=3 then c.modify a (λd=>⟨b.name,d.kind,d.was++[d.name],d.dflt⟩)
 else c.modify a (λc=>⟨c.name,b.dE,c.was,b.dflt⟩)
def ni (b:List Int) (a:Cg) (c:Nat):List Int:=if a.kind=2 then b.map (λa=>if(c:Int)<a then a-1 else a)else b
def dt (a:Tb) (b:Cg):Tb:=⟨a.name,g2 a.attrs b (bH a.attrs b.attr).toNat,ni a.key b (bH a.attrs b.attr).toNat⟩
def gC (a:List Tb) (b:Cg):List Tb:=a.modify (cS a b.table).toNat (λa=>dt a b)
def At.has (a:At) (b:aw):Prop:=b=a.name\/b∈a.was
theorem sE (a:List At) (c:aw):(bH a c= -1/\∀d∈a,¬d.has c)\/∃(b:Nat) (h:b<a.length),bH a c=b/\a[b].has c:=by
 rcases mj (λd:At=>decide (d.name=c)) a with⟨e,n⟩|⟨b,f,e,g,_⟩
 ·rcases mj (λd:At=>d.was.any λi=>decide (i=c)) a with⟨i,o⟩|⟨b,f,i,g,_⟩
  ·left
   refine⟨by simp[bH,e,i],?_⟩;intro d p;obtain⟨j,k,rfl⟩:=List.mem_iff_getElem.1 p;have l:=n j k;have m:=o j k;simp at l m;rintro(h|h)
   ·exact l h.symm
   exact m _ h rfl
  right
  refine⟨b,f,by simp[bH,e,i],.inr ?_⟩;simpa using g
 right
 refine⟨b,f,by simp[bH,e],.inl ?_⟩;simpa using(by simpa using g:a[b].name=c).symm
theorem nj (a:List At) (b:aw):-1<=bH a b/\bH a b<a.length:=by
 rcases sE a b with⟨h,_⟩|⟨c,h,d,_⟩<;>omega
def Ia (a:List At):Prop:=∀b c (d:b<a.length) (d:c<a.length) x,a[b].has x->a[c].has x->b=c
theorem Ip {a:List At} (h:Ia a) (b:Nat) (d:b<a.length) (c:aw) (e:a[b].has c):bH a c=b:=by
 rcases sE a c with⟨_,f⟩|⟨g,i,j,k⟩
 ·exact absurd e (f _ (List.getElem_mem d))
 rw[j,h g b i d c k e]
theorem sF (a:bm):jA a=false↔a.Nodup:=by
 induction a with
 |nil=>simp[jA]
 |cons b a c=>
  simp only[jA,Bool.or_eq_false_iff,c,List.nodup_cons];constructor
  ·rintro⟨a,c⟩
   refine⟨λd=>?_,c⟩;simp at a;exact a b d rfl
  rintro⟨d,a⟩;refine⟨?_,a⟩;simp;rintro a e rfl;exact d e
def d9 (l:List At):List ByteArray:=l.flatMap λa=>a.name::a.was
theorem sG {b:List At} {c:aw}:c∈d9 b↔∃a∈b,a.has c:=by
 simp[d9,At.has]
theorem Ib:∀{d:List At},(d9 d).Nodup->Ia d
 |[],_=>λb b b=>by simp at b
 |a::d,h=>by
  have e:((a.name::a.was)++d9 d).Nodup:=h;rw[List.nodup_append]at e;have l:=Ib e.2.1;intro f c j k b g i;cases f with
  |zero=>
   cases c with
   |zero=>rfl
   |succ c=>
    exfalso
    have d:b∈a.name::a.was:=by simpa[At.has]using g
    exact e.2.2 b d b (sG.2 ⟨_,List.getElem_mem (by simpa using k),by simpa using i⟩) rfl
  |succ f=>
   cases c with
   |zero=>
    exfalso
    have d:b∈a.name::a.was:=by simpa[At.has]using i
    exact e.2.2 b d b (sG.2 ⟨_,List.getElem_mem (by simpa using j),by simpa using g⟩) rfl
   |succ c=>
    have:=l f c (by simpa using j) (by simpa using k) b (by simpa using g) (by simpa using i);omega
def go {a:Type} (c:Nat) (d:aO) (e:af) (f:a->Value) (g:a->Bool) (i:List a):Prop:=
 ∀b∈i,∀a,ag e a->Calls Tryz.prog c (#[f b]++d) a λc d=>c=.returned (.bool (g b))/\ag a d
theorem o7 {c:Type} {p:c->Bool} {b:List c} {c:Nat} (g:c<b.length) (e:p b[c]=false) (h:∀a (d:a<b.length),a<c->p b[a]=false):∀a (d:a<b.length),a<c+1->p b[a]=false:=by
 intro a d b;by_cases f:a=c
 ·subst f;exact e
 exact h a d ae
theorem xD {d:Type} (g:Nat) (caps:aO) (f:∀f a,(callFunc g f).run Tryz.prog a=.ok (.enter g f) a) (h:Hd) (enc:d->List Value) (m:∀f,∃o b i,enc f=[o,b,i]) (p:d->Bool) (xs:List d) (a:af)
 (c:aF a 3 h enc xs) (n:go g caps a (λf=>.agg (enc f).toArray) p xs):
 Calls Tryz.prog 78 #[h.val,.func (.func g) #[] caps] a λe w'=>e=.returned (O (cn p xs))/\ag a w':=by
 obtain⟨A,l,i⟩:=h;show Calls Tryz.prog 78 #[U A l i,.func (.func g) #[] caps] a _;have q:xs.length=l:=c.1;have d:l<=9223372036854775807:=c.2.1;subst q;have HL:=Z c;have HT:=Z n;have H3:=Z m;clear c n m;go_enter Tryz.func78,Tryz.ntmps78
 go_wp2;go_loopw [8] (λc wr=>∃k:Nat,k<=xs.length/\c=.int .i64 k/\Hid (ag a wr)/\Hid (∀j (hj:j<xs.length),j<k->p xs[j]=false)) (λc _=>xs.length-(intOf c).toNat)
 case atStart=>exact⟨0,Nat.zero_le _,rfl,ag.refl a,λj _ hj=>absurd hj (Nat.not_lt_zero _)⟩
 obtain⟨k,r,rfl,S,N⟩:=hrel;by_cases hlt:k<xs.length
 ·exact vg
 go_wp2;go_ret;exact⟨d0 (lq (λj hj=>N.out j hj ae)).symm,S.out⟩
theorem qC {m:Type} (d:Nat) (f:aO) (n:∀n b,(callFunc d n).run Tryz.prog b=.ok (.enter d n) b) (h:Hd) (g:m->List Value) (t:∀n,∃C o p D c E,g n=[C,o,p,D,c,E]) (e:m->Bool) (a:List m) (b:af)
 (i:aF b 6 h g a) (u:go d f b (λn=>.agg (g n).toArray) e a):
 Calls Tryz.prog 102 #[h.val,.func (.func d) #[] f] b λc q=>c=.returned (O (cn e a))/\ag b q:=by
 obtain⟨v,r,p⟩:=h;show Calls Tryz.prog 102 #[U v r p,.func (.func d) #[] f] b _;have F:a.length=r:=i.1;have m:r<=9223372036854775807:=i.2.1;subst F;have G:=Z i;have H:=Z u;have I:=Z t;clear i u t;go_enter Tryz.func102,Tryz.ntmps102
 go_wp2;go_loopw [8] (λi wr=>∃k:Nat,k<=a.length/\i=.int .i64 k/\Hid (ag b wr)/\Hid (∀j (hj:j<a.length),j<k->e a[j]=false)) (λi _=>a.length-(intOf i).toNat)
 case atStart=>exact⟨0,Nat.zero_le _,rfl,ag.refl b,λj _ hj=>absurd hj (Nat.not_lt_zero _)⟩
 obtain⟨k,K,rfl,S,N⟩:=hrel;by_cases hlt:k<a.length
 ·obtain⟨o,m,i,n,b⟩:=(G.out.same S.out).2.2 k hlt
  have J:v=some ⟨o,m,none⟩:=i;obtain⟨n,o,p,r,t,u,m⟩:=I.out a[k];have d:Calls Tryz.prog d (#[Value.agg (g a[k]).toArray]++f) wr λc d=>c=.returned (.bool (e a[k]))/\ag wr d:=H.out a[k] (List.getElem_mem hlt) wr S.out;rw[m]at b d;have s:=b 0 _ rfl;have w:=b 1 _ rfl;have x:=b 2 _ rfl;have y:=b 3 _ rfl;have z:=b 4 _ rfl;have A:=b 5 _ rfl;simp only[Nat.add_zero]at s;have l:=Z d;clear d b m i;subst J;cases hq:e a[k]with
  |true=>
   rw[hq]at l;have HQ:=Z hq;clear hq;go_wp2_with fail
   refine l.out.mono ?_;rintro c q ⟨rfl,B⟩;have S1:=Z B;clear B s w x y z A;exact pS
  |false=>
   rw[hq]at l;have HQ:=Z hq;clear hq;go_wp2_with fail
   refine l.out.mono ?_;rintro c q ⟨rfl,B⟩;have S1:=Z B;clear B s w x y z A;exact uV
 go_wp2;go_ret;exact⟨d0 (lq (λj hj=>N.out j hj ae)).symm,S.out⟩
section
variable {w:af} {g:Nat} {t:bb} {l:bg}
variable {a0 a1 a2 a3 a4 a5 a6 a7 a8 a9 d1 ea a12 ew eS fr a16 a17 gD hQ a20 a21 a22 a23 a24:ay}
theorem az (h:Hid (J w g t (List.toArray (a0::l)))):ac w (ab g 0) a0:=h.out.cell 0
theorem aY (h:Hid (J w g t (List.toArray (a0::a1::l)))):ac w (ab g 1) a1:=h.out.cell 1
theorem bh (h:Hid (J w g t (List.toArray (a0::a1::a2::l)))):ac w (ab g 2) a2:=h.out.cell 2
theorem bj (h:Hid (J w g t (List.toArray (a0::a1::a2::a3::l)))):ac w (ab g 3) a3:=h.out.cell 3
theorem bn (h:Hid (J w g t (List.toArray (a0::a1::a2::a3::a4::l)))):ac w (ab g 4) a4:=h.out.cell 4
theorem bQ (h:Hid (J w g t (List.toArray (a0::a1::a2::a3::a4::a5::l)))):ac w (ab g 5) a5:=h.out.cell 5
theorem cd (h:Hid (J w g t (List.toArray (a0::a1::a2::a3::a4::a5::a6::l)))):ac w (ab g 6) a6:=h.out.cell 6
theorem b7 (h:Hid (J w g t (List.toArray (a0::a1::a2::a3::a4::a5::a6::a7::l)))):ac w (ab g 7) a7:=h.out.cell 7
theorem bN (h:Hid (J w g t (List.toArray (a0::a1::a2::a3::a4::a5::a6::a7::a8::l)))):ac w (ab g 8) a8:=h.out.cell 8
theorem iT (h:Hid (J w g t (List.toArray (a0::a1::a2::a3::a4::a5::a6::a7::a8::a9::l)))):ac w (ab g 9) a9:=h.out.cell 9
theorem ml (h:Hid (J w g t (List.toArray (a0::a1::a2::a3::a4::a5::a6::a7::a8::a9::d1::l)))):ac w (ab g 10) d1:=h.out.cell 10
theorem nk (h:Hid (J w g t (List.toArray (a0::a1::a2::a3::a4::a5::a6::a7::a8::a9::d1::ea::l)))):ac w (ab g 11) ea:=h.out.cell 11
theorem o8 (h:Hid (J w g t (List.toArray (a0::a1::a2::a3::a4::a5::a6::a7::a8::a9::d1::ea::a12::l)))):ac w (ab g 12) a12:=h.out.cell 12
theorem nl (h:Hid (J w g t (List.toArray (a0::a1::a2::a3::a4::a5::a6::a7::a8::a9::d1::ea::a12::ew::l)))):ac w (ab g 13) ew:=h.out.cell 13
theorem sI (h:Hid (J w g t (List.toArray (a0::a1::a2::a3::a4::a5::a6::a7::a8::a9::d1::ea::a12::ew::eS::l)))):ac w (ab g 14) eS:=h.out.cell 14
theorem sJ (h:Hid (J w g t (List.toArray (a0::a1::a2::a3::a4::a5::a6::a7::a8::a9::d1::ea::a12::ew::eS::fr::l)))):ac w (ab g 15) fr:=h.out.cell 15
theorem xE (h:Hid (J w g t (List.toArray (a0::a1::a2::a3::a4::a5::a6::a7::a8::a9::d1::ea::a12::ew::eS::fr::a16::l)))):ac w (ab g 16) a16:=h.out.cell 16
theorem xF (h:Hid (J w g t (List.toArray (a0::a1::a2::a3::a4::a5::a6::a7::a8::a9::d1::ea::a12::ew::eS::fr::a16::a17::l)))):ac w (ab g 17) a17:=h.out.cell 17
theorem xG (h:Hid (J w g t (List.toArray (a0::a1::a2::a3::a4::a5::a6::a7::a8::a9::d1::ea::a12::ew::eS::fr::a16::a17::gD::l)))):ac w (ab g 18) gD:=h.out.cell 18
theorem xH (h:Hid (J w g t (List.toArray (a0::a1::a2::a3::a4::a5::a6::a7::a8::a9::d1::ea::a12::ew::eS::fr::a16::a17::gD::hQ::l)))):ac w (ab g 19) hQ:=h.out.cell 19
theorem xI (h:Hid (J w g t (List.toArray (a0::a1::a2::a3::a4::a5::a6::a7::a8::a9::d1::ea::a12::ew::eS::fr::a16::a17::gD::hQ::a20::l)))):ac w (ab g 20) a20:=h.out.cell 20
theorem xJ (h:Hid (J w g t (List.toArray (a0::a1::a2::a3::a4::a5::a6::a7::a8::a9::d1::ea::a12::ew::eS::fr::a16::a17::gD::hQ::a20::a21::l)))):ac w (ab g 21) a21:=h.out.cell 21
theorem xK (h:Hid (J w g t (List.toArray (a0::a1::a2::a3::a4::a5::a6::a7::a8::a9::d1::ea::a12::ew::eS::fr::a16::a17::gD::hQ::a20::a21::a22::l)))):ac w (ab g 22) a22:=h.out.cell 22
theorem xL (h:Hid (J w g t (List.toArray (a0::a1::a2::a3::a4::a5::a6::a7::a8::a9::d1::ea::a12::ew::eS::fr::a16::a17::gD::hQ::a20::a21::a22::a23::l)))):ac w (ab g 23) a23:=h.out.cell 23
theorem xM (h:Hid (J w g t (List.toArray (a0::a1::a2::a3::a4::a5::a6::a7::a8::a9::d1::ea::a12::ew::eS::fr::a16::a17::gD::hQ::a20::a21::a22::a23::a24::l)))):ac w (ab g 24) a24:=h.out.cell 24
theorem jB (h:Hid (J w g t (List.toArray (a0::l)))) (v:ay):J (w.setCell (ab g 0) v) g t (List.toArray (v::l)):=h.out.aP 0 v
theorem xN (h:Hid (J w g t (List.toArray (a0::a1::l)))) (v:ay):J (w.setCell (ab g 1) v) g t (List.toArray (a0::v::l)):=h.out.aP 1 v
theorem qF (h:Hid (J w g t (List.toArray (a0::a1::a2::l)))) (v:ay):J (w.setCell (ab g 2) v) g t (List.toArray (a0::a1::v::l)):=h.out.aP 2 v
theorem mm (h:Hid (J w g t (List.toArray (a0::a1::a2::a3::l)))) (a:ay):J (w.setCell (ab g 3) a) g t (List.toArray (a0::a1::a2::a::l)):=h.out.aP 3 a
theorem lu (h:Hid (J w g t (List.toArray (a0::a1::a2::a3::a4::l)))) (a:ay):J (w.setCell (ab g 4) a) g t (List.toArray (a0::a1::a2::a3::a::l)):=h.out.aP 4 a
theorem jC (h:Hid (J w g t (List.toArray (a0::a1::a2::a3::a4::a5::l)))) (v:ay):J (w.setCell (ab g 5) v) g t (List.toArray (a0::a1::a2::a3::a4::v::l)):=h.out.aP 5 v
theorem sK (h:Hid (J w g t (List.toArray (a0::a1::a2::a3::a4::a5::a6::l)))) (a:ay):J (w.setCell (ab g 6) a) g t (List.toArray (a0::a1::a2::a3::a4::a5::a::l)):=h.out.aP 6 a
theorem gp (h:Hid (J w g t (List.toArray (a0::a1::a2::a3::a4::a5::a6::a7::l)))) (a:ay):J (w.setCell (ab g 7) a) g t (List.toArray (a0::a1::a2::a3::a4::a5::a6::a::l)):=h.out.aP 7 a
theorem qG (h:Hid (J w g t (List.toArray (a0::a1::a2::a3::a4::a5::a6::a7::a8::l)))) (v:ay):J (w.setCell (ab g 8) v) g t (List.toArray (a0::a1::a2::a3::a4::a5::a6::a7::v::l)):=h.out.aP 8 v
theorem xO (h:Hid (J w g t (List.toArray (a0::a1::a2::a3::a4::a5::a6::a7::a8::a9::l)))) (a:ay):J (w.setCell (ab g 9) a) g t (List.toArray (a0::a1::a2::a3::a4::a5::a6::a7::a8::a::l)):=h.out.aP 9 a
theorem xP (h:Hid (J w g t (List.toArray (a0::a1::a2::a3::a4::a5::a6::a7::a8::a9::d1::ea::a12::ew::eS::l)))) (a:ay):J (w.setCell (ab g 14) a) g t (List.toArray (a0::a1::a2::a3::a4::a5::a6::a7::a8::a9::d1::ea::a12::ew::a::l)):=h.out.aP 14 a
theorem xQ (h:Hid (J w g t (List.toArray (a0::a1::a2::a3::a4::a5::a6::a7::a8::a9::d1::ea::a12::ew::eS::fr::a16::l)))) (a:ay):J (w.setCell (ab g 16) a) g t (List.toArray (a0::a1::a2::a3::a4::a5::a6::a7::a8::a9::d1::ea::a12::ew::eS::fr::a::l)):=h.out.aP 16 a
theorem xR (h:Hid (J w g t (List.toArray (a0::a1::a2::a3::a4::a5::a6::a7::a8::a9::d1::ea::a12::ew::eS::fr::a16::a17::gD::hQ::l)))) (a:ay):J (w.setCell (ab g 19) a) g t (List.toArray (a0::a1::a2::a3::a4::a5::a6::a7::a8::a9::d1::ea::a12::ew::eS::fr::a16::a17::gD::a::l)):=h.out.aP 19 a
theorem xS (h:Hid (J w g t (List.toArray (a0::a1::a2::a3::a4::a5::a6::a7::a8::a9::d1::ea::a12::ew::eS::fr::a16::a17::gD::hQ::a20::a21::a22::l)))) (a:ay):J (w.setCell (ab g 22) a) g t (List.toArray (a0::a1::a2::a3::a4::a5::a6::a7::a8::a9::d1::ea::a12::ew::eS::fr::a16::a17::gD::hQ::a20::a21::a::l)):=h.out.aP 22 a
end
theorem bi {w:af} {a:Obj} {p:Addr} {v:Option Value} (h:w.cell? p=v) (b:p.block<w.heap.size:=by first|(dsimp only;omega)|(simp[d5];omega)):(w.alloc a).cell? p=v:=(World.cell?_alloc_lt w a p b).trans h
theorem aq {a:Sort _} (x:a):∃y,y=x:=⟨x,rfl⟩
theorem aM {b:Prop} (h:b:=by(intro er a wx HX KX;(try go_wp2);refine⟨rfl,?_⟩;rw[HX.out];exact⟨KX.out,rfl⟩)):b:=h
theorem eL {b:Prop} (K:b) {P:Prop} (h:b->P:=by(intro K er a wx HX KX;(try go_wp2);refine⟨rfl,?_⟩;rw[HX.out];first|exact⟨rfl,(K.trans KX.out).same⟩|exact⟨K.trans KX.out,rfl⟩)):P:=h K
def aG (s:aw):Prop:=s.size<=9223372036854775807
def dF (s:aw):List Value:=[.string s]
def cj (n:Int):List Value:=[.int .i64 n]
def b4 (w:af) (h:Hd) (l:bm):Prop:=aF w 1 h dF l/\∀a∈l,aG a
def dQ (w:af) (h:Hd) (l:List Int):Prop:=aF w 1 h cj l
def qH (w:af) (h:Hd) (a:List V):Prop:=aF w 3 h V.cells a/\∀b∈a,aG b.s
structure RA where
 at_:At
 h:Hd
def RA.cells (r:RA):List Value:=[.string r.at_.name,.int .i64 r.at_.kind,r.h.val,.int .i64 r.at_.dflt.k,.int .i64 r.at_.dflt.n,.string r.at_.dflt.s]
def fu (w:af) (h:Hd) (b:List RA):Prop:=aF w 6 h RA.cells b/\∀a∈b,b4 w a.h a.at_.was/\aG a.at_.name/\aG a.at_.dflt.s
structure RT where
 name:ByteArray
 ha:Hd
 ra:List RA
 hk:Hd
 key:List Int
def RT.cells (t:RT):List Value:=[.string t.name,t.ha.val,t.hk.val]
def RT.val (t:RT):Value:=.agg #[t.name,t.ha.val,t.hk.val]
def RT.tb (t:RT):Tb:=⟨t.name,t.ra.map RA.at_,t.key⟩
def fw (w:af) (a:RT):Prop:=fu w a.ha a.ra/\dQ w a.hk a.key/\aG a.name
def bI (w:af) (h:Hd) (a:List RT):Prop:=aF w 3 h RT.cells a/\∀b∈a,fw w b
section
variable {w w':af} {h:Hd}
theorem b4.same {l:bm} (a:b4 w h l) (s:ag w w'):b4 w' h l:=⟨a.1.same s,a.2⟩
theorem dQ.same {l:List Int} (a:dQ w h l) (s:ag w w'):dQ w' h l:=aF.same a s
theorem qH.same {l:List V} (a:qH w h l) (s:ag w w'):qH w' h l:=⟨a.1.same s,a.2⟩
theorem fu.same {l:List RA} (a:fu w h l) (s:ag w w'):fu w' h l:=⟨a.1.same s,λb c=>⟨(a.2 b c).1.same s,(a.2 b c).2⟩⟩
theorem fw.same {t:RT} (a:fw w t) (s:ag w w'):fw w' t:=⟨a.1.same s,a.2.1.same s,a.2.2⟩
theorem bI.same {l:List RT} (a:bI w h l) (s:ag w w'):bI w' h l:=⟨a.1.same s,λb c=>(a.2 b c).same s⟩
theorem aF.one {α:Type} {enc:α->List Value} {xs:List α} (l:aF w 1 h enc xs) (c:Nat) (e:c<xs.length) {v:ay} (f:enc xs[c]=[v]):∃b d,h.a=some ⟨b,d,none⟩/\b<w.heap.size/\ac w (ab b (d+c)) v:=by
 obtain⟨b,d,c,e,g⟩:=l.2.2 c e;have:=g 0 v (by rw[f];rfl);simp only[Nat.mul_one,Nat.add_zero]at this;exact⟨b,d,c,e,this⟩
end
theorem xT {w:af} {h:Hd} {b:bm} (a:aF w 1 h dF b):cu w w.heap.size 1 h.a h.n (b.map .string):=by
 refine⟨by simp[a.1],λg=>?_⟩;have i:0<b.length:=by rw[a.1];exact g
 obtain⟨g,i,f,j,_⟩:=a.one 0 i rfl;refine⟨⟨g,i,none⟩,f,j,λe k c=>?_⟩;rw[List.getElem?_map]at c;cases hj:b[e]? with
 |none=>rw[hj]at c;cases c
 |some o=>
  rw[hj]at c;obtain⟨g,l⟩:=List.getElem?_eq_some_iff.1 hj;obtain⟨g,i,d,_,m⟩:=a.one e g rfl;rw[f]at d;injection d with d
  injection d with e1 e2
  subst e1 e2;have:k=.string b[e]:=by rw[l];simpa using c.symm
  rw[this,<-m];unfold Addr.add;split<;>simp_all
theorem jD (a b:aw):(a.toList==b.toList)=decide (a=b):=by
 rw[ByteArray.toList_eq,ByteArray.toList_eq,Bool.eq_iff_iff,beq_iff_eq,decide_eq_true_eq];exact⟨λh=>m7 h,λh=>by rw[h]⟩
theorem xU (h:Hd) (a:bm) (b:aw) (w:af) (d:b4 w h a):
 Calls Tryz.prog 181 #[h.val,b] w λe w'=>e=.returned (O (cn (λc=>decide (c=b)) a))/\w=w':=by
 obtain⟨f,g,i⟩:=h;show Calls Tryz.prog 181 #[U f g i,b] w _;have l:=d.1.1;have e:=d.1.2.1;subst l;have m:=Z d.1;clear d;go_enter Tryz.func181,Tryz.ntmps181
 go_wp2;go_loop [8] (λd=>∃k:Nat,k<=a.length/\d=.int .i64 k/\Hid (∀j (hj:j<a.length),j<k->decide (a[j]=b)=false)) (λd=>a.length-(intOf d).toNat)
 case atStart=>exact⟨0,Nat.zero_le _,rfl,λj _ hj=>absurd hj (Nat.not_lt_zero _)⟩
 obtain⟨k,q,rfl,N⟩:=hrel;by_cases hlt:k<a.length
 ·obtain⟨e,f,d,g,n⟩:=m.out.one k hlt (v:=.string a[k]) rfl
  have o:=d;clear d;subst o;obtain⟨c,a⟩:=aq (a[k]);rw[<-a]at n;have HY:=Z a;clear a;by_cases hq:c=b
  ·have a:(b.toList==c.toList)=true:=by rw[jD];simp[hq]
   exact q6
  have a:(b.toList==c.toList)=false:=by rw[jD];simp;exact λh=>hq h.symm
  have HQ:=Z hq;clear hq;go_wp2;go_round
  case rel=>exact⟨k+1,by omega,by go_num,o7 (p:=λc=>decide (c=b)) hlt (by rw[<-HY.out];exact decide_eq_false HQ.out) N.out⟩
  simp[intOf];omega
 go_wp2;go_ret;exact⟨d0 (lq (λj hj=>N j hj ae)).symm,rfl⟩
theorem no {d:Type} (b:d->Bool) (a:List d):a.any b=decide (0<=cn b a):=by
 rcases mj b a with⟨c,e⟩|⟨f,g,c,i,_⟩
 ·rw[c]
  simp only[List.any_eq_false,show decide ((0:Int)<= -1)=false from rfl];intro b j;obtain⟨k,l,rfl⟩:=List.mem_iff_getElem.1 j;simp[e k l]
 rw[c,decide_eq_true ae,List.any_eq_true];exact⟨a[f],List.getElem_mem g,i⟩
theorem qI (h:Hd) (l:bm) (a:aw) (w:af) (e:b4 w h l):
 Calls Tryz.prog 105 #[h.val,a] w λc w'=>c=.returned (.bool (l.any λb=>decide (b=a)))/\w=w':=by
 have d:=Z (xU h l a w e);have f:=Z (no (λb=>decide (b=a)) l);obtain⟨k,b⟩:=aq (cn (λb=>decide (b=a)) l);rw[<-b]at d f;clear b e;obtain⟨g,i,j⟩:=h;have m:Hid (Calls Tryz.prog 181 #[U g i j,a] w λc w'=>c=.returned k/\w=w'):=d;clear d;show Calls Tryz.prog 105 #[U g i j,a] w _;go_enter Tryz.func105,Tryz.ntmps105
 go_wp2_with (go_at_call 181;refine m.out.mono ?_;rintro c w' ⟨rfl,rfl⟩)
 go_ret;exact⟨ch f.symm,rfl⟩
theorem xV (h:Hd) (a:List Int) (b:Int) (w:af) (d:dQ w h a):
 Calls Tryz.prog 265 #[h.val,b] w λg w'=>g=.returned (O (cn (λc=>decide (c=b)) a))/\w=w':=by
 obtain⟨e,i,f⟩:=h;show Calls Tryz.prog 265 #[U e i f,b] w _;have l:=d.1;have g:=d.2.1;subst l;have m:=Z (show aF w 1 ⟨e,a.length,f⟩ cj a from d);clear d;go_enter Tryz.func265,Tryz.ntmps265
 go_wp2;go_loop [8] (λd=>∃k:Nat,k<=a.length/\d=.int .i64 k/\Hid (∀j (hj:j<a.length),j<k->decide (a[j]=b)=false)) (λd=>a.length-(intOf d).toNat)
 case atStart=>exact⟨0,Nat.zero_le _,rfl,λj _ hj=>absurd hj (Nat.not_lt_zero _)⟩
 obtain⟨k,q,rfl,N⟩:=hrel;by_cases hlt:k<a.length
 ·obtain⟨e,f,d,g,n⟩:=m.out.one k hlt (v:=.int .i64 a[k]) rfl
  have o:=d;clear d;subst o;obtain⟨c,a⟩:=aq (a[k]);rw[<-a]at n;have HY:=Z a;clear a;by_cases hq:c=b
  ·have a:(b==c)=true:=by simp[hq]
   exact q6
  have a:(b==c)=false:=by simp;exact λh=>hq h.symm
  have HQ:=Z hq;clear hq;go_wp2;go_round
  case rel=>exact⟨k+1,by omega,by go_num,o7 (p:=λc=>decide (c=b)) hlt (by rw[<-HY.out];exact decide_eq_false HQ.out) N.out⟩
  simp[intOf];omega
 go_wp2;go_ret;exact⟨d0 (lq (λj hj=>N j hj ae)).symm,rfl⟩
theorem o9 (h:Hd) (l:List Int) (a:Int) (w:af) (e:dQ w h l):
 Calls Tryz.prog 188 #[h.val,a] w λc w'=>c=.returned (.bool (l.any λb=>decide (b=a)))/\w=w':=by
 have d:=Z (xV h l a w e);have f:=Z (no (λb=>decide (b=a)) l);obtain⟨k,b⟩:=aq (cn (λb=>decide (b=a)) l);rw[<-b]at d f;clear b e;obtain⟨g,i,j⟩:=h;have m:Hid (Calls Tryz.prog 265 #[U g i j,a] w λc w'=>c=.returned k/\w=w'):=d;clear d;show Calls Tryz.prog 188 #[U g i j,a] w _;go_enter Tryz.func188,Tryz.ntmps188
 go_wp2_with (go_at_call 265;refine m.out.mono ?_;rintro c w' ⟨rfl,rfl⟩)
 go_ret;exact⟨ch f.symm,rfl⟩
theorem pa {a b:Type} (c:a->b) (d:b->Bool) (b:List a):cn d (b.map c)=cn (λa=>d (c a)) b:=by
 unfold cn;rw[List.findIdx?_map];rfl
structure ao where
 k:Int
 t:ByteArray
 n:Int
 at_:Int
 deriving DecidableEq
inductive PO (α:Type) where
 |ok (a:α) (ts:List ao)
 |bad (e at_:Int)
def PO.bind {b c:Type} (d:PO b) (f:b->List ao->PO c):PO c:=
 match d with
 |.ok a ts=>f a ts
 |.bad e a=>.bad e a
def e0:ByteArray:=⟨#[]⟩
structure dl where
 name:ByteArray
 k:Int
 d:V
structure cL where
 attr:ByteArray
 meas:Int
 jE:Int
 num:Int
 den:Int
 gives:Int
 takes:Int
structure dG where
 var:ByteArray
 attr:ByteArray
 c:Bool
 v:V
structure bB where
 l:dG
 op:Int
 r:dG
 add:Int
structure du where
 name:ByteArray
 v:V
structure Vr where
 name:ByteArray
 table:ByteArray
inductive Ex where
 |mk (kind:Int) (table:aw) (kids:List Ex) (conds:List bB) (names:bm) (attr cN:aw) (agg at_:Int)
def Ex.zero:Ex:=.mk 0 e0 [] [] [] e0 e0 0 0
structure aI where
 kind:Int
 name:ByteArray
 at_:Int
 table:ByteArray
 attr:ByteArray
 cD:List dl
 names:List ByteArray
 bf:Int
 n:Int
 m:Int
 terms:List cL
 other:ByteArray
 kA:ByteArray
 fixed:List du
 vars:List Vr
 conds:List bB
 expr:Ex
def e8 {α:Type} (a:Int) (b:List ao) (c:Int):PO α:=
 match b with
 |[]=>.bad 7 a
 |t::_=>.bad c t.at_
def fN (a:ao) (b:aw):Bool:=decide (a.t=b)&&(decide (a.k=1)||decide (a.k=4))
def el:List ao->List ByteArray->Bool
 |_,[]=>true
 |[],_::_=>false
 |t::ts,s::l=>fN t s&&el ts l
def bu (ts:List ao) (s:aw):Bool:=el ts [s]
def aR (a:Int):List ao->List ByteArray->PO Unit
 |ts,[]=>.ok () ts
 |ts,s::l=>if bu ts s then aR a ts.tail l else e8 a ts 4
def ey (a:Int) (b:List ao) (c:Int):PO ao:=
 match b with
 |[]=>.bad 7 a
 |t::ts'=>if t.k=c then .ok t ts' else .bad 4 t.at_
def bW (b:Int) (a:List ao):PO ByteArray:=(ey b a 1).bind λb a=>.ok b.t a
def cq (b:Int) (a:List ao):PO Int:=(ey b a 2).bind λb a=>.ok b.n a
def gE (a:List ao):Int->List ByteArray->Option Int
 |_,[]=>none
 |k,s::l=>if bu a s then some k else gE a (k+1) l
def dK (b:Int) (a:List ao) (l:bm):PO Int:=
 match gE a 1 l with
 |some c=>.ok c a.tail
 |none=>e8 b a 4
def da {a:Type} (b:aw) (c:List ao->PO a):Nat->List a->List ao->PO (List a)
 |0,l,ts=>.ok l ts
 |f+1,l,ts=>if bu ts b then(c ts.tail).bind λa d=>da b c f (l++[a]) d else .ok l ts
def dA {a:Type} (c:aw) (b:List ao->PO a) (ts:List ao):PO (List a):=
 (b ts).bind λd a=>da c b (a.length+1) [d] a
def hT (a:Int) (b:List ao):PO (List ByteArray):=dA ⟨#[44]⟩ (bW a) b
def fO (d:Int) (b:List ao):PO (Option V):=
 match b with
 |[]=>.ok none []
 |a::ts'=>
  if a.k=3 then .ok (some ⟨1,0,a.t⟩) ts'
  else if a.k=2 then .ok (some ⟨2,a.n,e0⟩) ts'
  else if fN a ⟨#[45]⟩then(cq d ts').bind λc b=>.ok (some ⟨2,-c,e0⟩) b
  else if fN a ⟨#[64]⟩then(cq d ts').bind λc b=>.ok (some ⟨3,c,e0⟩) b
  else if fN a ⟨#[116,114,117,101]⟩then .ok (some ⟨4,1,e0⟩) ts'
  else if fN a ⟨#[102,97,108,115,101]⟩then .ok (some ⟨4,0,e0⟩) ts'
  else if fN a ⟨#[110,117,108,108]⟩then .ok (some ⟨0,0,e0⟩) ts'
  else .ok none (a::ts')
def jF (c:Int) (a:List ao):PO V:=
 (fO c a).bind λb a=>match b with
  |some b=>.ok b a
  |none=>e8 c a 4
def jG (b:Int) (a:List ao):PO dG:=
 (fO b a).bind λc a=>match c with
  |some c=>.ok ⟨e0,e0,true,c⟩ a
  |none=>(bW b a).bind λc a=>if bu a ⟨#[46]⟩then(bW b a.tail).bind λb a=>.ok ⟨c,b,false,⟨0,0,e0⟩⟩ a else .ok ⟨e0,c,false,⟨0,0,e0⟩⟩ a
def mn (b:Int) (a:List ao):PO Int:=
 if bu a ⟨#[43]⟩then cq b a.tail else if bu a ⟨#[45]⟩then(cq b a.tail).bind λb a=>.ok (-b) a else .ok 0 a
def kB (b:Int) (a:List ao):PO bB:=
 (jG b a).bind λc a=>(dK b a [⟨#[61]⟩,⟨#[33,61]⟩,⟨#[60]⟩,⟨#[60,61]⟩]).bind λd a=>(jG b a).bind λe a=>(mn b a).bind λb a=>.ok ⟨c,d,e,b⟩ a
def jH (b:Int) (a:List ao):PO (List bB):=
 (aR b a [⟨#[119,104,101,114,101]⟩]).bind λ_ a=>dA ⟨#[97,110,100]⟩ (kB b) a
def fP:List ByteArray:=[⟨#[115,101,108,101,99,116]⟩,⟨#[112,114,111,106,101,99,116]⟩,⟨#[106,111,105,110]⟩,⟨#[117,110,105,111,110]⟩,⟨#[109,105,110,117,115]⟩,⟨#[114,101,110,97,109,101]⟩,⟨#[103,114,111,117,112]⟩]
def hU (a:List ao):Nat->List ByteArray->Option Nat
 |_,[]=>none
 |k,s::l=>if el a [s,⟨#[40]⟩]then some k else hU a (k+1) l
structure dc where
 conds:List bB
 names:List ByteArray
 attr:ByteArray
 cN:ByteArray
 agg:Int
def dc.zero:dc:=⟨[],[],e0,e0,0⟩
def lx (b:Int) (c:aw) (a:List ao):PO (List ByteArray):=if bu a c then .ok [] a else hT b a
def em (b:Int) (i:Nat) (a:List ao):PO dc:=
 if i=0 then(jH b a).bind λc a=>.ok {dc.zero with conds:=c} a
 else if i=1 then(aR b a [⟨#[111,110]⟩]).bind λ_ a=>(lx b ⟨#[41]⟩ a).bind λc a=>.ok {dc.zero with names:=c} a
 else if i=5 then
  (aR b a [⟨#[44]⟩]).bind λ_ a=>(bW b a).bind λd a=>(aR b a [⟨#[97,115]⟩]).bind λ_ a=>(bW b a).bind λe a=>.ok {dc.zero with attr:=d,cN:=e} a
 else if i=6 then
  (aR b a [⟨#[111,110]⟩]).bind λ_ a=>(lx b ⟨#[119,105,116,104]⟩ a).bind λc a=>(aR b a [⟨#[119,105,116,104]⟩]).bind λ_ a=>
   (dK b a [⟨#[99,111,117,110,116]⟩,⟨#[115,117,109]⟩,⟨#[108,101,97,115,116]⟩,⟨#[103,114,101,97,116,101,115,116]⟩]).bind λd a=>
    (if d=1 then .ok e0 a else bW b a).bind λe a=>(aR b a [⟨#[97,115]⟩]).bind λ_ a=>(bW b a).bind λb a=>
     .ok {dc.zero with names:=c,attr:=e,cN:=b,agg:=d} a
 else .ok dc.zero a
def mo (i:Nat):Bool:=decide (i=2)||(decide (i=3)||decide (i=4))
def cZ (a:List ao):Int:=
 match a with
 |[]=>0
 |t::_=>t.at_
def eb (a:Int):Nat->List ao->PO Ex
 |0,ts=>e8 a ts 3
 |f+1,ts=>
  match hU ts 0 fP with
  |none=>(bW a ts).bind λb c=>.ok (.mk 1 b [] [] [] e0 e0 0 (cZ ts)) c
  |some c=>
   (eb a f (ts.drop 2)).bind λb d=>
    (if mo c then(aR a d [⟨#[44]⟩]).bind λ_ e=>(eb a f e).bind λe g=>.ok [b,e] g else .ok [b] d).bind λd b=>
     (em a c b).bind λb e=>(aR a e [⟨#[41]⟩]).bind λ_ a=>
      .ok (.mk (c+2) e0 d b.conds b.names b.attr b.cN b.agg (cZ ts)) a
def kC (b:Int) (a:List ao):PO dl:=
 (bW b a).bind λc a=>(dK b a [⟨#[116,101,120,116]⟩,⟨#[110,117,109,98,101,114]⟩,⟨#[100,97,121]⟩,⟨#[102,108,97,103]⟩]).bind λd a=>
  if bu a ⟨#[61]⟩then(jF b a.tail).bind λb a=>.ok ⟨c,d,b⟩ a else .ok ⟨c,d,⟨0,0,e0⟩⟩ a
def ly (b:Int) (c:aw) (d e f i g:Int) (a:List ao):PO cL:=
 (if bu a ⟨#[116,97,107,101,115]⟩then cq b a.tail else .ok 0 a).bind λj a=>(aR b a [⟨#[59]⟩]).bind λ_ a=>.ok ⟨c,d,e,f,i,g,j⟩ a
def qJ (b:Int) (c:aw) (d e f:Int) (a:List ao):PO cL:=
 (if bu a ⟨#[47]⟩then cq b a.tail else .ok 1 a).bind λg a=>(aR b a [⟨#[103,105,118,101,115]⟩]).bind λ_ a=>(cq b a).bind λi a=>ly b c d e f g i a
def mq (b:Int) (c:aw) (d e:Int) (a:List ao):PO cL:=
 (aR b a [⟨#[108,101,97,115,116]⟩]).bind λ_ a=>(cq b a).bind λf a=>qJ b c d e f a
def iU (b:Int) (a:List ao):PO cL:=
 (bW b a).bind λd a=>(dK b a [⟨#[101,113,117,97,108]⟩,⟨#[101,100,105,116]⟩,⟨#[106,97,99,99,97,114,100]⟩,⟨#[106,97,114,111]⟩,⟨#[110,101,97,114]⟩]).bind λc a=>(if c=5 then cq b a else .ok 0 a).bind λe a=>mq b d c e a
def gF (b:Int) (a:List ao):PO (ByteArray×ByteArray):=
 (bW b a).bind λc a=>(aR b a [⟨#[46]⟩]).bind λ_ a=>(bW b a).bind λb a=>.ok (c,b) a
def kD (b:Int) (a:List ao):PO du:=
 (bW b a).bind λc a=>(aR b a [⟨#[61]⟩]).bind λ_ a=>(jF b a).bind λb a=>.ok ⟨c,b⟩ a
def kE (b:Int) (a:List ao):PO Vr:=
 (bW b a).bind λc a=>(bW b a).bind λb a=>.ok ⟨b,c⟩ a
def aI.zero:aI:=⟨0,e0,0,e0,e0,[],[],0,0,0,[],e0,e0,[],[],[],Ex.zero⟩
def np (b:Int) (c:aI) (a:List ao):PO aI:=
 (aR b a [⟨#[40]⟩]).bind λ_ a=>(dA ⟨#[44]⟩ (kC b) a).bind λd a=>(aR b a [⟨#[41]⟩,⟨#[107,101,121]⟩]).bind λ_ a=>(hT b a).bind λb a=>.ok {c with cD:=d,names:=b} a
def nr (b:Int) (c:aI) (a:List ao):PO aI:=
 (aR b a [⟨#[116,114,117,115,116]⟩]).bind λ_ a=>(cq b a).bind λb a=>.ok {c with n:=b} a
def nt (b:Int) (e:aI) (a:List ao):PO aI:=
 (aR b a [⟨#[111,110]⟩]).bind λ_ a=>(gF b a).bind λc a=>(aR b a [⟨#[98,121]⟩]).bind λ_ a=>(dK b a [⟨#[101,120,97,99,116]⟩,⟨#[116,111,107,101,110]⟩,⟨#[112,114,101,102,105,120]⟩,⟨#[115,107,101,116,99,104]⟩]).bind λd a=>
  if d=3 then(cq b a).bind λf a=>.ok {e with table:=c.1,attr:=c.2,bf:=d,n:=f} a
  else if d=4 then(cq b a).bind λf a=>(cq b a).bind λb a=>.ok {e with table:=c.1,attr:=c.2,bf:=d,n:=f,m:=b} a
  else .ok {e with table:=c.1,attr:=c.2,bf:=d} a
def hV (a:Int):Nat->List cL->List ao->PO (List cL)
 |0,l,ts=>.ok l ts
 |f+1,l,ts=>if bu ts ⟨#[125]⟩then .ok l ts else(iU a ts).bind λb c=>hV a f (l++[b]) c
def nu (b:Int) (c:aI) (a:List ao):PO aI:=
 (aR b a [⟨#[111,110]⟩]).bind λ_ a=>(bW b a).bind λd a=>(aR b a [⟨#[97,116]⟩]).bind λ_ a=>(cq b a).bind λe a=>(aR b a [⟨#[123]⟩]).bind λ_ a=>
  (hV b (a.length+1) [] a).bind λb a=>.ok {c with table:=d,n:=e,terms:=b} a
def nw (b:Int) (d:aI) (a:List ao):PO aI:=
 (gF b a).bind λc a=>(aR b a [⟨#[98,121]⟩]).bind λ_ a=>(dK b a [⟨#[108,97,116,101,115,116]⟩,⟨#[109,111,115,116]⟩,⟨#[116,114,117,115,116,101,100]⟩,⟨#[108,111,110,103,101,115,116]⟩,⟨#[108,101,97,115,116]⟩,⟨#[103,114,101,97,116,101,115,116]⟩]).bind λb a=>.ok {d with table:=c.1,attr:=c.2,bf:=b} a
def hW (b:Int) (c:aI) (a:List ao):PO aI:=
 (aR b a [⟨#[111,110]⟩]).bind λ_ a=>(bW b a).bind λd a=>(aR b a [⟨#[40]⟩]).bind λ_ a=>(hT b a).bind λe a=>(aR b a [⟨#[41]⟩]).bind λ_ a=>.ok {c with table:=d,names:=e} a
def nx (b:Int) (c:aI) (a:List ao):PO aI:=
 (hW b c a).bind λc a=>(aR b a [⟨#[116,111]⟩]).bind λ_ a=>(bW b a).bind λd a=>
  if bu a ⟨#[119,104,101,114,101]⟩then(dA ⟨#[44]⟩ (kD b) a.tail).bind λb a=>.ok {c with attr:=d,fixed:=b} a else .ok {c with attr:=d} a
def ny (b:Int) (d:aI) (a:List ao):PO aI:=
 (gF b a).bind λc a=>(aR b a [⟨#[105,110]⟩]).bind λ_ a=>(gF b a).bind λb a=>.ok {d with table:=c.1,attr:=c.2,other:=b.1,kA:=b.2} a
def nz (b:Int) (c:aI) (a:List ao):PO aI:=
 (dA ⟨#[44]⟩ (kE b) a).bind λd a=>(jH b a).bind λb a=>.ok {c with vars:=d,conds:=b} a
def nA (b:Int) (c:aI) (a:List ao):PO aI:=
 (aR b a [⟨#[61]⟩]).bind λ_ a=>(eb b 12 a).bind λb a=>.ok {c with expr:=b} a
def fb:List ByteArray:=[⟨#[116,97,98,108,101]⟩,⟨#[115,111,117,114,99,101]⟩,⟨#[98,108,111,99,107]⟩,⟨#[109,97,116,99,104]⟩,⟨#[107,101,101,112]⟩,⟨#[117,110,105,113,117,101]⟩,⟨#[100,101,112,101,110,100]⟩,⟨#[105,110,99,108,117,100,101]⟩,⟨#[100,101,110,121]⟩,⟨#[113,117,101,114,121]⟩]
def en (b:Int) (a:aI) (c:List ao):PO aI:=
 if a.kind=1 then np b a c else if a.kind=2 then nr b a c else if a.kind=3 then nt b a c else if a.kind=4 then nu b a c else if a.kind=5 then nw b a c
 else if a.kind=6 then hW b a c else if a.kind=7 then nx b a c else if a.kind=8 then ny b a c else if a.kind=9 then nz b a c else nA b a c
def iV (b:Int) (d:List ao):PO aI:=
 (dK b d fb).bind λc a=>(if c=5 then .ok e0 a else bW b a).bind λe a=>
  (en b {aI.zero with kind:=c,name:=e,at_:=cZ d} a).bind λd a=>(aR b a (if c=4 then[⟨#[125]⟩]else[⟨#[59]⟩])).bind λ_ a=>.ok d a
def iW (b:Int):Nat->List aI->List ao->PO (List aI)
 |0,l,ts=>.ok l ts
 |f+1,l,ts=>
  match ts with
  |[]=>.ok l []
  |a::ts'=>if l.length=200 then .bad 3 a.at_ else(iV b (a::ts')).bind λc d=>iW b f (l++[c]) d
def qK (b:Int) (a:List ao):PO (List aI):=iW b (a.length+1) [] a
end Go.Proofs.YteamkimbmdgdbaaGreatDoor

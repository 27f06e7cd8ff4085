import Derived.Test.YteamkimbmdgdbaaGreatDoorK24
import Derived.Test.YteamkimbmdgdbaaGreatDoorK25
set_option linter.unusedSimpArgs false
set_option linter.unusedVariables false
set_option maxHeartbeats 16000000
set_option maxRecDepth 100000
namespace Go.Proofs.YteamkimbmdgdbaaGreatDoor
open Go.RowKit
def dP (p:Int×Int):List Value:=[.int .i64 p.1,.int .i64 p.2]
theorem p1 (p:Int×Int):(dP p).length=2:=rfl
def eQ (a:af) (b:Nat) (c:List (Int×Int)):Prop:=J a b 97 (c.flatMap dP).toArray
theorem Tryz.p2:(Tryz.prog.info? 97).map (λi=>(i.zero,i.size,i.bytes))=some (some (.agg #[O 0,O 0]),2,16):=ak
theorem vz:∀a:Nat,(List.replicate a ((0:Int),(0:Int))).flatMap dP=List.replicate (a*2) (Value.int .i64 0)
 |0=>rfl
 |a+1=>by
  rw[List.replicate_succ,List.flatMap_cons,vz a,show(a+1)*2=a*2+1+1 by omega,List.replicate_succ,List.replicate_succ];rfl
theorem Dg (a:Nat):madeCells #[Value.int .i64 0,Value.int .i64 0] (a*2)=((List.replicate a ((0:Int),(0:Int))).flatMap dP).toArray:=by
 rw[vz];apply Array.ext
 ·simp[madeCells]
 intro a b b;have h:a%2=0\/a%2=1:=ae
 rcases h with h|h<;>simp[madeCells,h]
theorem Dh (a:Nat) (b:a<=1000000) (b:af):(Instr.makeSlice 38 (a:Int) (a:Int)).run Tryz.prog b=
 .ok (.slice (some ⟨b.heap.size,0,none⟩) a a) (b.alloc (.cells ((List.replicate a ((0:Int),(0:Int))).flatMap dP).toArray 97)):=by
 obtain⟨c,d,e,f,g⟩:=info_parts Tryz.p2;have h:=run_make (P:=Tryz.prog) b 38 97 c _ Tryz.underlying38 d e .i64 .i64 (a:Int) (a:Int) ae ae (by rw[g];omega) ae;rw[h,f];have a:((a:Int)).toNat=a:=by omega
 rw[a];show _=Result.ok _ (b.alloc (.cells _ _));rw[<-Dg];rfl
theorem vA:∀(c:List (Int×Int)) (a:Nat) (b:Int×Int),c[a]?=some b->(c.flatMap dP)[a*2]?=some (.int .i64 b.1)/\(c.flatMap dP)[a*2+1]?=some (.int .i64 b.2)
 |[],a,b,h=>by simp at h
 |f::c,0,b,h=>by
  simp at h;subst h;exact⟨rfl,rfl⟩
 |f::c,a+1,b,h=>by
  have:=vA c a b (by simpa using h);rw[List.flatMap_cons,show(a+1)*2=a*2+2 by omega];exact this
theorem vB:∀(c:List (Int×Int)) (a:Nat) (b:Int×Int),((c.flatMap dP).set (a*2) b.1).set (a*2+1) b.2=(c.set a b).flatMap dP
 |[],a,b=>by simp
 |f::c,0,b=>rfl
 |f::c,a+1,b=>by
  have:=vB c a b;rw[List.set_cons_succ,List.flatMap_cons,List.flatMap_cons,<-this,show(a+1)*2=a*2+1+1 by omega];rfl
theorem eQ.get {a:af} {b:Nat} {c:List (Int×Int)} (h:eQ a b c) {i:Nat} {p:Int×Int} (d:c[i]?=some p):ac a (ab b (i*2)) p.1/\ac a (ab b (i*2+1)) p.2:=by
 have b:=J.cell h (i*2);have e:=J.cell h (i*2+1);have a:=vA c i p d;exact⟨b.trans (by simpa using a.1),e.trans (by simpa using a.2)⟩
theorem eQ.set {w:af} {g:Nat} {a:List (Int×Int)} (h:eQ w g a) (i:Nat) (p:Int×Int):eQ ((w.setCell (ab g (i*2)) p.1).setCell (ab g (i*2+1)) p.2) g (a.set i p):=by
 have a:=(J.aP h (i*2) p.1).aP (i*2+1) p.2;unfold eQ;rw[<-vB];simpa using a
theorem eQ.kp {w a:af} {g:Nat} {b:List (Int×Int)} (h:eQ w g b) {l:List Nat} (k:Kp l w a) (c:g∉l):eQ a g b:=k.blk h c
theorem mZ {P:Program} {i:Array Oper} {rest:List Oper} {d:Oper} {f:Act} {w:af} {j:Exit->Act->World->Prop} (l:d.guard=none) (a:bb) (e:Operand) (m:d.op=.load a e)
 (b c:Nat) (cs:bg) (n:f.eval e=.pointer (some ⟨b,c,none⟩)) (o:∀e v,cs[e]?=some v->ac w (ab b (c+e)) v) (g:TypeDesc) (p:P.underlying a=some g) (x:(match g with|.struct _|.array _ _=>true|_=>false)=true) (k:(P.info? a).map (·.size)=some cs.length)
 (h:wpList P i j rest (f.put d.dst (.agg cs.toArray)) w):wpList P i j (d::rest) f w:=by
 refine wpList_plain l λd q=>?_;have r:(loadCells ⟨b,c,none⟩ cs.length).run P w=.ok cs.toArray w:=
  run_loadCells_list (P:=P) w ⟨b,c,none⟩ cs (λe v d=>by
   rw[Addr.add_lit];exact o e v d)
 have s:(Instr.loadAt a (.pointer (some ⟨b,c,none⟩))).run P w=.ok (.agg cs.toArray) w:=by
  simp only[Instr.loadAt,Instr.sureAddr,Sem.run_bind,Sem.run_pure,Result.andThen];cases hq:P.info? a with
  |none=>simp[hq]at k
  |some b=>
   have t:b.size=cs.length:=by simpa[hq]using k
   have u:(isAgg a).run P w=.ok true w:=by
    unfold isAgg;rw[Sem.run_bind,run_underlying p w];cases g<;>simp_all
   simp[loadVar,Sem.run_bind,u,sizeOf,typeInfo,hq,t,r]
 unfold Oper.wp execOp;simp only[m,n,Sem.run_bind,s,Result.andThen_ok];exact q _ _ h
def b6:Array Value:=#[aa,aa,aa,aa,aa,aa,aa]
def L1 (a b:af) (hv:ay) (c:List RI) (i:Nat):Prop:=∃(d:List RT) (e:List (Int×Int)) (f:cI) (g:Nat->Prop) (j:Int),ag a b/\J b a.heap.size 24 #[hv]/\J b (a.heap.size+1) 37 b6/\
 J b (a.heap.size+1+1+1+1) 154 #[aj (a.heap.size+1+1+1)]/\eQ b (a.heap.size+1+1+1+1+1) (e++List.replicate (c.length-i) (0,0))/\e.length=i/\d.length<=i/\
 k0 b (a.heap.size+1+1+1) (a.heap.size+1+1) (a.heap.size+1+1+1+1+1+1) g d f j/\ep [] [] [] (c.map RI.it)=ep (d.map RT.tb) f e ((c.drop i).map RI.it)
theorem cK.start {a:af} {b c e:Nat} (f:J a b 157 #[aa,aa,aa,aa,aa,aa,aa,.map (some c),O 0]) (g:b<e) (i:c<b) (d:e<=a.heap.size) (j:dT a c [] []):
 k0 a b c e (λ_=>False) [] [] 0:=
 ⟨aJ,[],rfl,{
  bx:=f,hX:=g,hM:=i,hb:=d,lt:=(λ_ h=>h.elim),na:=(λ_=>j),nin:=(λa k=>by cases k),gO:=(λa k=>by cases k)
  own:=(λa a=>by rw[aA a];exact⟨rfl,.inl ⟨rfl,rfl⟩⟩)
  eP:=(λa a b d=>by rw[aA a]at d;cases d)
  one:=(λa a a a a a b c c=>by
   have a:=(List.getElem?_eq_some_iff.1 a).1;have b:=(List.getElem?_eq_some_iff.1 b).1;simp at a b;omega)
  fine:=(λa a=>by rw[aA a];exact vl _ _)
  nest:=(λa a=>by rw[aA a];exact λa k=>by cases k)}⟩
theorem Di (a:af) (hv:ay) (b:List RI):
 L1 a ((((((a.alloc (.cells #[hv] 24)).alloc (.cells b6 37)).alloc (.map #[] 0)).alloc (.cells #[aa,aa,aa,aa,aa,aa,aa,.map (some (a.heap.size+1+1)),O 0] 157)).alloc (.cells #[aj (a.heap.size+1+1+1)] 154)).alloc (.cells ((List.replicate b.length ((0:Int),(0:Int))).flatMap dP).toArray 97)) hv b 0:=by
 refine⟨[],[],[],λ_=>False,0,?_,?_,?_,?_,?_,rfl,Nat.le_refl _,?_,by simp⟩
 ·exact(((((((ag.refl a).alloc _).alloc _).alloc _).alloc _).alloc _).alloc _)
 ·exact(((((J.new a _ _).alloc _).alloc _).alloc _).alloc _).alloc _
 ·have h:=J.new (a.alloc (.cells #[hv] 24)) 37 b6
  rw[show(a.alloc (.cells #[hv] 24)).heap.size=a.heap.size+1 by simp]at h;exact(((h.alloc _).alloc _).alloc _).alloc _
 ·have h:=J.new ((((a.alloc (.cells #[hv] 24)).alloc (.cells b6 37)).alloc (.map #[] 0)).alloc (.cells #[aa,aa,aa,aa,aa,aa,aa,.map (some (a.heap.size+1+1)),O 0] 157)) 154 #[aj (a.heap.size+1+1+1)]
  simp only[World.alloc,Array.size_push]at h⊢;exact h.alloc _
 ·have h:=J.new (((((a.alloc (.cells #[hv] 24)).alloc (.cells b6 37)).alloc (.map #[] 0)).alloc (.cells #[aa,aa,aa,aa,aa,aa,aa,.map (some (a.heap.size+1+1)),O 0] 157)).alloc (.cells #[aj (a.heap.size+1+1+1)] 154)) 97 ((List.replicate b.length ((0:Int),(0:Int))).flatMap dP).toArray
  simp only[World.alloc,Array.size_push]at h⊢;simpa[eQ]using h
 refine cK.start ?_ ae ae ai ?_
 ·have h:=J.new (((a.alloc (.cells #[hv] 24)).alloc (.cells b6 37)).alloc (.map #[] 0)) 157 #[aa,aa,aa,aa,aa,aa,aa,.map (some (a.heap.size+1+1)),O 0]
  simp only[World.alloc,Array.size_push]at h⊢;exact(h.alloc _).alloc _
 have h:=dT.start ((a.alloc (.cells #[hv] 24)).alloc (.cells b6 37));simp only[World.alloc,Array.size_push]at h⊢;exact h.kp (k:=[]) (Kp.of_same ((((ag.refl _).alloc _).alloc _).alloc _)) (λ_ h=>by cases h)
theorem Dj (a:List Tb) (c:cI) (b:aI):(fI a c b).1.length<=a.length+1:=by
 unfold fI;split
 ·simp
 split
 ·cases fL a b<;>simp
 simp
theorem Dk (a:List (Int×Int)) (b c:Nat) (p:Int×Int) (h:a.length=c) (d:c<b):(a++List.replicate (b-c) ((0:Int),(0:Int))).set c p=(a++[p])++List.replicate (b-(c+1)) (0,0):=by
 subst h;obtain⟨c,d⟩:∃c,b-a.length=c+1:=⟨b-a.length-1,by omega⟩;rw[d,show b-(a.length+1)=c by omega,List.set_append_right _ _ (Nat.le_refl _),Nat.sub_self,List.replicate_succ,List.set_cons_zero,List.append_assoc];rfl
theorem Dl {a e j:af} {hv:ay} {c:List RI} {i:Nat} {f:RI} {q s:List RT} {k:List (Int×Int)} {u:cI} {v:Nat->Prop} {t:List Nat} {d:Int×Int} (w:i<c.length) (B:f=c[i]) (sm:ag a e) (C:J e a.heap.size 24 #[hv]) (D:J e (a.heap.size+1) 37 b6)
 (E:J e (a.heap.size+1+1+1+1) 154 #[aj (a.heap.size+1+1+1)]) (F:eQ e (a.heap.size+1+1+1+1+1) (k++List.replicate (c.length-i) (0,0))) (x:k.length=i) (K:q.length<=i) (K:a.heap.size+1+1+1+1+1<e.heap.size)
 (G:ep [] [] [] (c.map RI.it)=ep (q.map RT.tb) u k ((c.drop i).map RI.it)) (n:Kp t e j) (y:∀b∈t,b=a.heap.size+1+1\/b=a.heap.size+1+1+1\/a.heap.size+1+1+1+1+1<b) (z:fI (q.map RT.tb) u f.it=(s.map RT.tb,d))
 (H:k0 j (a.heap.size+1+1+1) (a.heap.size+1+1) (a.heap.size+1+1+1+1+1+1) v s (eo u f.it).1 f.at_):
 eQ j (a.heap.size+1+1+1+1+1) (k++List.replicate (c.length-i) (0,0))/\
 L1 a ((j.setCell (ab (a.heap.size+1+1+1+1+1) (i*2)) d.1).setCell (ab (a.heap.size+1+1+1+1+1) (i*2+1)) d.2) hv c (i+1):=by
 have r:∀b,b<a.heap.size+1+1\/b=a.heap.size+1+1+1+1\/b=a.heap.size+1+1+1+1+1->b∉t:=λb m g=>by
  rcases y b g with h|h|h<;>omega
 have A:=F.kp n (r _ ae);have o:=Kp.aE (l:=[a.heap.size+1+1+1+1+1]) (p:=(ab (a.heap.size+1+1+1+1+1) (i*2+1))) ai (Kp.aE (p:=(ab (a.heap.size+1+1+1+1+1) (i*2))) ai (Kp.refl [a.heap.size+1+1+1+1+1] j) d.1) d.2;have I:ag a j:=n.g4 sm (λb m=>by rcases y b m with h|h|h<;>omega);refine⟨A,s,k++[d],(eo u f.it).1,v,f.at_,o.g4 I (λb m=>by rw[aA m];omega),o.blk (n.blk C (r _ ae)) (λg=>by have:=aA g;omega),o.blk (n.blk D (r _ ae)) (λg=>by have:=aA g;omega),o.blk (n.blk E (r _ ae)) (λg=>by have:=aA g;omega),?_,by simp[x],?_,?_,?_⟩
 ·have:=A.set i d
  rw[Dk k c.length i d x w]at this;exact this
 ·have:=Dj (q.map RT.tb) u f.it
  rw[z]at this;simp at this;omega
 ·obtain⟨h,c,d,a⟩:=H
  refine⟨h,c,d,a.kp o (λb m=>?_)⟩;rw[aA m];exact⟨by omega,by omega,λb=>by have:=(a.lt _ b).1;omega⟩
 rw[G,List.drop_eq_getElem_cons w,List.map_cons,p0,<-B,z]
def PO.Has {a:Type} (c:PO a) (d:Nat) (P:a->Prop):Prop:=∀a b,c=.ok a b->b.length<=d/\P a
theorem PO.Has.bind {b d:Type} {c:PO b} {f:b->List ao->PO d} {n:Nat} {P:b->Prop} {b:d->Prop} (h:c.Has n P) (e:∀a ts,P a->ts.length<=n->(f a ts).Has n b):(c.bind f).Has n b:=by
 cases c with
 |bad b a=>intro b ts h;cases h
 |ok a ts=>exact e a ts (h a ts rfl).2 (h a ts rfl).1
theorem PO.Le.has {c e:Type} {d:PO c} {f:c->List ao->PO e} {c:Nat} {g:e->Prop} (h:d.Le c) (i:∀a b,b.length<=c->(f a b).Has c g):(d.bind f).Has c g:=by
 cases d with
 |bad c a=>intro c b h;cases h
 |ok a b=>exact i a b (h a b rfl)
theorem PO.Has.ok {α:Type} {a:α} {ts:List ao} {n:Nat} {P:α->Prop} (h:ts.length<=n) (c:P a):(PO.ok a ts).Has n P:=by
 intro d d b;injection b with e1 b
 subst b e1;exact⟨h,c⟩
theorem PO.Has.bad {α:Type} {a b:Int} {c:Nat} {d:α->Prop}:(PO.bad a b:PO α).Has c d:=by intro a a h;cases h
theorem PO.Has.ite {a:Type} {b:Prop} [Decidable b] {c d:PO a} {n:Nat} {P:a->Prop} (h:c.Has n P) (a:d.Has n P):(if b then c else d).Has n P:=by split<;>assumption
theorem EV {a:Type} (c:Int) (b:List ao) (d:Int) (e:Nat) (P:a->Prop):(e8 c b d:PO a).Has e P:=by cases b<;>exact .bad
theorem EW {g:Type} (j:aw) (f:List ao->PO g) (k:∀b a,b.length<=a->(f b).Le a):∀(d:Nat) (c:List g) (b:List ao) (a:Nat),b.length<=a->(da j f d c b).Has a (λg=>g.length<=c.length+a):=by
 intro d;induction d with
 |zero=>intro c b a h;exact .ok h ae
 |succ d l=>
  intro c b a h;unfold da;split
  ·rename_i m
   cases b with
   |nil=>simp[bu,el]at m
   |cons n i=>
    simp at h;intro o p e;cases ho':f (List.tail (n::i))with
    |bad b b=>rw[ho']at e;cases e
    |ok b d=>
     rw[ho']at e;have f:=k i (a-1) ae b d ho';have a:=l (c++[b]) d (a-1) f o p e;have a:=a.2;simp at a;exact⟨by omega,by omega⟩
  exact .ok h ae
theorem ww {a:Type} (c:aw) (b:List ao->PO a) (d:∀a e,a.length<=e->(b a).Le e) (a:List ao) (h:a.length<=5000):(dA c b a).Has 5000 (λa=>a.length<=5001):=
 (d _ _ h).has λa a h=>λa e f=>by
  have:=EW c b d _ _ _ _ h a e f;simp at this;exact⟨this.1,by omega⟩
theorem sd (a:Int) (b:List ao) (h:b.length<=5000):(hT a b).Has 5000 (λb=>b.length<=5001):=ww _ _ (dx a) _ h
theorem wy (b:Int) (c:aw) (a:List ao) (h:a.length<=5000):(lx b c a).Has 5000 (λc=>c.length<=5001):=.ite (.ok h ai) (sd b a h)
theorem EX (a:Int) (c:Nat) (b:List ao) (h:b.length<=5000):(em a c b).Has 5000 (λc=>c.names.length<=5001):=
 .ite ((pi a b _ h).has λ_ _ h=>.ok h (by simp[dc.zero])) (.ite ((b5 a _ _ _ h).has λ_ _ h=>(wy a _ _ h).bind λ_ _ b h=>.ok h b) (.ite
  ((b5 a _ _ _ h).has λ_ _ h=>(dx a _ _ h).has λ_ _ h=>(b5 a _ _ _ h).has λ_ _ h=>(dx a _ _ h).has λ_ _ h=>.ok h (by simp[dc.zero])) (.ite
  (
   (
   b5 a _ _ _ h).has λ_ _ h=>(wy a _ _ h).bind λ_ _ b h=>(b5 a _ _ _ h).has λ_ _ h=>(h8 a _ _ _ h).has λ_ _ h=>
   (PO.Le.ite (.ok h) (dx a _ _ h)).has λ_ _ h=>(b5 a _ _ _ h).has λ_ _ h=>(dx a _ _ h).has λ_ _ h=>.ok h b) (.ok h (by simp[dc.zero])))))
theorem EY (c:Int):∀(d:Nat) (b:List ao),b.length<=5000->(eb c d b).Has 5000 Ex.dh:=by
 intro d;induction d with
 |zero=>intro b h;exact EV _ _ _ _ _
 |succ d e=>
  intro b h;unfold eb;cases hU b 0 fP with
  |none=>exact(dx c b _ h).has λ_ _ h=>.ok h ⟨by simp,by simp,by trivial⟩
  |some g=>
   exact(e _ (s9 2 h)).bind λd b b h=>(PO.Has.ite (P:=λf=>f.length<=5001/\Ex.kZ f) ((b5 c _ _ _ h).has λ_ _ h=>(e _ h).bind λe _ f h=>PO.Has.ok (a:=[d,e]) h ⟨by simp,(show d.dh/\e.dh/\True from⟨b,f,trivial⟩)⟩) (PO.Has.ok (a:=[d]) h ⟨by simp,(show d.dh/\True from⟨b,trivial⟩)⟩)).bind λb _ b h=>
    (EX c g _ h).bind λd _ d h=>(b5 c _ _ _ h).has λ_ _ h=>.ok h ⟨d,b.1,b.2⟩
structure aI.dh (x:aI):Prop where
 n:x.names.length<=5001
 f:x.fixed.length<=5001
 e:x.expr.dh
theorem wz (a:Int) (b:aI) (c:List ao) (d:b.dh) (h:c.length<=5000):(hW a b c).Has 5000 aI.dh:=
 (b5 a _ _ _ h).has λ_ _ h=>(dx a _ _ h).has λ_ _ h=>(b5 a _ _ _ h).has λ_ _ h=>(sd a _ h).bind λ_ _ b h=>(b5 a _ _ _ h).has λ_ _ h=>.ok h ⟨b,d.f,d.e⟩
theorem EZ (a:Int) (d:aI) (i:List ao) (b:d.dh) (h:i.length<=5000):(en a d i).Has 5000 aI.dh:=by
 have c:∀{g:aI} {c:List ao},c.length<=5000->g.names=d.names->g.fixed=d.fixed->g.expr=d.expr->(PO.ok g c).Has 5000 aI.dh:=λh c j k=>.ok h ⟨c▸b.n,j▸b.f,k▸b.e⟩;unfold en;refine .ite ?_ (.ite ?_ (.ite ?_ (.ite ?_ (.ite ?_ (.ite ?_ (.ite ?_ (.ite ?_ (.ite ?_ ?_))))))))
 ·exact(b5 a _ _ _ h).has λ_ _ h=>(lG _ _ (qQ a) _ _ h).has λ_ _ h=>(b5 a _ _ _ h).has λ_ _ h=>(sd a _ h).bind λ_ _ j h=>.ok h ⟨j,b.f,b.e⟩
 ·exact(b5 a _ _ _ h).has λ_ _ h=>(eU a _ _ h).has λ_ _ h=>c h rfl rfl rfl
 ·exact(b5 a _ _ _ h).has λ_ _ h=>(la a _ _ h).has λ_ _ h=>(b5 a _ _ _ h).has λ_ _ h=>(h8 a _ _ _ h).has λ_ _ h=>.ite ((eU a _ _ h).has λ_ _ h=>c h rfl rfl rfl) (.ite ((eU a _ _ h).has λ_ _ h=>(eU a _ _ h).has λ_ _ h=>c h rfl rfl rfl) (c h rfl rfl rfl))
 ·exact(b5 a _ _ _ h).has λ_ _ h=>(dx a _ _ h).has λ_ _ h=>(b5 a _ _ _ h).has λ_ _ h=>(eU a _ _ h).has λ_ _ h=>(b5 a _ _ _ h).has λ_ _ h=>(sa a _ _ _ _ h).has λ_ _ h=>c h rfl rfl rfl
 ·exact(la a _ _ h).has λ_ _ h=>(b5 a _ _ _ h).has λ_ _ h=>(h8 a _ _ _ h).has λ_ _ h=>c h rfl rfl rfl
 ·exact wz a d i b h
 ·exact(wz a d i b h).bind λg _ d h=>(b5 a _ _ _ h).has λ_ _ h=>(dx a _ _ h).has λ_ _ h=>.ite ((ww _ _ (qR a) _ (h7 h)).bind λ_ _ g h=>.ok h ⟨d.n,g,d.e⟩) (.ok h ⟨d.n,d.f,d.e⟩)
 ·exact(la a _ _ h).has λ_ _ h=>(b5 a _ _ _ h).has λ_ _ h=>(la a _ _ h).has λ_ _ h=>c h rfl rfl rfl
 ·exact(lG _ _ (qS a) _ _ h).has λ_ _ h=>(pi a _ _ h).has λ_ _ h=>c h rfl rfl rfl
 exact(b5 a _ _ _ h).has λ_ _ h=>(EY a _ _ h).bind λa _ a h=>.ok h ⟨b.n,b.f,a⟩
theorem E2 (a:Int) (b:List ao) (h:b.length<=5000):(iV a b).Has 5000 aI.dh:=
 (h8 a _ _ _ h).has λ_ _ h=>(PO.Le.ite (.ok h) (dx a _ _ h)).has λ_ _ h=>(EZ a _ _ ⟨by simp[aI.zero],by simp[aI.zero],by show Ex.zero.dh;exact⟨by simp,by simp,by trivial⟩⟩ h).bind λ_ _ b h=>(b5 a _ _ _ h).has λ_ _ h=>.ok h b
theorem E3 (f:Int):∀(d:Nat) (a:List aI) (b:List ao),(∀e∈a,e.dh)->a.length<=200->b.length<=5000->(iW f d a b).Has 5000 (λg=>(∀e∈g,e.dh)/\g.length<=200):=by
 intro d;induction d with
 |zero=>intro a b c g h;exact .ok h ⟨c,g⟩
 |succ d j=>
  intro a b i k h;cases b with
  |nil=>exact .ok h ⟨i,k⟩
  |cons a a=>
   rw[qu];split
   ·exact .bad
   ·exact(E2 f _ h).bind λe _ l h=>j _ _ (λm c=>by
     rcases cY c with c|c
     ·exact i m c
     rw[aA c];exact l) aC h
theorem wA:∀(b:Nat) (e:bL) (d:Nat) (a:List ao),a.length<=5000->(g6 b e d a).1.length<=5000
 |0,e,d,a,h=>h
 |b+1,[],d,a,h=>h
 |b+1,c::e,d,a,h=>by
  rw[EH];split
  ·simp
  ·simp
  split
  ·simp
  exact wA b _ _ _ aC
theorem E8 (a:bL):(dq a).1.length<=5000:=by
 unfold dq;split
 ·simp
 exact wA _ _ _ _ ai
theorem E9 {l:bL} {xs:List aI} {a:List ao} (h:gi l=.ok xs a):(∀b∈xs,b.dh)/\xs.length<=200:=by
 unfold gi at h;split at h
 ·exact(E3 _ _ _ _ ai ai (E8 l) xs a h).2
 cases h
theorem Fe (b:aw) (w:af) (bQ:aG b) (ca:b4 w ⟨some ⟨0,0,none⟩,10,10⟩ fb) (cb:0<w.heap.size) (bt:(dq (ba b)).2.1=0):
 Calls Tryz.prog 26 #[b] w λbh o=>iR w (gi (ba b)) bh o:=by
 have cb:∀(cb:Fn) (first cap:aO) (w:af),(Instr.makeFunc cb first cap).run Tryz.prog w=.ok (.func cb first cap) w:=λ_ _ _ _=>rfl;obtain⟨ct,cu,cv,cw,cx⟩:=info_parts Tryz.wl;have cb:(b.size:Int)<=9223372036854775807:=by unfold aG at bQ;omega
 have cy:=Z ca;have bR:=Z (wj b (((w.alloc (.cells #[aa] 24)).alloc (.cells #[O 0] 76)).alloc (.cells #[O 0] 3)) bQ);have bS:=Z (wu (ba b));have bu:Hid (gi (ba b)=if(dq (ba b)).2.1=0 then qK (b.size:Int) (dq (ba b)).1 else .bad (dq (ba b)).2.1 (dq (ba b)).2.2):=Z (by unfold gi;rw[eJ]);have cb:ag w (((w.alloc (.cells #[aa] 24)).alloc (.cells #[O 0] 76)).alloc (.cells #[O 0] 3)):=(((ag.refl w).alloc _).alloc _).alloc _;have cc:=Z cb;have bT:=Z (show J (((w.alloc (.cells #[aa] 24)).alloc (.cells #[O 0] 76)).alloc (.cells #[O 0] 3)) (w.heap.size) 24 #[aa]from((hL _ rfl).alloc _).alloc _);have bU:=Z (show J (((w.alloc (.cells #[aa] 24)).alloc (.cells #[O 0] 76)).alloc (.cells #[O 0] 3)) (w.heap.size+1) 76 #[O 0]from(hL _ ai).alloc _);have bW:=Z (show J (((w.alloc (.cells #[aa] 24)).alloc (.cells #[O 0] 76)).alloc (.cells #[O 0] 3)) (w.heap.size+1+1) 3 #[O 0]from hL _ ai);clear ca bQ cb;generalize gi (ba b)=a6 at bu⊢;generalize dq (ba b)=cz at bR bS bu bt;obtain⟨bi,a7,cd⟩:=cz;have cA:=Z bt;clear bt;go_enter_defers Tryz.func26,Tryz.ntmps26
 go_wp2_with fail
 refine bR.out.mono ?_;rintro bh ah ⟨⟨bX,bY,bZ⟩,cB,bj,sm⟩;obtain rfl:bh=.returned (.tuple #[U bX bY bZ,a7,cd]):=cB;have bv:=Z bj;have cD:=Z (cc.trans sm);have bw:=Z (bT.below sm bT.lt);have bk:=Z (bU.below sm bU.lt);have a8:=Z (bW.below sm bW.lt);clear bj sm bR bT bU bW cc;have cE:=λc=>J.frozen bw c;have cF:=λc=>J.frozen bk c;have cG:=λc=>J.frozen a8 c;have cH:=az bw;have cI:=az bk;have cJ:=az a8;have bt:=cA.out;subst a7;have bt:=bS rfl;subst cd;have a9:=Z (show a6=iW (b.size:Int) (bi.length+1) [] bi by rw[bu.out];exact if_pos rfl);clear bu bS;have bt:=bv.lies.1;have bt:=bv.cap;obtain⟨d,b0⟩:∃d,d=ah.heap.size:=⟨_,rfl⟩;have bt:w.heap.size+3<=d:=by have:=a8.out.lt;omega
 have b3:Hid (gW w (((ah.setCell (ab (w.heap.size+1) 0) (O 0)).setCell (ab (w.heap.size+1+1) 0) (O 0)).alloc (.cells #[U bX bY bZ,b.size] 129)) d (b.size:Int) bi none 0 0 []):=Z (by
  have a:=(Kp.aE (p:=(ab (w.heap.size+1+1) 0)) (l:=[w.heap.size,w.heap.size+1,w.heap.size+1+1]) ai (Kp.aE (p:=(ab (w.heap.size+1) 0)) (l:=[w.heap.size,w.heap.size+1,w.heap.size+1+1]) ai (Kp.refl _ ah) (O 0)) (O 0));refine⟨?_,?_,?_,?_,?_,bt,iQ.none_ _ _,by omega⟩
  ·exact(a.old (l':=[]) (Kp.of_same cD.out) (λa hb a=>by simp at hb;omega)).alloc _
  ·exact((J.far (J.far bw.out (p:=(ab (w.heap.size+1) 0)) aD (O 0)) (p:=(ab (w.heap.size+1+1) 0)) aD (O 0))).alloc _
  ·exact((J.far ((bk.out).aP 0 (O 0)) (p:=(ab (w.heap.size+1+1) 0)) aD (O 0))).alloc _
  ·exact((((J.far a8.out (p:=(ab (w.heap.size+1) 0)) aD (O 0))).aP 0 (O 0))).alloc _
  have a:=(bv.out.wo bk.out (O 0)).wo (J.far a8.out (p:=(ab (w.heap.size+1) 0)) aD _) (O 0);refine⟨⟨bX,bY,bZ⟩,?_,(a.same ((ag.refl _).alloc _)).up ae⟩;exact hL d (by rw[b0];simp))
 rw[b0]at b3;go_wp2_with fail
 rw[<-b0]at*;go_loopg [] (bi.length+1) (λe wr=>∃(a:List ao) (g:List RI) (j:aX) (m q:Nat),Hid (gW w wr d (b.size:Int) a j m q g)/\a.length<e/\Hid (a6=iW (b.size:Int) e (g.map RI.it) a))
 case atStart=>exact⟨bi,[],none,0,0,b3,by omega,a9⟩
 obtain⟨ce,bl,bx,g,e,a,cf,bb⟩:=hrel;clear b3 a9 bv bw bk a8 cE cF cG cH cI cJ;obtain⟨bm,rfl⟩:∃bm,gk=bm+1:=⟨gk-1,by omega⟩;have cK:=Z cf;clear cf;obtain⟨a8,j,bi,bk,cg,bt⟩:∃(a8:aX) (j bi:Nat),J wr d 129 #[U a8 j bi,b.size]/\ce.length=j/\j<=9223372036854775807:=by
  obtain⟨⟨a8,j,bi⟩,hb,bj⟩:=a.out.pb;exact⟨a8,j,bi,hb,bj.lies.1,bj.lies.2.1⟩
 have a8:=az bk;have e0:ac wr (am w 0) (U bx g e):=J.cell a.bO 0;have a8:=a.few;have a8:=a.pb.lt;have a8:=Z bk;clear bk;cases ce with
 |nil=>
  obtain rfl:j=0:=by simpa using cg.symm
  have a9:=Z (show a6=.ok (bl.map RI.it) []from bb);clear bb;have q:ac wr (ab (w.heap.size+1) 0) (O 0):=J.cell a.bE 0;have q:ac wr (ab (w.heap.size+1+1) 0) (O 0):=J.cell a.bA 0;have q:=λc=>J.frozen a.bO c;have q:=λc=>J.frozen a.bE c;have q:=λc=>J.frozen a.bA c;go_wp2;have m:=a9.out;subst m;refine leaves_cons (f:=45) (args:=#[aj w.heap.size,aj (w.heap.size+1),aj (w.heap.size+1+1)]) ai ki ?_;exact EU a.out.fin [] _ rfl rfl rfl
 |cons bz bp=>
  have a8:bp.length+1=j:=by simpa using cg
  have ay:(0:Int)<j:=ae
  by_cases b5:g=200
  case pos=>
   have j:((g:Int)==200)=true:=by simp[b5]
   have a9:=Z (show a6=e8 (b.size:Int) (bz::bp) 3 by rw[bb.out,qu];exact if_pos (by rw[List.length_map,a.out.it.len,b5]));clear bb;go_wp2_with fail
   refine qT (w:=wr) (l:=[d]) 3 (Kp.refl _ wr) a9.out a.out.pb ?aA;intro a7 q j j m;have r:=j.out;subst r;go_wp2_with fail
   refine leaves_cons (f:=45) (args:=#[aj w.heap.size,aj (w.heap.size+1),aj (w.heap.size+1+1)]) ai ki ?_;exact wv (m.out.old a.out.k (λj hb j=>by have:=a.out.pl;simp at hb;omega)) (m.out.blk a.out.bO aU) (m.out.blk a.out.bE aU) (m.out.blk a.out.bA aU) a7 q _ rfl rfl rfl
  have j:((g:Int)==200)=false:=aC
  have ch:=Z (show a6=(iV (b.size:Int) (bz::bp)).bind λj m=>iW (b.size:Int) bm (bl.map RI.it++[j]) m by rw[bb.out,qu];exact if_neg (by rw[List.length_map,a.out.it.len];exact b5));have cL:=Z (ER (b.size:Int) bz bp);have cM:=Z (cy.same a.k.same);clear bb;go_upto_region 9 with(fail)
  refine ez 6 (S:=(λo=>ac o (am w 0) (U bx g e))) e0 (λbs=>?_);refine dU (i:=0) (oi:=?aB) (v:=?aF) ?aI ak ak ak ak ?aJ (Or.inl ⟨?aL,?aM⟩) bs ?aN
  case aI=>simp only[bc,bd,be];rfl
  case aJ=>exact λe j w h=>qt _ _ au au au e j w h
  case aL=>rfl
  case aM=>
   intro o j;have aQ:=j;go_simp;try with_reducible rfl
  refine av ?_;refine dU (i:=2) (oi:=?aR) (v:=?aS) ?aT ak ak ak ak ?aV (Or.inl ⟨?aW,?aY⟩) bs ?aZ
  case aT=>simp only[bc,bd,be];rfl
  case aV=>exact λe j w h=>qt _ _ au au au e j w h
  case aW=>rfl
  case aY=>
   intro o j;have aQ:=j;go_simp;try with_reducible rfl
  refine av ?_;refine dU (i:=1) (oi:=?bf) (v:=?bg) ?ay ak ak ak ak ?bn (Or.inl ⟨?ah,?aQ⟩) bs ?bq
  case ay=>simp only[bc,bd,be];rfl
  case bn=>exact λe j w h=>qt _ _ au au au e j w h
  case ah=>rfl
  case aQ=>
   intro o j;have aQ:=j;go_simp;try with_reducible rfl
  refine av ?_;refine aK 3 (λj n=>?_);go_simp;refine ud (w:=wr.drew) (l:=[d]) ai (Kp.refl _ _) ch.out (By (b.size:Int) d bz bp _ (a.out.pb.drew) (cM.out.same ((ag.refl _).drew)) ae) ?bB ?bC
  case bB=>
   intro a7 q j j r;have s:=j.out;subst s;have m:=(Kp.of_same ((ag.refl wr).drew)).trans r;go_wp2_with fail
   refine leaves_cons (f:=45) (args:=#[aj w.heap.size,aj (w.heap.size+1),aj (w.heap.size+1+1)]) ai ki ?_;exact wv (m.old a.out.k (λj hb j=>by have:=a.out.pl;simp at hb;omega)) (m.blk a.out.bO aU) (m.blk a.out.bE aU) (m.blk a.out.bA aU) a7 q _ rfl rfl rfl
  intro a7 b6 a8 m ci cj br ck cN cl cO;obtain⟨j,a9,br,cm⟩:=br;have a7:=cL a7 b6 ci;have bL:=(Kp.of_same ((ag.refl wr).drew)).trans ck;have cn:=Z (show a6=iW (b.size:Int) bm ((bl++[j]).map RI.it) b6 by rw[cj.out,List.map_append,<-a9];rfl);have b7:=Z (show df m (Bw wr.heap.size m.heap.size) j from cm);have bM:=Z bL;have co:=(bL.cell a.bO.lt aU).trans e0;have b:=a.pl;have b:=bL.size;obtain⟨bN,b8⟩:∃bN,bN=j:=⟨_,rfl⟩;rw[<-b8]at b7 cn;obtain⟨q,r,s,t,u,⟨x,y,z⟩,b,⟨A,B,C⟩,j,D,E,F,⟨G,H,I⟩,a6,K,L,⟨M,N,P⟩,a7,⟨Q,R,T⟩,a9,⟨V,W,X⟩,bb,⟨aM,Y,⟨ad,al,an⟩,bi,⟨ap,aq,ar⟩,bj,⟨ax,a0,a1⟩,bk,a2,a3,a4,a5⟩⟩:=j;replace br:a8=.agg #[q,r,s,t,u,U x y z,U A B C,D,E,F,U G H I,K,L,U M N P,U Q R T,U V W X,aM,Y,U ad al an,U ap aq ar,U ax a0 a1,a2,a3,a4,a5]:=br;have cP:=Z (show bN.cells=(#[q,r,s,t,u,U x y z,U A B C,D,E,F,U G H I,K,L,U M N P,U Q R T,U V W X,aM,Y,U ad al an,U ap aq ar,U ax a0 a1,a2,a3,a4,a5]:Array Value).toList by rw[b8];rfl);subst br;have cp:=Z cl.out;clear cm ck ci ch b8 cN cl cO cj bs bL;try go_simp
  refine n.out _ _ (λ_=>co) ?_;refine av ?_;refine aK 4 (λb n=>?_);go_simp;refine n.out _ _ (λ_=>(World.cell?_alloc_lt _ _ _ aD).trans co) ?_;refine av ?_;have b9:=Z (aH ((ag.refl m).alloc (.cells #[q,r,s,t,u,U x y z,U A B C,D,E,F,U G H I,K,L,U M N P,U Q R T,U V W X,aM,Y,U ad al an,U ap aq ar,U ax a0 a1,a2,a3,a4,a5] 95)) (a.out.it.keep bM.out ai).own);have cq:=Z (cC m #[q,r,s,t,u,U x y z,U A B C,D,E,F,U G H I,K,L,U M N P,U Q R T,U V W X,aM,Y,U ad al an,U ap aq ar,U ax a0 a1,a2,a3,a4,a5] 95 25 rfl);have cr:∀b∈(#[q,r,s,t,u,U x y z,U A B C,D,E,F,U G H I,K,L,U M N P,U Q R T,U V W X,aM,Y,U ad al an,U ap aq ar,U ax a0 a1,a2,a3,a4,a5]:Array Value).toList,b.oneCell'=true:=by simp[Value.oneCell']
  refine aK 5 (λb n=>?_);refine c7 (m.alloc (.cells #[q,r,s,t,u,U x y z,U A B C,D,E,F,U G H I,K,L,U M N P,U Q R T,U V W X,aM,Y,U ad al an,U ap aq ar,U ax a0 a1,a2,a3,a4,a5] 95)) (.tmp 37) (.tmp 40) 22 rfl (d+1) 95 ct _ 25 408 Tryz.underlying22 cu cv cw cx rfl au (U bx g e) g (bl.flatMap RI.cells) rfl b9.out (m.heap.size+1) (some ⟨m.heap.size,0,none⟩) 1 1 (#[q,r,s,t,u,U x y z,U A B C,D,E,F,U G H I,K,L,U M N P,U Q R T,U V W X,aM,Y,U ad al an,U ap aq ar,U ax a0 a1,a2,a3,a4,a5]:Array Value).toList rfl cq.out cr b1 ae aC ?_;intro b b bP hg cs;obtain⟨cQ,cR,rfl,cT⟩:=bo bP;rw[<-cP.out]at bP;have cS:=Z (gW.push a ae bM cp ((ag.refl m).alloc _) b7.out bP hg cs);have b:∀b,(Value.slice bx g e).ownBlock=some b->d+1<=b:=λb hg=>by
   obtain⟨_,_,_,ho⟩:=bo b9.out;exact oD
  have a:=Z (J.grown (((bM.blk a.bO aU)).alloc _) hg (λbh=>by have:=b _ bh.symm;omega));have d:=az a;have a:=λc=>J.frozen a c;clear b bP hg cs b9 cq cr b7 cp bM;refine n.out _ _ (λ_=>d) ?_;refine av ?_;refine b2 ?_;refine wpAny_take (i:=6) (oi:=?bD) (v:=?bF) ?bG ak ak ak ?bH (Or.inl ⟨?bI,?bJ⟩) ?bK
  case bG=>simp only[bc,bd,be];rfl
  case bH=>exact λe a w h=>qt _ _ au au au e a w h
  case bI=>rfl
  case bJ=>
   intro o;go_simp;try with_reducible rfl
  refine av ?_;refine dp 7 (λa n=>?_);go_simp;refine n _ _ ?_;refine av ?_;refine bV ?_;go_wp2_with fail
  go_roundg bm
  case measure=>omega
  exact⟨b6,bl++[bN],cQ,g+1,cR,cS,by have:=cK.out;simp at this;omega,cn⟩
end Go.Proofs.YteamkimbmdgdbaaGreatDoor

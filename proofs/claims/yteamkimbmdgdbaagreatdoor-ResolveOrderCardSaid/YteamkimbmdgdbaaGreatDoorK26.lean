import Derived.Test.YteamkimbmdgdbaaGreatDoorK24
import Derived.Test.YteamkimbmdgdbaaGreatDoorK25
set_option linter.unusedSimpArgs false
set_option linter.unusedVariables false
set_option maxHeartbeats 16000000
set_option maxRecDepth 100000
namespace Go.Proofs.YteamkimbmdgdbaaGreatDoor
open Go.Proofs.Tryz
open Go.RowKit
def d6 (p:Int×Int):List Value:=[.int .i64 p.1,.int .i64 p.2]
theorem q1 (p:Int×Int):(d6 p).length=2:=rfl
def fk (a:ah) (b:Nat) (c:List (Int×Int)):Prop:=aa a b 97 (c.flatMap d6).toArray
theorem Tryz.q2:(prog.info? 97).map (λi=>(i.zero,i.size,i.bytes))=some (some (.agg #[J 0,J 0]),2,16):=am
theorem xQ:∀a:Nat,(List.replicate a ((0:Int),(0:Int))).flatMap d6=List.replicate (a*2) (Value.int .i64 0)
 |0=>rfl
 |a+1=>by
  rw[List.replicate_succ,List.flatMap_cons,xQ a,show(a+1)*2=a*2+1+1 by omega,List.replicate_succ,List.replicate_succ];rfl
theorem Gh (a:Nat):madeCells #[Value.int .i64 0,Value.int .i64 0] (a*2)=((List.replicate a ((0:Int),(0:Int))).flatMap d6).toArray:=by
 rw[xQ];apply Array.ext
 ·simp[madeCells]
 intro a b b;have h:a%2=0\/a%2=1:=af
 rcases h with h|h<;>simp[madeCells,h]
theorem Gi (a:Nat) (b:a<=1000000) (b:ah):(Instr.makeSlice 38 (a:Int) (a:Int)).run prog b=
 .ok (.slice (some ⟨b.heap.size,0,none⟩) a a) (b.alloc (.cells ((List.replicate a ((0:Int),(0:Int))).flatMap d6).toArray 97)):=by
 obtain⟨c,d,e,f,g⟩:=info_parts Tryz.q2;have h:=run_make (P:=prog) b 38 97 c _ underlying38 d e .i64 .i64 (a:Int) (a:Int) af af (by rw[g];omega) af;rw[h,f];have a:((a:Int)).toNat=a:=by omega
 rw[a];show _=Result.ok _ (b.alloc (.cells _ _));rw[<-Gh];rfl
theorem xR:∀(c:List (Int×Int)) (a:Nat) (b:Int×Int),c[a]?=some b->(c.flatMap d6)[a*2]?=some (.int .i64 b.1)/\(c.flatMap d6)[a*2+1]?=some (.int .i64 b.2)
 |[],a,b,h=>by simp at h
 |f::c,0,b,h=>by
  simp at h;subst h;exact⟨rfl,rfl⟩
 |f::c,a+1,b,h=>by
  have:=xR c a b (by simpa using h);rw[List.flatMap_cons,show(a+1)*2=a*2+2 by omega];exact this
theorem xS:∀(c:List (Int×Int)) (a:Nat) (b:Int×Int),((c.flatMap d6).set (a*2) b.1).set (a*2+1) b.2=(c.set a b).flatMap d6
 |[],a,b=>by simp
 |f::c,0,b=>rfl
 |f::c,a+1,b=>by
  have:=xS c a b;rw[List.set_cons_succ,List.flatMap_cons,List.flatMap_cons,<-this,show(a+1)*2=a*2+1+1 by omega];rfl
theorem fk.get {a:ah} {b:Nat} {c:List (Int×Int)} (h:fk a b c) {i:Nat} {p:Int×Int} (d:c[i]?=some p):ae a (ac b (i*2)) p.1/\ae a (ac b (i*2+1)) p.2:=by
 have b:=aa.cell h (i*2);have e:=aa.cell h (i*2+1);have a:=xR c i p d;exact⟨b.trans (by simpa using a.1),e.trans (by simpa using a.2)⟩
theorem fk.set {w:ah} {g:Nat} {a:List (Int×Int)} (h:fk w g a) (i:Nat) (p:Int×Int):fk ((w.setCell (ac g (i*2)) p.1).setCell (ac g (i*2+1)) p.2) g (a.set i p):=by
 have a:=(aa.aR h (i*2) p.1).aR (i*2+1) p.2;unfold fk;rw[<-xS];simpa using a
theorem fk.kp {w a:ah} {g:Nat} {b:List (Int×Int)} (h:fk w g b) {l:List Nat} (k:Kp l w a) (c:g∉l):fk a g b:=k.blk h c
theorem nX {P:Program} {g:Array Oper} {rest:List Oper} {c:Oper} {f:Act} {w:ah} {j:Exit->Act->World->Prop} (l:c.guard=none) (ty:aX) (k:Operand) (m:c.op=.load ty k)
 (a b:Nat) (cs:aP) (n:f.eval k=.pointer (some ⟨a,b,none⟩)) (o:∀e v,cs[e]?=some v->ae w (ac a (b+e)) v) (d:TypeDesc) (hu:P.underlying ty=some d) (k:(match d with|.struct _|.array _ _=>true|_=>false)=true) (hi:(P.info? ty).map (·.size)=some cs.length)
 (h:wpList P g j rest (f.put c.dst (.agg cs.toArray)) w):wpList P g j (c::rest) f w:=by
 refine wpList_plain l λc p=>?_;have hl:(loadCells ⟨a,b,none⟩ cs.length).run P w=.ok cs.toArray w:=
  run_loadCells_list (P:=P) w ⟨a,b,none⟩ cs (λe v c=>by
   rw[Addr.add_lit];exact o e v c)
 have q:(Instr.loadAt ty (.pointer (some ⟨a,b,none⟩))).run P w=.ok (.agg cs.toArray) w:=by
  simp only[Instr.loadAt,Instr.sureAddr,Sem.run_bind,Sem.run_pure,Result.andThen];cases hq:P.info? ty with
  |none=>simp[hq]at hi
  |some i=>
   exact xT
 unfold Oper.wp execOp;simp only[m,n,Sem.run_bind,q,Result.andThen_ok];exact p _ _ h
def b9:Array Value:=#[ab,ab,ab,ab,ab,ab,ab]
def L1 (w a:ah) (hv:aA) (b:List RI) (i:Nat):Prop:=∃(c:List RT) (d:List (Int×Int)) (e:ce) (f:Nat->Prop) (g:Int),ag w a/\aa a w.heap.size 24 #[hv]/\aa a (w.heap.size+1) 37 b9/\
 aa a (w.heap.size+1+1+1+1) 154 #[ak (w.heap.size+1+1+1)]/\fk a (w.heap.size+1+1+1+1+1) (d++List.replicate (b.length-i) (0,0))/\d.length=i/\c.length<=i/\
 lK a (w.heap.size+1+1+1) (w.heap.size+1+1) (w.heap.size+1+1+1+1+1+1) f c e g/\cI [] [] [] (b.map RI.it)=cI (c.map RT.tb) e d ((b.drop i).map RI.it)
theorem cT.start {a:ah} {b c e:Nat} (f:aa a b 157 #[ab,ab,ab,ab,ab,ab,ab,.map (some c),J 0]) (g:b<e) (i:c<b) (d:e<=a.heap.size) (j:ea a c [] []):
 lK a b c e (λ_=>False) [] [] 0:=
 ⟨aL,[],rfl,{
  bx:=f,hX:=g,hM:=i,hb:=d,lt:=(λ_ h=>h.elim),na:=(λ_=>j),nin:=(λa k=>by cases k),g2:=(λa k=>by cases k)
  own:=(λa a=>by rw[aC a];exact⟨rfl,.inl ⟨rfl,rfl⟩⟩)
  fj:=(λa a b d=>by rw[aC a]at d;cases d)
  one:=(λa a a a a a b c c=>by
   have a:=(List.getElem?_eq_some_iff.1 a).1;have b:=(List.getElem?_eq_some_iff.1 b).1;simp at a b;omega)
  fine:=(λa a=>by rw[aC a];exact xD _ _)
  nest:=(λa a=>by rw[aC a];exact λa k=>by cases k)}⟩
theorem Gj (a:ah) (hv:aA) (b:List RI):
 L1 a ((((((a.alloc (.cells #[hv] 24)).alloc (.cells b9 37)).alloc (.map #[] 0)).alloc (.cells #[ab,ab,ab,ab,ab,ab,ab,.map (some (a.heap.size+1+1)),J 0] 157)).alloc (.cells #[ak (a.heap.size+1+1+1)] 154)).alloc (.cells ((List.replicate b.length ((0:Int),(0:Int))).flatMap d6).toArray 97)) hv b 0:=by
 refine⟨[],[],[],λ_=>False,0,?_,?_,?_,?_,?_,rfl,Nat.le_refl _,?_,by simp⟩
 ·exact(((((((ag.refl a).alloc _).alloc _).alloc _).alloc _).alloc _).alloc _)
 ·exact(((((aa.new a _ _).alloc _).alloc _).alloc _).alloc _).alloc _
 ·have h:=aa.new (a.alloc (.cells #[hv] 24)) 37 b9
  rw[show(a.alloc (.cells #[hv] 24)).heap.size=a.heap.size+1 by simp]at h;exact(((h.alloc _).alloc _).alloc _).alloc _
 ·have h:=aa.new ((((a.alloc (.cells #[hv] 24)).alloc (.cells b9 37)).alloc (.map #[] 0)).alloc (.cells #[ab,ab,ab,ab,ab,ab,ab,.map (some (a.heap.size+1+1)),J 0] 157)) 154 #[ak (a.heap.size+1+1+1)]
  simp only[World.alloc,Array.size_push]at h⊢;exact h.alloc _
 ·have h:=aa.new (((((a.alloc (.cells #[hv] 24)).alloc (.cells b9 37)).alloc (.map #[] 0)).alloc (.cells #[ab,ab,ab,ab,ab,ab,ab,.map (some (a.heap.size+1+1)),J 0] 157)).alloc (.cells #[ak (a.heap.size+1+1+1)] 154)) 97 ((List.replicate b.length ((0:Int),(0:Int))).flatMap d6).toArray
  simp only[World.alloc,Array.size_push]at h⊢;simpa[fk]using h
 refine cT.start ?_ af af aj ?_
 ·have h:=aa.new (((a.alloc (.cells #[hv] 24)).alloc (.cells b9 37)).alloc (.map #[] 0)) 157 #[ab,ab,ab,ab,ab,ab,ab,.map (some (a.heap.size+1+1)),J 0]
  simp only[World.alloc,Array.size_push]at h⊢;exact(h.alloc _).alloc _
 have h:=ea.start ((a.alloc (.cells #[hv] 24)).alloc (.cells b9 37));simp only[World.alloc,Array.size_push]at h⊢;exact h.kp (k:=[]) (Kp.of_same ((((ag.refl _).alloc _).alloc _).alloc _)) (λ_ h=>by cases h)
theorem Gk (a:List Tb) (c:ce) (b:aB):(gl a c b).1.length<=a.length+1:=by
 unfold gl;split
 ·simp
 split
 ·cases eP a b<;>simp
 simp
theorem Gl (a:List (Int×Int)) (b c:Nat) (p:Int×Int) (h:a.length=c) (d:c<b):(a++List.replicate (b-c) ((0:Int),(0:Int))).set c p=(a++[p])++List.replicate (b-(c+1)) (0,0):=by
 subst h;obtain⟨c,d⟩:∃c,b-a.length=c+1:=⟨b-a.length-1,by omega⟩;rw[d,show b-(a.length+1)=c by omega,List.set_append_right _ _ (Nat.le_refl _),Nat.sub_self,List.replicate_succ,List.set_cons_zero,List.append_assoc];rfl
theorem Gm {a e j:ah} {hv:aA} {c:List RI} {i:Nat} {f:RI} {q s:List RT} {k:List (Int×Int)} {u:ce} {v:Nat->Prop} {t:List Nat} {d:Int×Int} (w:i<c.length) (C:f=c[i]) (sm:ag a e) (D:aa e a.heap.size 24 #[hv]) (E:aa e (a.heap.size+1) 37 b9)
 (F:aa e (a.heap.size+1+1+1+1) 154 #[ak (a.heap.size+1+1+1)]) (G:fk e (a.heap.size+1+1+1+1+1) (k++List.replicate (c.length-i) (0,0))) (x:k.length=i) (M:q.length<=i) (M:a.heap.size+1+1+1+1+1<e.heap.size)
 (H:cI [] [] [] (c.map RI.it)=cI (q.map RT.tb) u k ((c.drop i).map RI.it)) (n:Kp t e j) (y:∀b∈t,b=a.heap.size+1+1\/b=a.heap.size+1+1+1\/a.heap.size+1+1+1+1+1<b) (z:gl (q.map RT.tb) u f.it=(s.map RT.tb,d))
 (I:lK j (a.heap.size+1+1+1) (a.heap.size+1+1) (a.heap.size+1+1+1+1+1+1) v s (bL u f.it).1 f.at_):
 fk j (a.heap.size+1+1+1+1+1) (k++List.replicate (c.length-i) (0,0))/\
 L1 a ((j.setCell (ac (a.heap.size+1+1+1+1+1) (i*2)) d.1).setCell (ac (a.heap.size+1+1+1+1+1) (i*2+1)) d.2) hv c (i+1):=by
 have r:∀b,b<a.heap.size+1+1\/b=a.heap.size+1+1+1+1\/b=a.heap.size+1+1+1+1+1->b∉t:=λb m g=>by
  rcases y b g with h|h|h<;>omega
 have A:=G.kp n (r _ af);have o:=Kp.aI (l:=[a.heap.size+1+1+1+1+1]) (p:=(ac (a.heap.size+1+1+1+1+1) (i*2+1))) aj (Kp.aI (p:=(ac (a.heap.size+1+1+1+1+1) (i*2))) aj (Kp.refl [a.heap.size+1+1+1+1+1] j) d.1) d.2;have J:ag a j:=n.fY sm (λb m=>by rcases y b m with h|h|h<;>omega);refine⟨A,s,k++[d],(bL u f.it).1,v,f.at_,o.fY J (λb m=>by rw[aC m];omega),o.blk (n.blk D (r _ af)) (λg=>by have:=aC g;omega),o.blk (n.blk E (r _ af)) (λg=>by have:=aC g;omega),o.blk (n.blk F (r _ af)) (λg=>by have:=aC g;omega),?_,by simp[x],?_,?_,?_⟩
 ·have:=A.set i d
  rw[Gl k c.length i d x w]at this;exact this
 ·have:=Gk (q.map RT.tb) u f.it
  rw[z]at this;simp at this;omega
 ·obtain⟨h,K,L,B⟩:=I
  refine⟨h,K,L,B.kp o (λb m=>?_)⟩;rw[aC m];exact⟨by omega,by omega,λa=>by have:=(B.lt _ a).1;omega⟩
 rw[H,List.drop_eq_getElem_cons w,List.map_cons,s0,<-C,z]
def PO.Has {a:Type} (c:PO a) (d:Nat) (P:a->Prop):Prop:=∀a b,c=.ok a b->b.length<=d/\P a
theorem PO.Has.bind {b d:Type} {c:PO b} {f:b->List aq->PO d} {n:Nat} {P:b->Prop} {b:d->Prop} (h:c.Has n P) (e:∀a ts,P a->ts.length<=n->(f a ts).Has n b):(c.bind f).Has n b:=by
 cases c with
 |bad g a=>intro b ts h;cases h
 |ok a ts=>exact e a ts (h a ts rfl).2 (h a ts rfl).1
theorem PO.Le.has {c d:Type} {r:PO c} {f:c->List aq->PO d} {c:Nat} {g:d->Prop} (h:r.Le c) (hf:∀a ts,ts.length<=c->(f a ts).Has c g):(r.bind f).Has c g:=by
 exact qf
theorem PO.Has.ok {α:Type} {a:α} {ts:List aq} {n:Nat} {P:α->Prop} (h:ts.length<=n) (c:P a):(PO.ok a ts).Has n P:=by
 intro d d b;injection b with e1 b
 subst b e1;exact⟨h,c⟩
theorem PO.Has.bad {α:Type} {a b:Int} {c:Nat} {d:α->Prop}:(PO.bad a b:PO α).Has c d:=by intro a a h;cases h
theorem PO.Has.ite {a:Type} {b:Prop} [Decidable b] {c d:PO a} {n:Nat} {P:a->Prop} (h:c.Has n P) (a:d.Has n P):(if b then c else d).Has n P:=by split<;>assumption
theorem It {a:Type} (c:Int) (b:List aq) (d:Int) (e:Nat) (P:a->Prop):(fI c b d:PO a).Has e P:=by cases b<;>exact .bad
theorem Iu {g:Type} (l:ax) (f:List aq->PO g) (m:∀b a,b.length<=a->(f b).Le a):∀(d:Nat) (c:List g) (b:List aq) (a:Nat),b.length<=a->(dp l f d c b).Has a (λg=>g.length<=c.length+a):=by
 intro d;induction d with
 |zero=>intro c b a h;exact .ok h af
 |succ d n=>
  intro c b a h;unfold dp;split
  ·rename_i o
   cases b with
   |nil=>simp[bB,eF]at o
   |cons p i=>
    simp at h;intro q r e;cases ho':f (List.tail (p::i))with
    |bad j k=>rw[ho']at e;cases e
    |ok j k=>
     rw[ho']at e;have b:=m i (a-1) af j k ho';have a:=n (c++[j]) k (a-1) b q r e;have a:=a.2;simp at a;exact⟨by omega,by omega⟩
  exact .ok h af
theorem y6 {a:Type} (c:ax) (b:List aq->PO a) (d:∀a e,a.length<=e->(b a).Le e) (a:List aq) (h:a.length<=5000):(dO c b a).Has 5000 (λa=>a.length<=5001):=
 (d _ _ h).has λa a h=>λa e f=>by
  have:=Iu c b d _ _ _ _ h a e f;simp at this;exact⟨this.1,by omega⟩
theorem tM (a:Int) (b:List aq) (h:b.length<=5000):(io a b).Has 5000 (λb=>b.length<=5001):=y6 _ _ (dI a) _ h
theorem y7 (b:Int) (c:ax) (a:List aq) (h:a.length<=5000):(lY b c a).Has 5000 (λc=>c.length<=5001):=.ite (.ok h aj) (tM b a h)
theorem Iv (a:Int) (c:Nat) (b:List aq) (h:b.length<=5000):(eG a c b).Has 5000 (λc=>c.names.length<=5001):=
 .ite ((qg a b _ h).has λ_ _ h=>.ok h (by simp[dq.zero])) (.ite ((b8 a _ _ _ h).has λ_ _ h=>(y7 a _ _ h).bind λ_ _ b h=>.ok h b) (.ite
  ((b8 a _ _ _ h).has λ_ _ h=>(dI a _ _ h).has λ_ _ h=>(b8 a _ _ _ h).has λ_ _ h=>(dI a _ _ h).has λ_ _ h=>.ok h (by simp[dq.zero])) (.ite
  (
   (
   b8 a _ _ _ h).has λ_ _ h=>(y7 a _ _ h).bind λ_ _ b h=>(b8 a _ _ _ h).has λ_ _ h=>(iA a _ _ _ h).has λ_ _ h=>
   (PO.Le.ite (.ok h) (dI a _ _ h)).has λ_ _ h=>(b8 a _ _ _ h).has λ_ _ h=>(dI a _ _ h).has λ_ _ h=>.ok h b) (.ok h (by simp[dq.zero])))))
theorem Iw (c:Int):∀(d:Nat) (b:List aq),b.length<=5000->(ev c d b).Has 5000 Ex.cL:=by
 intro d;induction d with
 |zero=>intro b h;exact It _ _ _ _ _
 |succ d e=>
  intro b h;unfold ev;cases iq b 0 gp with
  |none=>exact(dI c b _ h).has λ_ _ h=>.ok h ⟨by simp,by simp,by trivial⟩
  |some g=>
   exact(e _ (vu 2 h)).bind λd b b h=>(PO.Has.ite (P:=λf=>f.length<=5001/\Ex.jK f) ((b8 c _ _ _ h).has λ_ _ h=>(e _ h).bind λe _ f h=>PO.Has.ok (a:=[d,e]) h ⟨by simp,(show d.cL/\e.cL/\True from⟨b,f,trivial⟩)⟩) (PO.Has.ok (a:=[d]) h ⟨by simp,(show d.cL/\True from⟨b,trivial⟩)⟩)).bind λb _ b h=>
    (Iv c g _ h).bind λd _ d h=>(b8 c _ _ _ h).has λ_ _ h=>.ok h ⟨d,b.1,b.2⟩
structure aB.cL (x:aB):Prop where
 n:x.names.length<=5001
 f:x.fixed.length<=5001
 e:x.expr.cL
theorem y8 (a:Int) (b:aB) (c:List aq) (d:b.cL) (h:c.length<=5000):(iu a b c).Has 5000 aB.cL:=
 (b8 a _ _ _ h).has λ_ _ h=>(dI a _ _ h).has λ_ _ h=>(b8 a _ _ _ h).has λ_ _ h=>(tM a _ h).bind λ_ _ b h=>(b8 a _ _ _ h).has λ_ _ h=>.ok h ⟨b,d.f,d.e⟩
theorem Ix (a:Int) (d:aB) (i:List aq) (b:d.cL) (h:i.length<=5000):(eH a d i).Has 5000 aB.cL:=by
 have c:∀{g:aB} {c:List aq},c.length<=5000->g.names=d.names->g.fixed=d.fixed->g.expr=d.expr->(PO.ok g c).Has 5000 aB.cL:=λh c j k=>.ok h ⟨c▸b.n,j▸b.f,k▸b.e⟩;unfold eH;refine .ite ?_ (.ite ?_ (.ite ?_ (.ite ?_ (.ite ?_ (.ite ?_ (.ite ?_ (.ite ?_ (.ite ?_ ?_))))))))
 ·exact(b8 a _ _ _ h).has λ_ _ h=>(me _ _ (r3 a) _ _ h).has λ_ _ h=>(b8 a _ _ _ h).has λ_ _ h=>(tM a _ h).bind λ_ _ j h=>.ok h ⟨j,b.f,b.e⟩
 ·exact(b8 a _ _ _ h).has λ_ _ h=>(fx a _ _ h).has λ_ _ h=>c h rfl rfl rfl
 ·exact(b8 a _ _ _ h).has λ_ _ h=>(lQ a _ _ h).has λ_ _ h=>(b8 a _ _ _ h).has λ_ _ h=>(iA a _ _ _ h).has λ_ _ h=>.ite ((fx a _ _ h).has λ_ _ h=>c h rfl rfl rfl) (.ite ((fx a _ _ h).has λ_ _ h=>(fx a _ _ h).has λ_ _ h=>c h rfl rfl rfl) (c h rfl rfl rfl))
 ·exact(b8 a _ _ _ h).has λ_ _ h=>(dI a _ _ h).has λ_ _ h=>(b8 a _ _ _ h).has λ_ _ h=>(fx a _ _ h).has λ_ _ h=>(b8 a _ _ _ h).has λ_ _ h=>(tI a _ _ _ _ h).has λ_ _ h=>c h rfl rfl rfl
 ·exact(lQ a _ _ h).has λ_ _ h=>(b8 a _ _ _ h).has λ_ _ h=>(iA a _ _ _ h).has λ_ _ h=>c h rfl rfl rfl
 ·exact y8 a d i b h
 ·exact(y8 a d i b h).bind λg _ d h=>(b8 a _ _ _ h).has λ_ _ h=>(dI a _ _ h).has λ_ _ h=>.ite ((y6 _ _ (r4 a) _ (iz h)).bind λ_ _ g h=>.ok h ⟨d.n,g,d.e⟩) (.ok h ⟨d.n,d.f,d.e⟩)
 ·exact(lQ a _ _ h).has λ_ _ h=>(b8 a _ _ _ h).has λ_ _ h=>(lQ a _ _ h).has λ_ _ h=>c h rfl rfl rfl
 ·exact(me _ _ (r5 a) _ _ h).has λ_ _ h=>(qg a _ _ h).has λ_ _ h=>c h rfl rfl rfl
 exact(b8 a _ _ _ h).has λ_ _ h=>(Iw a _ _ h).bind λa _ a h=>.ok h ⟨b.n,b.f,a⟩
theorem Iy (a:Int) (b:List aq) (h:b.length<=5000):(jh a b).Has 5000 aB.cL:=
 (iA a _ _ _ h).has λ_ _ h=>(PO.Le.ite (.ok h) (dI a _ _ h)).has λ_ _ h=>(Ix a _ _ ⟨by simp[aB.zero],by simp[aB.zero],by show Ex.zero.cL;exact⟨by simp,by simp,by trivial⟩⟩ h).bind λ_ _ b h=>(b8 a _ _ _ h).has λ_ _ h=>.ok h b
theorem Iz (f:Int):∀(d:Nat) (a:List aB) (b:List aq),(∀e∈a,e.cL)->a.length<=200->b.length<=5000->(ji f d a b).Has 5000 (λg=>(∀e∈g,e.cL)/\g.length<=200):=by
 intro d;induction d with
 |zero=>intro a b c g h;exact .ok h ⟨c,g⟩
 |succ d j=>
  intro a b i k h;cases b with
  |nil=>exact .ok h ⟨i,k⟩
  |cons n o=>
   rw[rB];split
   ·exact .bad
   ·exact(Iy f _ h).bind λe _ l h=>j _ _ (λm c=>by
     rcases cP c with c|c
     ·exact i m c
     rw[aC c];exact l) aF h
theorem y9:∀(b:Nat) (e:bR) (d:Nat) (a:List aq),a.length<=5000->(hO b e d a).1.length<=5000
 |0,e,d,a,h=>h
 |b+1,[],d,a,h=>h
 |b+1,c::e,d,a,h=>by
  rw[If];split
  ·simp
  ·simp
  split
  ·simp
  exact y9 b _ _ _ aF
theorem IA (a:bR):(dD a).1.length<=5000:=by
 unfold dD;split
 ·simp
 exact y9 _ _ _ _ aj
theorem IB {l:bR} {xs:List aB} {a:List aq} (h:gy l=.ok xs a):(∀b∈xs,b.cL)/\xs.length<=200:=by
 unfold gy at h;split at h
 ·exact(Iz _ _ _ _ aj aj (IA l) xs a h).2
 cases h
end Go.Proofs.YteamkimbmdgdbaaGreatDoor

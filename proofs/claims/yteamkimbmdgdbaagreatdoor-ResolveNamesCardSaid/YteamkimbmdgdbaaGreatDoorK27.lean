import Derived.Test.YteamkimbmdgdbaaGreatDoorK24
import Derived.Test.YteamkimbmdgdbaaGreatDoorK25
set_option linter.unusedSimpArgs false
set_option linter.unusedVariables false
set_option maxHeartbeats 16000000
set_option maxRecDepth 100000
namespace Go.Proofs.YteamkimbmdgdbaaGreatDoor
open Go.Proofs.Tryz
open Go.RowKit
def dS (p:Int×Int):List Value:=[.int .i64 p.1,.int .i64 p.2]
theorem q9 (p:Int×Int):(dS p).length=2:=rfl
def fm (a:ah) (b:Nat) (c:List (Int×Int)):Prop:=aa a b 97 (c.flatMap dS).toArray
theorem Tryz.rb:(prog.info? 97).map (λi=>(i.zero,i.size,i.bytes))=some (some (.agg #[J 0,J 0]),2,16):=am
theorem xW:∀a:Nat,(List.replicate a ((0:Int),(0:Int))).flatMap dS=List.replicate (a*2) (Value.int .i64 0)
 |0=>rfl
 |a+1=>by
  rw[List.replicate_succ,List.flatMap_cons,xW a,show(a+1)*2=a*2+1+1 by omega,List.replicate_succ,List.replicate_succ];rfl
theorem Gr (a:Nat):madeCells #[Value.int .i64 0,Value.int .i64 0] (a*2)=((List.replicate a ((0:Int),(0:Int))).flatMap dS).toArray:=by
 rw[xW];apply Array.ext
 ·simp[madeCells]
 intro a b b;have h:a%2=0\/a%2=1:=af
 rcases h with h|h<;>simp[madeCells,h]
theorem Gs (a:Nat) (b:a<=1000000) (b:ah):(Instr.makeSlice 38 (a:Int) (a:Int)).run prog b=
 .ok (.slice (some ⟨b.heap.size,0,none⟩) a a) (b.alloc (.cells ((List.replicate a ((0:Int),(0:Int))).flatMap dS).toArray 97)):=by
 obtain⟨c,d,e,f,g⟩:=info_parts Tryz.rb;have h:=run_make (P:=prog) b 38 97 c _ underlying38 d e .i64 .i64 (a:Int) (a:Int) af af (by rw[g];omega) af;rw[h,f];have a:((a:Int)).toNat=a:=by omega
 rw[a];show _=Result.ok _ (b.alloc (.cells _ _));rw[<-Gr];rfl
theorem xX:∀(c:List (Int×Int)) (a:Nat) (b:Int×Int),c[a]?=some b->(c.flatMap dS)[a*2]?=some (.int .i64 b.1)/\(c.flatMap dS)[a*2+1]?=some (.int .i64 b.2)
 |[],a,b,h=>by simp at h
 |f::c,0,b,h=>by
  simp at h;subst h;exact⟨rfl,rfl⟩
 |f::c,a+1,b,h=>by
  have:=xX c a b (by simpa using h);rw[List.flatMap_cons,show(a+1)*2=a*2+2 by omega];exact this
theorem xY:∀(c:List (Int×Int)) (a:Nat) (b:Int×Int),((c.flatMap dS).set (a*2) b.1).set (a*2+1) b.2=(c.set a b).flatMap dS
 |[],a,b=>by simp
 |f::c,0,b=>rfl
 |f::c,a+1,b=>by
  have:=xY c a b;rw[List.set_cons_succ,List.flatMap_cons,List.flatMap_cons,<-this,show(a+1)*2=a*2+1+1 by omega];rfl
theorem fm.get {a:ah} {b:Nat} {c:List (Int×Int)} (h:fm a b c) {i:Nat} {p:Int×Int} (d:c[i]?=some p):ae a (ac b (i*2)) p.1/\ae a (ac b (i*2+1)) p.2:=by
 have b:=aa.cell h (i*2);have e:=aa.cell h (i*2+1);have a:=xX c i p d;exact⟨b.trans (by simpa using a.1),e.trans (by simpa using a.2)⟩
theorem fm.set {w:ah} {g:Nat} {a:List (Int×Int)} (h:fm w g a) (i:Nat) (p:Int×Int):fm ((w.setCell (ac g (i*2)) p.1).setCell (ac g (i*2+1)) p.2) g (a.set i p):=by
 have a:=(aa.aP h (i*2) p.1).aP (i*2+1) p.2;unfold fm;rw[<-xY];simpa using a
theorem fm.kp {w a:ah} {g:Nat} {b:List (Int×Int)} (h:fm w g b) {l:List Nat} (k:Kp l w a) (c:g∉l):fm a g b:=k.blk h c
theorem mW {P:Program} {j:Array Oper} {rest:List Oper} {e:Oper} {g:Act} {a:ah} {k:Exit->Act->World->Prop} (m:e.guard=none) (b:aX) (x:Operand) (n:e.op=.load b x)
 (c d:Nat) (cs:bg) (o:g.eval x=.pointer (some ⟨c,d,none⟩)) (p:∀f v,cs[f]?=some v->ae a (ac c (d+f)) v) (i:TypeDesc) (q:P.underlying b=some i) (z:(match i with|.struct _|.array _ _=>true|_=>false)=true) (l:(P.info? b).map (·.size)=some cs.length)
 (h:wpList P j k rest (g.put e.dst (.agg cs.toArray)) a):wpList P j k (e::rest) g a:=by
 refine wpList_plain m λe r=>?_;have s:(loadCells ⟨c,d,none⟩ cs.length).run P a=.ok cs.toArray a:=
  run_loadCells_list (P:=P) a ⟨c,d,none⟩ cs (λf v e=>by
   rw[Addr.add_lit];exact p f v e)
 have t:(Instr.loadAt b (.pointer (some ⟨c,d,none⟩))).run P a=.ok (.agg cs.toArray) a:=by
  simp only[Instr.loadAt,Instr.sureAddr,Sem.run_bind,Sem.run_pure,Result.andThen];cases hq:P.info? b with
  |none=>simp[hq]at l
  |some u=>
   have w:u.size=cs.length:=by simpa[hq]using l
   have y:(isAgg b).run P a=.ok true a:=by
    unfold isAgg;rw[Sem.run_bind,run_underlying q a];cases i<;>simp_all
   simp[loadVar,Sem.run_bind,y,sizeOf,typeInfo,hq,w,s]
 unfold Oper.wp execOp;simp only[n,o,Sem.run_bind,t,Result.andThen_ok];exact r _ _ h
def cb:Array Value:=zab
def L1 (w a:ah) (hv:aA) (b:List RI) (i:Nat):Prop:=∃(c:List RT) (d:List (Int×Int)) (e:ch) (f:Nat->Prop) (g:Int),ag w a/\aa a w.heap.size 24 #[hv]/\aa a (w.heap.size+1) 37 cb/\
 aa a (w.heap.size+1+1+1+1) 154 #[ak (w.heap.size+1+1+1)]/\fm a (w.heap.size+1+1+1+1+1) (d++List.replicate (b.length-i) (0,0))/\d.length=i/\c.length<=i/\
 lK a (w.heap.size+1+1+1) (w.heap.size+1+1) (w.heap.size+1+1+1+1+1+1) f c e g/\cy [] [] [] (b.map RI.it)=cy (c.map RT.tb) e d ((b.drop i).map RI.it)
theorem cS.start {a:ah} {b c e:Nat} (f:aa a b 157 #[ab,ab,ab,ab,ab,ab,ab,.map (some c),J 0]) (g:b<e) (i:c<b) (d:e<=a.heap.size) (j:ed a c [] []):
 lK a b c e (λ_=>False) [] [] 0:=
 ⟨aL,[],rfl,{
  bx:=f,hX:=g,hM:=i,hb:=d,lt:=(λ_ h=>h.elim),na:=(λ_=>j),nin:=(λa k=>by cases k),g4:=(λa k=>by cases k)
  own:=(λa a=>by rw[aB a];exact⟨rfl,.inl ⟨rfl,rfl⟩⟩)
  fk:=(λa a b d=>by rw[aB a]at d;cases d)
  one:=(λa a a a a a b c c=>by
   have a:=(List.getElem?_eq_some_iff.1 a).1;have b:=(List.getElem?_eq_some_iff.1 b).1;simp at a b;omega)
  fine:=(λa a=>by rw[aB a];exact xJ _ _)
  nest:=(λa a=>by rw[aB a];exact λa k=>by cases k)}⟩
theorem Gt (a:ah) (hv:aA) (b:List RI):
 L1 a ((((((a.alloc (.cells #[hv] 24)).alloc (.cells cb 37)).alloc (.map #[] 0)).alloc (.cells #[ab,ab,ab,ab,ab,ab,ab,.map (some (a.heap.size+1+1)),J 0] 157)).alloc (.cells #[ak (a.heap.size+1+1+1)] 154)).alloc (.cells ((List.replicate b.length ((0:Int),(0:Int))).flatMap dS).toArray 97)) hv b 0:=by
 refine⟨[],[],[],λ_=>False,0,?_,?_,?_,?_,?_,rfl,Nat.le_refl _,?_,by simp⟩
 ·exact(((((((ag.refl a).alloc _).alloc _).alloc _).alloc _).alloc _).alloc _)
 ·exact(((((aa.new a _ _).alloc _).alloc _).alloc _).alloc _).alloc _
 ·have h:=aa.new (a.alloc (.cells #[hv] 24)) 37 cb
  rw[show(a.alloc (.cells #[hv] 24)).heap.size=a.heap.size+1 by simp]at h;exact(((h.alloc _).alloc _).alloc _).alloc _
 ·have h:=aa.new ((((a.alloc (.cells #[hv] 24)).alloc (.cells cb 37)).alloc (.map #[] 0)).alloc (.cells #[ab,ab,ab,ab,ab,ab,ab,.map (some (a.heap.size+1+1)),J 0] 157)) 154 #[ak (a.heap.size+1+1+1)]
  simp only[World.alloc,Array.size_push]at h⊢;exact h.alloc _
 ·have h:=aa.new (((((a.alloc (.cells #[hv] 24)).alloc (.cells cb 37)).alloc (.map #[] 0)).alloc (.cells #[ab,ab,ab,ab,ab,ab,ab,.map (some (a.heap.size+1+1)),J 0] 157)).alloc (.cells #[ak (a.heap.size+1+1+1)] 154)) 97 ((List.replicate b.length ((0:Int),(0:Int))).flatMap dS).toArray
  simp only[World.alloc,Array.size_push]at h⊢;simpa[fm]using h
 refine cS.start ?_ af af aj ?_
 ·have h:=aa.new (((a.alloc (.cells #[hv] 24)).alloc (.cells cb 37)).alloc (.map #[] 0)) 157 #[ab,ab,ab,ab,ab,ab,ab,.map (some (a.heap.size+1+1)),J 0]
  simp only[World.alloc,Array.size_push]at h⊢;exact(h.alloc _).alloc _
 have h:=ed.start ((a.alloc (.cells #[hv] 24)).alloc (.cells cb 37));simp only[World.alloc,Array.size_push]at h⊢;exact h.kp (k:=[]) (Kp.of_same ((((ag.refl _).alloc _).alloc _).alloc _)) (λ_ h=>by cases h)
theorem Gu (a:List Tb) (c:ch) (b:aE):(gc a c b).1.length<=a.length+1:=by
 unfold gc;split
 ·simp
 split
 ·cases ea a b<;>simp
 simp
theorem Gv (a:List (Int×Int)) (b c:Nat) (p:Int×Int) (h:a.length=c) (d:c<b):(a++List.replicate (b-c) ((0:Int),(0:Int))).set c p=(a++[p])++List.replicate (b-(c+1)) (0,0):=by
 subst h;obtain⟨c,d⟩:∃c,b-a.length=c+1:=⟨b-a.length-1,by omega⟩;rw[d,show b-(a.length+1)=c by omega,List.set_append_right _ _ (Nat.le_refl _),Nat.sub_self,List.replicate_succ,List.set_cons_zero,List.append_assoc];rfl
theorem Gw {a e j:ah} {hv:aA} {c:List RI} {i:Nat} {f:RI} {q s:List RT} {k:List (Int×Int)} {u:ch} {v:Nat->Prop} {t:List Nat} {d:Int×Int} (w:i<c.length) (C:f=c[i]) (sm:ag a e) (D:aa e a.heap.size 24 #[hv]) (E:aa e (a.heap.size+1) 37 cb)
 (F:aa e (a.heap.size+1+1+1+1) 154 #[ak (a.heap.size+1+1+1)]) (G:fm e (a.heap.size+1+1+1+1+1) (k++List.replicate (c.length-i) (0,0))) (x:k.length=i) (M:q.length<=i) (M:a.heap.size+1+1+1+1+1<e.heap.size)
 (H:cy [] [] [] (c.map RI.it)=cy (q.map RT.tb) u k ((c.drop i).map RI.it)) (n:Kp t e j) (y:∀b∈t,b=a.heap.size+1+1\/b=a.heap.size+1+1+1\/a.heap.size+1+1+1+1+1<b) (z:gc (q.map RT.tb) u f.it=(s.map RT.tb,d))
 (I:lK j (a.heap.size+1+1+1) (a.heap.size+1+1) (a.heap.size+1+1+1+1+1+1) v s (dm u f.it).1 f.at_):
 fm j (a.heap.size+1+1+1+1+1) (k++List.replicate (c.length-i) (0,0))/\
 L1 a ((j.setCell (ac (a.heap.size+1+1+1+1+1) (i*2)) d.1).setCell (ac (a.heap.size+1+1+1+1+1) (i*2+1)) d.2) hv c (i+1):=by
 have r:∀b,b<a.heap.size+1+1\/b=a.heap.size+1+1+1+1\/b=a.heap.size+1+1+1+1+1->b∉t:=λb m g=>by
  rcases y b g with h|h|h<;>omega
 have A:=G.kp n (r _ af);have o:=Kp.aH (l:=[a.heap.size+1+1+1+1+1]) (p:=(ac (a.heap.size+1+1+1+1+1) (i*2+1))) aj (Kp.aH (p:=(ac (a.heap.size+1+1+1+1+1) (i*2))) aj (Kp.refl [a.heap.size+1+1+1+1+1] j) d.1) d.2;have J:ag a j:=n.eD sm (λb m=>by rcases y b m with h|h|h<;>omega);refine⟨A,s,k++[d],(dm u f.it).1,v,f.at_,o.eD J (λb m=>by rw[aB m];omega),o.blk (n.blk D (r _ af)) (λg=>by have:=aB g;omega),o.blk (n.blk E (r _ af)) (λg=>by have:=aB g;omega),o.blk (n.blk F (r _ af)) (λg=>by have:=aB g;omega),?_,by simp[x],?_,?_,?_⟩
 ·have:=A.set i d
  rw[Gv k c.length i d x w]at this;exact this
 ·have:=Gu (q.map RT.tb) u f.it
  rw[z]at this;simp at this;omega
 ·obtain⟨h,K,L,B⟩:=I
  refine⟨h,K,L,B.kp o (λb m=>?_)⟩;rw[aB m];exact⟨by omega,by omega,λa=>by have:=(B.lt _ a).1;omega⟩
 rw[H,List.drop_eq_getElem_cons w,List.map_cons,th,<-C,z]
def PO.Has {a:Type} (c:PO a) (d:Nat) (P:a->Prop):Prop:=∀a b,c=.ok a b->b.length<=d/\P a
theorem PO.Has.bind {b d:Type} {c:PO b} {f:b->List ao->PO d} {n:Nat} {P:b->Prop} {b:d->Prop} (h:c.Has n P) (e:∀a ts,P a->ts.length<=n->(f a ts).Has n b):(c.bind f).Has n b:=by
 cases c with
 |bad g a=>intro b ts h;cases h
 |ok a ts=>exact e a ts (h a ts rfl).2 (h a ts rfl).1
theorem PO.Le.has {c d:Type} {r:PO c} {f:c->List ao->PO d} {c:Nat} {g:d->Prop} (h:r.Le c) (hf:∀a ts,ts.length<=c->(f a ts).Has c g):(r.bind f).Has c g:=by
 exact qr
theorem PO.Has.ok {α:Type} {a:α} {ts:List ao} {n:Nat} {P:α->Prop} (h:ts.length<=n) (c:P a):(PO.ok a ts).Has n P:=by
 intro d d b;injection b with e1 b
 subst b e1;exact⟨h,c⟩
theorem PO.Has.bad {α:Type} {a b:Int} {c:Nat} {d:α->Prop}:(PO.bad a b:PO α).Has c d:=by intro a a h;cases h
theorem PO.Has.ite {a:Type} {b:Prop} [Decidable b] {c d:PO a} {n:Nat} {P:a->Prop} (h:c.Has n P) (a:d.Has n P):(if b then c else d).Has n P:=by split<;>assumption
theorem IQ {a:Type} (c:Int) (b:List ao) (d:Int) (e:Nat) (P:a->Prop):(eQ c b d:PO a).Has e P:=by cases b<;>exact .bad
theorem IR {g:Type} (l:av) (f:List ao->PO g) (m:∀b a,b.length<=a->(f b).Le a):∀(d:Nat) (c:List g) (b:List ao) (a:Nat),b.length<=a->(db l f d c b).Has a (λg=>g.length<=c.length+a):=by
 intro d;induction d with
 |zero=>intro c b a h;exact .ok h af
 |succ d n=>
  intro c b a h;unfold db;split
  ·rename_i o
   cases b with
   |nil=>simp[bB,eJ]at o
   |cons p i=>
    simp at h;intro q r e;cases ho':f (List.tail (p::i))with
    |bad j k=>rw[ho']at e;cases e
    |ok j k=>
     rw[ho']at e;have b:=m i (a-1) af j k ho';have a:=n (c++[j]) k (a-1) b q r e;have a:=a.2;simp at a;exact⟨by omega,by omega⟩
  exact .ok h af
theorem zy {a:Type} (c:av) (b:List ao->PO a) (d:∀a e,a.length<=e->(b a).Le e) (a:List ao) (h:a.length<=5000):(dC c b a).Has 5000 (λa=>a.length<=5001):=
 (d _ _ h).has λa a h=>λa e f=>by
  have:=IR c b d _ _ _ _ h a e f;simp at this;exact⟨this.1,by omega⟩
theorem uc (a:Int) (b:List ao) (h:b.length<=5000):(hP a b).Has 5000 (λb=>b.length<=5001):=zy _ _ (dK a) _ h
theorem zz (b:Int) (c:av) (a:List ao) (h:a.length<=5000):(k6 b c a).Has 5000 (λc=>c.length<=5001):=.ite (.ok h aj) (uc b a h)
theorem IS (a:Int) (c:Nat) (b:List ao) (h:b.length<=5000):(eA a c b).Has 5000 (λc=>c.names.length<=5001):=
 .ite ((qt a b _ h).has λ_ _ h=>.ok h (by simp[dv.zero])) (.ite ((b8 a _ _ _ h).has λ_ _ h=>(zz a _ _ h).bind λ_ _ b h=>.ok h b) (.ite
  ((b8 a _ _ _ h).has λ_ _ h=>(dK a _ _ h).has λ_ _ h=>(b8 a _ _ _ h).has λ_ _ h=>(dK a _ _ h).has λ_ _ h=>.ok h (by simp[dv.zero])) (.ite
  (
   (
   b8 a _ _ _ h).has λ_ _ h=>(zz a _ _ h).bind λ_ _ b h=>(b8 a _ _ _ h).has λ_ _ h=>(iH a _ _ _ h).has λ_ _ h=>
   (PO.Le.ite (.ok h) (dK a _ _ h)).has λ_ _ h=>(b8 a _ _ _ h).has λ_ _ h=>(dK a _ _ h).has λ_ _ h=>.ok h b) (.ok h (by simp[dv.zero])))))
theorem IT (c:Int):∀(d:Nat) (b:List ao),b.length<=5000->(d7 c d b).Has 5000 Ex.cW:=by
 intro d;induction d with
 |zero=>intro b h;exact IQ _ _ _ _ _
 |succ d e=>
  intro b h;unfold d7;cases hQ b 0 f8 with
  |none=>exact(dK c b _ h).has λ_ _ h=>.ok h ⟨by simp,by simp,by trivial⟩
  |some g=>
   exact(e _ (vz 2 h)).bind λd b b h=>(PO.Has.ite (P:=λf=>f.length<=5001/\Ex.ij f) ((b8 c _ _ _ h).has λ_ _ h=>(e _ h).bind λe _ f h=>PO.Has.ok (a:=[d,e]) h ⟨by simp,(show d.cW/\e.cW/\True from⟨b,f,trivial⟩)⟩) (PO.Has.ok (a:=[d]) h ⟨by simp,(show d.cW/\True from⟨b,trivial⟩)⟩)).bind λb _ b h=>
    (IS c g _ h).bind λd _ d h=>(b8 c _ _ _ h).has λ_ _ h=>.ok h ⟨d,b.1,b.2⟩
structure aE.cW (x:aE):Prop where
 n:x.names.length<=5001
 f:x.fixed.length<=5001
 e:x.expr.cW
theorem zA (a:Int) (b:aE) (c:List ao) (d:b.cW) (h:c.length<=5000):(hU a b c).Has 5000 aE.cW:=
 (b8 a _ _ _ h).has λ_ _ h=>(dK a _ _ h).has λ_ _ h=>(b8 a _ _ _ h).has λ_ _ h=>(uc a _ h).bind λ_ _ b h=>(b8 a _ _ _ h).has λ_ _ h=>.ok h ⟨b,d.f,d.e⟩
theorem IU (a:Int) (d:aE) (i:List ao) (b:d.cW) (h:i.length<=5000):(el a d i).Has 5000 aE.cW:=by
 have c:∀{g:aE} {c:List ao},c.length<=5000->g.names=d.names->g.fixed=d.fixed->g.expr=d.expr->(PO.ok g c).Has 5000 aE.cW:=λh c j k=>.ok h ⟨c▸b.n,j▸b.f,k▸b.e⟩;unfold el;refine .ite ?_ (.ite ?_ (.ite ?_ (.ite ?_ (.ite ?_ (.ite ?_ (.ite ?_ (.ite ?_ (.ite ?_ ?_))))))))
 ·exact(b8 a _ _ _ h).has λ_ _ h=>(ml _ _ (se a) _ _ h).has λ_ _ h=>(b8 a _ _ _ h).has λ_ _ h=>(uc a _ h).bind λ_ _ j h=>.ok h ⟨j,b.f,b.e⟩
 ·exact(b8 a _ _ _ h).has λ_ _ h=>(fw a _ _ h).has λ_ _ h=>c h rfl rfl rfl
 ·exact(b8 a _ _ _ h).has λ_ _ h=>(lR a _ _ h).has λ_ _ h=>(b8 a _ _ _ h).has λ_ _ h=>(iH a _ _ _ h).has λ_ _ h=>.ite ((fw a _ _ h).has λ_ _ h=>c h rfl rfl rfl) (.ite ((fw a _ _ h).has λ_ _ h=>(fw a _ _ h).has λ_ _ h=>c h rfl rfl rfl) (c h rfl rfl rfl))
 ·exact(b8 a _ _ _ h).has λ_ _ h=>(dK a _ _ h).has λ_ _ h=>(b8 a _ _ _ h).has λ_ _ h=>(fw a _ _ h).has λ_ _ h=>(b8 a _ _ _ h).has λ_ _ h=>(t8 a _ _ _ _ h).has λ_ _ h=>c h rfl rfl rfl
 ·exact(lR a _ _ h).has λ_ _ h=>(b8 a _ _ _ h).has λ_ _ h=>(iH a _ _ _ h).has λ_ _ h=>c h rfl rfl rfl
 ·exact zA a d i b h
 ·exact(zA a d i b h).bind λg _ d h=>(b8 a _ _ _ h).has λ_ _ h=>(dK a _ _ h).has λ_ _ h=>.ite ((zy _ _ (sf a) _ (iG h)).bind λ_ _ g h=>.ok h ⟨d.n,g,d.e⟩) (.ok h ⟨d.n,d.f,d.e⟩)
 ·exact(lR a _ _ h).has λ_ _ h=>(b8 a _ _ _ h).has λ_ _ h=>(lR a _ _ h).has λ_ _ h=>c h rfl rfl rfl
 ·exact(ml _ _ (sg a) _ _ h).has λ_ _ h=>(qt a _ _ h).has λ_ _ h=>c h rfl rfl rfl
 exact(b8 a _ _ _ h).has λ_ _ h=>(IT a _ _ h).bind λa _ a h=>.ok h ⟨b.n,b.f,a⟩
theorem IV (a:Int) (b:List ao) (h:b.length<=5000):(iC a b).Has 5000 aE.cW:=
 (iH a _ _ _ h).has λ_ _ h=>(PO.Le.ite (.ok h) (dK a _ _ h)).has λ_ _ h=>(IU a _ _ ⟨by simp[aE.zero],by simp[aE.zero],by show Ex.zero.cW;exact⟨by simp,by simp,by trivial⟩⟩ h).bind λ_ _ b h=>(b8 a _ _ _ h).has λ_ _ h=>.ok h b
theorem IW (f:Int):∀(d:Nat) (a:List aE) (b:List ao),(∀e∈a,e.cW)->a.length<=200->b.length<=5000->(iE f d a b).Has 5000 (λg=>(∀e∈g,e.cW)/\g.length<=200):=by
 intro d;induction d with
 |zero=>intro a b c g h;exact .ok h ⟨c,g⟩
 |succ d j=>
  intro a b i k h;cases b with
  |nil=>exact .ok h ⟨i,k⟩
  |cons n o=>
   rw[pU];split
   ·exact .bad
   ·exact(IV f _ h).bind λe _ l h=>j _ _ (λm c=>by
     rcases cP c with c|c
     ·exact i m c
     rw[aB c];exact l) aF h
theorem zB:∀(b:Nat) (e:bw) (d:Nat) (a:List ao),a.length<=5000->(gW b e d a).1.length<=5000
 |0,e,d,a,h=>h
 |b+1,[],d,a,h=>h
 |b+1,c::e,d,a,h=>by
  rw[zm];split
  ·simp
  ·simp
  split
  ·simp
  exact zB b _ _ _ aF
theorem zC (a:bw):(dp a).1.length<=5000:=by
 unfold dp;split
 ·simp
 exact zB _ _ _ _ aj
theorem zD {l:bw} {xs:List aE} {a:List ao} (h:fS l=.ok xs a):(∀b∈xs,b.cW)/\xs.length<=200:=by
 unfold fS at h;split at h
 ·exact(IW _ _ _ _ aj aj (zC l) xs a h).2
 cases h
def PO.Nz {a:Type} (b:PO a):Prop:=∀a c,b=.bad a c->a≠0
theorem PO.Nz.bind {c d:Type} {b:PO c} {f:c->List ao->PO d} (h:b.Nz) (e:∀a ts,(f a ts).Nz):(b.bind f).Nz:=by
 cases b with
 |bad i a=>exact λb c g=>h b c (by injection g with h1 h2;rw[h1,h2])
 |ok a ts=>exact e a ts
theorem PO.Nz.ok {α:Type} {a:α} {ts:List ao}:(PO.ok a ts).Nz:=by intro b b h;cases h
theorem PO.Nz.bad {α:Type} {a b:Int} (h:a≠0):(PO.bad a b:PO α).Nz:=by
 intro a a c;injection c with h1 h2
 exact h1▸h
theorem PO.Nz.ite {d:Type} {a:Prop} [Decidable a] {b c:PO d} (h:b.Nz) (d:c.Nz):(if a then b else c).Nz:=by split<;>assumption
theorem rK {c:Type} (d:Int) (a:List ao) {b:Int} (h:b≠0):(eQ d a b:PO c).Nz:=by cases a<;>exact .bad af
theorem dO (c:Int) (b:bk):∀a:List ao,(aW c a b).Nz:=by
 induction b with
 |nil=>intro a;cases a<;>exact .ok
 |cons d b e=>
  intro a;have:aW c a (d::b)=if bB a d then aW c a.tail b else eQ c a 4:=by cases a<;>rfl
  rw[this];exact .ite (e _) (rK _ _ ax)
theorem zH (b:Int) (a:List ao) (c:Int):(ez b a c).Nz:=by
 cases a with
 |nil=>exact .bad ax
 |cons d e=>exact .ite .ok (.bad ax)
theorem fN (a:Int) (b:List ao):(bN a b).Nz:=(zH a b 1).bind λ_ _=>.ok
theorem gL (a:Int) (b:List ao):(cB a b).Nz:=(zH a b 2).bind λ_ _=>.ok
theorem m9 (a:Int) (b:List ao) (c:bk):(dP a b c).Nz:=by
 unfold dP;split
 ·exact .ok
 exact rK _ _ ax
theorem I3 {d:Type} (f:av) (e:List ao->PO d) (g:∀a,(e a).Nz):∀(b:Nat) (c:List d) (a:List ao),(db f e b c a).Nz:=by
 intro b;induction b with
 |zero=>intro c a;exact .ok
 |succ b i=>intro c a;exact .ite ((g _).bind λb a=>i _ _) .ok
theorem pV {b:Type} (c:av) (a:List ao->PO b) (d:∀b,(a b).Nz) (b:List ao):(dC c a b).Nz:=(d _).bind λ_ _=>I3 c a d _ _ _
theorem uf (a:Int) (b:List ao):(hP a b).Nz:=pV _ _ (fN a) _
theorem zI (a:Int) (b:List ao):(f6 a b).Nz:=by
 cases b with
 |nil=>exact .ok
 |cons d c=>exact .ite .ok (.ite .ok (.ite ((gL a c).bind λ_ _=>.ok) (.ite ((gL a c).bind λ_ _=>.ok) (.ite .ok (.ite .ok (.ite .ok .ok))))))
theorem zJ (b:Int) (a:List ao):(jo b a).Nz:=(zI b a).bind λc a=>by cases c with|none=>exact rK _ _ ax|some c=>exact .ok
theorem zK (b:Int) (a:List ao):(jp b a).Nz:=(zI b a).bind λc a=>by
 cases c with
 |none=>exact(fN b a).bind λd a=>.ite ((fN b _).bind λ_ _=>.ok) .ok
 |some c=>exact .ok
theorem I4 (a:Int) (b:List ao):(l8 a b).Nz:=.ite (gL a _) (.ite ((gL a _).bind λ_ _=>.ok) .ok)
theorem I5 (a:Int) (b:List ao):(j3 a b).Nz:=(zK a b).bind λ_ _=>(m9 a _ _).bind λ_ _=>(zK a _).bind λ_ _=>(I4 a _).bind λ_ _=>.ok
theorem zL (a:Int) (b:List ao):(jq a b).Nz:=(dO a _ _).bind λ_ _=>pV _ _ (I5 a) _
theorem I6 (a:Int) (b:List ao):(j4 a b).Nz:=(fN a b).bind λ_ _=>(m9 a _ _).bind λ_ _=>.ite ((zJ a _).bind λ_ _=>.ok) .ok
theorem I7 (a:Int) (b:List ao):(j5 a b).Nz:=(fN a b).bind λ_ _=>(dO a _ _).bind λ_ _=>(zJ a _).bind λ_ _=>.ok
theorem I8 (a:Int) (b:List ao):(k8 a b).Nz:=(fN a b).bind λ_ _=>(fN a _).bind λ_ _=>.ok
theorem I9 (a:Int) (b:List ao):(iB a b).Nz:=
 (fN a b).bind λ_ _=>(m9 a _ _).bind λ_ _=>(PO.Nz.ite (gL a _) .ok).bind λ_ _=>(dO a _ _).bind λ_ _=>(gL a _).bind λ_ _=>(PO.Nz.ite (gL a _) .ok).bind λ_ _=>(dO a _ _).bind λ_ _=>(gL a _).bind λ_ _=>
  (PO.Nz.ite (gL a _) .ok).bind λ_ _=>(dO a _ _).bind λ_ _=>.ok
theorem rL (a:Int) (b:List ao):(gz a b).Nz:=(fN a b).bind λ_ _=>(dO a _ _).bind λ_ _=>(fN a _).bind λ_ _=>.ok
theorem zM (a:Int) (c:av) (b:List ao):(k6 a c b).Nz:=.ite .ok (uf a b)
theorem Ja (a:Int) (c:Nat) (b:List ao):(eA a c b).Nz:=
 .ite ((zL a b).bind λ_ _=>.ok) (.ite ((dO a _ _).bind λ_ _=>(zM a _ _).bind λ_ _=>.ok) (.ite
  ((dO a _ _).bind λ_ _=>(fN a _).bind λ_ _=>(dO a _ _).bind λ_ _=>(fN a _).bind λ_ _=>.ok) (.ite
  (
   (
   dO a _ _).bind λ_ _=>(zM a _ _).bind λ_ _=>(dO a _ _).bind λ_ _=>(m9 a _ _).bind λ_ _=>
   (PO.Nz.ite .ok (fN a _)).bind λ_ _=>(dO a _ _).bind λ_ _=>(fN a _).bind λ_ _=>.ok) .ok)))
theorem Jb (b:Int):∀(c:Nat) (a:List ao),(d7 b c a).Nz:=by
 intro c;induction c with
 |zero=>intro a;exact rK _ _ ax
 |succ c d=>
  intro a;unfold d7;cases hQ a 0 f8 with
  |none=>exact(fN b a).bind λ_ _=>.ok
  |some e=>exact(d _).bind λc a=>(PO.Nz.ite ((dO b _ _).bind λ_ _=>(d _).bind λ_ _=>.ok) .ok).bind λ_ _=>(Ja b e _).bind λ_ _=>(dO b _ _).bind λ_ _=>.ok
theorem Jc (d:Int):∀(b:Nat) (c:List cL) (a:List ao),(hT d b c a).Nz:=by
 intro b;induction b with
 |zero=>intro c a;exact .ok
 |succ b e=>intro c a;exact .ite .ok ((I9 d a).bind λb a=>e _ _)
theorem zN (a:Int) (b:aE) (c:List ao):(hU a b c).Nz:=(dO a _ _).bind λ_ _=>(fN a _).bind λ_ _=>(dO a _ _).bind λ_ _=>(uf a _).bind λ_ _=>(dO a _ _).bind λ_ _=>.ok
theorem Jd (a:Int) (b:aE) (c:List ao):(el a b c).Nz:=by
 unfold el;refine .ite ?_ (.ite ?_ (.ite ?_ (.ite ?_ (.ite ?_ (.ite ?_ (.ite ?_ (.ite ?_ (.ite ?_ ?_))))))))
 ·exact(dO a _ _).bind λ_ _=>(pV _ _ (I6 a) _).bind λ_ _=>(dO a _ _).bind λ_ _=>(uf a _).bind λ_ _=>.ok
 ·exact(dO a _ _).bind λ_ _=>(gL a _).bind λ_ _=>.ok
 ·exact(dO a _ _).bind λ_ _=>(rL a _).bind λ_ _=>(dO a _ _).bind λ_ _=>(m9 a _ _).bind λ_ _=>.ite ((gL a _).bind λ_ _=>.ok) (.ite ((gL a _).bind λ_ _=>(gL a _).bind λ_ _=>.ok) .ok)
 ·exact(dO a _ _).bind λ_ _=>(fN a _).bind λ_ _=>(dO a _ _).bind λ_ _=>(gL a _).bind λ_ _=>(dO a _ _).bind λ_ _=>(Jc a _ _ _).bind λ_ _=>.ok
 ·exact(rL a _).bind λ_ _=>(dO a _ _).bind λ_ _=>(m9 a _ _).bind λ_ _=>.ok
 ·exact zN a b c
 ·exact(zN a b c).bind λb _=>(dO a _ _).bind λ_ _=>(fN a _).bind λ_ _=>.ite ((pV _ _ (I7 a) _).bind λ_ _=>.ok) .ok
 ·exact(rL a _).bind λ_ _=>(dO a _ _).bind λ_ _=>(rL a _).bind λ_ _=>.ok
 ·exact(pV _ _ (I8 a) _).bind λ_ _=>(zL a _).bind λ_ _=>.ok
 exact(dO a _ _).bind λ_ _=>(Jb a _ _).bind λ_ _=>.ok
theorem Je (a:Int) (b:List ao):(iC a b).Nz:=
 (m9 a _ _).bind λ_ _=>(PO.Nz.ite .ok (fN a _)).bind λ_ _=>(Jd a _ _).bind λ_ _=>(dO a _ _).bind λ_ _=>.ok
theorem Jf (d:Int):∀(a:Nat) (c:List aE) (b:List ao),(iE d a c b).Nz:=by
 intro a;induction a with
 |zero=>intro c b;exact .ok
 |succ a e=>
  intro c b;cases b with
  |nil=>exact .ok
  |cons f g=>
   rw[pU];split
   ·exact .bad ax
   exact(Je d _).bind λa _=>e _ _
theorem zO (l:bw):(fS l).Nz:=by
 unfold fS;split
 ·exact Jf _ _ _ _
 rename_i h
 exact .bad h
end Go.Proofs.YteamkimbmdgdbaaGreatDoor

import Derived.Test.YteamkimbmdgdbaaGreatDoorK24
set_option linter.unusedSimpArgs false
set_option linter.unusedVariables false
set_option maxHeartbeats 16000000
set_option maxRecDepth 100000
namespace Go.Proofs.YteamkimbmdgdbaaGreatDoor
open Go.RowKit
def dP (p:Int×Int):List Value:=[.int .i64 p.1,.int .i64 p.2]
theorem p1 (p:Int×Int):(dP p).length=2:=rfl
def eQ (a:af) (b:Nat) (c:List (Int×Int)):Prop:=J a b 97 (c.flatMap dP).toArray
theorem Tryz.p2:(Tryz.prog.info? 97).map (λi=>(i.zero,i.size,i.bytes))=some (some (.agg #[O 0,O 0]),2,16):=ak
theorem vz:∀a:Nat,(List.replicate a ((0:Int),(0:Int))).flatMap dP=List.replicate (a*2) (Value.int .i64 0)
 |0=>rfl
 |a+1=>by
  rw[List.replicate_succ,List.flatMap_cons,vz a,show(a+1)*2=a*2+1+1 by omega,List.replicate_succ,List.replicate_succ];rfl
theorem Dg (a:Nat):madeCells #[Value.int .i64 0,Value.int .i64 0] (a*2)=((List.replicate a ((0:Int),(0:Int))).flatMap dP).toArray:=by
 rw[vz];apply Array.ext
 ·simp[madeCells]
 intro a b b;have h:a%2=0\/a%2=1:=ae
 rcases h with h|h<;>simp[madeCells,h]
theorem Dh (a:Nat) (b:a<=1000000) (b:af):(Instr.makeSlice 38 (a:Int) (a:Int)).run Tryz.prog b=
 .ok (.slice (some ⟨b.heap.size,0,none⟩) a a) (b.alloc (.cells ((List.replicate a ((0:Int),(0:Int))).flatMap dP).toArray 97)):=by
 obtain⟨c,d,e,f,g⟩:=info_parts Tryz.p2;have h:=run_make (P:=Tryz.prog) b 38 97 c _ Tryz.underlying38 d e .i64 .i64 (a:Int) (a:Int) ae ae (by rw[g];omega) ae;rw[h,f];have a:((a:Int)).toNat=a:=by omega
 rw[a];show _=Result.ok _ (b.alloc (.cells _ _));rw[<-Dg];rfl
theorem vA:∀(c:List (Int×Int)) (a:Nat) (b:Int×Int),c[a]?=some b->(c.flatMap dP)[a*2]?=some (.int .i64 b.1)/\(c.flatMap dP)[a*2+1]?=some (.int .i64 b.2)
 |[],a,b,h=>by simp at h
 |f::c,0,b,h=>by
  simp at h;subst h;exact⟨rfl,rfl⟩
 |f::c,a+1,b,h=>by
  have:=vA c a b (by simpa using h);rw[List.flatMap_cons,show(a+1)*2=a*2+2 by omega];exact this
theorem vB:∀(c:List (Int×Int)) (a:Nat) (b:Int×Int),((c.flatMap dP).set (a*2) b.1).set (a*2+1) b.2=(c.set a b).flatMap dP
 |[],a,b=>by simp
 |f::c,0,b=>rfl
 |f::c,a+1,b=>by
  have:=vB c a b;rw[List.set_cons_succ,List.flatMap_cons,List.flatMap_cons,<-this,show(a+1)*2=a*2+1+1 by omega];rfl
theorem eQ.get {a:af} {b:Nat} {c:List (Int×Int)} (h:eQ a b c) {i:Nat} {p:Int×Int} (d:c[i]?=some p):ac a (ab b (i*2)) p.1/\ac a (ab b (i*2+1)) p.2:=by
 have b:=J.cell h (i*2);have e:=J.cell h (i*2+1);have a:=vA c i p d;exact⟨b.trans (by simpa using a.1),e.trans (by simpa using a.2)⟩
theorem eQ.set {w:af} {g:Nat} {a:List (Int×Int)} (h:eQ w g a) (i:Nat) (p:Int×Int):eQ ((w.setCell (ab g (i*2)) p.1).setCell (ab g (i*2+1)) p.2) g (a.set i p):=by
 have a:=(J.aP h (i*2) p.1).aP (i*2+1) p.2;unfold eQ;rw[<-vB];simpa using a
theorem eQ.kp {w a:af} {g:Nat} {b:List (Int×Int)} (h:eQ w g b) {l:List Nat} (k:Kp l w a) (c:g∉l):eQ a g b:=k.blk h c
theorem mZ {P:Program} {j:Array Oper} {rest:List Oper} {e:Oper} {g:Act} {a:af} {k:Exit->Act->World->Prop} (n:e.guard=none) (b:bb) (l:Operand) (o:e.op=.load b l)
 (c d:Nat) (cs:bg) (p:g.eval l=.pointer (some ⟨c,d,none⟩)) (q:∀f v,cs[f]?=some v->ac a (ab c (d+f)) v) (i:TypeDesc) (r:P.underlying b=some i) (l:(match i with|.struct _|.array _ _=>true|_=>false)=true) (m:(P.info? b).map (·.size)=some cs.length)
 (h:wpList P j k rest (g.put e.dst (.agg cs.toArray)) a):wpList P j k (e::rest) g a:=by
 refine wpList_plain n λe s=>?_;have t:(loadCells ⟨c,d,none⟩ cs.length).run P a=.ok cs.toArray a:=
  run_loadCells_list (P:=P) a ⟨c,d,none⟩ cs (λf v e=>by
   rw[Addr.add_lit];exact q f v e)
 have u:(Instr.loadAt b (.pointer (some ⟨c,d,none⟩))).run P a=.ok (.agg cs.toArray) a:=by
  simp only[Instr.loadAt,Instr.sureAddr,Sem.run_bind,Sem.run_pure,Result.andThen];cases hq:P.info? b with
  |none=>simp[hq]at m
  |some w=>
   have x:w.size=cs.length:=by simpa[hq]using m
   have y:(isAgg b).run P a=.ok true a:=by
    unfold isAgg;rw[Sem.run_bind,run_underlying r a];cases i<;>simp_all
   simp[loadVar,Sem.run_bind,y,sizeOf,typeInfo,hq,x,t]
 unfold Oper.wp execOp;simp only[o,p,Sem.run_bind,u,Result.andThen_ok];exact s _ _ h
def b6:Array Value:=#[aa,aa,aa,aa,aa,aa,aa]
def L1 (w a:af) (hv:ay) (b:List RI) (i:Nat):Prop:=∃(c:List RT) (d:List (Int×Int)) (e:cI) (f:Nat->Prop) (g:Int),ag w a/\J a w.heap.size 24 #[hv]/\J a (w.heap.size+1) 37 b6/\
 J a (w.heap.size+1+1+1+1) 154 #[aj (w.heap.size+1+1+1)]/\eQ a (w.heap.size+1+1+1+1+1) (d++List.replicate (b.length-i) (0,0))/\d.length=i/\c.length<=i/\
 k0 a (w.heap.size+1+1+1) (w.heap.size+1+1) (w.heap.size+1+1+1+1+1+1) f c e g/\ep [] [] [] (b.map RI.it)=ep (c.map RT.tb) e d ((b.drop i).map RI.it)
theorem cK.start {a:af} {b c e:Nat} (f:J a b 157 #[aa,aa,aa,aa,aa,aa,aa,.map (some c),O 0]) (g:b<e) (i:c<b) (d:e<=a.heap.size) (j:dT a c [] []):
 k0 a b c e (λ_=>False) [] [] 0:=
 ⟨aJ,[],rfl,{
  bx:=f,hX:=g,hM:=i,hb:=d,lt:=(λ_ h=>h.elim),na:=(λ_=>j),nin:=(λa k=>by cases k),gO:=(λa k=>by cases k)
  own:=(λa a=>by rw[aA a];exact⟨rfl,.inl ⟨rfl,rfl⟩⟩)
  eP:=(λa a b d=>by rw[aA a]at d;cases d)
  one:=(λa a a a a a b c c=>by
   have a:=(List.getElem?_eq_some_iff.1 a).1;have b:=(List.getElem?_eq_some_iff.1 b).1;simp at a b;omega)
  fine:=(λa a=>by rw[aA a];exact vl _ _)
  nest:=(λa a=>by rw[aA a];exact λa k=>by cases k)}⟩
theorem Di (a:af) (hv:ay) (b:List RI):
 L1 a ((((((a.alloc (.cells #[hv] 24)).alloc (.cells b6 37)).alloc (.map #[] 0)).alloc (.cells #[aa,aa,aa,aa,aa,aa,aa,.map (some (a.heap.size+1+1)),O 0] 157)).alloc (.cells #[aj (a.heap.size+1+1+1)] 154)).alloc (.cells ((List.replicate b.length ((0:Int),(0:Int))).flatMap dP).toArray 97)) hv b 0:=by
 refine⟨[],[],[],λ_=>False,0,?_,?_,?_,?_,?_,rfl,Nat.le_refl _,?_,by simp⟩
 ·exact(((((((ag.refl a).alloc _).alloc _).alloc _).alloc _).alloc _).alloc _)
 ·exact(((((J.new a _ _).alloc _).alloc _).alloc _).alloc _).alloc _
 ·have h:=J.new (a.alloc (.cells #[hv] 24)) 37 b6
  rw[show(a.alloc (.cells #[hv] 24)).heap.size=a.heap.size+1 by simp]at h;exact(((h.alloc _).alloc _).alloc _).alloc _
 ·have h:=J.new ((((a.alloc (.cells #[hv] 24)).alloc (.cells b6 37)).alloc (.map #[] 0)).alloc (.cells #[aa,aa,aa,aa,aa,aa,aa,.map (some (a.heap.size+1+1)),O 0] 157)) 154 #[aj (a.heap.size+1+1+1)]
  simp only[World.alloc,Array.size_push]at h⊢;exact h.alloc _
 ·have h:=J.new (((((a.alloc (.cells #[hv] 24)).alloc (.cells b6 37)).alloc (.map #[] 0)).alloc (.cells #[aa,aa,aa,aa,aa,aa,aa,.map (some (a.heap.size+1+1)),O 0] 157)).alloc (.cells #[aj (a.heap.size+1+1+1)] 154)) 97 ((List.replicate b.length ((0:Int),(0:Int))).flatMap dP).toArray
  simp only[World.alloc,Array.size_push]at h⊢;simpa[eQ]using h
 refine cK.start ?_ ae ae ai ?_
 ·have h:=J.new (((a.alloc (.cells #[hv] 24)).alloc (.cells b6 37)).alloc (.map #[] 0)) 157 #[aa,aa,aa,aa,aa,aa,aa,.map (some (a.heap.size+1+1)),O 0]
  simp only[World.alloc,Array.size_push]at h⊢;exact(h.alloc _).alloc _
 have h:=dT.start ((a.alloc (.cells #[hv] 24)).alloc (.cells b6 37));simp only[World.alloc,Array.size_push]at h⊢;exact h.kp (k:=[]) (Kp.of_same ((((ag.refl _).alloc _).alloc _).alloc _)) (λ_ h=>by cases h)
theorem Dj (a:List Tb) (c:cI) (b:aI):(fI a c b).1.length<=a.length+1:=by
 unfold fI;split
 ·simp
 split
 ·cases fL a b<;>simp
 simp
theorem Dk (a:List (Int×Int)) (b c:Nat) (p:Int×Int) (h:a.length=c) (d:c<b):(a++List.replicate (b-c) ((0:Int),(0:Int))).set c p=(a++[p])++List.replicate (b-(c+1)) (0,0):=by
 subst h;obtain⟨c,d⟩:∃c,b-a.length=c+1:=⟨b-a.length-1,by omega⟩;rw[d,show b-(a.length+1)=c by omega,List.set_append_right _ _ (Nat.le_refl _),Nat.sub_self,List.replicate_succ,List.set_cons_zero,List.append_assoc];rfl
theorem Dl {a e j:af} {hv:ay} {c:List RI} {i:Nat} {f:RI} {q s:List RT} {k:List (Int×Int)} {u:cI} {v:Nat->Prop} {t:List Nat} {d:Int×Int} (w:i<c.length) (C:f=c[i]) (sm:ag a e) (D:J e a.heap.size 24 #[hv]) (E:J e (a.heap.size+1) 37 b6)
 (F:J e (a.heap.size+1+1+1+1) 154 #[aj (a.heap.size+1+1+1)]) (G:eQ e (a.heap.size+1+1+1+1+1) (k++List.replicate (c.length-i) (0,0))) (x:k.length=i) (N:q.length<=i) (N:a.heap.size+1+1+1+1+1<e.heap.size)
 (H:ep [] [] [] (c.map RI.it)=ep (q.map RT.tb) u k ((c.drop i).map RI.it)) (n:Kp t e j) (y:∀b∈t,b=a.heap.size+1+1\/b=a.heap.size+1+1+1\/a.heap.size+1+1+1+1+1<b) (z:fI (q.map RT.tb) u f.it=(s.map RT.tb,d))
 (I:k0 j (a.heap.size+1+1+1) (a.heap.size+1+1) (a.heap.size+1+1+1+1+1+1) v s (eo u f.it).1 f.at_):
 eQ j (a.heap.size+1+1+1+1+1) (k++List.replicate (c.length-i) (0,0))/\
 L1 a ((j.setCell (ab (a.heap.size+1+1+1+1+1) (i*2)) d.1).setCell (ab (a.heap.size+1+1+1+1+1) (i*2+1)) d.2) hv c (i+1):=by
 have r:∀b,b<a.heap.size+1+1\/b=a.heap.size+1+1+1+1\/b=a.heap.size+1+1+1+1+1->b∉t:=λb m g=>by
  rcases y b g with h|h|h<;>omega
 have A:=G.kp n (r _ ae);have o:=Kp.aE (l:=[a.heap.size+1+1+1+1+1]) (p:=(ab (a.heap.size+1+1+1+1+1) (i*2+1))) ai (Kp.aE (p:=(ab (a.heap.size+1+1+1+1+1) (i*2))) ai (Kp.refl [a.heap.size+1+1+1+1+1] j) d.1) d.2;have K:ag a j:=n.g4 sm (λb m=>by rcases y b m with h|h|h<;>omega);refine⟨A,s,k++[d],(eo u f.it).1,v,f.at_,o.g4 K (λb m=>by rw[aA m];omega),o.blk (n.blk D (r _ ae)) (λg=>by have:=aA g;omega),o.blk (n.blk E (r _ ae)) (λg=>by have:=aA g;omega),o.blk (n.blk F (r _ ae)) (λg=>by have:=aA g;omega),?_,by simp[x],?_,?_,?_⟩
 ·have:=A.set i d
  rw[Dk k c.length i d x w]at this;exact this
 ·have:=Dj (q.map RT.tb) u f.it
  rw[z]at this;simp at this;omega
 ·obtain⟨h,L,M,B⟩:=I
  refine⟨h,L,M,B.kp o (λb m=>?_)⟩;rw[aA m];exact⟨by omega,by omega,λa=>by have:=(B.lt _ a).1;omega⟩
 rw[H,List.drop_eq_getElem_cons w,List.map_cons,p0,<-C,z]
def mg (b:Nat) (a:bL):Rd:=if b=0 then jQ a else if b=1 then jR a else if b=2 then jb a else g5 a
def Rd.or (a s:Rd):Rd:=match a with|.none=>s|a=>a
def jx (b:Nat) (a:bL):Rd:=if b=0 then nR a else if b=1 then(jR a).or ((jb a).or ((g5 a).or (.bad 5)))else if b=2 then(jb a).or ((g5 a).or (.bad 5))else if b=3 then(g5 a).or (.bad 5)else .bad 5
theorem ED (a:bL):nR a=(jQ a).or ((jR a).or ((jb a).or ((g5 a).or (.bad 5)))):=by
 unfold nR Rd.or;rfl
theorem wg (a:Nat) (c:a<4) (b:bL):jx a b=(mg a b).or (jx (a+1) b):=by
 have h:a=0\/a=1\/a=2\/a=3:=ae
 rcases h with rfl|rfl|rfl|rfl
 ·exact ED b
 ·rfl
 ·rfl
 rfl
structure r8 (l:bL) (t:bL) (n:Int) (len:Nat):Prop where
 l1:1<=len
 l2:len<=l.length
 t1:t.length<=20000
 n0:0<=n
 n1:n<=9999999999
theorem oU:∀(f i:bL) (n:Nat) (e:Int) (b:bL) (d:Int) (a:Nat),de f i n=.tok e b d a->1<=a/\a<=n+f.length+1/\b.length<=200/\d=0
 |[],_,_,_,_,_,_,h=>by cases h
 |c::f,i,n,e,b,d,a,h=>by
  rw[de.eq_def]at h;simp only at h;split at h
  ·split at h
   ·cases h
   injection h with h1 h2 h3 h4
   subst h2 h3 h4;simp;omega
  split at h
  ·cases h
  split at h
  ·split at h
   ·cases h
   rename_i i g
   split at h
   ·have:=oU g _ _ e b d a h;simp at this⊢;omega
   split at h
   ·have:=oU g _ _ e b d a h;simp at this⊢;omega
   split at h
   ·have:=oU g _ _ e b d a h;simp at this⊢;omega
   cases h
  have:=oU f _ _ e b d a h;simp at this⊢;omega
theorem EE {c:UInt8} (h:ja c=true):eX c=true:=by unfold eX;rw[h];rfl
theorem EG (l:Nat) (a:bL) (j:a.length<=20000) (i:a≠[]) (m:Int) (j:bL) (n:Int) (k:Nat) (h:mg l a=.tok m j n k):r8 a j n k:=by
 unfold mg at h;split at h
 ·unfold jQ at h
  split at h
  ·rename_i g
   split at h
   ·cases h
   injection h with f b d e
   subst b d e;cases a with
   |nil=>exact absurd rfl i
   |cons c a=>
    have g:eX c=true:=EE g;have f:1<=ci eX (c::a):=by simp[ci,g]
    exact⟨f,mF _ _,by rw[List.length_take];omega,by omega,by omega⟩
  cases h
 split at h
 ·unfold jR at h
  split at h
  ·cases h
  split at h
  ·cases h
  rename_i j g
  injection h with f b d e
  subst b d e;have k:=mF dy a;have:=(tF (a.take (ci dy a)) (by intro j;have:=congrArg List.length j;rw[List.length_take,List.length_nil]at this;omega) (qZ dy a) (by rw[List.length_take];omega)).2;obtain⟨j,g⟩:∃j,j=gJ (a.take (ci dy a)):=⟨_,rfl⟩;rw[<-g]at this⊢;exact⟨by omega,k,by rw[List.length_take];omega,by omega,by omega⟩
 split at h
 ·unfold jb at h
  split at h
  ·obtain⟨f,b,d,e⟩:=oU _ _ _ _ _ _ _ h
   have:0<a.length:=List.length_pos_iff.2 i;simp at b;exact⟨f,by omega,by omega,by omega,by omega⟩
  cases h
 unfold g5 at h;split at h
 ·rename_i g
  injection h with f b d e
  subst b d e;have:2<=a.length:=by
   have:(a.take 2).length=2:=by rcases g with g|g<;>rw[g]<;>rfl
   rw[List.length_take]at this;omega
  exact⟨by omega,this,by rw[List.length_take];omega,by omega,by omega⟩
 split at h
 ·injection h with f b d e
  subst b d e;have:0<a.length:=List.length_pos_iff.2 i;exact⟨by omega,by omega,by rw[List.length_take];omega,by omega,by omega⟩
 cases h
theorem EH {d:Nat} {c:UInt8} {b:bL} {a:Nat} {ts:List ao}:g6 (d+1) (c::b) a ts=match nR (c::b)with
 |.none=>([],5,a)
 |.bad e=>([],e,a)
 |.tok k t n len=>if ts.length=5000 then([],3,a)else g6 d (((c::b).drop len).drop (cQ false ((c::b).drop len))) (a+len+cQ false ((c::b).drop len)) (ts++[⟨k,dY t,n,a⟩]):=rfl
theorem EI {c d n:Nat} {a:bb} {e:ay} {f:bg} {w i:af} (j:w.ownsRow c a d e n f) {k:List Nat} (s:Kp k w i) (o:∀p∈k,w.heap.size<=p):i.ownsRow c a d e n f:=by
 refine⟨j.1,?_⟩;rcases j.2 with h|⟨b,q,l,r,u,m,v⟩
 ·exact .inl h
 exact .inr ⟨b,q,l,r,u,s.blk (g:=b) (t:=a) m (λc=>by have:=o b c;have:=J.lt (t:=a) (cs:=l) m;omega),v⟩
structure dD (w W:af) (s:aw) (a:Nat) (A:aX) (n c:Nat) (ts:List ao):Prop where
 k:Kp [] w W
 bT:J W w.heap.size 121 #[U A n c]
 bE:J W (w.heap.size+1) 76 #[O 0]
 bA:J W (w.heap.size+1+1) 3 #[O 0]
 bS:eD W (w.heap.size+1+1+1) s a
 bK:J W (w.heap.size+1+1+1+1) 186 #[.func (.func 81) #[aj (w.heap.size+1+1+1)] #[],.func (.func 82) #[aj (w.heap.size+1+1+1)] #[],.func (.func 83) #[aj (w.heap.size+1+1+1)] #[],.func (.func 84) #[aj (w.heap.size+1+1+1)] #[]]
 own:W.ownsRow (w.heap.size+5) 188 4 (U A n c) n (ts.flatMap ao.cells)
 len:ts.length=n
 few:n<=5000
 fine:∀t∈ts,t.bY
 oV:a<=s.size
section
variable {w W W':af} {s:aw} {a:Nat} {A:aX} {n c:Nat} {ts:List ao}
theorem dD.kp (b:dD w W s a A n c ts) {l:List Nat} (k:Kp l W W') (e:∀d∈l,W.heap.size<=d):dD w W' s a A n c ts:=
 have h:=λ(d:Nat) (f:d<W.heap.size) (g:d∈l)=>absurd (e d g) ae
 ⟨k.old b.k (λd f g=>by have:=e d f;have:=b.k.size;omega),k.blk b.bT (h _ b.bT.lt),k.blk b.bE (h _ b.bE.lt),k.blk b.bA (h _ b.bA.lt),k.blk b.bS (h _ b.bS.lt),k.blk b.bK (h _ b.bK.lt),EI b.own k e,b.len,b.few,b.fine,b.oV⟩
theorem dD.same (b:dD w W s a A n c ts) (k:ag W W'):dD w W' s a A n c ts:=b.kp (Kp.of_same (l:=[]) k) (λ_ h=>by cases h)
theorem dD.move (b:dD w W s a A n c ts) {a':Nat} (d:Kp [w.heap.size+1+1+1] W W') (e:eD W' (w.heap.size+1+1+1) s a') (h:a'<=s.size):dD w W' s a' A n c ts:=
 ⟨d.old b.k (λe f g=>by simp at f;omega),d.blk b.bT aU,d.blk b.bE aU,d.blk b.bA aU,e,d.blk b.bK aU,bC b.own d aU,b.len,b.few,b.fine,h⟩
def iP (w:af) (a:List ao×Int×Int) (c:Ending) (b:af):Prop:=∃h:Hd,c=.returned (.tuple #[h.val,a.2.1,a.2.2])/\eg b b.heap.size h a.1/\ag w b
theorem qq (e:dD w W s a A n c ts) (er at_:Int) (b:aO) (g:b.getD 2 undef=.pointer (some ⟨w.heap.size,0,none⟩)) (i:b.getD 3 undef=.pointer (some ⟨w.heap.size+1,0,none⟩)) (j:b.getD 4 undef=.pointer (some ⟨w.heap.size+1+1,0,none⟩)):
 CallsD Tryz.prog 80 #[aj w.heap.size,aj (w.heap.size+1),aj (w.heap.size+1+1)] (.panicking [{v:=nS er at_,recovered:=false}]) W (λ
  |.returned _,d,w'=>Leaves Tryz.prog Tryz.f44 b (iP w ([],er,at_)) [] (settle d) w'
  |.panicked chain,d,w'=>Leaves Tryz.prog Tryz.f44 b (iP w ([],er,at_)) [] (raised d chain) w'
  |.outgrown,_,w'=>iP w ([],er,at_) .outgrown w'):=by
 have l:b[2]?.getD undef=.pointer (some ⟨w.heap.size,0,none⟩):=by simpa using g
 have m:b[3]?.getD undef=.pointer (some ⟨w.heap.size+1,0,none⟩):=by simpa using i
 have o:b[4]?.getD undef=.pointer (some ⟨w.heap.size+1+1,0,none⟩):=by simpa using j
 refine(CW w.heap.size (w.heap.size+1) (w.heap.size+1+1) _ _ _ er at_ [] W e.bT e.bE e.bA ae ae ae).mono ?_;rintro g d f ⟨rfl,rfl,p,q,r,t⟩;have u:ac f (am w 0) aa:=J.cell p 0;have x:ac f (ab (w.heap.size+1) 0) er:=J.cell q 0;have y:ac f (ab (w.heap.size+1+1) 0) at_:=J.cell r 0;show Leaves Tryz.prog Tryz.f44 b (iP w ([],er,at_)) [] .returning f;refine⟨.tuple #[aa,er,at_],?_,⟨none,0,0⟩,rfl,⟨aF.none_ _ _ _,(λ_ _ h=>by cases h),Nat.le_refl _,(λ_ h=>by cases h),by simp⟩,?_⟩
 ·simp[results,Tryz.results44,go_sem,l,m,o,u,x,y]
 exact(t.old e.k (l':=[]) (λb b e=>by simp at b;omega)).same
theorem EJ (b:dD w W s a A n c ts) (d:aO) (i:d.getD 2 undef=.pointer (some ⟨w.heap.size,0,none⟩)) (j:d.getD 3 undef=.pointer (some ⟨w.heap.size+1,0,none⟩)) (l:d.getD 4 undef=.pointer (some ⟨w.heap.size+1+1,0,none⟩)):
 CallsD Tryz.prog 80 #[aj w.heap.size,aj (w.heap.size+1),aj (w.heap.size+1+1)] .returning W (λ
  |.returned _,e,w'=>Leaves Tryz.prog Tryz.f44 d (iP w (ts,0,0)) [] (settle e) w'
  |.panicked chain,e,w'=>Leaves Tryz.prog Tryz.f44 d (iP w (ts,0,0)) [] (raised e chain) w'
  |.outgrown,_,w'=>iP w (ts,0,0) .outgrown w'):=by
 have m:d[2]?.getD undef=.pointer (some ⟨w.heap.size,0,none⟩):=by simpa using i
 have o:d[3]?.getD undef=.pointer (some ⟨w.heap.size+1,0,none⟩):=by simpa using j
 have p:d[4]?.getD undef=.pointer (some ⟨w.heap.size+1+1,0,none⟩):=by simpa using l
 refine(CX w.heap.size (w.heap.size+1) (w.heap.size+1+1) W).mono ?_;rintro i e f ⟨rfl,rfl,rfl⟩;have q:ac f (am w 0) (U A n c):=J.cell b.bT 0;have r:ac f (ab (w.heap.size+1) 0) (O 0):=J.cell b.bE 0;have u:ac f (ab (w.heap.size+1+1) 0) (O 0):=J.cell b.bA 0;show Leaves Tryz.prog Tryz.f44 d (iP w (ts,0,0)) [] .returning f;refine⟨.tuple #[U A n c,O 0,O 0],?_,⟨A,n,c⟩,rfl,⟨?_,?_,?_,b.fine,?_⟩,?_⟩
 ·simp[results,Tryz.results44,go_sem,m,o,p,q,r,u]
 ·have:=b.few
  exact cF (h:=⟨A,n,c⟩) (λ_=>rfl) b.len (by show n<=_;omega) b.own
 ·intro v x y z
  rcases b.own.2 with⟨g,D⟩|⟨E,F,B,g,G,C,_⟩
  ·have:0<n:=z
   omega
  injection g with e1
  have d:A=some ⟨v,x,none⟩:=y;rw[d]at e1;injection e1 with e1
  injection e1 with e1
  subst e1;exact J.lt (t:=188) (cs:=B) C
 ·show n<=c
  rcases b.own.2 with⟨g,x⟩|⟨y,z,B,g,C,D,v⟩
  ·injection g with e1 e2 e3
   omega
  injection g with e1 e2 e3
  have:=v.1;omega
 ·show ts.length<=5000
  have:=b.len;have:=b.few;omega
 exact b.k.same
theorem dD.fin (b:dD w W s a A n c ts):dD w (((W.setCell (am w 0) (U A n c)).setCell (ab (w.heap.size+1) 0) (O 0)).setCell (ab (w.heap.size+1+1) 0) (O 0)) s a A n c ts:=by
 have d:Kp [w.heap.size,w.heap.size+1,w.heap.size+1+1] W (((W.setCell (am w 0) (U A n c)).setCell (ab (w.heap.size+1) 0) (O 0)).setCell (ab (w.heap.size+1+1) 0) (O 0)):=
  Kp.aE (p:=(ab (w.heap.size+1+1) 0)) aU (Kp.aE (p:=(ab (w.heap.size+1) 0)) aU (Kp.aE (p:=(am w 0)) aU (Kp.refl _ W) _) _) _
 exact⟨d.old b.k (λe e f=>by simp at e;omega),
  J.far (J.far (b.bT.aP 0 (U A n c)) (p:=(ab (w.heap.size+1) 0)) aD _) (p:=(ab (w.heap.size+1+1) 0)) aD _,
  J.far ((J.far b.bE (p:=(am w 0)) aD _).aP 0 (O 0)) (p:=(ab (w.heap.size+1+1) 0)) aD _,
  (J.far (J.far b.bA (p:=(am w 0)) aD _) (p:=(ab (w.heap.size+1) 0)) aD _).aP 0 (O 0),
  d.blk b.bS aU,d.blk b.bK aU,bC b.own d aU,b.len,b.few,b.fine,b.oV⟩
theorem dD.EK (b:dD w W s a A n c ts) {g i:Nat} (f:w.heap.size+5<=g) (l:∀d,(Value.slice A n c).ownBlock=some d->d<g) (f:ay):dD w (W.setCell (ab g i) f) s a A n c ts:=by
 have e:Kp [g] W (W.setCell (ab g i) f):=Kp.aE (p:=(ab g i)) aU (Kp.refl _ W) _;refine⟨e.old b.k (λd f j=>by simp at f;omega),e.blk b.bT aU,e.blk b.bE aU,e.blk b.bA aU,e.blk b.bS aU,e.blk b.bK aU,⟨b.own.1,?_⟩,b.len,b.few,b.fine,b.oV⟩;rcases b.own.2 with h|⟨d,m,o,j,q,r,u⟩
 ·exact .inl h
 have:=l d (by rw[j];rfl);exact .inr ⟨d,m,o,j,q,e.blk (g:=d) (t:=188) r aU,u⟩
theorem dD.qr (f:dD w W s a A n c ts):∀d,(Value.slice A n c).ownBlock=some d->d<W.heap.size:=by
 intro d b;rcases f.own.2 with⟨e,_⟩|⟨j,k,g,e,l,i,m⟩
 ·injection e with e1
  subst e1;cases b
 rw[e]at b;injection b with b
 subst b;exact J.lt (t:=188) (cs:=g) i
theorem dD.EL (I:dD w W s a A n c ts):∀b,(Value.slice A n c).ownBlock=some b->w.heap.size+5<=b:=by
 exact uW
theorem dD.push (I:dD w W s a A n c ts) {d:af} {A2:aX} {f:Nat} (t:ao) (l:t.bY) (e:n<5000) (hg:W.grownBy d (Value.slice A n c).ownBlock) (m:d.ownsRow (w.heap.size+5) 188 4 (U A2 (n+1) f) (n+1) (ts.flatMap ao.cells++t.cells)):
 dD w (d.setCell (am w 0) (U A2 (n+1) f)) s a A2 (n+1) f (ts++[t]):=by
 have j:∀b,(Value.slice A n c).ownBlock=some b->w.heap.size+5<=b:=by
  exact uW
 have e:∀b,b<w.heap.size+5->some b≠(Value.slice A n c).ownBlock:=λb hb i=>by have:=j b i.symm;omega
 have d:Kp [w.heap.size] d (d.setCell (am w 0) (U A2 (n+1) f)):=Kp.aE (p:=(am w 0)) aU (Kp.refl _ d) _;refine⟨(d.old (l':=[]) ((I.k.grown hg (λb hb=>.inr (by have:=j b hb;omega)))) (λb hb f=>by simp at hb;omega)),(I.bT.grown hg (e _ ae)).aP 0 _,d.blk (I.bE.grown hg (e _ ae)) aU,d.blk (I.bA.grown hg (e _ ae)) aU,d.blk (J.grown I.bS hg (e _ ae)) aU,d.blk (I.bK.grown hg (e _ ae)) aU,?_,by rw[List.length_append,I.len];rfl,by omega,?_,I.oV⟩
 ·rw[List.flatMap_append]
  have i:[t].flatMap ao.cells=t.cells:=ai
  rw[i];exact bC m d aU
 intro o q;rcases cY q with h|h
 ·exact I.fine o h
 rw[aA h];exact l
def ku (f:Nat) (b:bL) (a:Nat) (ts:List ao) (c:Rd):List ao×Int×Int:=
 match c with
 |.none=>([],5,a)
 |.bad e=>([],e,a)
 |.tok k t n len=>if ts.length=5000 then([],3,a)else g6 f ((b.drop len).drop (cQ false (b.drop len))) (a+len+cQ false (b.drop len)) (ts++[⟨k,dY t,n,a⟩])
theorem wi (f:Nat) (c:UInt8) (a:bL) (b:Nat) (ts:List ao):g6 (f+1) (c::a) b ts=ku f (c::a) b ts (jx 0 (c::a)):=rfl
theorem m4:∀(a:bL) (b:Bool),cQ b a<=a.length
 |[],_=>by simp[cQ]
 |c::a,true=>by have b:=m4 a true;have b:=m4 a false;simp only[cQ];split<;>simp<;>omega
 |c::a,false=>by have b:=m4 a true;have a:=m4 a false;simp only[cQ];split<;>(try split)<;>simp<;>omega
end
end Go.Proofs.YteamkimbmdgdbaaGreatDoor

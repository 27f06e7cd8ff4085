import Derived.Test.YteamkimbmdgdbaaGreatDoorK19
set_option linter.unusedSimpArgs false
set_option linter.unusedVariables false
set_option maxHeartbeats 16000000
set_option maxRecDepth 100000
namespace Go.Proofs.YteamkimbmdgdbaaGreatDoor
open Go.RowKit
theorem EB (a b c:Nat) (f g i:ay) (er at_:Int) (j:List PanicEntry) (d:af) (e:J d a 24 #[f]) (f:J d b 76 #[g]) (g:J d c 3 #[i]) (n:a≠b) (o:a≠c) (q:b≠c):
 CallsD Tryz.prog 45 #[aj a,aj b,aj c] (.panicking ({v:=gI er at_,recovered:=false}::j)) d λk r i=>
  k=.returned (.tuple #[])/\r=.panicking ({v:=gI er at_,recovered:=true}::j)/\J i a 24 #[aa]/\J i b 76 #[er]/\J i c 3 #[at_]/\Kp [a,b,c] d i:=by
 have i:∀(i:af) (j:ay),(Instr.typeAssert (.iface 125 j) 20 125 true).run Tryz.prog i=.ok (.tuple #[j,.bool true]) i:=λ_ _=>by kernel_rfl
 have j:=λi=>J.frozen e i;have j:=λi=>J.frozen f i;have i:=λi=>J.frozen g i;have i:=az e;have i:=az f;have i:=az g;have i:=e.lt;have j:=f.lt;have k:=g.lt;have r:=aW i;have r:=aW j;have r:=aW k;have i:=Nat.ne_of_gt i;have i:=Nat.ne_of_gt j;have i:=Nat.ne_of_gt k;have i:=n.symm;have i:=o.symm;have i:=q.symm;have s:=Z e;have u:=Z f;have w:=Z g;clear e f g;refine callsD_of_wpS Tryz.func45 rfl λe e m=>?_;rw[Tryz.ntmps45];show Code.wpS _ _ _ {tmps:=#[aj a,aj b,aj c,undef,undef,undef,undef,undef,undef,undef,undef,undef,undef,undef,undef,undef,undef,undef,undef,undef,undef,undef],defers:=[]} _ _;apply wpS_seq;apply wpS_region;simp[wpOpsS,go_sem,recoverD,m,Exit.thenS,gI];apply wpS_seq;apply wpS_region;simp[wpOpsS,go_sem,Exit.thenS];refine wpS_cond (t:=true) mW ?_;simp only[if_true];refine wpS_of_wp ?_;refine rM ?_;intro e e;have x:=Z e;clear m e;go_wp2_with fail
 go_region
 refine x _ _ _ ?_;have e:=Z (J.far (J.far (s.aP 0 aa) (p:=(ab b 0)) aD er) (p:=(ab c 0)) aD at_);have f:=Z (J.far ((J.far u (p:=(ab a 0)) aD aa).aP 0 er) (p:=(ab c 0)) aD at_);have g:=Z ((J.far (J.far w (p:=(ab a 0)) aD aa) (p:=(ab b 0)) aD er).aP 0 at_);have a:=Z (Kp.aE (p:=(ab c 0)) (l:=[a,b,c]) ai (Kp.aE (p:=(ab b 0)) ai (Kp.aE (p:=(ab a 0)) ai (Kp.refl [a,b,c] d) aa) er) at_);simp[bodyPostS,results,Tryz.results45];exact⟨(e.alloc _).drew,(f.alloc _).drew,(g.alloc _).drew,(a.alloc _).drew⟩
theorem EC (a b c:Nat) (d:af):
 CallsD Tryz.prog 45 #[aj a,aj b,aj c] .returning d λe f g=>e=.returned (.tuple #[])/\f=.returning/\g=d:=by
 refine callsD_of_wpS Tryz.func45 rfl λi d j=>?_;rw[Tryz.ntmps45];show Code.wpS _ _ _ {tmps:=#[aj a,aj b,aj c,undef,undef,undef,undef,undef,undef,undef,undef,undef,undef,undef,undef,undef,undef,undef,undef,undef,undef,undef],defers:=[]} _ _;apply wpS_seq;apply wpS_region;simp[wpOpsS,go_sem,recoverD,j,Exit.thenS];apply wpS_seq;apply wpS_region;simp[wpOpsS,go_sem,Exit.thenS];refine wpS_cond (t:=false) mW ?_;simp only[Bool.false_eq_true,if_false];refine wpS_of_wp (wp_skip ?_);cases i;simp_all [bodyPostS,results,Tryz.results45]
def mg (b:Nat) (a:bL):Rd:=if b=0 then jQ a else if b=1 then jR a else if b=2 then jb a else g5 a
def Rd.or (a s:Rd):Rd:=match a with|.none=>s|a=>a
def jx (b:Nat) (a:bL):Rd:=if b=0 then nR a else if b=1 then(jR a).or ((jb a).or ((g5 a).or (.bad 5)))else if b=2 then(jb a).or ((g5 a).or (.bad 5))else if b=3 then(g5 a).or (.bad 5)else .bad 5
theorem ED (a:bL):nR a=(jQ a).or ((jR a).or ((jb a).or ((g5 a).or (.bad 5)))):=by
 unfold nR Rd.or;rfl
theorem wg (a:Nat) (c:a<4) (b:bL):jx a b=(mg a b).or (jx (a+1) b):=by
 have h:a=0\/a=1\/a=2\/a=3:=ae
 rcases h with rfl|rfl|rfl|rfl
 ·exact ED b
 ·rfl
 ·rfl
 rfl
structure r8 (l:bL) (t:bL) (n:Int) (len:Nat):Prop where
 l1:1<=len
 l2:len<=l.length
 t1:t.length<=20000
 n0:0<=n
 n1:n<=9999999999
theorem oU:∀(f i:bL) (n:Nat) (e:Int) (b:bL) (d:Int) (a:Nat),de f i n=.tok e b d a->1<=a/\a<=n+f.length+1/\b.length<=200/\d=0
 |[],_,_,_,_,_,_,h=>by cases h
 |c::f,i,n,e,b,d,a,h=>by
  rw[de.eq_def]at h;simp only at h;split at h
  ·split at h
   ·cases h
   injection h with h1 h2 h3 h4
   subst h2 h3 h4;simp;omega
  split at h
  ·cases h
  split at h
  ·split at h
   ·cases h
   rename_i i g
   split at h
   ·have:=oU g _ _ e b d a h;simp at this⊢;omega
   split at h
   ·have:=oU g _ _ e b d a h;simp at this⊢;omega
   split at h
   ·have:=oU g _ _ e b d a h;simp at this⊢;omega
   cases h
  have:=oU f _ _ e b d a h;simp at this⊢;omega
theorem EE {c:UInt8} (h:ja c=true):eX c=true:=by unfold eX;rw[h];rfl
theorem EG (l:Nat) (a:bL) (j:a.length<=20000) (i:a≠[]) (m:Int) (j:bL) (n:Int) (k:Nat) (h:mg l a=.tok m j n k):r8 a j n k:=by
 unfold mg at h;split at h
 ·unfold jQ at h
  split at h
  ·rename_i g
   split at h
   ·cases h
   injection h with f b d e
   subst b d e;cases a with
   |nil=>exact absurd rfl i
   |cons c a=>
    have g:eX c=true:=EE g;have f:1<=ci eX (c::a):=by simp[ci,g]
    exact⟨f,mF _ _,by rw[List.length_take];omega,by omega,by omega⟩
  cases h
 split at h
 ·unfold jR at h
  split at h
  ·cases h
  split at h
  ·cases h
  rename_i j g
  injection h with f b d e
  subst b d e;have k:=mF dy a;have:=(tF (a.take (ci dy a)) (by intro j;have:=congrArg List.length j;rw[List.length_take,List.length_nil]at this;omega) (qZ dy a) (by rw[List.length_take];omega)).2;obtain⟨j,g⟩:∃j,j=gJ (a.take (ci dy a)):=⟨_,rfl⟩;rw[<-g]at this⊢;exact⟨by omega,k,by rw[List.length_take];omega,by omega,by omega⟩
 split at h
 ·unfold jb at h
  split at h
  ·obtain⟨f,b,d,e⟩:=oU _ _ _ _ _ _ _ h
   have:0<a.length:=List.length_pos_iff.2 i;simp at b;exact⟨f,by omega,by omega,by omega,by omega⟩
  cases h
 unfold g5 at h;split at h
 ·rename_i g
  injection h with f b d e
  subst b d e;have:2<=a.length:=by
   have:(a.take 2).length=2:=by rcases g with g|g<;>rw[g]<;>rfl
   rw[List.length_take]at this;omega
  exact⟨by omega,this,by rw[List.length_take];omega,by omega,by omega⟩
 split at h
 ·injection h with f b d e
  subst b d e;have:0<a.length:=List.length_pos_iff.2 i;exact⟨by omega,by omega,by rw[List.length_take];omega,by omega,by omega⟩
 cases h
theorem EH {d:Nat} {c:UInt8} {b:bL} {a:Nat} {ts:List ao}:g6 (d+1) (c::b) a ts=match nR (c::b)with
 |.none=>([],5,a)
 |.bad e=>([],e,a)
 |.tok k t n len=>if ts.length=5000 then([],3,a)else g6 d (((c::b).drop len).drop (cQ false ((c::b).drop len))) (a+len+cQ false ((c::b).drop len)) (ts++[⟨k,dY t,n,a⟩]):=rfl
theorem EI {c d n:Nat} {a:bb} {e:ay} {f:bg} {w i:af} (j:w.ownsRow c a d e n f) {k:List Nat} (s:Kp k w i) (o:∀p∈k,w.heap.size<=p):i.ownsRow c a d e n f:=by
 refine⟨j.1,?_⟩;rcases j.2 with h|⟨b,q,l,r,u,m,v⟩
 ·exact .inl h
 exact .inr ⟨b,q,l,r,u,s.blk (g:=b) (t:=a) m (λc=>by have:=o b c;have:=J.lt (t:=a) (cs:=l) m;omega),v⟩
structure dD (w W:af) (s:aw) (a:Nat) (A:aX) (n c:Nat) (ts:List ao):Prop where
 k:Kp [] w W
 bT:J W w.heap.size 121 #[U A n c]
 bE:J W (w.heap.size+1) 76 #[O 0]
 bA:J W (w.heap.size+1+1) 3 #[O 0]
 bS:eD W (w.heap.size+1+1+1) s a
 bK:J W (w.heap.size+1+1+1+1) 186 #[.func (.func 81) #[aj (w.heap.size+1+1+1)] #[],.func (.func 82) #[aj (w.heap.size+1+1+1)] #[],.func (.func 83) #[aj (w.heap.size+1+1+1)] #[],.func (.func 84) #[aj (w.heap.size+1+1+1)] #[]]
 own:W.ownsRow (w.heap.size+5) 188 4 (U A n c) n (ts.flatMap ao.cells)
 len:ts.length=n
 few:n<=5000
 fine:∀t∈ts,t.bY
 oV:a<=s.size
section
variable {w W W':af} {s:aw} {a:Nat} {A:aX} {n c:Nat} {ts:List ao}
theorem dD.kp (b:dD w W s a A n c ts) {l:List Nat} (k:Kp l W W') (e:∀d∈l,W.heap.size<=d):dD w W' s a A n c ts:=
 have h:=λ(d:Nat) (f:d<W.heap.size) (g:d∈l)=>absurd (e d g) ae
 ⟨k.old b.k (λd f g=>by have:=e d f;have:=b.k.size;omega),k.blk b.bT (h _ b.bT.lt),k.blk b.bE (h _ b.bE.lt),k.blk b.bA (h _ b.bA.lt),k.blk b.bS (h _ b.bS.lt),k.blk b.bK (h _ b.bK.lt),EI b.own k e,b.len,b.few,b.fine,b.oV⟩
theorem dD.same (b:dD w W s a A n c ts) (k:ag W W'):dD w W' s a A n c ts:=b.kp (Kp.of_same (l:=[]) k) (λ_ h=>by cases h)
theorem dD.move (b:dD w W s a A n c ts) {a':Nat} (d:Kp [w.heap.size+1+1+1] W W') (e:eD W' (w.heap.size+1+1+1) s a') (h:a'<=s.size):dD w W' s a' A n c ts:=
 ⟨d.old b.k (λe f g=>by simp at f;omega),d.blk b.bT aU,d.blk b.bE aU,d.blk b.bA aU,e,d.blk b.bK aU,bC b.own d aU,b.len,b.few,b.fine,h⟩
def iP (w:af) (a:List ao×Int×Int) (c:Ending) (b:af):Prop:=∃h:Hd,c=.returned (.tuple #[h.val,a.2.1,a.2.2])/\eg b b.heap.size h a.1/\ag w b
theorem qq (e:dD w W s a A n c ts) (er at_:Int) (b:aO) (g:b.getD 2 undef=.pointer (some ⟨w.heap.size,0,none⟩)) (i:b.getD 3 undef=.pointer (some ⟨w.heap.size+1,0,none⟩)) (j:b.getD 4 undef=.pointer (some ⟨w.heap.size+1+1,0,none⟩)):
 CallsD Tryz.prog 80 #[aj w.heap.size,aj (w.heap.size+1),aj (w.heap.size+1+1)] (.panicking [{v:=nS er at_,recovered:=false}]) W (λ
  |.returned _,d,w'=>Leaves Tryz.prog Tryz.f44 b (iP w ([],er,at_)) [] (settle d) w'
  |.panicked chain,d,w'=>Leaves Tryz.prog Tryz.f44 b (iP w ([],er,at_)) [] (raised d chain) w'
  |.outgrown,_,w'=>iP w ([],er,at_) .outgrown w'):=by
 have l:b[2]?.getD undef=.pointer (some ⟨w.heap.size,0,none⟩):=by simpa using g
 have m:b[3]?.getD undef=.pointer (some ⟨w.heap.size+1,0,none⟩):=by simpa using i
 have o:b[4]?.getD undef=.pointer (some ⟨w.heap.size+1+1,0,none⟩):=by simpa using j
 refine(CW w.heap.size (w.heap.size+1) (w.heap.size+1+1) _ _ _ er at_ [] W e.bT e.bE e.bA ae ae ae).mono ?_;rintro g d f ⟨rfl,rfl,p,q,r,t⟩;have u:ac f (am w 0) aa:=J.cell p 0;have x:ac f (ab (w.heap.size+1) 0) er:=J.cell q 0;have y:ac f (ab (w.heap.size+1+1) 0) at_:=J.cell r 0;show Leaves Tryz.prog Tryz.f44 b (iP w ([],er,at_)) [] .returning f;refine⟨.tuple #[aa,er,at_],?_,⟨none,0,0⟩,rfl,⟨aF.none_ _ _ _,(λ_ _ h=>by cases h),Nat.le_refl _,(λ_ h=>by cases h),by simp⟩,?_⟩
 ·simp[results,Tryz.results44,go_sem,l,m,o,u,x,y]
 exact(t.old e.k (l':=[]) (λb b e=>by simp at b;omega)).same
theorem EJ (b:dD w W s a A n c ts) (d:aO) (i:d.getD 2 undef=.pointer (some ⟨w.heap.size,0,none⟩)) (j:d.getD 3 undef=.pointer (some ⟨w.heap.size+1,0,none⟩)) (l:d.getD 4 undef=.pointer (some ⟨w.heap.size+1+1,0,none⟩)):
 CallsD Tryz.prog 80 #[aj w.heap.size,aj (w.heap.size+1),aj (w.heap.size+1+1)] .returning W (λ
  |.returned _,e,w'=>Leaves Tryz.prog Tryz.f44 d (iP w (ts,0,0)) [] (settle e) w'
  |.panicked chain,e,w'=>Leaves Tryz.prog Tryz.f44 d (iP w (ts,0,0)) [] (raised e chain) w'
  |.outgrown,_,w'=>iP w (ts,0,0) .outgrown w'):=by
 have m:d[2]?.getD undef=.pointer (some ⟨w.heap.size,0,none⟩):=by simpa using i
 have o:d[3]?.getD undef=.pointer (some ⟨w.heap.size+1,0,none⟩):=by simpa using j
 have p:d[4]?.getD undef=.pointer (some ⟨w.heap.size+1+1,0,none⟩):=by simpa using l
 refine(CX w.heap.size (w.heap.size+1) (w.heap.size+1+1) W).mono ?_;rintro i e f ⟨rfl,rfl,rfl⟩;have q:ac f (am w 0) (U A n c):=J.cell b.bT 0;have r:ac f (ab (w.heap.size+1) 0) (O 0):=J.cell b.bE 0;have u:ac f (ab (w.heap.size+1+1) 0) (O 0):=J.cell b.bA 0;show Leaves Tryz.prog Tryz.f44 d (iP w (ts,0,0)) [] .returning f;refine⟨.tuple #[U A n c,O 0,O 0],?_,⟨A,n,c⟩,rfl,⟨?_,?_,?_,b.fine,?_⟩,?_⟩
 ·simp[results,Tryz.results44,go_sem,m,o,p,q,r,u]
 ·have:=b.few
  exact cF (h:=⟨A,n,c⟩) (λ_=>rfl) b.len (by show n<=_;omega) b.own
 ·intro v x y z
  rcases b.own.2 with⟨g,D⟩|⟨E,F,B,g,G,C,_⟩
  ·have:0<n:=z
   omega
  injection g with e1
  have d:A=some ⟨v,x,none⟩:=y;rw[d]at e1;injection e1 with e1
  injection e1 with e1
  subst e1;exact J.lt (t:=188) (cs:=B) C
 ·show n<=c
  rcases b.own.2 with⟨g,x⟩|⟨y,z,B,g,C,D,v⟩
  ·injection g with e1 e2 e3
   omega
  injection g with e1 e2 e3
  have:=v.1;omega
 ·show ts.length<=5000
  have:=b.len;have:=b.few;omega
 exact b.k.same
theorem dD.fin (b:dD w W s a A n c ts):dD w (((W.setCell (am w 0) (U A n c)).setCell (ab (w.heap.size+1) 0) (O 0)).setCell (ab (w.heap.size+1+1) 0) (O 0)) s a A n c ts:=by
 have d:Kp [w.heap.size,w.heap.size+1,w.heap.size+1+1] W (((W.setCell (am w 0) (U A n c)).setCell (ab (w.heap.size+1) 0) (O 0)).setCell (ab (w.heap.size+1+1) 0) (O 0)):=
  Kp.aE (p:=(ab (w.heap.size+1+1) 0)) aU (Kp.aE (p:=(ab (w.heap.size+1) 0)) aU (Kp.aE (p:=(am w 0)) aU (Kp.refl _ W) _) _) _
 exact⟨d.old b.k (λe e f=>by simp at e;omega),
  J.far (J.far (b.bT.aP 0 (U A n c)) (p:=(ab (w.heap.size+1) 0)) aD _) (p:=(ab (w.heap.size+1+1) 0)) aD _,
  J.far ((J.far b.bE (p:=(am w 0)) aD _).aP 0 (O 0)) (p:=(ab (w.heap.size+1+1) 0)) aD _,
  (J.far (J.far b.bA (p:=(am w 0)) aD _) (p:=(ab (w.heap.size+1) 0)) aD _).aP 0 (O 0),
  d.blk b.bS aU,d.blk b.bK aU,bC b.own d aU,b.len,b.few,b.fine,b.oV⟩
theorem dD.EK (b:dD w W s a A n c ts) {g i:Nat} (f:w.heap.size+5<=g) (l:∀d,(Value.slice A n c).ownBlock=some d->d<g) (f:ay):dD w (W.setCell (ab g i) f) s a A n c ts:=by
 have e:Kp [g] W (W.setCell (ab g i) f):=Kp.aE (p:=(ab g i)) aU (Kp.refl _ W) _;refine⟨e.old b.k (λd f j=>by simp at f;omega),e.blk b.bT aU,e.blk b.bE aU,e.blk b.bA aU,e.blk b.bS aU,e.blk b.bK aU,⟨b.own.1,?_⟩,b.len,b.few,b.fine,b.oV⟩;rcases b.own.2 with h|⟨d,m,o,j,q,r,u⟩
 ·exact .inl h
 have:=l d (by rw[j];rfl);exact .inr ⟨d,m,o,j,q,e.blk (g:=d) (t:=188) r aU,u⟩
theorem dD.qr (f:dD w W s a A n c ts):∀d,(Value.slice A n c).ownBlock=some d->d<W.heap.size:=by
 intro d b;rcases f.own.2 with⟨e,_⟩|⟨j,k,g,e,l,i,m⟩
 ·injection e with e1
  subst e1;cases b
 rw[e]at b;injection b with b
 subst b;exact J.lt (t:=188) (cs:=g) i
theorem dD.EL (I:dD w W s a A n c ts):∀b,(Value.slice A n c).ownBlock=some b->w.heap.size+5<=b:=by
 exact ux
theorem dD.push (I:dD w W s a A n c ts) {d:af} {f:aX} {i:Nat} (t:ao) (m:t.bY) (e:n<5000) (hg:W.grownBy d (Value.slice A n c).ownBlock) (o:d.ownsRow (w.heap.size+5) 188 4 (U f (n+1) i) (n+1) (ts.flatMap ao.cells++t.cells)):
 dD w (d.setCell (am w 0) (U f (n+1) i)) s a f (n+1) i (ts++[t]):=by
 have l:∀b,(Value.slice A n c).ownBlock=some b->w.heap.size+5<=b:=by
  exact ux
 have e:∀b,b<w.heap.size+5->some b≠(Value.slice A n c).ownBlock:=λb hb j=>by have:=l b j.symm;omega
 have d:Kp [w.heap.size] d (d.setCell (am w 0) (U f (n+1) i)):=Kp.aE (p:=(am w 0)) aU (Kp.refl _ d) _;refine⟨(d.old (l':=[]) ((I.k.grown hg (λb hb=>.inr (by have:=l b hb;omega)))) (λb hb f=>by simp at hb;omega)),(I.bT.grown hg (e _ ae)).aP 0 _,d.blk (I.bE.grown hg (e _ ae)) aU,d.blk (I.bA.grown hg (e _ ae)) aU,d.blk (J.grown I.bS hg (e _ ae)) aU,d.blk (I.bK.grown hg (e _ ae)) aU,?_,by rw[List.length_append,I.len];rfl,by omega,?_,I.oV⟩
 ·rw[List.flatMap_append]
  have j:[t].flatMap ao.cells=t.cells:=ai
  rw[j];exact bC o d aU
 intro q r;rcases cY r with h|h
 ·exact I.fine q h
 rw[aA h];exact m
def ku (f:Nat) (b:bL) (a:Nat) (ts:List ao) (c:Rd):List ao×Int×Int:=
 match c with
 |.none=>([],5,a)
 |.bad e=>([],e,a)
 |.tok k t n len=>if ts.length=5000 then([],3,a)else g6 f ((b.drop len).drop (cQ false (b.drop len))) (a+len+cQ false (b.drop len)) (ts++[⟨k,dY t,n,a⟩])
theorem wi (f:Nat) (c:UInt8) (a:bL) (b:Nat) (ts:List ao):g6 (f+1) (c::a) b ts=ku f (c::a) b ts (jx 0 (c::a)):=rfl
theorem m4:∀(a:bL) (b:Bool),cQ b a<=a.length
 |[],_=>by simp[cQ]
 |c::a,true=>by have b:=m4 a true;have b:=m4 a false;simp only[cQ];split<;>simp<;>omega
 |c::a,false=>by have b:=m4 a true;have a:=m4 a false;simp only[cQ];split<;>(try split)<;>simp<;>omega
end
theorem Tryz.EM:(Tryz.prog.info? 188).map (λi=>(i.zero,i.size,i.bytes))=some (some (.agg #[O 0,ah,O 0,O 0]),4,40):=ak
theorem hL {w:af} {a:bb} {b:aO} (c:Nat) (d:c=w.heap.size):J (w.alloc (.cells b a)) c a b:=by subst d;exact J.new w a b
theorem EN (b:aw) (a:af):dD a (((((a.alloc (.cells #[aa] 121)).alloc (.cells #[O 0] 76)).alloc (.cells #[O 0] 3)).alloc (.cells #[b,O 0] 182)).alloc (.cells #[.func (.func 81) #[aj (a.heap.size+1+1+1)] #[],.func (.func 82) #[aj (a.heap.size+1+1+1)] #[],.func (.func 83) #[aj (a.heap.size+1+1+1)] #[],.func (.func 84) #[aj (a.heap.size+1+1+1)] #[]] 186)) b 0 none 0 0 []:=
 ⟨((((((Kp.refl [] a).alloc _).alloc _).alloc _).alloc _).alloc _),((((hL _ rfl).alloc _).alloc _).alloc _).alloc _,(((hL _ ai).alloc _).alloc _).alloc _,((hL _ ai).alloc _).alloc _,(show J _ _ _ _ from(hL _ ai).alloc _),hL _ ai,⟨rfl,.inl ⟨rfl,rfl⟩⟩,rfl,by omega,(λ_ h=>by cases h),by omega⟩
theorem EO (a:aw) (b:af) (d:20000<a.size) (e:aG a):Calls Tryz.prog 44 #[a] b λf g=>iP b (dq (ba a)) f g:=by
 have e:(a.size:Int)<=9223372036854775807:=by unfold aG at e;omega
 have e:(20000:Int)<a.size:=ae
 have c:Hid (dq (ba a)=([],3,-1)):=Z (by unfold dq;rw[eJ,if_pos d]);generalize dq (ba a)=j at c⊢;go_enter_defers Tryz.func44,Tryz.ntmps44
 go_wp2;go_step3
 go_wp2;rw[Exit.noGoto_ret];have i:=c.out;subst i;refine⟨.tuple #[aa,O 3,O (-1)],?_,⟨none,0,0⟩,rfl,⟨aF.none_ _ _ _,(λ_ _ h=>by cases h),Nat.le_refl _,(λ_ h=>by cases h),by simp⟩,(((ag.refl b).alloc _).alloc _).alloc _⟩;simp[results,Tryz.results44,go_sem]
theorem EP (d:aw) (w:af) (C:d.size<=20000):Calls Tryz.prog 44 #[d] w λe q=>iP w (dq (ba d)) e q:=by
 have ar:∀(ar:Fn) (first cap:aO) (w:af),(Instr.makeFunc ar first cap).run Tryz.prog w=.ok (.func ar first cap) w:=λ_ _ _ _=>rfl;obtain⟨aH,aI,aJ,aK,aL⟩:=info_parts Tryz.EM;have K:Hid (dq (ba d)=g6 (d.size+1) ((ba d).drop (cQ false (ba d))) (cQ false (ba d)) []):=Z (by unfold dq;rw[eJ,if_neg (by omega)]);have Q:=m4 (ba d) false;rw[eJ]at Q;generalize dq (ba d)=R at K⊢;have ar:¬(20000:Int)<d.size:=by omega
 have S:=Z (EN d w);have av:=Z (tz (w.heap.size+1+1+1) d 0 _ C ae S.out.bS);go_enter_defers Tryz.func44,Tryz.ntmps44
 go_wp2_with fail
 go_step3
 go_wp2_with fail
 refine av.out.mono ?_;rintro e ar ⟨rfl,hb,v⟩;rw[List.drop_zero,Nat.zero_add]at hb;have x:=Z (S.out.move v hb Q);clear hb v S av;go_wp2_with fail
 go_step3
 go_wp2_with fail
 go_loopg [] (d.size+1) (λk wr=>∃(a:Nat) (g:List ao) (A:aX) (n c:Nat),Hid (dD w wr d a A n c g)/\d.size-a<k/\Hid (R=g6 k ((ba d).drop a) a g))
 case atStart=>exact⟨_,[],none,0,0,x,by omega,K⟩
 obtain⟨a,l,A,n,c,I,v,s⟩:=hrel;clear x K Q;obtain⟨f,rfl⟩:∃f,gk=f+1:=⟨gk-1,by omega⟩;have K:d.size-a<f+1:=v;have aM:=Z K;clear v K;have z:ac wr (ab (w.heap.size+1+1+1) 1) a:=J.cell I.out.bS 1;have K:=I.out.oV;have K:=I.out.few;by_cases F:a<d.size
 case neg=>
  have g:¬(a:Int)<d.size:=ae
  have kv:=Z (show R=(l,0,0) by rw[s.out,List.drop_of_length_le po];rfl);clear s;have N:ac wr (am w 0) (U A n c):=J.cell I.out.bT 0;have g:ac wr (ab (w.heap.size+1) 0) (O 0):=J.cell I.out.bE 0;have g:ac wr (ab (w.heap.size+1+1) 0) (O 0):=J.cell I.out.bA 0;have j:=λg=>J.frozen I.out.bT g;have j:=λg=>J.frozen I.out.bE g;have g:=λg=>J.frozen I.out.bA g;go_wp2;try rw[Exit.noGoto_ret]
  have hre:=kv.out;subst hre;refine leaves_cons (f:=80) (args:=#[aj w.heap.size,aj (w.heap.size+1),aj (w.heap.size+1+1)]) ai ki ?_;exact EJ I.out.fin _ rfl rfl rfl
 have K:(a:Int)<d.size:=ae
 obtain⟨j,K⟩:∃j,j=(ba d).drop a:=⟨_,rfl⟩;have T:=Z (show j.length=d.size-a by rw[K,fU]);have ax:=Z (show R=ku f j a l (jx 0 j) by rw[s.out,K,kI d a F];exact wi f _ _ a l);have G:=Z K;clear s K;have aN:ac wr (ab (w.heap.size+1+1+1+1) 0) (.func (.func 81) #[aj (w.heap.size+1+1+1)] #[]):=J.cell I.out.bK 0;have aQ:ac wr (ab (w.heap.size+1+1+1+1) 1) (.func (.func 82) #[aj (w.heap.size+1+1+1)] #[]):=J.cell I.out.bK 1;have aR:ac wr (ab (w.heap.size+1+1+1+1) 2) (.func (.func 83) #[aj (w.heap.size+1+1+1)] #[]):=J.cell I.out.bK 2;have aS:ac wr (ab (w.heap.size+1+1+1+1) 3) (.func (.func 84) #[aj (w.heap.size+1+1+1)] #[]):=J.cell I.out.bK 3;go_upto_region 8 with(fail)
 go_wp2_with fail
 clear aN aQ aR aS;go_loopg [39] 5 (λk o u=>∃g:Nat,o=.int .i64 g/\g<=4/\4-g<k/\Hid (dD w u d a A n c l)/\Hid (R=ku f j a l (jx g j)))
 case atStart=>exact⟨0,rfl,by omega,by omega,I,ax⟩
 obtain⟨g,rfl,a6,ay,I,s⟩:=hrel;obtain⟨V,rfl⟩:∃V,gk=V+1:=⟨gk-1,by omega⟩;have aU:=Z ay;clear ax ay;by_cases aV:g<4
 case neg=>
  obtain rfl:g=4:=ae
  have z:ac wr (ab (w.heap.size+1+1+1) 1) a:=J.cell I.out.bS 1;have kv:=Z (show R=([],5,(a:Int))from s.out);clear s;go_wp2_with (go_at_call 86;refine(jT (w.heap.size+1+1+1) 5 a _ z).mono ?_;rintro e o ⟨rfl,rfl⟩)
  try rw[Exit.noGoto_panic]
  have hre:=kv.out;subst hre;refine leaves_cons (f:=80) (args:=#[aj w.heap.size,aj (w.heap.size+1),aj (w.heap.size+1+1)]) ai ki ?_;exact qq I.out (5) (a) _ rfl rfl rfl
 have K:(g:Int)<4:=ae
 have E1:=Z (show R=ku f j a l ((mg g j).or (jx (g+1) j)) by rw[s.out,wg g aV]);have HF:=Z (EG g j (by rw[T.out];omega) (by intro h;have:=T.out;rw[h]at this;simp at this;omega));obtain⟨r,K⟩:∃r,r=mg g j:=⟨_,rfl⟩;rw[<-K]at E1 HF;have HR:=Z K;clear s K;go_upto_region 10 with(fail)
 go_cut [8,39]from 39 to 73 (λo s u=>s=.int .i64 g/\u=wr/\Hid ((g=0/\o=.func (.func 81) #[aj (w.heap.size+1+1+1)] #[])\/(g=1/\o=.func (.func 82) #[aj (w.heap.size+1+1+1)] #[])\/(g=2/\o=.func (.func 83) #[aj (w.heap.size+1+1+1)] #[])\/(g=3/\o=.func (.func 84) #[aj (w.heap.size+1+1+1)] #[])))
 case first=>
  have o:g=0\/g=1\/g=2\/g=3:=ae
  rcases o with rfl|rfl|rfl|rfl
  ·have s:∀o,(Instr.index 184 (.agg #[.func (.func 81) #[aj (w.heap.size+1+1+1)] #[],.func (.func 82) #[aj (w.heap.size+1+1+1)] #[],.func (.func 83) #[aj (w.heap.size+1+1+1)] #[],.func (.func 84) #[aj (w.heap.size+1+1+1)] #[]]) (O ((0:Nat):Int))).run Tryz.prog o=.ok (.func (.func 81) #[aj (w.heap.size+1+1+1)] #[]) o:=λ_=>by kernel_rfl
   have o:∀o,(Instr.index 184 (.agg #[.func (.func 81) #[aj (w.heap.size+1+1+1)] #[],.func (.func 82) #[aj (w.heap.size+1+1+1)] #[],.func (.func 83) #[aj (w.heap.size+1+1+1)] #[],.func (.func 84) #[aj (w.heap.size+1+1+1)] #[]]) (O 0)).run Tryz.prog o=.ok (.func (.func 81) #[aj (w.heap.size+1+1+1)] #[]) o:=λ_=>by kernel_rfl
   go_wp2_with fail
   go_meet;exact⟨rfl,rfl,Z ai⟩
  ·have s:∀o,(Instr.index 184 (.agg #[.func (.func 81) #[aj (w.heap.size+1+1+1)] #[],.func (.func 82) #[aj (w.heap.size+1+1+1)] #[],.func (.func 83) #[aj (w.heap.size+1+1+1)] #[],.func (.func 84) #[aj (w.heap.size+1+1+1)] #[]]) (O ((1:Nat):Int))).run Tryz.prog o=.ok (.func (.func 82) #[aj (w.heap.size+1+1+1)] #[]) o:=λ_=>by kernel_rfl
   have o:∀o,(Instr.index 184 (.agg #[.func (.func 81) #[aj (w.heap.size+1+1+1)] #[],.func (.func 82) #[aj (w.heap.size+1+1+1)] #[],.func (.func 83) #[aj (w.heap.size+1+1+1)] #[],.func (.func 84) #[aj (w.heap.size+1+1+1)] #[]]) (O 1)).run Tryz.prog o=.ok (.func (.func 82) #[aj (w.heap.size+1+1+1)] #[]) o:=λ_=>by kernel_rfl
   go_wp2_with fail
   go_meet;exact⟨rfl,rfl,Z ai⟩
  ·have s:∀o,(Instr.index 184 (.agg #[.func (.func 81) #[aj (w.heap.size+1+1+1)] #[],.func (.func 82) #[aj (w.heap.size+1+1+1)] #[],.func (.func 83) #[aj (w.heap.size+1+1+1)] #[],.func (.func 84) #[aj (w.heap.size+1+1+1)] #[]]) (O ((2:Nat):Int))).run Tryz.prog o=.ok (.func (.func 83) #[aj (w.heap.size+1+1+1)] #[]) o:=λ_=>by kernel_rfl
   have o:∀o,(Instr.index 184 (.agg #[.func (.func 81) #[aj (w.heap.size+1+1+1)] #[],.func (.func 82) #[aj (w.heap.size+1+1+1)] #[],.func (.func 83) #[aj (w.heap.size+1+1+1)] #[],.func (.func 84) #[aj (w.heap.size+1+1+1)] #[]]) (O 2)).run Tryz.prog o=.ok (.func (.func 83) #[aj (w.heap.size+1+1+1)] #[]) o:=λ_=>by kernel_rfl
   go_wp2_with fail
   go_meet;exact⟨rfl,rfl,Z ai⟩
  have s:∀o,(Instr.index 184 (.agg #[.func (.func 81) #[aj (w.heap.size+1+1+1)] #[],.func (.func 82) #[aj (w.heap.size+1+1+1)] #[],.func (.func 83) #[aj (w.heap.size+1+1+1)] #[],.func (.func 84) #[aj (w.heap.size+1+1+1)] #[]]) (O ((3:Nat):Int))).run Tryz.prog o=.ok (.func (.func 84) #[aj (w.heap.size+1+1+1)] #[]) o:=λ_=>by kernel_rfl
  have o:∀o,(Instr.index 184 (.agg #[.func (.func 81) #[aj (w.heap.size+1+1+1)] #[],.func (.func 82) #[aj (w.heap.size+1+1+1)] #[],.func (.func 83) #[aj (w.heap.size+1+1+1)] #[],.func (.func 84) #[aj (w.heap.size+1+1+1)] #[]]) (O 3)).run Tryz.prog o=.ok (.func (.func 84) #[aj (w.heap.size+1+1+1)] #[]) o:=λ_=>by kernel_rfl
  go_wp2_with fail
  go_meet;exact⟨rfl,rfl,Z ai⟩
 case rest=>
 obtain⟨rfl,az,aW⟩:=hcut;have aY:=az.symm;subst aY;clear az;go_upto_region 11 with(fail)
 go_cut [9,10,39]from 39 to 73 (λu y B s=>∃(o:Nat) (k:Int) (t:bL) (m:Int) (len:Nat),B=.int .i64 g/\u=.pointer (some ⟨o,0,none⟩)/\y=.int .i64 len/\w.heap.size+5<=o/\(∀b,(Value.slice A n c).ownBlock=some b->b<o)/\Hid (dD w s d a A n c l)/\Hid (J s o 188 #[k,.string (dY t),m,O 0])/\Hid ((len=0/\R=ku f j a l (jx (g+1) j))\/(r8 j t m len/\R=ku f j a l (.tok k t m len))))
 case first=>
  rcases aW.out with⟨rfl,rfl⟩|⟨rfl,rfl⟩|⟨rfl,rfl⟩|⟨rfl,rfl⟩
  ·have HC:Hid (Calls Tryz.prog 81 #[aj (w.heap.size+1+1+1)] wr λe q=>kK a wr r e q):=Z (by rw[HR.out,G.out];exact y4 (w.heap.size+1+1+1) d a wr C F I.out.bS)
   exact ve
  ·have HC:Hid (Calls Tryz.prog 82 #[aj (w.heap.size+1+1+1)] wr λe q=>kK a wr r e q):=Z (by rw[HR.out,G.out];exact zg (w.heap.size+1+1+1) d a wr C F I.out.bS)
   exact ve
  ·have HC:Hid (Calls Tryz.prog 83 #[aj (w.heap.size+1+1+1)] wr λe q=>kK a wr r e q):=Z (by rw[HR.out,G.out];exact CV (w.heap.size+1+1+1) d a wr C F I.out.bS)
   exact ve
  have HC:Hid (Calls Tryz.prog 84 #[aj (w.heap.size+1+1+1)] wr λe q=>kK a wr r e q):=Z (by rw[HR.out,G.out];exact zh (w.heap.size+1+1+1) d a wr C F I.out.bS);clear HR;cases r with
  |none=>
   go_wp2_with fail
   refine HC.out.mono ?_;rintro e w2 ⟨s2,hm⟩;obtain⟨k,t,m,rfl⟩:∃k t m,e=.returned (.tuple #[.agg #[.int .i64 k,.string (dY t),.int .i64 m,O 0],O 0]):=hm;have I2:=Z (I.out.same s2);have hz2:w.heap.size+5<=w2.heap.size:=bR I.out.bK.lt s2.size;have ho2:∀b,(Value.slice A n c).ownBlock=some b->b<w2.heap.size:=λb hb=>aT (I.out.qr b hb) s2.size;clear s2 HC;go_wp2_with fail
   go_meet;exact⟨_,k,t,m,0,rfl,rfl,rfl,hz2,ho2,Z (I2.out.same ((ag.refl _).alloc _)),Z (J.new _ _ _),Z (.inl ⟨rfl,E1.out⟩)⟩
  |tok k t m len=>
   go_wp2_with fail
   refine HC.out.mono ?_;rintro e w2 ⟨s2,hm⟩;obtain rfl:e=.returned (.tuple #[.agg #[k,.string (dY t),m,O 0],len]):=hm;have I2:=Z (I.out.same s2);have hz2:w.heap.size+5<=w2.heap.size:=bR I.out.bK.lt s2.size;have ho2:∀b,(Value.slice A n c).ownBlock=some b->b<w2.heap.size:=λb hb=>aT (I.out.qr b hb) s2.size;clear s2 HC;go_wp2_with fail
   go_meet;exact⟨_,k,t,m,len,rfl,rfl,rfl,hz2,ho2,Z (I2.out.same ((ag.refl _).alloc _)),Z (J.new _ _ _),Z (.inr ⟨HF.out k t m len rfl,E1.out⟩)⟩
  |bad er=>
   go_wp2_with fail
   refine HC.out.mono ?_;rintro e w2 ⟨s2,rfl⟩;have I2:=Z (I.out.same s2);have kv:=Z (show R=([],er,(a:Int))from E1.out);clear s2 HC E1 HF;go_wp2_with fail
   try rw[Exit.noGoto_panic]
   have hre:=kv.out;subst hre;refine leaves_cons (f:=80) (args:=#[aj w.heap.size,aj (w.heap.size+1),aj (w.heap.size+1+1)]) ai ki ?_;exact qq I2.out (er) (a) _ rfl rfl rfl
 obtain⟨u,k,t,m,len,rfl,rfl,rfl,aZ,a0,I,B,L⟩:=hcut;clear E1 HF HR;obtain⟨w2,rfl⟩:∃w2:World,w2=wc:=⟨_,rfl⟩;have q:IntKind.i64.wrap ((g:Int)+1)=(g:Int)+1:=IntWalk.i64_in _ ae;by_cases W:len=0
 case pos=>
  have q:((len:Int)==0)=true:=by simp[W]
  have o:=Z (show R=ku f j a l (jx (g+1) j) by
   rcases L.out with⟨_,h⟩|⟨h,_⟩
   ·exact h
   have:=h.l1;omega)
  clear L W;go_wp2_with fail
  go_roundg V
  case measure=>omega
  exact⟨g+1,by go_num,by omega,by have:=aU.out;omega,I,o⟩
 have g:((len:Int)==0)=false:=aC
 have y:=Z (show r8 j t m len/\R=ku f j a l (.tok k t m len) by
  rcases L.out with⟨h,_⟩|h
  ·exact absurd h W
  exact h)
 clear L;have z:ac w2 (ab (w.heap.size+1+1+1) 1) a:=J.cell I.out.bS 1;have X:ac w2 (am w 0) (U A n c):=J.cell I.out.bT 0;have g:=I.out.len;by_cases g:n=5000
 case pos=>
  have g:((n:Int)==5000)=true:=by simp[g]
  have kv:=Z (show R=([],3,(a:Int)) by rw[y.out.2];exact if_pos ae);clear y;go_wp2_with (go_at_call 86;refine(jT (w.heap.size+1+1+1) 3 a _ z).mono ?_;rintro e g ⟨rfl,rfl⟩)
  try rw[Exit.noGoto_panic]
  have hre:=kv.out;subst hre;refine leaves_cons (f:=80) (args:=#[aj w.heap.size,aj (w.heap.size+1),aj (w.heap.size+1+1)]) ai ki ?_;exact qq I.out (3) (a) _ rfl rfl rfl
 have g:((n:Int)==5000)=false:=aC
 have Y:ac w2 (ab u 0) k:=J.cell B.out 0;have aa:ac w2 (ab u 1) (.string (dY t)):=J.cell B.out 1;have ad:ac w2 (ab u 2) m:=J.cell B.out 2;have ah:ac w2 (ab u 3) (O 0):=J.cell B.out 3;have a1:=λH=>J.frozen B.out H;have x:=Z (I.out.EK (i:=3) aZ a0 a);have D:=Z (J.aP B.out 3 a);go_upto_region 16 with(fail)
 generalize w2.setCell (ab u 3) a=o at x D⊢;clear Y aa ad ah a1 z X I B;have Y:ac o (ab u 0) k:=J.cell D.out 0;have aa:ac o (ab u 1) (.string (dY t)):=J.cell D.out 1;have ad:ac o (ab u 2) m:=J.cell D.out 2;have ah:ac o (ab u 3) a:=J.cell D.out 3;have X:ac o (am w 0) (U A n c):=J.cell x.out.bT 0;have I2:=Z (x.out.same ((ag.refl o).alloc (.cells #[k,.string (dY t),m,a] 188)));have aA:=Z (cC o #[k,.string (dY t),m,a] 188 4 rfl);have g:w.heap.size+5<=o.heap.size:=x.out.bK.lt;go_upto_region 17 with(at_builtin;refine d6 _ rfl (.tmp 59) (.tmp 61) 121 rfl (w.heap.size+5) 188 aH _ 4 40 Tryz.underlying121 aI aJ aK aL rfl au (U A n c) n (l.flatMap ao.cells) rfl I2.out.own (o.heap.size+1) (some ⟨o.heap.size,0,none⟩) 1 1 (#[k,.string (dY t),m,a]:Array Value).toList rfl aA.out bl b1 ae aC ?_;intro g al E M ak;obtain⟨an,N,rfl,aB⟩:=bo E;have ap:=Z E;have aq:=Z M;have P:=Z (J.grown I2.out.bT M (λe=>by have:=I2.out.EL _ e.symm;omega));have aD:ac al (am w 0) (U A n c):=J.cell P.out 0;have aF:=(λH=>J.frozen P.out H);clear E M ak)
 have E:=Z (dD.push I2.out ⟨k,dY t,m,(a:Int)⟩ ⟨by unfold aG;have:=y.out.1.t1;rw[<-eJ,mi];omega,y.out.1.n0,y.out.1.n1,by show(0:Int)<=a;omega,by show(a:Int)<=20000;omega⟩ ae aq.out ap.out);clear Y aa ad ah X x D I2 aA ap aq P aD aF aB;generalize al.setCell (am w 0) (U an (n+1) N)=ak at E⊢;have z:ac ak (ab (w.heap.size+1+1+1) 1) a:=J.cell E.out.bS 1;have a2:=λH=>J.frozen E.out.bS H;have g:=y.out.1.l2;rw[T.out]at g;have g:IntKind.i64.wrap ((a:Int)+len)=(a:Int)+len:=IntWalk.i64_in _ ae;have g:((a:Int)+len)=((a+len:Nat):Int):=by omega
 have M:=Z (E.out.move (a':=a+len) (Kp.aE (p:=(ab (w.heap.size+1+1+1) 1)) ai (Kp.refl _ ak) (O ((a:Int)+len))) (by have:=J.aP E.out.bS 1 (O ((a:Int)+len));rw[g]at this⊢;exact this) ae);clear g;go_upto_region 18 with(fail)
 generalize ak.setCell (ab (w.heap.size+1+1+1) 1) (O ((a:Int)+len))=a3 at M⊢;clear z a2 E;go_wp2_with fail
 refine(tz (w.heap.size+1+1+1) d (a+len) a3 C ae M.out.bS).mono ?_;rintro e g ⟨rfl,hb,v⟩;have g:=m4 ((ba d).drop (a+len)) false;rw[fU]at g;have a4:=Z (M.out.move v hb ae);have a5:=Z (show R=g6 f ((ba d).drop (a+len+cQ false ((ba d).drop (a+len)))) (a+len+cQ false ((ba d).drop (a+len))) (l++[⟨k,dY t,m,(a:Int)⟩]) by
  rw[y.out.2];refine(if_neg ae).trans ?_;rw[G.out,show((ba d).drop a).drop len=(ba d).drop (a+len)from List.drop_drop,List.drop_drop])
 have d:=y.out.1.l1;clear hb v M;go_wp2_with fail
 go_roundg f
 case measure=>omega
 exact⟨_,_,an,n+1,N,a4,by have:=aM.out;omega,a5⟩
theorem wj (a:aw) (w:af) (b:aG a):Calls Tryz.prog 44 #[a] w λc d=>iP w (dq (ba a)) c d:=by
 by_cases h:20000<a.size
 ·exact EO a w h b
 exact EP a w ae
theorem Tryz.wl:(Tryz.prog.info? 95).map (λi=>(i.zero,i.size,i.bytes))=some (some (.agg #[O 0,ah,O 0,ah,ah,aa,aa,O 0,O 0,O 0,aa,ah,ah,aa,aa,aa,O 0,ah,aa,aa,aa,ah,ah,O 0,O 0]),25,408):=ak
theorem la (z:Int) (ts:List ao) (n:Nat) (h:ts.length<=n):(gF z ts).Le n:=
 (dx z ts n h).bind λ_ _ h=>(b5 z _ _ n h).bind λ_ _ h=>(dx z _ n h).bind λ_ _ h=>.ok h
theorem wm (z:Int) (a:aI) (ts:List ao) (n:Nat) (h:ts.length<=n):(hW z a ts).Le n:=
 (b5 z _ _ n h).bind λ_ _ h=>(dx z _ n h).bind λ_ _ h=>(b5 z _ _ n h).bind λ_ _ h=>(qP z _ n h).bind λ_ _ h=>(b5 z _ _ n h).bind λ_ _ h=>.ok h
theorem sa (z:Int):∀(a:Nat) (b:List cL) (ts:List ao) (n:Nat),ts.length<=n->(hV z a b ts).Le n
 |0,_,_,_,h=>.ok h
 |a+1,b,ts,n,h=>.ite (.ok h) ((yC z ts n h).bind λb b h=>sa z a _ b n h)
theorem EQ (z:Int) (a:aI) (ts:List ao) (n:Nat) (h:ts.length<=n):(en z a ts).Le n:=by
 unfold en;refine .ite ?_ (.ite ?_ (.ite ?_ (.ite ?_ (.ite ?_ (.ite ?_ (.ite ?_ (.ite ?_ (.ite ?_ ?_))))))))
 ·exact(b5 z _ _ n h).bind λ_ _ h=>(lG _ _ (qQ z) _ n h).bind λ_ _ h=>(b5 z _ _ n h).bind λ_ _ h=>(qP z _ n h).bind λ_ _ h=>.ok h
 ·exact(b5 z _ _ n h).bind λ_ _ h=>(eU z _ n h).bind λ_ _ h=>.ok h
 ·exact(b5 z _ _ n h).bind λ_ _ h=>(la z _ n h).bind λ_ _ h=>(b5 z _ _ n h).bind λ_ _ h=>(h8 z _ _ n h).bind λ_ _ h=>
   .ite ((eU z _ n h).bind λ_ _ h=>.ok h) (.ite ((eU z _ n h).bind λ_ _ h=>(eU z _ n h).bind λ_ _ h=>.ok h) (.ok h))
 ·exact(b5 z _ _ n h).bind λ_ _ h=>(dx z _ n h).bind λ_ _ h=>(b5 z _ _ n h).bind λ_ _ h=>(eU z _ n h).bind λ_ _ h=>(b5 z _ _ n h).bind λ_ _ h=>(sa z _ _ _ n h).bind λ_ _ h=>.ok h
 ·exact(la z _ n h).bind λ_ _ h=>(b5 z _ _ n h).bind λ_ _ h=>(h8 z _ _ n h).bind λ_ _ h=>.ok h
 ·exact wm z a ts n h
 ·exact(wm z a ts n h).bind λ_ _ h=>(b5 z _ _ n h).bind λ_ _ h=>(dx z _ n h).bind λ_ _ h=>.ite ((lG _ _ (qR z) _ n (h7 h)).bind λ_ _ h=>.ok h) (.ok h)
 ·exact(la z _ n h).bind λ_ _ h=>(b5 z _ _ n h).bind λ_ _ h=>(la z _ n h).bind λ_ _ h=>.ok h
 ·exact(lG _ _ (qS z) _ n h).bind λ_ _ h=>(pi z _ n h).bind λ_ _ h=>.ok h
 exact(b5 z _ _ n h).bind λ_ _ h=>(yH z _ _ n h).bind λ_ _ h=>.ok h
theorem ER (z:Int) (a:ao) (l:List ao):(iV z (a::l)).Le l.length:=by
 unfold iV;refine PO.Le.bind (n:=l.length) ?_ λa a h=>PO.Le.bind (.ite (.ok h) (dx z a _ h)) λb a h=>(EQ z _ a _ h).bind λb a h=>(b5 z _ a _ h).bind λ_ a h=>.ok h;unfold dK;split
 ·exact .ok (Nat.le_refl _)
 exact nJ _ _ _ _
structure iQ (w:af) (base:Nat) (A:aX) (n c:Nat) (rs:List RI):Prop where
 own:w.ownsRow base 95 25 (U A n c) n (rs.flatMap RI.cells)
 len:rs.length=n
 sub:∀r∈rs,df w (λb=>Bw base w.heap.size b/\∀g,A=some ⟨g,0,none⟩->b≠g) r
theorem iQ.none_ (w:af) (base:Nat):iQ w base none 0 0 []:=⟨⟨rfl,.inl ⟨rfl,rfl⟩⟩,rfl,λ_ h=>by cases h⟩
theorem iQ.keep {w d:af} {base:Nat} {A:aX} {n c:Nat} {rs:List RI} (b:iQ w base A n c rs) {l:List Nat} (k:Kp l w d) (e:∀a∈l,a<base):iQ d base A n c rs:=
 ⟨bC b.own k e,b.len,λd f=>((b.sub d f).keep k (λa b h=>by have:=e a b;have:=h.1.1;omega)).mono (λa h=>⟨⟨h.1.1,aT h.1.2 k.size⟩,h.2⟩)⟩
theorem iQ.push {w W f:af} {base P:Nat} {A i:aX} {n c c':Nat} {rs:List RI} {r:RI} (a:iQ w base A n c rs) (k:Kp [P] w W) (s:P<base) (s:base<=w.heap.size)
 (m:df W (Bw w.heap.size W.heap.size) r) (l:f.ownsRow base 95 25 (U i (n+1) c') (n+1) (rs.flatMap RI.cells++r.cells)) (d:W.grownBy f (Value.slice A n c).ownBlock)
 (hat:(Value.slice i (n+1) c').ownBlock=(Value.slice A n c).ownBlock\/(Value.slice i (n+1) c').ownBlock=some W.heap.size):iQ f base i (n+1) c' (rs++[r]):=by
 rcases l.2 with⟨h,_⟩|⟨g,u,v,e,y,z,B,C,D,E⟩
 ·cases h
 injection e with e1 e2 e3
 subst e1 e3;have hform:∀b,(Value.slice A n c).ownBlock=some b->A=some ⟨b,0,none⟩/\base<=b/\b<w.heap.size:=by
  intro b hb';rcases a.own.2 with⟨e,_⟩|⟨g',F,o,e,p,q,_⟩
  ·rw[e]at hb';cases hb'
  rw[e]at hb';injection hb' with hb'
  injection e with e1
  subst e1;have:g'=b:=hb';subst this;exact⟨rfl,p,J.lt (t:=95) (cs:=o) q⟩
 have o:Kp ((Value.slice A n c).ownBlock.toList) W f:=⟨d.os,d.tape,d.output,d.size,λb hb' hne=>d.block b hb' (λhe=>hne (by rw[<-he];simp))⟩;have p:g<W.heap.size->(Value.slice A n c).ownBlock=some g:=by
  exact vn
 have hold:∀(e i:Nat->Prop) (x:RI),df W e x->(∀b,e b->b<W.heap.size/\(Value.slice A n c).ownBlock≠some b)->(∀b,e b->i b)->df f i x:=by
  intro e i x j hS q;exact(j.keep o (λb hb' h=>(hS b h).2 (by
   cases gs:(Value.slice A n c).ownBlock with
   |none=>rw[gs]at hb';simp at hb'
   |some e=>rw[gs]at hb';simp at hb';rw[hb']))).mono q
 have q9:=k.size;have d:=d.size;have hne:∀b,b<W.heap.size->(Value.slice A n c).ownBlock≠some b->b≠g:=λb d e he=>e (he▸p (he▸d));refine⟨?_,by rw[List.length_append,a.len];rfl,λx j=>?_⟩
 ·rw[List.flatMap_append]
  simpa using l
 rcases cY j with h|h
 ·exact nO
 rw[aA h];refine hold (Bw w.heap.size W.heap.size) _ r m (λb hS=>⟨hS.2,λhe=>by have:=(hform b he).2.2;have:=hS.1;omega⟩) (λb hS=>⟨⟨by have:=hS.1;omega,by have:=hS.2;omega⟩,λg' hg'=>?_⟩);injection hg' with hg'
 injection hg' with hg'
 subst hg';exact hne b hS.2 (λhe=>by have:=(hform b he).2.2;have:=hS.1;omega)
theorem ax.one {W:af} {P:Nat} {z:Int} {b:List ao} (h:ax W P z b) {a:Nat} {m:bb} {v:ay} (n:J W a m #[v]) (m:a≠P) (u:ay):ax (W.setCell (ab a 0) u) P z b:=by
 obtain⟨o,q,b⟩:=h;have c:Kp [a] W (W.setCell (ab a 0) u):=Kp.aE (p:=(ab a 0)) ai (Kp.refl _ W) _;refine⟨o,c.blk q (by simp;exact λd=>m d.symm),⟨⟨b.lies.1,b.lies.2.1,λi g=>?_⟩,b.far,b.cap,b.fine,b.few⟩⟩;obtain⟨d,off,b,e,f⟩:=b.lies.2.2 i g;refine⟨d,off,b,aT e c.size,λj k l=>?_⟩;have r:d≠a:=by
  intro s;subst s;have h1:=f 1 _ rfl;have h2:=J.cell n (off+i*4+1);rw[show(off+i*4+1)=off+(i*4+1) by omega]at h2;rw[<-Nat.add_assoc]at h2;exact GX
 exact(c.cell (p:=⟨d,_,none⟩) e (by simpa using r)).trans (f j k l)
theorem sb {P:Program} {b:Func} {g i:aO} {j:Ending->World->Prop} (h:results b g=results b i):∀(a:List Deferred) (e:FrameMode) (w:af),Leaves P b g j a e w->Leaves P b i j a e w
 |[],.returning,w,hl=>by obtain⟨b,f,g⟩:=hl;exact⟨b,by rw[<-h];exact f,g⟩
 |[],.panicking _,w,hl=>hl
 |[],.run,_,hl=>hl
 |d::a,e,w,hl=>by
  obtain⟨b,e,g,i,j,k,l,m⟩:=hl;refine⟨b,e,g,i,j,k,l,m.mono ?_⟩;intro n b b f;cases n with
  |returned b=>exact sb h a _ _ f
  |panicked c=>exact sb h a _ _ f
  |outgrown=>exact f
theorem sc {b:aO} {c a:Nat} {e d:ay} (h:c≠a):(b.setIfInBounds c e).getD a d=b.getD a d:=by
 simp only[Array.getD_eq_getD_getElem?,Array.getElem?_setIfInBounds_ne h]
theorem ES (a:aO) (b:Nat) (c:ay) (d:b≠2) (e:b≠3) (f:b≠4):results Tryz.f26 (a.setIfInBounds b c)=results Tryz.f26 a:=by
 unfold results;rw[Tryz.results26];have d:(a.setIfInBounds b c).getD 2 undef=a.getD 2 undef:=sc d;have e:(a.setIfInBounds b c).getD 3 undef=a.getD 3 undef:=sc e;have a:(a.setIfInBounds b c).getD 4 undef=a.getD 4 undef:=sc f;simp only[List.mapM_toArray,List.mapM_cons,List.mapM_nil,d,e,a]
theorem qt {b:Ending->World->Prop} (i:Nat) (v:ay) (d:i≠2) (e:i≠3) (f:i≠4) (c:List PanicEntry) (a:Act) (w:af) (h:bodyPostD Tryz.prog Tryz.f26 b (.panic c) (a.put (some i) v) w):bodyPostD Tryz.prog Tryz.f26 b (.panic c) a w:=
 sb (ES a.tmps i v d e f) _ _ _ h
theorem eg.wo {W:af} {P:Nat} {h:Hd} {d:List ao} (a:eg W P h d) {b:Nat} {e:bb} {v:ay} (o:J W b e #[v]) (e:ay):eg (W.setCell (ab b 0) e) P h d:=by
 have f:Kp [b] W (W.setCell (ab b 0) e):=Kp.aE (p:=(ab b 0)) ai (Kp.refl _ W) _;refine⟨⟨a.lies.1,a.lies.2.1,λi k=>?_⟩,a.far,a.cap,a.fine,a.few⟩;obtain⟨c,off,a,g,j⟩:=a.lies.2.2 i k;refine⟨c,off,a,aT g f.size,λl m n=>?_⟩;have q:c≠b:=by
  intro r;subst r;have h1:=j 1 _ rfl;have h2:=J.cell o (off+i*4+1);exact GX
 exact(f.cell (p:=⟨c,_,none⟩) g (by simpa using q)).trans (j l m n)
theorem eg.up {W:af} {P b:Nat} {h:Hd} {c:List ao} (a:eg W P h c) (d:P<=b):eg W b h c:=⟨a.lies,λb c e f=>aT (a.far b c e f) d,a.cap,a.fine,a.few⟩
theorem oW:∀(b e:bL) (n:Nat) (a:Int),de b e n=.bad a->a≠0
 |[],_,_,_,h=>by rw[CQ]at h;injection h with h;omega
 |c::b,e,n,a,h=>by
  rw[de.eq_def]at h;simp only at h;split at h
  ·split at h
   ·injection h with h;omega
   cases h
  split at h
  ·injection h with h;omega
  split at h
  ·split at h
   ·injection h with h;omega
   rename_i e d
   split at h
   ·exact oW d _ _ a h
   split at h
   ·exact oW d _ _ a h
   split at h
   ·exact oW d _ _ a h
   injection h with h;omega
  exact oW b _ _ a h
theorem ET (b:Nat) (c:bL) (a:Int) (h:mg b c=.bad a):a≠0:=by
 unfold mg at h;split at h
 ·unfold jQ at h;split at h
  ·split at h
   ·injection h with h;omega
   cases h
  cases h
 split at h
 ·unfold jR at h;split at h
  ·cases h
  split at h
  ·injection h with h;omega
  cases h
 split at h
 ·unfold jb at h;split at h
  ·exact oW _ _ _ a h
  cases h
 unfold g5 at h;split at h
 ·cases h
 split at h<;>cases h
theorem ws:∀(d a:Nat),a+d=4->∀(b:bL) (c:Int),jx a b=.bad c->c≠0
 |0,a,hj,b,c,h=>by
  obtain rfl:a=4:=ae
  have:jx 4 b=.bad 5:=rfl;rw[this]at h;injection h with h;omega
 |d+1,a,hj,b,c,h=>by
  rw[wg a ae]at h;unfold Rd.or at h;split at h
  ·exact ws d (a+1) ae b c h
  exact ET a b c h
theorem wt:∀(a:Nat) (b:bL) (d:Nat) (ts:List ao),(g6 a b d ts).2.1=0->(g6 a b d ts).2.2=0
 |0,_,_,_,_=>rfl
 |_+1,[],_,_,_=>rfl
 |a+1,c::b,d,ts,h=>by
  rw[wi]at h⊢;unfold ku at h⊢;split at h
  ·simp at h
  ·rename_i d e
   exact absurd h (ws 4 0 rfl (c::b) d e)
  split at h
  ·simp at h
  rename_i b
  rw[if_neg b];exact wt a _ _ _ h
theorem wu (l:bL) (h:(dq l).2.1=0):(dq l).2.2=0:=by
 unfold dq at h⊢;split at h
 ·simp at h
 rename_i a
 rw[if_neg a];exact wt _ _ _ _ h
def gi (l:bL):PO (List aI):=if(dq l).2.1=0 then qK l.length (dq l).1 else .bad (dq l).2.1 (dq l).2.2
theorem qu (z:Int) (f:Nat) (l:List aI) (a:ao) (ts:List ao):iW z (f+1) l (a::ts)=if l.length=200 then .bad 3 a.at_ else(iV z (a::ts)).bind λa b=>iW z f (l++[a]) b:=rfl
structure gW (w W:af) (P:Nat) (z:Int) (ts:List ao) (A:aX) (n c:Nat) (rs:List RI):Prop where
 k:Kp [] w W
 bO:J W w.heap.size 24 #[U A n c]
 bE:J W (w.heap.size+1) 76 #[O 0]
 bA:J W (w.heap.size+1+1) 3 #[O 0]
 pb:ax W P z ts
 pl:w.heap.size+3<=P
 it:iQ W (P+1) A n c rs
 few:n<=200
def iR (w:af) (d:PO (List aI)) (c:Ending) (b:af):Prop:=
 ag w b/\match d with
 |.ok xs _=>∃(h:Hd) (rs:List RI),c=.returned (.tuple #[.agg #[h.val],O 0,O 0])/\rs.map RI.it=xs/\aF b 25 h RI.cells rs/\(∀d∈rs,df b (Bw w.heap.size b.heap.size) d)/\(∀d e,h.a=some ⟨d,e,none⟩->Bw w.heap.size b.heap.size d)
 |.bad er a=>c=.returned (.tuple #[.agg #[aa],er,a])
section
variable {w W W':af} {P:Nat} {z:Int} {ts:List ao} {A:aX} {n c:Nat} {rs:List RI}
theorem gW.keep (a:gW w W P z ts A n c rs) {b:List ao} (k:Kp [P] W W') (d:ax W' P z b):gW w W' P z b A n c rs:=
 have b:=a.pl
 ⟨k.old a.k (λb b e=>by simp at b;omega),k.blk a.bO aC,k.blk a.bE aC,k.blk a.bA aC,d,a.pl,a.it.keep k ai,a.few⟩
theorem gW.fin (a:gW w W P z ts A n c rs):gW w (((W.setCell (am w 0) (U A n c)).setCell (ab (w.heap.size+1) 0) (O 0)).setCell (ab (w.heap.size+1+1) 0) (O 0)) P z ts A n c rs:=by
 have b:=a.pl;have b:Kp [w.heap.size,w.heap.size+1,w.heap.size+1+1] W (((W.setCell (am w 0) (U A n c)).setCell (ab (w.heap.size+1) 0) (O 0)).setCell (ab (w.heap.size+1+1) 0) (O 0)):=
  Kp.aE (p:=(ab (w.heap.size+1+1) 0)) ai (Kp.aE (p:=(ab (w.heap.size+1) 0)) ai (Kp.aE (p:=(am w 0)) ai (Kp.refl _ W) _) _) _
 exact⟨b.old a.k (λd d e=>by simp at d;omega),
  J.far (J.far (a.bO.aP 0 (U A n c)) (p:=(ab (w.heap.size+1) 0)) aD _) (p:=(ab (w.heap.size+1+1) 0)) aD _,
  J.far ((J.far a.bE (p:=(am w 0)) aD _).aP 0 (O 0)) (p:=(ab (w.heap.size+1+1) 0)) aD _,
  (J.far (J.far a.bA (p:=(am w 0)) aD _) (p:=(ab (w.heap.size+1) 0)) aD _).aP 0 (O 0),
  ax.one (ax.one (ax.one a.pb a.bO ae (U A n c)) (J.far a.bE (p:=(am w 0)) aD _) ae (O 0)) (J.far (J.far a.bA (p:=(am w 0)) aD _) (p:=(ab (w.heap.size+1) 0)) aD _) ae (O 0),a.pl,a.it.keep b aU,a.few⟩
theorem gW.push {m e:af} {t:List ao} {f:aX} {g:Nat} {r:RI} (i:gW w W P z ts A n c rs) (B:n<200) (k:Kp [P] W m) (u:ax m P z t) (S:ag m W') (o:df m (Bw W.heap.size m.heap.size) r)
 (v:e.ownsRow (P+1) 95 25 (U f (n+1) g) (n+1) (rs.flatMap RI.cells++r.cells)) (b:W'.grownBy e (Value.slice A n c).ownBlock)
 (x:(Value.slice f (n+1) g).ownBlock=(Value.slice A n c).ownBlock\/(Value.slice f (n+1) g).ownBlock=some W'.heap.size):
 gW w (e.setCell (am w 0) (U f (n+1) g)) P z t f (n+1) g (rs++[r]):=by
 have m:=i.pl;have m:=i.pb.lt;have q:∀a,(Value.slice A n c).ownBlock=some a->P+1<=a:=by
  intro a d;rcases i.it.own.2 with⟨j,_⟩|⟨s,y,C,j,b,D,E⟩
  ·injection j with e1;subst e1;cases d
  rw[j]at d;injection d with d;subst d;exact b
 have s:∀a,a<P+1->some a≠(Value.slice A n c).ownBlock:=λa j o=>by have:=q a o.symm;omega
 have d:=(i.keep k u);have m:Kp [P] W W':=k.trans (Kp.of_same S);have y:=iQ.push i.it m ae ae ((o.keep (Kp.of_same (l:=[]) S) (λ_ h=>by cases h)).mono (λa h=>⟨h.1,aT h.2 S.size⟩)) v b x;have m:=(d.bO.below S d.bO.lt).grown b (s _ ae);have e:Kp [w.heap.size] e (e.setCell (am w 0) (U f (n+1) g)):=Kp.aE (p:=(am w 0)) ai (Kp.refl _ e) _;exact⟨(e.old (l':=[]) ((d.k.trans (Kp.of_same S)).grown b (λa j=>.inr (by have:=q a j;omega))) (λa j f=>by simp at j;omega)),m.aP 0 _,e.blk ((d.bE.below S d.bE.lt).grown b (s _ ae)) ai,e.blk ((d.bA.below S d.bA.lt).grown b (s _ ae)) aU,
  ax.one ((u.same S).grown b (λa j=>by have:=q a j;omega)) m ae _,i.pl,y.keep e aU,by omega⟩
theorem wv {d e f:ay} (g:Kp [] w W) (i:J W w.heap.size 24 #[d]) (d:J W (w.heap.size+1) 76 #[e]) (e:J W (w.heap.size+1+1) 3 #[f]) (er at_:Int) (a:aO) (f:a.getD 2 undef=.pointer (some ⟨w.heap.size,0,none⟩)) (j:a.getD 3 undef=.pointer (some ⟨w.heap.size+1,0,none⟩)) (k:a.getD 4 undef=.pointer (some ⟨w.heap.size+1+1,0,none⟩)):
 CallsD Tryz.prog 45 #[aj w.heap.size,aj (w.heap.size+1),aj (w.heap.size+1+1)] (.panicking [{v:=gI er at_,recovered:=false}]) W (λ
  |.returned _,b,w'=>Leaves Tryz.prog Tryz.f26 a (iR w (.bad er at_)) [] (settle b) w'
  |.panicked chain,b,w'=>Leaves Tryz.prog Tryz.f26 a (iR w (.bad er at_)) [] (raised b chain) w'
  |.outgrown,_,w'=>iR w (.bad er at_) .outgrown w'):=by
 have l:a[2]?.getD undef=.pointer (some ⟨w.heap.size,0,none⟩):=by simpa using f
 have m:a[3]?.getD undef=.pointer (some ⟨w.heap.size+1,0,none⟩):=by simpa using j
 have n:a[4]?.getD undef=.pointer (some ⟨w.heap.size+1+1,0,none⟩):=by simpa using k
 refine(EB w.heap.size (w.heap.size+1) (w.heap.size+1+1) _ _ _ er at_ [] W i d e ae ae ae).mono ?_;rintro d b c ⟨rfl,rfl,o,p,q,r⟩;have s:ac c (am w 0) aa:=J.cell o 0;have t:ac c (ab (w.heap.size+1) 0) er:=J.cell p 0;have u:ac c (ab (w.heap.size+1+1) 0) at_:=J.cell q 0;show Leaves Tryz.prog Tryz.f26 a (iR w (.bad er at_)) [] .returning c;refine⟨.tuple #[.agg #[aa],er,at_],?_,(r.old g (l':=[]) (λa a c=>by simp at a;omega)).same,rfl⟩;simp[results,Tryz.results26,go_sem,l,m,n,s,t,u]
theorem EU (a:gW w W P z ts A n c rs) (e:List ao) (b:aO) (o:b.getD 2 undef=.pointer (some ⟨w.heap.size,0,none⟩)) (p:b.getD 3 undef=.pointer (some ⟨w.heap.size+1,0,none⟩)) (q:b.getD 4 undef=.pointer (some ⟨w.heap.size+1+1,0,none⟩)):
 CallsD Tryz.prog 45 #[aj w.heap.size,aj (w.heap.size+1),aj (w.heap.size+1+1)] .returning W (λ
  |.returned _,d,w'=>Leaves Tryz.prog Tryz.f26 b (iR w (.ok (rs.map RI.it) e)) [] (settle d) w'
  |.panicked chain,d,w'=>Leaves Tryz.prog Tryz.f26 b (iR w (.ok (rs.map RI.it) e)) [] (raised d chain) w'
  |.outgrown,_,w'=>iR w (.ok (rs.map RI.it) e) .outgrown w'):=by
 have r:b[2]?.getD undef=.pointer (some ⟨w.heap.size,0,none⟩):=by simpa using o
 have s:b[3]?.getD undef=.pointer (some ⟨w.heap.size+1,0,none⟩):=by simpa using p
 have u:b[4]?.getD undef=.pointer (some ⟨w.heap.size+1+1,0,none⟩):=by simpa using q
 refine(EC w.heap.size (w.heap.size+1) (w.heap.size+1+1) W).mono ?_;rintro o d f ⟨rfl,rfl,rfl⟩;have v:ac f (am w 0) (U A n c):=J.cell a.bO 0;have x:ac f (ab (w.heap.size+1) 0) (O 0):=J.cell a.bE 0;have y:ac f (ab (w.heap.size+1+1) 0) (O 0):=J.cell a.bA 0;have o:=a.pl;have o:=a.few;show Leaves Tryz.prog Tryz.f26 b (iR w (.ok (rs.map RI.it) e)) [] .returning f;refine⟨.tuple #[.agg #[U A n c],O 0,O 0],?_,a.k.same,⟨A,n,c⟩,rs,rfl,rfl,cF (h:=⟨A,n,c⟩) RI.len a.it.len (by show n<=_;omega) a.it.own,λb e=>(a.it.sub b e).mono (λb h=>⟨by have:=h.1.1;omega,h.1.2⟩),?_⟩
 ·simp[results,Tryz.results26,go_sem,r,s,u,v,x,y]
 intro i j l;rcases a.it.own.2 with⟨g,D⟩|⟨E,F,B,g,G,C,_⟩
 ·injection g with e1
  have m:A=some ⟨i,j,none⟩:=l;rw[e1]at m;cases m
 injection g with e1
 have a:A=some ⟨i,j,none⟩:=l;rw[a]at e1;injection e1 with e1
 injection e1 with e1
 subst e1;exact⟨by omega,J.lt (t:=95) (cs:=B) C⟩
end
end Go.Proofs.YteamkimbmdgdbaaGreatDoor

import Derived.Test.YteamkimbmdgdbaaGreatDoorK19
set_option linter.unusedSimpArgs false
set_option linter.unusedVariables false
set_option maxHeartbeats 16000000
set_option maxRecDepth 100000
namespace Go.Proofs.YteamkimbmdgdbaaGreatDoor
open Go.Proofs.Tryz
open Go.RowKit
theorem Ix (a b c:Nat) (f g i:aA) (er at_:Int) (j:List PanicEntry) (d:ah) (e:aa d a 24 #[f]) (f:aa d b 76 #[g]) (g:aa d c 3 #[i]) (n:a≠b) (o:a≠c) (q:b≠c):
 CallsD prog 45 #[ak a,ak b,ak c] (.panicking ({v:=gT er at_,recovered:=false}::j)) d λk r i=>
  k=.returned (.tuple #[])/\r=.panicking ({v:=gT er at_,recovered:=true}::j)/\aa i a 24 #[ab]/\aa i b 76 #[er]/\aa i c 3 #[at_]/\Kp [a,b,c] d i:=by
 have i:∀(i:ah) (j:aA),(Instr.typeAssert (.iface 125 j) 20 125 true).run prog i=.ok (.tuple #[j,.bool true]) i:=λ_ _=>by kernel_rfl
 have j:=λi=>aa.frozen e i;have j:=λi=>aa.frozen f i;have i:=λi=>aa.frozen g i;have i:=ay e;have i:=ay f;have i:=ay g;have i:=e.lt;have j:=f.lt;have k:=g.lt;have r:=aZ i;have r:=aZ j;have r:=aZ k;have i:=Nat.ne_of_gt i;have i:=Nat.ne_of_gt j;have i:=Nat.ne_of_gt k;have i:=n.symm;have i:=o.symm;have i:=q.symm;have s:=Z e;have u:=Z f;have w:=Z g;clear e f g;refine callsD_of_wpS func45 rfl λe e m=>?_;rw[ntmps45];show Code.wpS _ _ _ {tmps:=#[ak a,ak b,ak c,undef,undef,undef,undef,undef,undef,undef,undef,undef,undef,undef,undef,undef,undef,undef,undef,undef,undef,undef],defers:=[]} _ _;apply wpS_seq;apply wpS_region;simp[wpOpsS,go_sem,recoverD,m,Exit.thenS,gT];apply wpS_seq;apply wpS_region;simp[wpOpsS,go_sem,Exit.thenS];refine wpS_cond (t:=true) n3 ?_;simp only[if_true];refine wpS_of_wp ?_;refine te ?_;intro e e;have x:=Z e;clear m e;go_wp2_with fail
 go_region
 refine x _ _ _ ?_;have e:=Z (aa.far (aa.far (s.aP 0 ab) (p:=(ac b 0)) aG er) (p:=(ac c 0)) aG at_);have f:=Z (aa.far ((aa.far u (p:=(ac a 0)) aG ab).aP 0 er) (p:=(ac c 0)) aG at_);have g:=Z ((aa.far (aa.far w (p:=(ac a 0)) aG ab) (p:=(ac b 0)) aG er).aP 0 at_);have a:=Z (Kp.aH (p:=(ac c 0)) (l:=[a,b,c]) aj (Kp.aH (p:=(ac b 0)) aj (Kp.aH (p:=(ac a 0)) aj (Kp.refl [a,b,c] d) ab) er) at_);simp[bodyPostS,results,results45];exact⟨(e.alloc _).drew,(f.alloc _).drew,(g.alloc _).drew,(a.alloc _).drew⟩
theorem Iy (a b c:Nat) (d:ah):
 CallsD prog 45 #[ak a,ak b,ak c] .returning d λe f g=>e=.returned (.tuple #[])/\f=.returning/\g=d:=by
 refine callsD_of_wpS func45 rfl λi d j=>?_;rw[ntmps45];show Code.wpS _ _ _ {tmps:=#[ak a,ak b,ak c,undef,undef,undef,undef,undef,undef,undef,undef,undef,undef,undef,undef,undef,undef,undef,undef,undef,undef,undef],defers:=[]} _ _;apply wpS_seq;apply wpS_region;simp[wpOpsS,go_sem,recoverD,j,Exit.thenS];apply wpS_seq;apply wpS_region;simp[wpOpsS,go_sem,Exit.thenS];refine wpS_cond (t:=false) n3 ?_;simp only[Bool.false_eq_true,if_false];refine wpS_of_wp (wp_skip ?_);cases i;simp_all [bodyPostS,results,results45]
def m8 (b:Nat) (a:bw):Rd:=if b=0 then iJ a else if b=1 then iK a else if b=2 then h7 a else gE a
def Rd.or (a s:Rd):Rd:=match a with|.none=>s|a=>a
def jV (b:Nat) (a:bw):Rd:=if b=0 then mq a else if b=1 then(iK a).or ((h7 a).or ((gE a).or (.bad 5)))else if b=2 then(h7 a).or ((gE a).or (.bad 5))else if b=3 then(gE a).or (.bad 5)else .bad 5
theorem Iz (a:bw):mq a=(iJ a).or ((iK a).or ((h7 a).or ((gE a).or (.bad 5)))):=by
 unfold mq Rd.or;rfl
theorem zl (a:Nat) (c:a<4) (b:bw):jV a b=(m8 a b).or (jV (a+1) b):=by
 have h:a=0\/a=1\/a=2\/a=3:=af
 rcases h with rfl|rfl|rfl|rfl
 ·exact Iz b
 ·rfl
 ·rfl
 rfl
structure tZ (l:bw) (t:bw) (n:Int) (len:Nat):Prop where
 l1:1<=len
 l2:len<=l.length
 t1:t.length<=20000
 n0:0<=n
 n1:n<=9999999999
theorem pR:∀(f i:bw) (n:Nat) (e:Int) (b:bw) (d:Int) (a:Nat),di f i n=.tok e b d a->1<=a/\a<=n+f.length+1/\b.length<=200/\d=0
 |[],_,_,_,_,_,_,h=>by cases h
 |c::f,i,n,e,b,d,a,h=>by
  rw[di.eq_def]at h;simp only at h;split at h
  ·split at h
   ·cases h
   injection h with h1 h2 h3 h4
   subst h2 h3 h4;simp;omega
  split at h
  ·cases h
  split at h
  ·split at h
   ·cases h
   rename_i i g
   split at h
   ·have:=pR g _ _ e b d a h;simp at this⊢;omega
   split at h
   ·have:=pR g _ _ e b d a h;simp at this⊢;omega
   split at h
   ·have:=pR g _ _ e b d a h;simp at this⊢;omega
   cases h
  have:=pR f _ _ e b d a h;simp at this⊢;omega
theorem IA {c:UInt8} (h:jw c=true):fB c=true:=by unfold fB;rw[h];rfl
theorem IB (l:Nat) (a:bw) (j:a.length<=20000) (i:a≠[]) (m:Int) (j:bw) (n:Int) (k:Nat) (h:m8 l a=.tok m j n k):tZ a j n k:=by
 unfold m8 at h;split at h
 ·unfold iJ at h
  split at h
  ·rename_i g
   split at h
   ·cases h
   injection h with f b d e
   subst b d e;cases a with
   |nil=>exact absurd rfl i
   |cons c a=>
    have g:fB c=true:=IA g;have f:1<=ct fB (c::a):=by simp[ct,g]
    exact⟨f,nw _ _,by rw[List.length_take];omega,by omega,by omega⟩
  cases h
 split at h
 ·unfold iK at h
  split at h
  ·cases h
  split at h
  ·cases h
  rename_i j g
  injection h with f b d e
  subst b d e;have k:=nw dL a;have:=(vW (a.take (ct dL a)) (by intro j;have:=congrArg List.length j;rw[List.length_take,List.length_nil]at this;omega) (sr dL a) (by rw[List.length_take];omega)).2;obtain⟨j,g⟩:∃j,j=gV (a.take (ct dL a)):=⟨_,rfl⟩;rw[<-g]at this⊢;exact⟨by omega,k,by rw[List.length_take];omega,by omega,by omega⟩
 split at h
 ·unfold h7 at h
  split at h
  ·obtain⟨f,b,d,e⟩:=pR _ _ _ _ _ _ _ h
   have:0<a.length:=List.length_pos_iff.2 i;simp at b;exact⟨f,by omega,by omega,by omega,by omega⟩
  cases h
 unfold gE at h;split at h
 ·rename_i g
  injection h with f b d e
  subst b d e;have:2<=a.length:=by
   have:(a.take 2).length=2:=by rcases g with g|g<;>rw[g]<;>rfl
   rw[List.length_take]at this;omega
  exact⟨by omega,this,by rw[List.length_take];omega,by omega,by omega⟩
 split at h
 ·injection h with f b d e
  subst b d e;have:0<a.length:=List.length_pos_iff.2 i;exact⟨by omega,by omega,by rw[List.length_take];omega,by omega,by omega⟩
 cases h
theorem zm {d:Nat} {c:UInt8} {b:bw} {a:Nat} {ts:List ao}:gW (d+1) (c::b) a ts=match mq (c::b)with
 |.none=>([],5,a)
 |.bad e=>([],e,a)
 |.tok k t n len=>if ts.length=5000 then([],3,a)else gW d (((c::b).drop len).drop (cU false ((c::b).drop len))) (a+len+cU false ((c::b).drop len)) (ts++[⟨k,d1 t,n,a⟩]):=rfl
theorem IC {c d n:Nat} {a:aX} {e:aA} {f:bg} {w i:ah} (j:w.ownsRow c a d e n f) {k:List Nat} (s:Kp k w i) (o:∀p∈k,w.heap.size<=p):i.ownsRow c a d e n f:=by
 refine⟨j.1,?_⟩;rcases j.2 with h|⟨b,q,l,r,u,m,v⟩
 ·exact .inl h
 exact .inr ⟨b,q,l,r,u,s.blk (g:=b) (t:=a) m (λc=>by have:=o b c;have:=aa.lt (t:=a) (cs:=l) m;omega),v⟩
structure dT (w W:ah) (s:av) (a:Nat) (A:aT) (n c:Nat) (ts:List ao):Prop where
 k:Kp [] w W
 bT:aa W w.heap.size 121 #[O A n c]
 bE:aa W (w.heap.size+1) 76 #[J 0]
 bA:aa W (w.heap.size+1+1) 3 #[J 0]
 bS:eU W (w.heap.size+1+1+1) s a
 bK:aa W (w.heap.size+1+1+1+1) 186 #[.func (.func 81) #[ak (w.heap.size+1+1+1)] #[],.func (.func 82) #[ak (w.heap.size+1+1+1)] #[],.func (.func 83) #[ak (w.heap.size+1+1+1)] #[],.func (.func 84) #[ak (w.heap.size+1+1+1)] #[]]
 own:W.ownsRow (w.heap.size+5) 188 4 (O A n c) n (ts.flatMap ao.cells)
 len:ts.length=n
 few:n<=5000
 fine:∀t∈ts,t.bW
 pS:a<=s.size
section
variable {w W W':ah} {s:av} {a:Nat} {A:aT} {n c:Nat} {ts:List ao}
theorem dT.kp (b:dT w W s a A n c ts) {l:List Nat} (k:Kp l W W') (e:∀d∈l,W.heap.size<=d):dT w W' s a A n c ts:=
 have h:=λ(d:Nat) (f:d<W.heap.size) (g:d∈l)=>absurd (e d g) af
 ⟨k.old b.k (λd f g=>by have:=e d f;have:=b.k.size;omega),k.blk b.bT (h _ b.bT.lt),k.blk b.bE (h _ b.bE.lt),k.blk b.bA (h _ b.bA.lt),k.blk b.bS (h _ b.bS.lt),k.blk b.bK (h _ b.bK.lt),IC b.own k e,b.len,b.few,b.fine,b.pS⟩
theorem dT.same (b:dT w W s a A n c ts) (k:ag W W'):dT w W' s a A n c ts:=b.kp (Kp.of_same (l:=[]) k) (λ_ h=>by cases h)
theorem dT.move (b:dT w W s a A n c ts) {a':Nat} (d:Kp [w.heap.size+1+1+1] W W') (e:eU W' (w.heap.size+1+1+1) s a') (h:a'<=s.size):dT w W' s a' A n c ts:=
 ⟨d.old b.k (λe f g=>by simp at f;omega),d.blk b.bT bb,d.blk b.bE bb,d.blk b.bA bb,e,d.blk b.bK bb,bD b.own d bb,b.len,b.few,b.fine,h⟩
def jg (w:ah) (a:List ao×Int×Int) (c:Ending) (b:ah):Prop:=∃h:Hd,c=.returned (.tuple #[h.val,a.2.1,a.2.2])/\eH b b.heap.size h a.1/\ag w b
theorem rH (e:dT w W s a A n c ts) (er at_:Int) (b:aQ) (g:b.getD 2 undef=.pointer (some ⟨w.heap.size,0,none⟩)) (i:b.getD 3 undef=.pointer (some ⟨w.heap.size+1,0,none⟩)) (j:b.getD 4 undef=.pointer (some ⟨w.heap.size+1+1,0,none⟩)):
 CallsD prog 80 #[ak w.heap.size,ak (w.heap.size+1),ak (w.heap.size+1+1)] (.panicking [{v:=o3 er at_,recovered:=false}]) W (λ
  |.returned _,d,w'=>Leaves prog Tryz.f44 b (jg w ([],er,at_)) [] (settle d) w'
  |.panicked chain,d,w'=>Leaves prog Tryz.f44 b (jg w ([],er,at_)) [] (raised d chain) w'
  |.outgrown,_,w'=>jg w ([],er,at_) .outgrown w'):=by
 have l:b[2]?.getD undef=.pointer (some ⟨w.heap.size,0,none⟩):=by simpa using g
 have m:b[3]?.getD undef=.pointer (some ⟨w.heap.size+1,0,none⟩):=by simpa using i
 have o:b[4]?.getD undef=.pointer (some ⟨w.heap.size+1+1,0,none⟩):=by simpa using j
 refine(F6 w.heap.size (w.heap.size+1) (w.heap.size+1+1) _ _ _ er at_ [] W e.bT e.bE e.bA af af af).mono ?_;rintro g d f ⟨rfl,rfl,p,q,r,t⟩;have u:ae f (aq w 0) ab:=aa.cell p 0;have x:ae f (ac (w.heap.size+1) 0) er:=aa.cell q 0;have y:ae f (ac (w.heap.size+1+1) 0) at_:=aa.cell r 0;show Leaves prog Tryz.f44 b (jg w ([],er,at_)) [] .returning f;refine⟨.tuple #[ab,er,at_],?_,⟨none,0,0⟩,rfl,⟨aD.none_ _ _ _,(λ_ _ h=>by cases h),Nat.le_refl _,(λ_ h=>by cases h),by simp⟩,?_⟩
 ·simp[results,results44,go_sem,l,m,o,u,x,y]
 exact(t.old e.k (l':=[]) (λb b e=>by simp at b;omega)).same
theorem ID (b:dT w W s a A n c ts) (d:aQ) (i:d.getD 2 undef=.pointer (some ⟨w.heap.size,0,none⟩)) (j:d.getD 3 undef=.pointer (some ⟨w.heap.size+1,0,none⟩)) (l:d.getD 4 undef=.pointer (some ⟨w.heap.size+1+1,0,none⟩)):
 CallsD prog 80 #[ak w.heap.size,ak (w.heap.size+1),ak (w.heap.size+1+1)] .returning W (λ
  |.returned _,e,w'=>Leaves prog Tryz.f44 d (jg w (ts,0,0)) [] (settle e) w'
  |.panicked chain,e,w'=>Leaves prog Tryz.f44 d (jg w (ts,0,0)) [] (raised e chain) w'
  |.outgrown,_,w'=>jg w (ts,0,0) .outgrown w'):=by
 have m:d[2]?.getD undef=.pointer (some ⟨w.heap.size,0,none⟩):=by simpa using i
 have o:d[3]?.getD undef=.pointer (some ⟨w.heap.size+1,0,none⟩):=by simpa using j
 have p:d[4]?.getD undef=.pointer (some ⟨w.heap.size+1+1,0,none⟩):=by simpa using l
 refine(F7 w.heap.size (w.heap.size+1) (w.heap.size+1+1) W).mono ?_;rintro i e f ⟨rfl,rfl,rfl⟩;have q:ae f (aq w 0) (O A n c):=aa.cell b.bT 0;have r:ae f (ac (w.heap.size+1) 0) (J 0):=aa.cell b.bE 0;have u:ae f (ac (w.heap.size+1+1) 0) (J 0):=aa.cell b.bA 0;show Leaves prog Tryz.f44 d (jg w (ts,0,0)) [] .returning f;refine⟨.tuple #[O A n c,J 0,J 0],?_,⟨A,n,c⟩,rfl,⟨?_,?_,?_,b.fine,?_⟩,?_⟩
 ·simp[results,results44,go_sem,m,o,p,q,r,u]
 ·have:=b.few
  exact cI (h:=⟨A,n,c⟩) (λ_=>rfl) b.len (by show n<=_;omega) b.own
 ·intro v x y z
  rcases b.own.2 with⟨g,D⟩|⟨E,F,B,g,G,C,_⟩
  ·have:0<n:=z
   omega
  injection g with e1
  have d:A=some ⟨v,x,none⟩:=y;rw[d]at e1;injection e1 with e1
  injection e1 with e1
  subst e1;exact aa.lt (t:=188) (cs:=B) C
 ·show n<=c
  rcases b.own.2 with⟨g,x⟩|⟨y,z,B,g,C,D,v⟩
  ·injection g with e1 e2 e3
   omega
  injection g with e1 e2 e3
  have:=v.1;omega
 ·show ts.length<=5000
  have:=b.len;have:=b.few;omega
 exact b.k.same
theorem dT.fin (b:dT w W s a A n c ts):dT w (((W.setCell (aq w 0) (O A n c)).setCell (ac (w.heap.size+1) 0) (J 0)).setCell (ac (w.heap.size+1+1) 0) (J 0)) s a A n c ts:=by
 have d:Kp [w.heap.size,w.heap.size+1,w.heap.size+1+1] W (((W.setCell (aq w 0) (O A n c)).setCell (ac (w.heap.size+1) 0) (J 0)).setCell (ac (w.heap.size+1+1) 0) (J 0)):=
  Kp.aH (p:=(ac (w.heap.size+1+1) 0)) bb (Kp.aH (p:=(ac (w.heap.size+1) 0)) bb (Kp.aH (p:=(aq w 0)) bb (Kp.refl _ W) _) _) _
 exact⟨d.old b.k (λe e f=>by simp at e;omega),
  aa.far (aa.far (b.bT.aP 0 (O A n c)) (p:=(ac (w.heap.size+1) 0)) aG _) (p:=(ac (w.heap.size+1+1) 0)) aG _,
  aa.far ((aa.far b.bE (p:=(aq w 0)) aG _).aP 0 (J 0)) (p:=(ac (w.heap.size+1+1) 0)) aG _,
  (aa.far (aa.far b.bA (p:=(aq w 0)) aG _) (p:=(ac (w.heap.size+1) 0)) aG _).aP 0 (J 0),
  d.blk b.bS bb,d.blk b.bK bb,bD b.own d bb,b.len,b.few,b.fine,b.pS⟩
theorem dT.IE (b:dT w W s a A n c ts) {g i:Nat} (f:w.heap.size+5<=g) (l:∀d,(Value.slice A n c).ownBlock=some d->d<g) (f:aA):dT w (W.setCell (ac g i) f) s a A n c ts:=by
 have e:Kp [g] W (W.setCell (ac g i) f):=Kp.aH (p:=(ac g i)) bb (Kp.refl _ W) _;refine⟨e.old b.k (λd f j=>by simp at f;omega),e.blk b.bT bb,e.blk b.bE bb,e.blk b.bA bb,e.blk b.bS bb,e.blk b.bK bb,⟨b.own.1,?_⟩,b.len,b.few,b.fine,b.pS⟩;rcases b.own.2 with h|⟨d,m,o,j,q,r,u⟩
 ·exact .inl h
 have:=l d (by rw[j];rfl);exact .inr ⟨d,m,o,j,q,e.blk (g:=d) (t:=188) r bb,u⟩
theorem dT.rI (f:dT w W s a A n c ts):∀d,(Value.slice A n c).ownBlock=some d->d<W.heap.size:=by
 intro d b;rcases f.own.2 with⟨e,_⟩|⟨j,k,g,e,l,i,m⟩
 ·injection e with e1
  subst e1;cases b
 rw[e]at b;injection b with b
 subst b;exact aa.lt (t:=188) (cs:=g) i
theorem dT.IF (I:dT w W s a A n c ts):∀b,(Value.slice A n c).ownBlock=some b->w.heap.size+5<=b:=by
 exact zn
theorem dT.push (I:dT w W s a A n c ts) {d:ah} {f:aT} {i:Nat} (t:ao) (m:t.bW) (e:n<5000) (hg:W.grownBy d (Value.slice A n c).ownBlock) (o:d.ownsRow (w.heap.size+5) 188 4 (O f (n+1) i) (n+1) (ts.flatMap ao.cells++t.cells)):
 dT w (d.setCell (aq w 0) (O f (n+1) i)) s a f (n+1) i (ts++[t]):=by
 have l:∀b,(Value.slice A n c).ownBlock=some b->w.heap.size+5<=b:=by
  exact zn
 have e:∀b,b<w.heap.size+5->some b≠(Value.slice A n c).ownBlock:=λb hb j=>by have:=l b j.symm;omega
 have d:Kp [w.heap.size] d (d.setCell (aq w 0) (O f (n+1) i)):=Kp.aH (p:=(aq w 0)) bb (Kp.refl _ d) _;refine⟨(d.old (l':=[]) ((I.k.grown hg (λb hb=>.inr (by have:=l b hb;omega)))) (λb hb f=>by simp at hb;omega)),(I.bT.grown hg (e _ af)).aP 0 _,d.blk (I.bE.grown hg (e _ af)) bb,d.blk (I.bA.grown hg (e _ af)) bb,d.blk (aa.grown I.bS hg (e _ af)) bb,d.blk (I.bK.grown hg (e _ af)) bb,?_,by rw[List.length_append,I.len];rfl,by omega,?_,I.pS⟩
 ·rw[List.flatMap_append]
  have j:[t].flatMap ao.cells=t.cells:=aj
  rw[j];exact bD o d bb
 intro q r;rcases cP r with h|h
 ·exact I.fine q h
 rw[aB h];exact m
def kT (f:Nat) (b:bw) (a:Nat) (ts:List ao) (c:Rd):List ao×Int×Int:=
 match c with
 |.none=>([],5,a)
 |.bad e=>([],e,a)
 |.tok k t n len=>if ts.length=5000 then([],3,a)else gW f ((b.drop len).drop (cU false (b.drop len))) (a+len+cU false (b.drop len)) (ts++[⟨k,d1 t,n,a⟩])
theorem zo (f:Nat) (c:UInt8) (a:bw) (b:Nat) (ts:List ao):gW (f+1) (c::a) b ts=kT f (c::a) b ts (jV 0 (c::a)):=rfl
theorem od:∀(a:bw) (b:Bool),cU b a<=a.length
 |[],_=>by simp[cU]
 |c::a,true=>by have b:=od a true;have b:=od a false;simp only[cU];split<;>simp<;>omega
 |c::a,false=>by have b:=od a true;have a:=od a false;simp only[cU];split<;>(try split)<;>simp<;>omega
end
theorem Tryz.IG:(prog.info? 188).map (λi=>(i.zero,i.size,i.bytes))=some (some (.agg #[J 0,ai,J 0,J 0]),4,40):=am
theorem ir {w:ah} {a:aX} {b:aQ} (c:Nat) (d:c=w.heap.size):aa (w.alloc (.cells b a)) c a b:=by subst d;exact aa.new w a b
theorem IH (b:av) (a:ah):dT a (((((a.alloc (.cells #[ab] 121)).alloc (.cells #[J 0] 76)).alloc (.cells #[J 0] 3)).alloc (.cells #[b,J 0] 182)).alloc (.cells #[.func (.func 81) #[ak (a.heap.size+1+1+1)] #[],.func (.func 82) #[ak (a.heap.size+1+1+1)] #[],.func (.func 83) #[ak (a.heap.size+1+1+1)] #[],.func (.func 84) #[ak (a.heap.size+1+1+1)] #[]] 186)) b 0 none 0 0 []:=
 ⟨((((((Kp.refl [] a).alloc _).alloc _).alloc _).alloc _).alloc _),((((ir _ rfl).alloc _).alloc _).alloc _).alloc _,(((ir _ aj).alloc _).alloc _).alloc _,((ir _ aj).alloc _).alloc _,(show aa _ _ _ _ from(ir _ aj).alloc _),ir _ aj,⟨rfl,.inl ⟨rfl,rfl⟩⟩,rfl,by omega,(λ_ h=>by cases h),by omega⟩
theorem II (a:av) (b:ah) (d:20000<a.size) (e:aJ a):Calls prog 44 #[a] b λf g=>jg b (dp (ba a)) f g:=by
 have e:(a.size:Int)<=9223372036854775807:=by unfold aJ at e;omega
 have e:(20000:Int)<a.size:=af
 have c:Hid (dp (ba a)=([],3,-1)):=Z (by unfold dp;rw[dU,if_pos d]);generalize dp (ba a)=j at c⊢;go_enter_defers func44,ntmps44
 go_wp2;go_step3
 go_wp2;rw[Exit.noGoto_ret];have i:=c.out;subst i;refine⟨.tuple #[ab,J 3,J (-1)],?_,⟨none,0,0⟩,rfl,⟨aD.none_ _ _ _,(λ_ _ h=>by cases h),Nat.le_refl _,(λ_ h=>by cases h),by simp⟩,(((ag.refl b).alloc _).alloc _).alloc _⟩;simp[results,results44,go_sem]
theorem IJ (d:av) (w:ah) (C:d.size<=20000):Calls prog 44 #[d] w λe q=>jg w (dp (ba d)) e q:=by
 have ar:∀(ar:Fn) (first cap:aQ) (w:ah),(Instr.makeFunc ar first cap).run prog w=.ok (.func ar first cap) w:=λ_ _ _ _=>rfl;obtain⟨aE,aG,aI,aK,aL⟩:=info_parts Tryz.IG;have K:Hid (dp (ba d)=gW (d.size+1) ((ba d).drop (cU false (ba d))) (cU false (ba d)) []):=Z (by unfold dp;rw[dU,if_neg (by omega)]);have Q:=od (ba d) false;rw[dU]at Q;generalize dp (ba d)=R at K⊢;have ar:¬(20000:Int)<d.size:=by omega
 have S:=Z (IH d w);have au:=Z (vT (w.heap.size+1+1+1) d 0 _ C af S.out.bS);go_enter_defers func44,ntmps44
 go_wp2_with fail
 go_step3
 go_wp2_with fail
 refine au.out.mono ?_;rintro e ar ⟨rfl,hb,v⟩;rw[List.drop_zero,Nat.zero_add]at hb;have x:=Z (S.out.move v hb Q);clear hb v S au;go_wp2_with fail
 go_step3
 go_wp2_with fail
 go_loopg [] (d.size+1) (λk wr=>∃(a:Nat) (g:List ao) (A:aT) (n c:Nat),Hid (dT w wr d a A n c g)/\d.size-a<k/\Hid (R=gW k ((ba d).drop a) a g))
 case atStart=>exact⟨_,[],none,0,0,x,by omega,K⟩
 obtain⟨a,l,A,n,c,I,v,s⟩:=hrel;clear x K Q;obtain⟨f,rfl⟩:∃f,gk=f+1:=⟨gk-1,by omega⟩;have K:d.size-a<f+1:=v;have aM:=Z K;clear v K;have z:ae wr (ac (w.heap.size+1+1+1) 1) a:=aa.cell I.out.bS 1;have K:=I.out.pS;have K:=I.out.few;by_cases F:a<d.size
 case neg=>
  have g:¬(a:Int)<d.size:=af
  have kU:=Z (show R=(l,0,0) by rw[s.out,List.drop_of_length_le qz];rfl);clear s;have N:ae wr (aq w 0) (O A n c):=aa.cell I.out.bT 0;have g:ae wr (ac (w.heap.size+1) 0) (J 0):=aa.cell I.out.bE 0;have g:ae wr (ac (w.heap.size+1+1) 0) (J 0):=aa.cell I.out.bA 0;have j:=λg=>aa.frozen I.out.bT g;have j:=λg=>aa.frozen I.out.bE g;have g:=λg=>aa.frozen I.out.bA g;go_wp2;try rw[Exit.noGoto_ret]
  have hre:=kU.out;subst hre;refine leaves_cons (f:=80) (args:=#[ak w.heap.size,ak (w.heap.size+1),ak (w.heap.size+1+1)]) aj kN ?_;exact ID I.out.fin _ rfl rfl rfl
 have K:(a:Int)<d.size:=af
 obtain⟨j,K⟩:∃j,j=(ba d).drop a:=⟨_,rfl⟩;have T:=Z (show j.length=d.size-a by rw[K,gj]);have aw:=Z (show R=kT f j a l (jV 0 j) by rw[s.out,K,lq d a F];exact zo f _ _ a l);have G:=Z K;clear s K;have aN:ae wr (ac (w.heap.size+1+1+1+1) 0) (.func (.func 81) #[ak (w.heap.size+1+1+1)] #[]):=aa.cell I.out.bK 0;have aO:ae wr (ac (w.heap.size+1+1+1+1) 1) (.func (.func 82) #[ak (w.heap.size+1+1+1)] #[]):=aa.cell I.out.bK 1;have aS:ae wr (ac (w.heap.size+1+1+1+1) 2) (.func (.func 83) #[ak (w.heap.size+1+1+1)] #[]):=aa.cell I.out.bK 2;have aU:ae wr (ac (w.heap.size+1+1+1+1) 3) (.func (.func 84) #[ak (w.heap.size+1+1+1)] #[]):=aa.cell I.out.bK 3;go_upto_region 8 with(fail)
 go_wp2_with fail
 clear aN aO aS aU;go_loopg [39] 5 (λk o u=>∃g:Nat,o=.int .i64 g/\g<=4/\4-g<k/\Hid (dT w u d a A n c l)/\Hid (R=kT f j a l (jV g j)))
 case atStart=>exact⟨0,rfl,by omega,by omega,I,aw⟩
 obtain⟨g,rfl,a7,ay,I,s⟩:=hrel;obtain⟨U,rfl⟩:∃U,gk=U+1:=⟨gk-1,by omega⟩;have aV:=Z ay;clear aw ay;by_cases aW:g<4
 case neg=>
  obtain rfl:g=4:=af
  have z:ae wr (ac (w.heap.size+1+1+1) 1) a:=aa.cell I.out.bS 1;have kU:=Z (show R=([],5,(a:Int))from s.out);clear s;go_wp2_with (go_at_call 86;refine(ke (w.heap.size+1+1+1) 5 a _ z).mono ?_;rintro e o ⟨rfl,rfl⟩)
  try rw[Exit.noGoto_panic]
  have hre:=kU.out;subst hre;refine leaves_cons (f:=80) (args:=#[ak w.heap.size,ak (w.heap.size+1),ak (w.heap.size+1+1)]) aj kN ?_;exact rH I.out (5) (a) _ rfl rfl rfl
 have K:(g:Int)<4:=af
 have E1:=Z (show R=kT f j a l ((m8 g j).or (jV (g+1) j)) by rw[s.out,zl g aW]);have HF:=Z (IB g j (by rw[T.out];omega) (by intro h;have:=T.out;rw[h]at this;simp at this;omega));obtain⟨r,K⟩:∃r,r=m8 g j:=⟨_,rfl⟩;rw[<-K]at E1 HF;have HR:=Z K;clear s K;go_upto_region 10 with(fail)
 go_cut [8,39]from 39 to 73 (λo s u=>s=.int .i64 g/\u=wr/\Hid ((g=0/\o=.func (.func 81) #[ak (w.heap.size+1+1+1)] #[])\/(g=1/\o=.func (.func 82) #[ak (w.heap.size+1+1+1)] #[])\/(g=2/\o=.func (.func 83) #[ak (w.heap.size+1+1+1)] #[])\/(g=3/\o=.func (.func 84) #[ak (w.heap.size+1+1+1)] #[])))
 case first=>
  have o:g=0\/g=1\/g=2\/g=3:=af
  rcases o with rfl|rfl|rfl|rfl
  ·have s:∀o,(Instr.index 184 (.agg #[.func (.func 81) #[ak (w.heap.size+1+1+1)] #[],.func (.func 82) #[ak (w.heap.size+1+1+1)] #[],.func (.func 83) #[ak (w.heap.size+1+1+1)] #[],.func (.func 84) #[ak (w.heap.size+1+1+1)] #[]]) (J ((0:Nat):Int))).run prog o=.ok (.func (.func 81) #[ak (w.heap.size+1+1+1)] #[]) o:=λ_=>by kernel_rfl
   have o:∀o,(Instr.index 184 (.agg #[.func (.func 81) #[ak (w.heap.size+1+1+1)] #[],.func (.func 82) #[ak (w.heap.size+1+1+1)] #[],.func (.func 83) #[ak (w.heap.size+1+1+1)] #[],.func (.func 84) #[ak (w.heap.size+1+1+1)] #[]]) (J 0)).run prog o=.ok (.func (.func 81) #[ak (w.heap.size+1+1+1)] #[]) o:=λ_=>by kernel_rfl
   go_wp2_with fail
   go_meet;exact⟨rfl,rfl,Z aj⟩
  ·have s:∀o,(Instr.index 184 (.agg #[.func (.func 81) #[ak (w.heap.size+1+1+1)] #[],.func (.func 82) #[ak (w.heap.size+1+1+1)] #[],.func (.func 83) #[ak (w.heap.size+1+1+1)] #[],.func (.func 84) #[ak (w.heap.size+1+1+1)] #[]]) (J ((1:Nat):Int))).run prog o=.ok (.func (.func 82) #[ak (w.heap.size+1+1+1)] #[]) o:=λ_=>by kernel_rfl
   have o:∀o,(Instr.index 184 (.agg #[.func (.func 81) #[ak (w.heap.size+1+1+1)] #[],.func (.func 82) #[ak (w.heap.size+1+1+1)] #[],.func (.func 83) #[ak (w.heap.size+1+1+1)] #[],.func (.func 84) #[ak (w.heap.size+1+1+1)] #[]]) (J 1)).run prog o=.ok (.func (.func 82) #[ak (w.heap.size+1+1+1)] #[]) o:=λ_=>by kernel_rfl
   go_wp2_with fail
   go_meet;exact⟨rfl,rfl,Z aj⟩
  ·have s:∀o,(Instr.index 184 (.agg #[.func (.func 81) #[ak (w.heap.size+1+1+1)] #[],.func (.func 82) #[ak (w.heap.size+1+1+1)] #[],.func (.func 83) #[ak (w.heap.size+1+1+1)] #[],.func (.func 84) #[ak (w.heap.size+1+1+1)] #[]]) (J ((2:Nat):Int))).run prog o=.ok (.func (.func 83) #[ak (w.heap.size+1+1+1)] #[]) o:=λ_=>by kernel_rfl
   have o:∀o,(Instr.index 184 (.agg #[.func (.func 81) #[ak (w.heap.size+1+1+1)] #[],.func (.func 82) #[ak (w.heap.size+1+1+1)] #[],.func (.func 83) #[ak (w.heap.size+1+1+1)] #[],.func (.func 84) #[ak (w.heap.size+1+1+1)] #[]]) (J 2)).run prog o=.ok (.func (.func 83) #[ak (w.heap.size+1+1+1)] #[]) o:=λ_=>by kernel_rfl
   go_wp2_with fail
   go_meet;exact⟨rfl,rfl,Z aj⟩
  have s:∀o,(Instr.index 184 (.agg #[.func (.func 81) #[ak (w.heap.size+1+1+1)] #[],.func (.func 82) #[ak (w.heap.size+1+1+1)] #[],.func (.func 83) #[ak (w.heap.size+1+1+1)] #[],.func (.func 84) #[ak (w.heap.size+1+1+1)] #[]]) (J ((3:Nat):Int))).run prog o=.ok (.func (.func 84) #[ak (w.heap.size+1+1+1)] #[]) o:=λ_=>by kernel_rfl
  have o:∀o,(Instr.index 184 (.agg #[.func (.func 81) #[ak (w.heap.size+1+1+1)] #[],.func (.func 82) #[ak (w.heap.size+1+1+1)] #[],.func (.func 83) #[ak (w.heap.size+1+1+1)] #[],.func (.func 84) #[ak (w.heap.size+1+1+1)] #[]]) (J 3)).run prog o=.ok (.func (.func 84) #[ak (w.heap.size+1+1+1)] #[]) o:=λ_=>by kernel_rfl
  go_wp2_with fail
  go_meet;exact⟨rfl,rfl,Z aj⟩
 case rest=>
 obtain⟨rfl,az,aX⟩:=hcut;have aY:=az.symm;subst aY;clear az;go_upto_region 11 with(fail)
 go_cut [9,10,39]from 39 to 73 (λu y B s=>∃(o:Nat) (k:Int) (t:bw) (m:Int) (len:Nat),B=.int .i64 g/\u=.pointer (some ⟨o,0,none⟩)/\y=.int .i64 len/\w.heap.size+5<=o/\(∀b,(Value.slice A n c).ownBlock=some b->b<o)/\Hid (dT w s d a A n c l)/\Hid (aa s o 188 #[k,.string (d1 t),m,J 0])/\Hid ((len=0/\R=kT f j a l (jV (g+1) j))\/(tZ j t m len/\R=kT f j a l (.tok k t m len))))
 case first=>
  rcases aX.out with⟨rfl,rfl⟩|⟨rfl,rfl⟩|⟨rfl,rfl⟩|⟨rfl,rfl⟩
  ·have HC:Hid (Calls prog 81 #[ak (w.heap.size+1+1+1)] wr λe q=>lu a wr r e q):=Z (by rw[HR.out,G.out];exact Cj (w.heap.size+1+1+1) d a wr C F I.out.bS)
   exact t6
  ·have HC:Hid (Calls prog 82 #[ak (w.heap.size+1+1+1)] wr λe q=>lu a wr r e q):=Z (by rw[HR.out,G.out];exact Cv (w.heap.size+1+1+1) d a wr C F I.out.bS)
   exact t6
  ·have HC:Hid (Calls prog 83 #[ak (w.heap.size+1+1+1)] wr λe q=>lu a wr r e q):=Z (by rw[HR.out,G.out];exact F5 (w.heap.size+1+1+1) d a wr C F I.out.bS)
   exact t6
  have HC:Hid (Calls prog 84 #[ak (w.heap.size+1+1+1)] wr λe q=>lu a wr r e q):=Z (by rw[HR.out,G.out];exact Cw (w.heap.size+1+1+1) d a wr C F I.out.bS);clear HR;cases r with
  |none=>
   go_wp2_with fail
   refine HC.out.mono ?_;rintro e w2 ⟨s2,hm⟩;obtain⟨k,t,m,rfl⟩:∃k t m,e=.returned (.tuple #[.agg #[.int .i64 k,.string (d1 t),.int .i64 m,J 0],J 0]):=hm;have I2:=Z (I.out.same s2);have hz2:w.heap.size+5<=w2.heap.size:=bL I.out.bK.lt s2.size;have ho2:∀b,(Value.slice A n c).ownBlock=some b->b<w2.heap.size:=λb hb=>aR (I.out.rI b hb) s2.size;clear s2 HC;go_wp2_with fail
   go_meet;exact⟨_,k,t,m,0,rfl,rfl,rfl,hz2,ho2,Z (I2.out.same ((ag.refl _).alloc _)),Z (aa.new _ _ _),Z (.inl ⟨rfl,E1.out⟩)⟩
  |tok k t m len=>
   go_wp2_with fail
   refine HC.out.mono ?_;rintro e w2 ⟨s2,hm⟩;obtain rfl:e=.returned (.tuple #[.agg #[k,.string (d1 t),m,J 0],len]):=hm;have I2:=Z (I.out.same s2);have hz2:w.heap.size+5<=w2.heap.size:=bL I.out.bK.lt s2.size;have ho2:∀b,(Value.slice A n c).ownBlock=some b->b<w2.heap.size:=λb hb=>aR (I.out.rI b hb) s2.size;clear s2 HC;go_wp2_with fail
   go_meet;exact⟨_,k,t,m,len,rfl,rfl,rfl,hz2,ho2,Z (I2.out.same ((ag.refl _).alloc _)),Z (aa.new _ _ _),Z (.inr ⟨HF.out k t m len rfl,E1.out⟩)⟩
  |bad er=>
   go_wp2_with fail
   refine HC.out.mono ?_;rintro e w2 ⟨s2,rfl⟩;have I2:=Z (I.out.same s2);have kU:=Z (show R=([],er,(a:Int))from E1.out);clear s2 HC E1 HF;go_wp2_with fail
   try rw[Exit.noGoto_panic]
   have hre:=kU.out;subst hre;refine leaves_cons (f:=80) (args:=#[ak w.heap.size,ak (w.heap.size+1),ak (w.heap.size+1+1)]) aj kN ?_;exact rH I2.out (er) (a) _ rfl rfl rfl
 obtain⟨u,k,t,m,len,rfl,rfl,rfl,aZ,a0,I,B,L⟩:=hcut;clear E1 HF HR;obtain⟨w2,rfl⟩:∃w2:World,w2=wc:=⟨_,rfl⟩;have q:IntKind.i64.wrap ((g:Int)+1)=(g:Int)+1:=IntWalk.i64_in _ af;by_cases V:len=0
 case pos=>
  have q:((len:Int)==0)=true:=by simp[V]
  have o:=Z (show R=kT f j a l (jV (g+1) j) by
   rcases L.out with⟨_,h⟩|⟨h,_⟩
   ·exact h
   have:=h.l1;omega)
  clear L V;go_wp2_with fail
  go_roundg U
  case measure=>omega
  exact⟨g+1,by go_num,by omega,omg aV,I,o⟩
 have g:((len:Int)==0)=false:=aF
 have y:=Z (show tZ j t m len/\R=kT f j a l (.tok k t m len) by
  rcases L.out with⟨h,_⟩|h
  ·exact absurd h V
  exact h)
 clear L;have z:ae w2 (ac (w.heap.size+1+1+1) 1) a:=aa.cell I.out.bS 1;have W:ae w2 (aq w 0) (O A n c):=aa.cell I.out.bT 0;have g:=I.out.len;by_cases a1:n=5000
 case pos=>
  have g:((n:Int)==5000)=true:=by simp[a1]
  have kU:=Z (show R=([],3,(a:Int)) by rw[y.out.2];exact if_pos af);clear y;go_wp2_with (go_at_call 86;refine(ke (w.heap.size+1+1+1) 3 a _ z).mono ?_;rintro e g ⟨rfl,rfl⟩)
  try rw[Exit.noGoto_panic]
  have hre:=kU.out;subst hre;refine leaves_cons (f:=80) (args:=#[ak w.heap.size,ak (w.heap.size+1),ak (w.heap.size+1+1)]) aj kN ?_;exact rH I.out (3) (a) _ rfl rfl rfl
 have g:((n:Int)==5000)=false:=aF
 have X:ae w2 (ac u 0) k:=aa.cell B.out 0;have Y:ae w2 (ac u 1) (.string (d1 t)):=aa.cell B.out 1;have ab:ae w2 (ac u 2) m:=aa.cell B.out 2;have ad:ae w2 (ac u 3) (J 0):=aa.cell B.out 3;have a2:=λH=>aa.frozen B.out H;have x:=Z (I.out.IE (i:=3) aZ a0 a);have D:=Z (aa.aP B.out 3 a);go_upto_region 16 with(fail)
 generalize w2.setCell (ac u 3) a=o at x D⊢;clear X Y ab ad a2 z W I B;have X:ae o (ac u 0) k:=aa.cell D.out 0;have Y:ae o (ac u 1) (.string (d1 t)):=aa.cell D.out 1;have ab:ae o (ac u 2) m:=aa.cell D.out 2;have ad:ae o (ac u 3) a:=aa.cell D.out 3;have W:ae o (aq w 0) (O A n c):=aa.cell x.out.bT 0;have I2:=Z (x.out.same ((ag.refl o).alloc (.cells #[k,.string (d1 t),m,a] 188)));have aA:=Z (cJ o #[k,.string (d1 t),m,a] 188 4 rfl);have g:w.heap.size+5<=o.heap.size:=x.out.bK.lt;go_upto_region 17 with(at_builtin;refine ev _ rfl (.tmp 59) (.tmp 61) 121 rfl (w.heap.size+5) 188 aE _ 4 40 underlying121 aG aI aK aL rfl ax (O A n c) n (l.flatMap ao.cells) rfl I2.out.own (o.heap.size+1) (some ⟨o.heap.size,0,none⟩) 1 1 (#[k,.string (d1 t),m,a]:Array Value).toList rfl aA.out bn b9 af aF ?_;intro g al E M ai;obtain⟨am,N,rfl,aB⟩:=bu E;have an:=Z E;have ap:=Z M;have P:=Z (aa.grown I2.out.bT M (λe=>by have:=I2.out.IF _ e.symm;omega));have aC:ae al (aq w 0) (O A n c):=aa.cell P.out 0;have aD:=(λH=>aa.frozen P.out H);clear E M ai)
 have E:=Z (dT.push I2.out ⟨k,d1 t,m,(a:Int)⟩ ⟨by unfold aJ;have:=y.out.1.t1;rw[<-dU,lX];omega,y.out.1.n0,y.out.1.n1,by show(0:Int)<=a;omega,by show(a:Int)<=20000;omega⟩ af ap.out an.out);clear X Y ab ad W x D I2 aA an ap P aC aD aB;generalize al.setCell (aq w 0) (O am (n+1) N)=ai at E⊢;have z:ae ai (ac (w.heap.size+1+1+1) 1) a:=aa.cell E.out.bS 1;have a3:=λH=>aa.frozen E.out.bS H;have g:=y.out.1.l2;rw[T.out]at g;have g:IntKind.i64.wrap ((a:Int)+len)=(a:Int)+len:=IntWalk.i64_in _ af;have g:((a:Int)+len)=((a+len:Nat):Int):=by omega
 have M:=Z (E.out.move (a':=a+len) (Kp.aH (p:=(ac (w.heap.size+1+1+1) 1)) aj (Kp.refl _ ai) (J ((a:Int)+len))) (by have:=aa.aP E.out.bS 1 (J ((a:Int)+len));rw[g]at this⊢;exact this) af);clear g;go_upto_region 18 with(fail)
 generalize ai.setCell (ac (w.heap.size+1+1+1) 1) (J ((a:Int)+len))=a4 at M⊢;clear z a3 E;go_wp2_with fail
 refine(vT (w.heap.size+1+1+1) d (a+len) a4 C af M.out.bS).mono ?_;rintro e g ⟨rfl,hb,v⟩;have g:=od ((ba d).drop (a+len)) false;rw[gj]at g;have a5:=Z (M.out.move v hb af);have a6:=Z (show R=gW f ((ba d).drop (a+len+cU false ((ba d).drop (a+len)))) (a+len+cU false ((ba d).drop (a+len))) (l++[⟨k,d1 t,m,(a:Int)⟩]) by
  rw[y.out.2];refine(if_neg af).trans ?_;rw[G.out,show((ba d).drop a).drop len=(ba d).drop (a+len)from List.drop_drop,List.drop_drop])
 have d:=y.out.1.l1;clear hb v M;go_wp2_with fail
 go_roundg f
 case measure=>omega
 exact⟨_,_,am,n+1,N,a5,omg aM,a6⟩
theorem zp (a:av) (w:ah) (b:aJ a):Calls prog 44 #[a] w λc d=>jg w (dp (ba a)) c d:=by
 by_cases h:20000<a.size
 ·exact II a w h b
 exact IJ a w af
theorem Tryz.t7:(prog.info? 95).map (λi=>(i.zero,i.size,i.bytes))=some (some (.agg zaa),25,408):=am
theorem lR (z:Int) (ts:List ao) (n:Nat) (h:ts.length<=n):(gz z ts).Le n:=
 (dK z ts n h).bind λ_ _ h=>(b8 z _ _ n h).bind λ_ _ h=>(dK z _ n h).bind λ_ _ h=>.ok h
theorem zq (z:Int) (a:aE) (ts:List ao) (n:Nat) (h:ts.length<=n):(hU z a ts).Le n:=
 (b8 z _ _ n h).bind λ_ _ h=>(dK z _ n h).bind λ_ _ h=>(b8 z _ _ n h).bind λ_ _ h=>(sd z _ n h).bind λ_ _ h=>(b8 z _ _ n h).bind λ_ _ h=>.ok h
theorem t8 (z:Int):∀(a:Nat) (b:List cL) (ts:List ao) (n:Nat),ts.length<=n->(hT z a b ts).Le n
 |0,_,_,_,h=>.ok h
 |a+1,b,ts,n,h=>.ite (.ok h) ((BR z ts n h).bind λb b h=>t8 z a _ b n h)
theorem IK (z:Int) (a:aE) (ts:List ao) (n:Nat) (h:ts.length<=n):(el z a ts).Le n:=by
 unfold el;refine .ite ?_ (.ite ?_ (.ite ?_ (.ite ?_ (.ite ?_ (.ite ?_ (.ite ?_ (.ite ?_ (.ite ?_ ?_))))))))
 ·exact(b8 z _ _ n h).bind λ_ _ h=>(ml _ _ (se z) _ n h).bind λ_ _ h=>(b8 z _ _ n h).bind λ_ _ h=>(sd z _ n h).bind λ_ _ h=>.ok h
 ·exact(b8 z _ _ n h).bind λ_ _ h=>(fw z _ n h).bind λ_ _ h=>.ok h
 ·exact(b8 z _ _ n h).bind λ_ _ h=>(lR z _ n h).bind λ_ _ h=>(b8 z _ _ n h).bind λ_ _ h=>(iH z _ _ n h).bind λ_ _ h=>
   .ite ((fw z _ n h).bind λ_ _ h=>.ok h) (.ite ((fw z _ n h).bind λ_ _ h=>(fw z _ n h).bind λ_ _ h=>.ok h) (.ok h))
 ·exact(b8 z _ _ n h).bind λ_ _ h=>(dK z _ n h).bind λ_ _ h=>(b8 z _ _ n h).bind λ_ _ h=>(fw z _ n h).bind λ_ _ h=>(b8 z _ _ n h).bind λ_ _ h=>(t8 z _ _ _ n h).bind λ_ _ h=>.ok h
 ·exact(lR z _ n h).bind λ_ _ h=>(b8 z _ _ n h).bind λ_ _ h=>(iH z _ _ n h).bind λ_ _ h=>.ok h
 ·exact zq z a ts n h
 ·exact(zq z a ts n h).bind λ_ _ h=>(b8 z _ _ n h).bind λ_ _ h=>(dK z _ n h).bind λ_ _ h=>.ite ((ml _ _ (sf z) _ n (iG h)).bind λ_ _ h=>.ok h) (.ok h)
 ·exact(lR z _ n h).bind λ_ _ h=>(b8 z _ _ n h).bind λ_ _ h=>(lR z _ n h).bind λ_ _ h=>.ok h
 ·exact(ml _ _ (sg z) _ n h).bind λ_ _ h=>(qt z _ n h).bind λ_ _ h=>.ok h
 exact(b8 z _ _ n h).bind λ_ _ h=>(BW z _ _ n h).bind λ_ _ h=>.ok h
theorem IL (z:Int) (a:ao) (l:List ao):(iC z (a::l)).Le l.length:=by
 unfold iC;refine PO.Le.bind (n:=l.length) ?_ λa a h=>PO.Le.bind (.ite (.ok h) (dK z a _ h)) λb a h=>(IK z _ a _ h).bind λb a h=>(b8 z _ a _ h).bind λ_ a h=>.ok h;unfold dP;split
 ·exact .ok (Nat.le_refl _)
 exact oV _ _ _ _
structure jh (w:ah) (base:Nat) (A:aT) (n c:Nat) (rs:List RI):Prop where
 own:w.ownsRow base 95 25 (O A n c) n (rs.flatMap RI.cells)
 len:rs.length=n
 sub:∀r∈rs,cz w (λb=>Bw base w.heap.size b/\∀g,A=some ⟨g,0,none⟩->b≠g) r
theorem jh.none_ (w:ah) (base:Nat):jh w base none 0 0 []:=⟨⟨rfl,.inl ⟨rfl,rfl⟩⟩,rfl,λ_ h=>by cases h⟩
theorem jh.keep {w d:ah} {base:Nat} {A:aT} {n c:Nat} {rs:List RI} (b:jh w base A n c rs) {l:List Nat} (k:Kp l w d) (e:∀a∈l,a<base):jh d base A n c rs:=
 ⟨bD b.own k e,b.len,λd f=>((b.sub d f).keep k (λa b h=>by have:=e a b;have:=h.1.1;omega)).mono (λa h=>⟨⟨h.1.1,aR h.1.2 k.size⟩,h.2⟩)⟩
theorem jh.push {w W f:ah} {base P:Nat} {A i:aT} {n c c':Nat} {rs:List RI} {r:RI} (a:jh w base A n c rs) (k:Kp [P] w W) (q:P<base) (q:base<=w.heap.size)
 (l:cz W (Bw w.heap.size W.heap.size) r) (j:f.ownsRow base 95 25 (O i (n+1) c') (n+1) (rs.flatMap RI.cells++r.cells)) (d:W.grownBy f (Value.slice A n c).ownBlock)
 (hat:(Value.slice i (n+1) c').ownBlock=(Value.slice A n c).ownBlock\/(Value.slice i (n+1) c').ownBlock=some W.heap.size):jh f base i (n+1) c' (rs++[r]):=by
 rcases j.2 with⟨h,_⟩|⟨g,s,u,e,v,y,z,B,C,D⟩
 ·cases h
 injection e with e1 e2 e3
 subst e1 e3;have hform:∀b,(Value.slice A n c).ownBlock=some b->A=some ⟨b,0,none⟩/\base<=b/\b<w.heap.size:=by
  intro b hb';rcases a.own.2 with⟨e,_⟩|⟨g',E,m,e,o,p,_⟩
  ·rw[e]at hb';cases hb'
  rw[e]at hb';injection hb' with hb'
  injection e with e1
  subst e1;have:g'=b:=hb';subst this;exact⟨rfl,o,aa.lt (t:=95) (cs:=m) p⟩
 have m:Kp ((Value.slice A n c).ownBlock.toList) W f:=⟨d.os,d.tape,d.output,d.size,λb hb' hne=>d.block b hb' (λhe=>hne (by rw[<-he];simp))⟩;have o:g<W.heap.size->(Value.slice A n c).ownBlock=some g:=by
  exact wg
 have hold:∀(e i:Nat->Prop) (x:RI),cz W e x->(∀b,e b->b<W.heap.size/\(Value.slice A n c).ownBlock≠some b)->(∀b,e b->i b)->cz f i x:=by
  intro e i x e hS p;exact(e.keep m (λb hb' h=>(hS b h).2 (by
   cases fD:(Value.slice A n c).ownBlock with
   |none=>rw[fD]at hb';simp at hb'
   |some E=>rw[fD]at hb';simp at hb';rw[hb']))).mono p
 have sE:=k.size;have d:=d.size;have hne:∀b,b<W.heap.size->(Value.slice A n c).ownBlock≠some b->b≠g:=λb d e he=>e (he▸o (he▸d));refine⟨?_,by rw[List.length_append,a.len];rfl,λx p=>?_⟩
 ·rw[List.flatMap_append]
  simpa using j
 rcases cP p with h|h
 ·exact wh
 rw[aB h];refine hold (Bw w.heap.size W.heap.size) _ r l (λb hS=>⟨hS.2,λhe=>by have:=(hform b he).2.2;have:=hS.1;omega⟩) (λb hS=>⟨⟨by have:=hS.1;omega,by have:=hS.2;omega⟩,λg' hg'=>?_⟩);injection hg' with hg'
 injection hg' with hg'
 subst hg';exact hne b hS.2 (λhe=>by have:=(hform b he).2.2;have:=hS.1;omega)
theorem az.one {W:ah} {P:Nat} {z:Int} {e:List ao} (h:az W P z e) {a:Nat} {j:aX} {v:aA} (k:aa W a j #[v]) (l:a≠P) (u:aA):az (W.setCell (ac a 0) u) P z e:=by
 obtain⟨m,n,b⟩:=h;have c:Kp [a] W (W.setCell (ac a 0) u):=Kp.aH (p:=(ac a 0)) aj (Kp.refl _ W) _;refine⟨m,c.blk n (by simp;exact λd=>l d.symm),⟨⟨b.lies.1,b.lies.2.1,λi e=>?_⟩,b.far,b.cap,b.fine,b.few⟩⟩;obtain⟨d,off,b,f,g⟩:=b.lies.2.2 i e;refine⟨d,off,b,aR f c.size,λo q r=>?_⟩;have s:d≠a:=by
  intro t;subst t;have h1:=g 1 _ rfl;have h2:=aa.cell k (off+i*4+1);rw[show(off+i*4+1)=off+(i*4+1) by omega]at h2;rw[<-Nat.add_assoc]at h2;exact zr
 exact(c.cell (p:=⟨d,_,none⟩) f (by simpa using s)).trans (g o q r)
theorem ua {P:Program} {b:Func} {g i:aQ} {j:Ending->World->Prop} (h:results b g=results b i):∀(a:List Deferred) (e:FrameMode) (w:ah),Leaves P b g j a e w->Leaves P b i j a e w
 |[],.returning,w,hl=>by obtain⟨f,k,l⟩:=hl;exact⟨f,by rw[<-h];exact k,l⟩
 |[],.panicking _,w,hl=>hl
 |[],.run,_,hl=>hl
 |d::a,e,w,hl=>by
  obtain⟨k,l,m,n,o,p,q,r⟩:=hl;refine⟨k,l,m,n,o,p,q,r.mono ?_⟩;intro s b b f;cases s with
  |returned t=>exact ua h a _ _ f
  |panicked c=>exact ua h a _ _ f
  |outgrown=>exact f
theorem ub {b:aQ} {c a:Nat} {e d:aA} (h:c≠a):(b.setIfInBounds c e).getD a d=b.getD a d:=by
 simp only[Array.getD_eq_getD_getElem?,Array.getElem?_setIfInBounds_ne h]
theorem IM (a:aQ) (b:Nat) (c:aA) (d:b≠2) (e:b≠3) (f:b≠4):results Tryz.f26 (a.setIfInBounds b c)=results Tryz.f26 a:=by
 unfold results;rw[results26];have d:(a.setIfInBounds b c).getD 2 undef=a.getD 2 undef:=ub d;have e:(a.setIfInBounds b c).getD 3 undef=a.getD 3 undef:=ub e;have a:(a.setIfInBounds b c).getD 4 undef=a.getD 4 undef:=ub f;simp only[List.mapM_toArray,List.mapM_cons,List.mapM_nil,d,e,a]
theorem rJ {b:Ending->World->Prop} (i:Nat) (v:aA) (d:i≠2) (e:i≠3) (f:i≠4) (c:List PanicEntry) (a:Act) (w:ah) (h:bodyPostD prog Tryz.f26 b (.panic c) (a.put (some i) v) w):bodyPostD prog Tryz.f26 b (.panic c) a w:=
 ua (IM a.tmps i v d e f) _ _ _ h
theorem eH.zt {W:ah} {P:Nat} {h:Hd} {d:List ao} (a:eH W P h d) {b:Nat} {e:aX} {v:aA} (k:aa W b e #[v]) (e:aA):eH (W.setCell (ac b 0) e) P h d:=by
 have f:Kp [b] W (W.setCell (ac b 0) e):=Kp.aH (p:=(ac b 0)) aj (Kp.refl _ W) _;refine⟨⟨a.lies.1,a.lies.2.1,λi d=>?_⟩,a.far,a.cap,a.fine,a.few⟩;obtain⟨c,off,a,g,j⟩:=a.lies.2.2 i d;refine⟨c,off,a,aR g f.size,λl m n=>?_⟩;have o:c≠b:=by
  intro q;subst q;have h1:=j 1 _ rfl;have h2:=aa.cell k (off+i*4+1);exact zr
 exact(f.cell (p:=⟨c,_,none⟩) g (by simpa using o)).trans (j l m n)
theorem eH.up {W:ah} {P b:Nat} {h:Hd} {c:List ao} (a:eH W P h c) (d:P<=b):eH W b h c:=⟨a.lies,λb c e f=>aR (a.far b c e f) d,a.cap,a.fine,a.few⟩
theorem pT:∀(b e:bw) (n:Nat) (a:Int),di b e n=.bad a->a≠0
 |[],_,_,_,h=>by rw[FZ]at h;injection h with h;omega
 |c::b,e,n,a,h=>by
  rw[di.eq_def]at h;simp only at h;split at h
  ·split at h
   ·injection h with h;omega
   cases h
  split at h
  ·injection h with h;omega
  split at h
  ·split at h
   ·injection h with h;omega
   rename_i e d
   split at h
   ·exact pT d _ _ a h
   split at h
   ·exact pT d _ _ a h
   split at h
   ·exact pT d _ _ a h
   injection h with h;omega
  exact pT b _ _ a h
theorem IN (b:Nat) (c:bw) (a:Int) (h:m8 b c=.bad a):a≠0:=by
 unfold m8 at h;split at h
 ·unfold iJ at h;split at h
  ·split at h
   ·injection h with h;omega
   cases h
  cases h
 split at h
 ·unfold iK at h;split at h
  ·cases h
  split at h
  ·injection h with h;omega
  cases h
 split at h
 ·unfold h7 at h;split at h
  ·exact pT _ _ _ a h
  cases h
 unfold gE at h;split at h
 ·cases h
 split at h<;>cases h
theorem zu:∀(d a:Nat),a+d=4->∀(b:bw) (c:Int),jV a b=.bad c->c≠0
 |0,a,hj,b,c,h=>by
  obtain rfl:a=4:=af
  have:jV 4 b=.bad 5:=rfl;rw[this]at h;injection h with h;omega
 |d+1,a,hj,b,c,h=>by
  rw[zl a af]at h;unfold Rd.or at h;split at h
  ·exact zu d (a+1) af b c h
  exact IN a b c h
theorem zv:∀(a:Nat) (b:bw) (d:Nat) (ts:List ao),(gW a b d ts).2.1=0->(gW a b d ts).2.2=0
 |0,_,_,_,_=>rfl
 |_+1,[],_,_,_=>rfl
 |a+1,c::b,d,ts,h=>by
  rw[zo]at h⊢;unfold kT at h⊢;split at h
  ·simp at h
  ·rename_i d e
   exact absurd h (zu 4 0 rfl (c::b) d e)
  split at h
  ·simp at h
  rename_i b
  rw[if_neg b];exact zv a _ _ _ h
theorem zw (l:bw) (h:(dp l).2.1=0):(dp l).2.2=0:=by
 unfold dp at h⊢;split at h
 ·simp at h
 rename_i a
 rw[if_neg a];exact zv _ _ _ _ h
def fS (l:bw):PO (List aE):=if(dp l).2.1=0 then r9 l.length (dp l).1 else .bad (dp l).2.1 (dp l).2.2
theorem pU (z:Int) (f:Nat) (l:List aE) (a:ao) (ts:List ao):iE z (f+1) l (a::ts)=if l.length=200 then .bad 3 a.at_ else(iC z (a::ts)).bind λa b=>iE z f (l++[a]) b:=rfl
structure hH (w W:ah) (P:Nat) (z:Int) (ts:List ao) (A:aT) (n c:Nat) (rs:List RI):Prop where
 k:Kp [] w W
 bO:aa W w.heap.size 24 #[O A n c]
 bE:aa W (w.heap.size+1) 76 #[J 0]
 bA:aa W (w.heap.size+1+1) 3 #[J 0]
 pb:az W P z ts
 pl:w.heap.size+3<=P
 it:jh W (P+1) A n c rs
 few:n<=200
def ji (w:ah) (d:PO (List aE)) (c:Ending) (b:ah):Prop:=
 ag w b/\match d with
 |.ok xs _=>∃(h:Hd) (rs:List RI),c=.returned (.tuple #[.agg #[h.val],J 0,J 0])/\rs.map RI.it=xs/\aD b 25 h RI.cells rs/\(∀d∈rs,cz b (Bw w.heap.size b.heap.size) d)/\(∀d e,h.a=some ⟨d,e,none⟩->Bw w.heap.size b.heap.size d)
 |.bad er a=>c=.returned (.tuple #[.agg #[ab],er,a])
section
variable {w W W':ah} {P:Nat} {z:Int} {ts:List ao} {A:aT} {n c:Nat} {rs:List RI}
theorem hH.keep (a:hH w W P z ts A n c rs) {b:List ao} (k:Kp [P] W W') (d:az W' P z b):hH w W' P z b A n c rs:=
 have b:=a.pl
 ⟨k.old a.k (λb b e=>by simp at b;omega),k.blk a.bO aF,k.blk a.bE aF,k.blk a.bA aF,d,a.pl,a.it.keep k aj,a.few⟩
theorem hH.fin (a:hH w W P z ts A n c rs):hH w (((W.setCell (aq w 0) (O A n c)).setCell (ac (w.heap.size+1) 0) (J 0)).setCell (ac (w.heap.size+1+1) 0) (J 0)) P z ts A n c rs:=by
 have b:=a.pl;have b:Kp [w.heap.size,w.heap.size+1,w.heap.size+1+1] W (((W.setCell (aq w 0) (O A n c)).setCell (ac (w.heap.size+1) 0) (J 0)).setCell (ac (w.heap.size+1+1) 0) (J 0)):=
  Kp.aH (p:=(ac (w.heap.size+1+1) 0)) aj (Kp.aH (p:=(ac (w.heap.size+1) 0)) aj (Kp.aH (p:=(aq w 0)) aj (Kp.refl _ W) _) _) _
 exact⟨b.old a.k (λd d e=>by simp at d;omega),
  aa.far (aa.far (a.bO.aP 0 (O A n c)) (p:=(ac (w.heap.size+1) 0)) aG _) (p:=(ac (w.heap.size+1+1) 0)) aG _,
  aa.far ((aa.far a.bE (p:=(aq w 0)) aG _).aP 0 (J 0)) (p:=(ac (w.heap.size+1+1) 0)) aG _,
  (aa.far (aa.far a.bA (p:=(aq w 0)) aG _) (p:=(ac (w.heap.size+1) 0)) aG _).aP 0 (J 0),
  az.one (az.one (az.one a.pb a.bO af (O A n c)) (aa.far a.bE (p:=(aq w 0)) aG _) af (J 0)) (aa.far (aa.far a.bA (p:=(aq w 0)) aG _) (p:=(ac (w.heap.size+1) 0)) aG _) af (J 0),a.pl,a.it.keep b bb,a.few⟩
theorem hH.push {m e:ah} {t:List ao} {f:aT} {g:Nat} {r:RI} (i:hH w W P z ts A n c rs) (B:n<200) (k:Kp [P] W m) (u:az m P z t) (S:ag m W') (o:cz m (Bw W.heap.size m.heap.size) r)
 (v:e.ownsRow (P+1) 95 25 (O f (n+1) g) (n+1) (rs.flatMap RI.cells++r.cells)) (b:W'.grownBy e (Value.slice A n c).ownBlock)
 (x:(Value.slice f (n+1) g).ownBlock=(Value.slice A n c).ownBlock\/(Value.slice f (n+1) g).ownBlock=some W'.heap.size):
 hH w (e.setCell (aq w 0) (O f (n+1) g)) P z t f (n+1) g (rs++[r]):=by
 have m:=i.pl;have m:=i.pb.lt;have q:∀a,(Value.slice A n c).ownBlock=some a->P+1<=a:=by
  intro a d;rcases i.it.own.2 with⟨j,_⟩|⟨s,y,C,j,b,D,E⟩
  ·injection j with e1;subst e1;cases d
  rw[j]at d;injection d with d;subst d;exact b
 have s:∀a,a<P+1->some a≠(Value.slice A n c).ownBlock:=λa j o=>by have:=q a o.symm;omega
 have d:=(i.keep k u);have m:Kp [P] W W':=k.trans (Kp.of_same S);have y:=jh.push i.it m af af ((o.keep (Kp.of_same (l:=[]) S) (λ_ h=>by cases h)).mono (λa h=>⟨h.1,aR h.2 S.size⟩)) v b x;have m:=(d.bO.below S d.bO.lt).grown b (s _ af);have e:Kp [w.heap.size] e (e.setCell (aq w 0) (O f (n+1) g)):=Kp.aH (p:=(aq w 0)) aj (Kp.refl _ e) _;exact⟨(e.old (l':=[]) ((d.k.trans (Kp.of_same S)).grown b (λa j=>.inr (by have:=q a j;omega))) (λa j f=>by simp at j;omega)),m.aP 0 _,e.blk ((d.bE.below S d.bE.lt).grown b (s _ af)) aj,e.blk ((d.bA.below S d.bA.lt).grown b (s _ af)) bb,
  az.one ((u.same S).grown b (λa j=>by have:=q a j;omega)) m af _,i.pl,y.keep e bb,by omega⟩
theorem zx {d e f:aA} (g:Kp [] w W) (i:aa W w.heap.size 24 #[d]) (j:aa W (w.heap.size+1) 76 #[e]) (k:aa W (w.heap.size+1+1) 3 #[f]) (er at_:Int) (a:aQ) (l:a.getD 2 undef=.pointer (some ⟨w.heap.size,0,none⟩)) (m:a.getD 3 undef=.pointer (some ⟨w.heap.size+1,0,none⟩)) (n:a.getD 4 undef=.pointer (some ⟨w.heap.size+1+1,0,none⟩)):
 CallsD prog 45 #[ak w.heap.size,ak (w.heap.size+1),ak (w.heap.size+1+1)] (.panicking [{v:=gT er at_,recovered:=false}]) W (λ
  |.returned _,b,w'=>Leaves prog Tryz.f26 a (ji w (.bad er at_)) [] (settle b) w'
  |.panicked chain,b,w'=>Leaves prog Tryz.f26 a (ji w (.bad er at_)) [] (raised b chain) w'
  |.outgrown,_,w'=>ji w (.bad er at_) .outgrown w'):=by
 have o:a[2]?.getD undef=.pointer (some ⟨w.heap.size,0,none⟩):=by simpa using l
 have p:a[3]?.getD undef=.pointer (some ⟨w.heap.size+1,0,none⟩):=by simpa using m
 have q:a[4]?.getD undef=.pointer (some ⟨w.heap.size+1+1,0,none⟩):=by simpa using n
 refine(Ix w.heap.size (w.heap.size+1) (w.heap.size+1+1) _ _ _ er at_ [] W i j k af af af).mono ?_;rintro d b c ⟨rfl,rfl,r,s,t,u⟩;have x:ae c (aq w 0) ab:=aa.cell r 0;have y:ae c (ac (w.heap.size+1) 0) er:=aa.cell s 0;have z:ae c (ac (w.heap.size+1+1) 0) at_:=aa.cell t 0;show Leaves prog Tryz.f26 a (ji w (.bad er at_)) [] .returning c;refine⟨.tuple #[.agg #[ab],er,at_],?_,(u.old g (l':=[]) (λa a c=>by simp at a;omega)).same,rfl⟩;simp[results,results26,go_sem,o,p,q,x,y,z]
theorem IP (a:hH w W P z ts A n c rs) (e:List ao) (b:aQ) (o:b.getD 2 undef=.pointer (some ⟨w.heap.size,0,none⟩)) (p:b.getD 3 undef=.pointer (some ⟨w.heap.size+1,0,none⟩)) (q:b.getD 4 undef=.pointer (some ⟨w.heap.size+1+1,0,none⟩)):
 CallsD prog 45 #[ak w.heap.size,ak (w.heap.size+1),ak (w.heap.size+1+1)] .returning W (λ
  |.returned _,d,w'=>Leaves prog Tryz.f26 b (ji w (.ok (rs.map RI.it) e)) [] (settle d) w'
  |.panicked chain,d,w'=>Leaves prog Tryz.f26 b (ji w (.ok (rs.map RI.it) e)) [] (raised d chain) w'
  |.outgrown,_,w'=>ji w (.ok (rs.map RI.it) e) .outgrown w'):=by
 have r:b[2]?.getD undef=.pointer (some ⟨w.heap.size,0,none⟩):=by simpa using o
 have s:b[3]?.getD undef=.pointer (some ⟨w.heap.size+1,0,none⟩):=by simpa using p
 have u:b[4]?.getD undef=.pointer (some ⟨w.heap.size+1+1,0,none⟩):=by simpa using q
 refine(Iy w.heap.size (w.heap.size+1) (w.heap.size+1+1) W).mono ?_;rintro o d f ⟨rfl,rfl,rfl⟩;have v:ae f (aq w 0) (O A n c):=aa.cell a.bO 0;have x:ae f (ac (w.heap.size+1) 0) (J 0):=aa.cell a.bE 0;have y:ae f (ac (w.heap.size+1+1) 0) (J 0):=aa.cell a.bA 0;have o:=a.pl;have o:=a.few;show Leaves prog Tryz.f26 b (ji w (.ok (rs.map RI.it) e)) [] .returning f;refine⟨.tuple #[.agg #[O A n c],J 0,J 0],?_,a.k.same,⟨A,n,c⟩,rs,rfl,rfl,cI (h:=⟨A,n,c⟩) RI.len a.it.len (by show n<=_;omega) a.it.own,λb e=>(a.it.sub b e).mono (λb h=>⟨by have:=h.1.1;omega,h.1.2⟩),?_⟩
 ·simp[results,results26,go_sem,r,s,u,v,x,y]
 intro i j l;rcases a.it.own.2 with⟨g,D⟩|⟨E,F,B,g,G,C,_⟩
 ·injection g with e1
  have m:A=some ⟨i,j,none⟩:=l;rw[e1]at m;cases m
 injection g with e1
 have a:A=some ⟨i,j,none⟩:=l;rw[a]at e1;injection e1 with e1
 injection e1 with e1
 subst e1;exact⟨by omega,aa.lt (t:=95) (cs:=B) C⟩
end
end Go.Proofs.YteamkimbmdgdbaaGreatDoor

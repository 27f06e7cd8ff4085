import Derived.Test.YteamkimbmdgdbaaGreatDoorK19
set_option linter.unusedSimpArgs false
set_option linter.unusedVariables false
set_option maxHeartbeats 16000000
set_option maxRecDepth 100000
namespace Go.Proofs.YteamkimbmdgdbaaGreatDoor
open Go.Proofs.Tryz
open Go.RowKit
theorem Ia (a b c:Nat) (f g i:aA) (er at_:Int) (j:List PanicEntry) (d:ah) (e:aa d a 24 #[f]) (f:aa d b 76 #[g]) (g:aa d c 3 #[i]) (n:a≠b) (o:a≠c) (q:b≠c):
 CallsD prog 45 #[ak a,ak b,ak c] (.panicking ({v:=gT er at_,recovered:=false}::j)) d λk r i=>
  k=.returned (.tuple #[])/\r=.panicking ({v:=gT er at_,recovered:=true}::j)/\aa i a 24 #[ab]/\aa i b 76 #[er]/\aa i c 3 #[at_]/\Kp [a,b,c] d i:=by
 have i:∀(i:ah) (j:aA),(Instr.typeAssert (.iface 125 j) 20 125 true).run prog i=.ok (.tuple #[j,.bool true]) i:=λ_ _=>by kernel_rfl
 have j:=λi=>aa.frozen e i;have j:=λi=>aa.frozen f i;have i:=λi=>aa.frozen g i;have i:=ay e;have i:=ay f;have i:=ay g;have i:=e.lt;have j:=f.lt;have k:=g.lt;have r:=bb i;have r:=bb j;have r:=bb k;have i:=Nat.ne_of_gt i;have i:=Nat.ne_of_gt j;have i:=Nat.ne_of_gt k;have i:=n.symm;have i:=o.symm;have i:=q.symm;have s:=Z e;have u:=Z f;have w:=Z g;clear e f g;refine callsD_of_wpS func45 rfl λe e m=>?_;rw[ntmps45];show Code.wpS _ _ _ {tmps:=#[ak a,ak b,ak c,undef,undef,undef,undef,undef,undef,undef,undef,undef,undef,undef,undef,undef,undef,undef,undef,undef,undef,undef],defers:=[]} _ _;apply wpS_seq;apply wpS_region;simp[wpOpsS,go_sem,recoverD,m,Exit.thenS,gT];apply wpS_seq;apply wpS_region;simp[wpOpsS,go_sem,Exit.thenS];refine wpS_cond (t:=true) nU ?_;simp only[if_true];refine wpS_of_wp ?_;refine sX ?_;intro e e;have x:=Z e;clear m e;go_wp2_with fail
 go_region
 refine x _ _ _ ?_;have e:=Z (aa.far (aa.far (s.aR 0 ab) (p:=(ac b 0)) aG er) (p:=(ac c 0)) aG at_);have f:=Z (aa.far ((aa.far u (p:=(ac a 0)) aG ab).aR 0 er) (p:=(ac c 0)) aG at_);have g:=Z ((aa.far (aa.far w (p:=(ac a 0)) aG ab) (p:=(ac b 0)) aG er).aR 0 at_);have a:=Z (Kp.aI (p:=(ac c 0)) (l:=[a,b,c]) aj (Kp.aI (p:=(ac b 0)) aj (Kp.aI (p:=(ac a 0)) aj (Kp.refl [a,b,c] d) ab) er) at_);simp[bodyPostS,results,results45];exact⟨(e.alloc _).drew,(f.alloc _).drew,(g.alloc _).drew,(a.alloc _).drew⟩
theorem Ib (a b c:Nat) (d:ah):
 CallsD prog 45 #[ak a,ak b,ak c] .returning d λe f g=>e=.returned (.tuple #[])/\f=.returning/\g=d:=by
 refine callsD_of_wpS func45 rfl λi d j=>?_;rw[ntmps45];show Code.wpS _ _ _ {tmps:=#[ak a,ak b,ak c,undef,undef,undef,undef,undef,undef,undef,undef,undef,undef,undef,undef,undef,undef,undef,undef,undef,undef,undef],defers:=[]} _ _;apply wpS_seq;apply wpS_region;simp[wpOpsS,go_sem,recoverD,j,Exit.thenS];apply wpS_seq;apply wpS_region;simp[wpOpsS,go_sem,Exit.thenS];refine wpS_cond (t:=false) nU ?_;simp only[Bool.false_eq_true,if_false];refine wpS_of_wp (wp_skip ?_);cases i;simp_all [bodyPostS,results,results45]
def mW (b:Nat) (a:bR):Rd:=if b=0 then kc a else if b=1 then kd a else if b=2 then js a else hL a
def Rd.or (a s:Rd):Rd:=match a with|.none=>s|a=>a
def jO (b:Nat) (a:bR):Rd:=if b=0 then oY a else if b=1 then(kd a).or ((js a).or ((hL a).or (.bad 5)))else if b=2 then(js a).or ((hL a).or (.bad 5))else if b=3 then(hL a).or (.bad 5)else .bad 5
theorem Ic (a:bR):oY a=(kc a).or ((kd a).or ((js a).or ((hL a).or (.bad 5)))):=by
 unfold oY Rd.or;rfl
theorem yU (a:Nat) (c:a<4) (b:bR):jO a b=(mW a b).or (jO (a+1) b):=by
 have h:a=0\/a=1\/a=2\/a=3:=af
 rcases h with rfl|rfl|rfl|rfl
 ·exact Ic b
 ·rfl
 ·rfl
 rfl
structure tF (l:bR) (t:bR) (n:Int) (len:Nat):Prop where
 l1:1<=len
 l2:len<=l.length
 t1:t.length<=20000
 n0:0<=n
 n1:n<=9999999999
theorem pN:∀(f i:bR) (n:Nat) (e:Int) (b:bR) (d:Int) (a:Nat),du f i n=.tok e b d a->1<=a/\a<=n+f.length+1/\b.length<=200/\d=0
 |[],_,_,_,_,_,_,h=>by cases h
 |c::f,i,n,e,b,d,a,h=>by
  rw[du.eq_def]at h;simp only at h;split at h
  ·split at h
   ·cases h
   injection h with h1 h2 h3 h4
   subst h2 h3 h4;simp;omega
  split at h
  ·cases h
  split at h
  ·split at h
   ·cases h
   rename_i i g
   split at h
   ·have:=pN g _ _ e b d a h;simp at this⊢;omega
   split at h
   ·have:=pN g _ _ e b d a h;simp at this⊢;omega
   split at h
   ·have:=pN g _ _ e b d a h;simp at this⊢;omega
   cases h
  have:=pN f _ _ e b d a h;simp at this⊢;omega
theorem Id {c:UInt8} (h:jr c=true):fC c=true:=by unfold fC;rw[h];rfl
theorem Ie (l:Nat) (a:bR) (j:a.length<=20000) (i:a≠[]) (m:Int) (j:bR) (n:Int) (k:Nat) (h:mW l a=.tok m j n k):tF a j n k:=by
 unfold mW at h;split at h
 ·unfold kc at h
  split at h
  ·rename_i g
   split at h
   ·cases h
   injection h with f b d e
   subst b d e;cases a with
   |nil=>exact absurd rfl i
   |cons c a=>
    have g:fC c=true:=Id g;have f:1<=cm fC (c::a):=by simp[cm,g]
    exact⟨f,nk _ _,by rw[List.length_take];omega,by omega,by omega⟩
  cases h
 split at h
 ·unfold kd at h
  split at h
  ·cases h
  split at h
  ·cases h
  rename_i j g
  injection h with f b d e
  subst b d e;have k:=nk dJ a;have:=(vQ (a.take (cm dJ a)) (by intro j;have:=congrArg List.length j;rw[List.length_take,List.length_nil]at this;omega) (sc dJ a) (by rw[List.length_take];omega)).2;obtain⟨j,g⟩:∃j,j=gU (a.take (cm dJ a)):=⟨_,rfl⟩;rw[<-g]at this⊢;exact⟨by omega,k,by rw[List.length_take];omega,by omega,by omega⟩
 split at h
 ·unfold js at h
  split at h
  ·obtain⟨f,b,d,e⟩:=pN _ _ _ _ _ _ _ h
   have:0<a.length:=List.length_pos_iff.2 i;simp at b;exact⟨f,by omega,by omega,by omega,by omega⟩
  cases h
 unfold hL at h;split at h
 ·rename_i g
  injection h with f b d e
  subst b d e;have:2<=a.length:=by
   have:(a.take 2).length=2:=by rcases g with g|g<;>rw[g]<;>rfl
   rw[List.length_take]at this;omega
  exact⟨by omega,this,by rw[List.length_take];omega,by omega,by omega⟩
 split at h
 ·injection h with f b d e
  subst b d e;have:0<a.length:=List.length_pos_iff.2 i;exact⟨by omega,by omega,by rw[List.length_take];omega,by omega,by omega⟩
 cases h
theorem If {d:Nat} {c:UInt8} {b:bR} {a:Nat} {ts:List aq}:hO (d+1) (c::b) a ts=match oY (c::b)with
 |.none=>([],5,a)
 |.bad e=>([],e,a)
 |.tok k t n len=>if ts.length=5000 then([],3,a)else hO d (((c::b).drop len).drop (cV false ((c::b).drop len))) (a+len+cV false ((c::b).drop len)) (ts++[⟨k,ee t,n,a⟩]):=rfl
theorem Ig {c d n:Nat} {a:aX} {e:aA} {f:aP} {w i:ah} (j:w.ownsRow c a d e n f) {k:List Nat} (s:Kp k w i) (o:∀p∈k,w.heap.size<=p):i.ownsRow c a d e n f:=by
 refine⟨j.1,?_⟩;rcases j.2 with h|⟨b,q,l,r,u,m,v⟩
 ·exact .inl h
 exact .inr ⟨b,q,l,r,u,s.blk (g:=b) (t:=a) m (λc=>by have:=o b c;have:=aa.lt (t:=a) (cs:=l) m;omega),v⟩
structure dR (w W:ah) (s:ax) (a:Nat) (A:aU) (n c:Nat) (ts:List aq):Prop where
 k:Kp [] w W
 bT:aa W w.heap.size 121 #[O A n c]
 bE:aa W (w.heap.size+1) 76 #[J 0]
 bA:aa W (w.heap.size+1+1) 3 #[J 0]
 bS:eS W (w.heap.size+1+1+1) s a
 bK:aa W (w.heap.size+1+1+1+1) 186 #[.func (.func 81) #[ak (w.heap.size+1+1+1)] #[],.func (.func 82) #[ak (w.heap.size+1+1+1)] #[],.func (.func 83) #[ak (w.heap.size+1+1+1)] #[],.func (.func 84) #[ak (w.heap.size+1+1+1)] #[]]
 own:W.ownsRow (w.heap.size+5) 188 4 (O A n c) n (ts.flatMap aq.cells)
 len:ts.length=n
 few:n<=5000
 fine:∀t∈ts,t.bo
 pO:a<=s.size
section
variable {w W W':ah} {s:ax} {a:Nat} {A:aU} {n c:Nat} {ts:List aq}
theorem dR.kp (b:dR w W s a A n c ts) {l:List Nat} (k:Kp l W W') (e:∀d∈l,W.heap.size<=d):dR w W' s a A n c ts:=
 have h:=λ(d:Nat) (f:d<W.heap.size) (g:d∈l)=>absurd (e d g) af
 ⟨k.old b.k (λd f g=>by have:=e d f;have:=b.k.size;omega),k.blk b.bT (h _ b.bT.lt),k.blk b.bE (h _ b.bE.lt),k.blk b.bA (h _ b.bA.lt),k.blk b.bS (h _ b.bS.lt),k.blk b.bK (h _ b.bK.lt),Ig b.own k e,b.len,b.few,b.fine,b.pO⟩
theorem dR.same (b:dR w W s a A n c ts) (k:ag W W'):dR w W' s a A n c ts:=b.kp (Kp.of_same (l:=[]) k) (λ_ h=>by cases h)
theorem dR.move (b:dR w W s a A n c ts) {a':Nat} (d:Kp [w.heap.size+1+1+1] W W') (e:eS W' (w.heap.size+1+1+1) s a') (h:a'<=s.size):dR w W' s a' A n c ts:=
 ⟨d.old b.k (λe f g=>by simp at f;omega),d.blk b.bT bd,d.blk b.bE bd,d.blk b.bA bd,e,d.blk b.bK bd,bG b.own d bd,b.len,b.few,b.fine,h⟩
def i7 (w:ah) (a:List aq×Int×Int) (c:Ending) (b:ah):Prop:=∃h:Hd,c=.returned (.tuple #[h.val,a.2.1,a.2.2])/\ez b b.heap.size h a.1/\ag w b
theorem ry (e:dR w W s a A n c ts) (er at_:Int) (b:aQ) (g:b.getD 2 undef=.pointer (some ⟨w.heap.size,0,none⟩)) (i:b.getD 3 undef=.pointer (some ⟨w.heap.size+1,0,none⟩)) (j:b.getD 4 undef=.pointer (some ⟨w.heap.size+1+1,0,none⟩)):
 CallsD prog 80 #[ak w.heap.size,ak (w.heap.size+1),ak (w.heap.size+1+1)] (.panicking [{v:=oZ er at_,recovered:=false}]) W (λ
  |.returned _,d,w'=>Leaves prog Tryz.f44 b (i7 w ([],er,at_)) [] (settle d) w'
  |.panicked chain,d,w'=>Leaves prog Tryz.f44 b (i7 w ([],er,at_)) [] (raised d chain) w'
  |.outgrown,_,w'=>i7 w ([],er,at_) .outgrown w'):=by
 have l:b[2]?.getD undef=.pointer (some ⟨w.heap.size,0,none⟩):=by simpa using g
 have m:b[3]?.getD undef=.pointer (some ⟨w.heap.size+1,0,none⟩):=by simpa using i
 have o:b[4]?.getD undef=.pointer (some ⟨w.heap.size+1+1,0,none⟩):=by simpa using j
 refine(FW w.heap.size (w.heap.size+1) (w.heap.size+1+1) _ _ _ er at_ [] W e.bT e.bE e.bA af af af).mono ?_;rintro g d f ⟨rfl,rfl,p,q,r,t⟩;have u:ae f (ao w 0) ab:=aa.cell p 0;have x:ae f (ac (w.heap.size+1) 0) er:=aa.cell q 0;have y:ae f (ac (w.heap.size+1+1) 0) at_:=aa.cell r 0;show Leaves prog Tryz.f44 b (i7 w ([],er,at_)) [] .returning f;refine⟨.tuple #[ab,er,at_],?_,⟨none,0,0⟩,rfl,⟨aE.none_ _ _ _,(λ_ _ h=>by cases h),Nat.le_refl _,(λ_ h=>by cases h),by simp⟩,?_⟩
 ·simp[results,results44,go_sem,l,m,o,u,x,y]
 exact(t.old e.k (l':=[]) (λb b e=>by simp at b;omega)).same
theorem Ih (b:dR w W s a A n c ts) (d:aQ) (i:d.getD 2 undef=.pointer (some ⟨w.heap.size,0,none⟩)) (j:d.getD 3 undef=.pointer (some ⟨w.heap.size+1,0,none⟩)) (l:d.getD 4 undef=.pointer (some ⟨w.heap.size+1+1,0,none⟩)):
 CallsD prog 80 #[ak w.heap.size,ak (w.heap.size+1),ak (w.heap.size+1+1)] .returning W (λ
  |.returned _,e,w'=>Leaves prog Tryz.f44 d (i7 w (ts,0,0)) [] (settle e) w'
  |.panicked chain,e,w'=>Leaves prog Tryz.f44 d (i7 w (ts,0,0)) [] (raised e chain) w'
  |.outgrown,_,w'=>i7 w (ts,0,0) .outgrown w'):=by
 have m:d[2]?.getD undef=.pointer (some ⟨w.heap.size,0,none⟩):=by simpa using i
 have o:d[3]?.getD undef=.pointer (some ⟨w.heap.size+1,0,none⟩):=by simpa using j
 have p:d[4]?.getD undef=.pointer (some ⟨w.heap.size+1+1,0,none⟩):=by simpa using l
 refine(FX w.heap.size (w.heap.size+1) (w.heap.size+1+1) W).mono ?_;rintro i e f ⟨rfl,rfl,rfl⟩;have q:ae f (ao w 0) (O A n c):=aa.cell b.bT 0;have r:ae f (ac (w.heap.size+1) 0) (J 0):=aa.cell b.bE 0;have u:ae f (ac (w.heap.size+1+1) 0) (J 0):=aa.cell b.bA 0;show Leaves prog Tryz.f44 d (i7 w (ts,0,0)) [] .returning f;refine⟨.tuple #[O A n c,J 0,J 0],?_,⟨A,n,c⟩,rfl,⟨?_,?_,?_,b.fine,?_⟩,?_⟩
 ·simp[results,results44,go_sem,m,o,p,q,r,u]
 ·have:=b.few
  exact cJ (h:=⟨A,n,c⟩) (λ_=>rfl) b.len (by show n<=_;omega) b.own
 ·intro v x y z
  rcases b.own.2 with⟨g,D⟩|⟨E,F,B,g,G,C,_⟩
  ·have:0<n:=z
   omega
  injection g with e1
  have d:A=some ⟨v,x,none⟩:=y;rw[d]at e1;injection e1 with e1
  injection e1 with e1
  subst e1;exact aa.lt (t:=188) (cs:=B) C
 ·show n<=c
  rcases b.own.2 with⟨g,x⟩|⟨y,z,B,g,C,D,v⟩
  ·injection g with e1 e2 e3
   omega
  injection g with e1 e2 e3
  have:=v.1;omega
 ·show ts.length<=5000
  have:=b.len;have:=b.few;omega
 exact b.k.same
theorem dR.fin (b:dR w W s a A n c ts):dR w (((W.setCell (ao w 0) (O A n c)).setCell (ac (w.heap.size+1) 0) (J 0)).setCell (ac (w.heap.size+1+1) 0) (J 0)) s a A n c ts:=by
 have d:Kp [w.heap.size,w.heap.size+1,w.heap.size+1+1] W (((W.setCell (ao w 0) (O A n c)).setCell (ac (w.heap.size+1) 0) (J 0)).setCell (ac (w.heap.size+1+1) 0) (J 0)):=
  Kp.aI (p:=(ac (w.heap.size+1+1) 0)) bd (Kp.aI (p:=(ac (w.heap.size+1) 0)) bd (Kp.aI (p:=(ao w 0)) bd (Kp.refl _ W) _) _) _
 exact⟨d.old b.k (λe e f=>by simp at e;omega),
  aa.far (aa.far (b.bT.aR 0 (O A n c)) (p:=(ac (w.heap.size+1) 0)) aG _) (p:=(ac (w.heap.size+1+1) 0)) aG _,
  aa.far ((aa.far b.bE (p:=(ao w 0)) aG _).aR 0 (J 0)) (p:=(ac (w.heap.size+1+1) 0)) aG _,
  (aa.far (aa.far b.bA (p:=(ao w 0)) aG _) (p:=(ac (w.heap.size+1) 0)) aG _).aR 0 (J 0),
  d.blk b.bS bd,d.blk b.bK bd,bG b.own d bd,b.len,b.few,b.fine,b.pO⟩
theorem dR.Ii (b:dR w W s a A n c ts) {g i:Nat} (f:w.heap.size+5<=g) (l:∀d,(Value.slice A n c).ownBlock=some d->d<g) (f:aA):dR w (W.setCell (ac g i) f) s a A n c ts:=by
 have e:Kp [g] W (W.setCell (ac g i) f):=Kp.aI (p:=(ac g i)) bd (Kp.refl _ W) _;refine⟨e.old b.k (λd f j=>by simp at f;omega),e.blk b.bT bd,e.blk b.bE bd,e.blk b.bA bd,e.blk b.bS bd,e.blk b.bK bd,⟨b.own.1,?_⟩,b.len,b.few,b.fine,b.pO⟩;rcases b.own.2 with h|⟨d,m,o,j,q,r,u⟩
 ·exact .inl h
 have:=l d (by rw[j];rfl);exact .inr ⟨d,m,o,j,q,e.blk (g:=d) (t:=188) r bd,u⟩
theorem dR.rz (f:dR w W s a A n c ts):∀d,(Value.slice A n c).ownBlock=some d->d<W.heap.size:=by
 intro d b;rcases f.own.2 with⟨e,_⟩|⟨j,k,g,e,l,i,m⟩
 ·injection e with e1
  subst e1;cases b
 rw[e]at b;injection b with b
 subst b;exact aa.lt (t:=188) (cs:=g) i
theorem dR.Ij (I:dR w W s a A n c ts):∀b,(Value.slice A n c).ownBlock=some b->w.heap.size+5<=b:=by
 exact yV
theorem dR.push (I:dR w W s a A n c ts) {d:ah} {f:aU} {i:Nat} (t:aq) (m:t.bo) (e:n<5000) (hg:W.grownBy d (Value.slice A n c).ownBlock) (o:d.ownsRow (w.heap.size+5) 188 4 (O f (n+1) i) (n+1) (ts.flatMap aq.cells++t.cells)):
 dR w (d.setCell (ao w 0) (O f (n+1) i)) s a f (n+1) i (ts++[t]):=by
 have l:∀b,(Value.slice A n c).ownBlock=some b->w.heap.size+5<=b:=by
  exact yV
 have e:∀b,b<w.heap.size+5->some b≠(Value.slice A n c).ownBlock:=λb hb j=>by have:=l b j.symm;omega
 have d:Kp [w.heap.size] d (d.setCell (ao w 0) (O f (n+1) i)):=Kp.aI (p:=(ao w 0)) bd (Kp.refl _ d) _;refine⟨(d.old (l':=[]) ((I.k.grown hg (λb hb=>.inr (by have:=l b hb;omega)))) (λb hb f=>by simp at hb;omega)),(I.bT.grown hg (e _ af)).aR 0 _,d.blk (I.bE.grown hg (e _ af)) bd,d.blk (I.bA.grown hg (e _ af)) bd,d.blk (aa.grown I.bS hg (e _ af)) bd,d.blk (I.bK.grown hg (e _ af)) bd,?_,by rw[List.length_append,I.len];rfl,by omega,?_,I.pO⟩
 ·rw[List.flatMap_append]
  have j:[t].flatMap aq.cells=t.cells:=aj
  rw[j];exact bG o d bd
 intro q r;rcases cP r with h|h
 ·exact I.fine q h
 rw[aC h];exact m
def kW (f:Nat) (b:bR) (a:Nat) (ts:List aq) (c:Rd):List aq×Int×Int:=
 match c with
 |.none=>([],5,a)
 |.bad e=>([],e,a)
 |.tok k t n len=>if ts.length=5000 then([],3,a)else hO f ((b.drop len).drop (cV false (b.drop len))) (a+len+cV false (b.drop len)) (ts++[⟨k,ee t,n,a⟩])
theorem yW (f:Nat) (c:UInt8) (a:bR) (b:Nat) (ts:List aq):hO (f+1) (c::a) b ts=kW f (c::a) b ts (jO 0 (c::a)):=rfl
theorem n7:∀(a:bR) (b:Bool),cV b a<=a.length
 |[],_=>by simp[cV]
 |c::a,true=>by have b:=n7 a true;have b:=n7 a false;simp only[cV];split<;>simp<;>omega
 |c::a,false=>by have b:=n7 a true;have a:=n7 a false;simp only[cV];split<;>(try split)<;>simp<;>omega
end
theorem Tryz.Ik:(prog.info? 188).map (λi=>(i.zero,i.size,i.bytes))=some (some (.agg #[J 0,ai,J 0,J 0]),4,40):=am
theorem h8 {w:ah} {a:aX} {b:aQ} (c:Nat) (d:c=w.heap.size):aa (w.alloc (.cells b a)) c a b:=by subst d;exact aa.new w a b
theorem Il (b:ax) (a:ah):dR a (((((a.alloc (.cells #[ab] 121)).alloc (.cells #[J 0] 76)).alloc (.cells #[J 0] 3)).alloc (.cells #[b,J 0] 182)).alloc (.cells #[.func (.func 81) #[ak (a.heap.size+1+1+1)] #[],.func (.func 82) #[ak (a.heap.size+1+1+1)] #[],.func (.func 83) #[ak (a.heap.size+1+1+1)] #[],.func (.func 84) #[ak (a.heap.size+1+1+1)] #[]] 186)) b 0 none 0 0 []:=
 ⟨((((((Kp.refl [] a).alloc _).alloc _).alloc _).alloc _).alloc _),((((h8 _ rfl).alloc _).alloc _).alloc _).alloc _,(((h8 _ aj).alloc _).alloc _).alloc _,((h8 _ aj).alloc _).alloc _,(show aa _ _ _ _ from(h8 _ aj).alloc _),h8 _ aj,⟨rfl,.inl ⟨rfl,rfl⟩⟩,rfl,by omega,(λ_ h=>by cases h),by omega⟩
theorem Im (a:ax) (b:ah) (d:20000<a.size) (e:aJ a):Calls prog 44 #[a] b λf g=>i7 b (dD (ba a)) f g:=by
 have e:(a.size:Int)<=9223372036854775807:=by unfold aJ at e;omega
 have e:(20000:Int)<a.size:=af
 have c:Hid (dD (ba a)=([],3,-1)):=Z (by unfold dD;rw[eZ,if_pos d]);generalize dD (ba a)=j at c⊢;go_enter_defers func44,ntmps44
 go_wp2;go_step3
 go_wp2;rw[Exit.noGoto_ret];have i:=c.out;subst i;refine⟨.tuple #[ab,J 3,J (-1)],?_,⟨none,0,0⟩,rfl,⟨aE.none_ _ _ _,(λ_ _ h=>by cases h),Nat.le_refl _,(λ_ h=>by cases h),by simp⟩,(((ag.refl b).alloc _).alloc _).alloc _⟩;simp[results,results44,go_sem]
theorem In (d:ax) (w:ah) (C:d.size<=20000):Calls prog 44 #[d] w λe q=>i7 w (dD (ba d)) e q:=by
 have ar:∀(ar:Fn) (first cap:aQ) (w:ah),(Instr.makeFunc ar first cap).run prog w=.ok (.func ar first cap) w:=λ_ _ _ _=>rfl;obtain⟨aE,aG,aH,aK,aL⟩:=info_parts Tryz.Ik;have K:Hid (dD (ba d)=hO (d.size+1) ((ba d).drop (cV false (ba d))) (cV false (ba d)) []):=Z (by unfold dD;rw[eZ,if_neg (by omega)]);have Q:=n7 (ba d) false;rw[eZ]at Q;generalize dD (ba d)=R at K⊢;have ar:¬(20000:Int)<d.size:=by omega
 have S:=Z (Il d w);have av:=Z (vN (w.heap.size+1+1+1) d 0 _ C af S.out.bS);go_enter_defers func44,ntmps44
 go_wp2_with fail
 go_step3
 go_wp2_with fail
 refine av.out.mono ?_;rintro e ar ⟨rfl,hb,v⟩;rw[List.drop_zero,Nat.zero_add]at hb;have x:=Z (S.out.move v hb Q);clear hb v S av;go_wp2_with fail
 go_step3
 go_wp2_with fail
 go_loopg [] (d.size+1) (λk wr=>∃(a:Nat) (g:List aq) (A:aU) (n c:Nat),Hid (dR w wr d a A n c g)/\d.size-a<k/\Hid (R=hO k ((ba d).drop a) a g))
 case atStart=>exact⟨_,[],none,0,0,x,by omega,K⟩
 obtain⟨a,l,A,n,c,I,v,s⟩:=hrel;clear x K Q;obtain⟨f,rfl⟩:∃f,gk=f+1:=⟨gk-1,by omega⟩;have K:d.size-a<f+1:=v;have aM:=Z K;clear v K;have z:ae wr (ac (w.heap.size+1+1+1) 1) a:=aa.cell I.out.bS 1;have K:=I.out.pO;have K:=I.out.few;by_cases F:a<d.size
 case neg=>
  have g:¬(a:Int)<d.size:=af
  have kX:=Z (show R=(l,0,0) by rw[s.out,List.drop_of_length_le qn];rfl);clear s;have N:ae wr (ao w 0) (O A n c):=aa.cell I.out.bT 0;have g:ae wr (ac (w.heap.size+1) 0) (J 0):=aa.cell I.out.bE 0;have g:ae wr (ac (w.heap.size+1+1) 0) (J 0):=aa.cell I.out.bA 0;have j:=λg=>aa.frozen I.out.bT g;have j:=λg=>aa.frozen I.out.bE g;have g:=λg=>aa.frozen I.out.bA g;go_wp2;try rw[Exit.noGoto_ret]
  have hre:=kX.out;subst hre;refine leaves_cons (f:=80) (args:=#[ak w.heap.size,ak (w.heap.size+1),ak (w.heap.size+1+1)]) aj kQ ?_;exact Ih I.out.fin _ rfl rfl rfl
 have K:(a:Int)<d.size:=af
 obtain⟨j,K⟩:∃j,j=(ba d).drop a:=⟨_,rfl⟩;have T:=Z (show j.length=d.size-a by rw[K,gr]);have aw:=Z (show R=kW f j a l (jO 0 j) by rw[s.out,K,ll d a F];exact yW f _ _ a l);have G:=Z K;clear s K;have aN:ae wr (ac (w.heap.size+1+1+1+1) 0) (.func (.func 81) #[ak (w.heap.size+1+1+1)] #[]):=aa.cell I.out.bK 0;have aO:ae wr (ac (w.heap.size+1+1+1+1) 1) (.func (.func 82) #[ak (w.heap.size+1+1+1)] #[]):=aa.cell I.out.bK 1;have aP:ae wr (ac (w.heap.size+1+1+1+1) 2) (.func (.func 83) #[ak (w.heap.size+1+1+1)] #[]):=aa.cell I.out.bK 2;have aS:ae wr (ac (w.heap.size+1+1+1+1) 3) (.func (.func 84) #[ak (w.heap.size+1+1+1)] #[]):=aa.cell I.out.bK 3;go_upto_region 8 with(fail)
 go_wp2_with fail
 clear aN aO aP aS;go_loopg [39] 5 (λk o u=>∃g:Nat,o=.int .i64 g/\g<=4/\4-g<k/\Hid (dR w u d a A n c l)/\Hid (R=kW f j a l (jO g j)))
 case atStart=>exact⟨0,rfl,by omega,by omega,I,aw⟩
 obtain⟨g,rfl,a7,ay,I,s⟩:=hrel;obtain⟨U,rfl⟩:∃U,gk=U+1:=⟨gk-1,by omega⟩;have aT:=Z ay;clear aw ay;by_cases aW:g<4
 case neg=>
  obtain rfl:g=4:=af
  have z:ae wr (ac (w.heap.size+1+1+1) 1) a:=aa.cell I.out.bS 1;have kX:=Z (show R=([],5,(a:Int))from s.out);clear s;go_wp2_with (go_at_call 86;refine(kf (w.heap.size+1+1+1) 5 a _ z).mono ?_;rintro e o ⟨rfl,rfl⟩)
  try rw[Exit.noGoto_panic]
  have hre:=kX.out;subst hre;refine leaves_cons (f:=80) (args:=#[ak w.heap.size,ak (w.heap.size+1),ak (w.heap.size+1+1)]) aj kQ ?_;exact ry I.out (5) (a) _ rfl rfl rfl
 have K:(g:Int)<4:=af
 have E1:=Z (show R=kW f j a l ((mW g j).or (jO (g+1) j)) by rw[s.out,yU g aW]);have HF:=Z (Ie g j (by rw[T.out];omega) (by intro h;have:=T.out;rw[h]at this;simp at this;omega));obtain⟨r,K⟩:∃r,r=mW g j:=⟨_,rfl⟩;rw[<-K]at E1 HF;have HR:=Z K;clear s K;go_upto_region 10 with(fail)
 go_cut [8,39]from 39 to 73 (λo s u=>s=.int .i64 g/\u=wr/\Hid ((g=0/\o=.func (.func 81) #[ak (w.heap.size+1+1+1)] #[])\/(g=1/\o=.func (.func 82) #[ak (w.heap.size+1+1+1)] #[])\/(g=2/\o=.func (.func 83) #[ak (w.heap.size+1+1+1)] #[])\/(g=3/\o=.func (.func 84) #[ak (w.heap.size+1+1+1)] #[])))
 case first=>
  have o:g=0\/g=1\/g=2\/g=3:=af
  rcases o with rfl|rfl|rfl|rfl
  ·have s:∀o,(Instr.index 184 (.agg #[.func (.func 81) #[ak (w.heap.size+1+1+1)] #[],.func (.func 82) #[ak (w.heap.size+1+1+1)] #[],.func (.func 83) #[ak (w.heap.size+1+1+1)] #[],.func (.func 84) #[ak (w.heap.size+1+1+1)] #[]]) (J ((0:Nat):Int))).run prog o=.ok (.func (.func 81) #[ak (w.heap.size+1+1+1)] #[]) o:=λ_=>by kernel_rfl
   have o:∀o,(Instr.index 184 (.agg #[.func (.func 81) #[ak (w.heap.size+1+1+1)] #[],.func (.func 82) #[ak (w.heap.size+1+1+1)] #[],.func (.func 83) #[ak (w.heap.size+1+1+1)] #[],.func (.func 84) #[ak (w.heap.size+1+1+1)] #[]]) (J 0)).run prog o=.ok (.func (.func 81) #[ak (w.heap.size+1+1+1)] #[]) o:=λ_=>by kernel_rfl
   go_wp2_with fail
   go_meet;exact⟨rfl,rfl,Z aj⟩
  ·have s:∀o,(Instr.index 184 (.agg #[.func (.func 81) #[ak (w.heap.size+1+1+1)] #[],.func (.func 82) #[ak (w.heap.size+1+1+1)] #[],.func (.func 83) #[ak (w.heap.size+1+1+1)] #[],.func (.func 84) #[ak (w.heap.size+1+1+1)] #[]]) (J ((1:Nat):Int))).run prog o=.ok (.func (.func 82) #[ak (w.heap.size+1+1+1)] #[]) o:=λ_=>by kernel_rfl
   have o:∀o,(Instr.index 184 (.agg #[.func (.func 81) #[ak (w.heap.size+1+1+1)] #[],.func (.func 82) #[ak (w.heap.size+1+1+1)] #[],.func (.func 83) #[ak (w.heap.size+1+1+1)] #[],.func (.func 84) #[ak (w.heap.size+1+1+1)] #[]]) (J 1)).run prog o=.ok (.func (.func 82) #[ak (w.heap.size+1+1+1)] #[]) o:=λ_=>by kernel_rfl
   go_wp2_with fail
   go_meet;exact⟨rfl,rfl,Z aj⟩
  ·have s:∀o,(Instr.index 184 (.agg #[.func (.func 81) #[ak (w.heap.size+1+1+1)] #[],.func (.func 82) #[ak (w.heap.size+1+1+1)] #[],.func (.func 83) #[ak (w.heap.size+1+1+1)] #[],.func (.func 84) #[ak (w.heap.size+1+1+1)] #[]]) (J ((2:Nat):Int))).run prog o=.ok (.func (.func 83) #[ak (w.heap.size+1+1+1)] #[]) o:=λ_=>by kernel_rfl
   have o:∀o,(Instr.index 184 (.agg #[.func (.func 81) #[ak (w.heap.size+1+1+1)] #[],.func (.func 82) #[ak (w.heap.size+1+1+1)] #[],.func (.func 83) #[ak (w.heap.size+1+1+1)] #[],.func (.func 84) #[ak (w.heap.size+1+1+1)] #[]]) (J 2)).run prog o=.ok (.func (.func 83) #[ak (w.heap.size+1+1+1)] #[]) o:=λ_=>by kernel_rfl
   go_wp2_with fail
   go_meet;exact⟨rfl,rfl,Z aj⟩
  have s:∀o,(Instr.index 184 (.agg #[.func (.func 81) #[ak (w.heap.size+1+1+1)] #[],.func (.func 82) #[ak (w.heap.size+1+1+1)] #[],.func (.func 83) #[ak (w.heap.size+1+1+1)] #[],.func (.func 84) #[ak (w.heap.size+1+1+1)] #[]]) (J ((3:Nat):Int))).run prog o=.ok (.func (.func 84) #[ak (w.heap.size+1+1+1)] #[]) o:=λ_=>by kernel_rfl
  have o:∀o,(Instr.index 184 (.agg #[.func (.func 81) #[ak (w.heap.size+1+1+1)] #[],.func (.func 82) #[ak (w.heap.size+1+1+1)] #[],.func (.func 83) #[ak (w.heap.size+1+1+1)] #[],.func (.func 84) #[ak (w.heap.size+1+1+1)] #[]]) (J 3)).run prog o=.ok (.func (.func 84) #[ak (w.heap.size+1+1+1)] #[]) o:=λ_=>by kernel_rfl
  go_wp2_with fail
  go_meet;exact⟨rfl,rfl,Z aj⟩
 case rest=>
 obtain⟨rfl,az,aX⟩:=hcut;have aY:=az.symm;subst aY;clear az;go_upto_region 11 with(fail)
 go_cut [9,10,39]from 39 to 73 (λu y B s=>∃(o:Nat) (k:Int) (t:bR) (m:Int) (len:Nat),B=.int .i64 g/\u=.pointer (some ⟨o,0,none⟩)/\y=.int .i64 len/\w.heap.size+5<=o/\(∀b,(Value.slice A n c).ownBlock=some b->b<o)/\Hid (dR w s d a A n c l)/\Hid (aa s o 188 #[k,.string (ee t),m,J 0])/\Hid ((len=0/\R=kW f j a l (jO (g+1) j))\/(tF j t m len/\R=kW f j a l (.tok k t m len))))
 case first=>
  rcases aX.out with⟨rfl,rfl⟩|⟨rfl,rfl⟩|⟨rfl,rfl⟩|⟨rfl,rfl⟩
  ·have HC:Hid (Calls prog 81 #[ak (w.heap.size+1+1+1)] wr λe q=>lq a wr r e q):=Z (by rw[HR.out,G.out];exact B8 (w.heap.size+1+1+1) d a wr C F I.out.bS)
   exact tG
  ·have HC:Hid (Calls prog 82 #[ak (w.heap.size+1+1+1)] wr λe q=>lq a wr r e q):=Z (by rw[HR.out,G.out];exact Cl (w.heap.size+1+1+1) d a wr C F I.out.bS)
   exact tG
  ·have HC:Hid (Calls prog 83 #[ak (w.heap.size+1+1+1)] wr λe q=>lq a wr r e q):=Z (by rw[HR.out,G.out];exact FV (w.heap.size+1+1+1) d a wr C F I.out.bS)
   exact tG
  have HC:Hid (Calls prog 84 #[ak (w.heap.size+1+1+1)] wr λe q=>lq a wr r e q):=Z (by rw[HR.out,G.out];exact Cm (w.heap.size+1+1+1) d a wr C F I.out.bS);clear HR;cases r with
  |none=>
   go_wp2_with fail
   refine HC.out.mono ?_;rintro e w2 ⟨s2,hm⟩;obtain⟨k,t,m,rfl⟩:∃k t m,e=.returned (.tuple #[.agg #[.int .i64 k,.string (ee t),.int .i64 m,J 0],J 0]):=hm;have I2:=Z (I.out.same s2);have hz2:w.heap.size+5<=w2.heap.size:=bJ I.out.bK.lt s2.size;have ho2:∀b,(Value.slice A n c).ownBlock=some b->b<w2.heap.size:=λb hb=>aV (I.out.rz b hb) s2.size;clear s2 HC;go_wp2_with fail
   go_meet;exact⟨_,k,t,m,0,rfl,rfl,rfl,hz2,ho2,Z (I2.out.same ((ag.refl _).alloc _)),Z (aa.new _ _ _),Z (.inl ⟨rfl,E1.out⟩)⟩
  |tok k t m len=>
   go_wp2_with fail
   refine HC.out.mono ?_;rintro e w2 ⟨s2,hm⟩;obtain rfl:e=.returned (.tuple #[.agg #[k,.string (ee t),m,J 0],len]):=hm;have I2:=Z (I.out.same s2);have hz2:w.heap.size+5<=w2.heap.size:=bJ I.out.bK.lt s2.size;have ho2:∀b,(Value.slice A n c).ownBlock=some b->b<w2.heap.size:=λb hb=>aV (I.out.rz b hb) s2.size;clear s2 HC;go_wp2_with fail
   go_meet;exact⟨_,k,t,m,len,rfl,rfl,rfl,hz2,ho2,Z (I2.out.same ((ag.refl _).alloc _)),Z (aa.new _ _ _),Z (.inr ⟨HF.out k t m len rfl,E1.out⟩)⟩
  |bad er=>
   go_wp2_with fail
   refine HC.out.mono ?_;rintro e w2 ⟨s2,rfl⟩;have I2:=Z (I.out.same s2);have kX:=Z (show R=([],er,(a:Int))from E1.out);clear s2 HC E1 HF;go_wp2_with fail
   try rw[Exit.noGoto_panic]
   have hre:=kX.out;subst hre;refine leaves_cons (f:=80) (args:=#[ak w.heap.size,ak (w.heap.size+1),ak (w.heap.size+1+1)]) aj kQ ?_;exact ry I2.out (er) (a) _ rfl rfl rfl
 obtain⟨u,k,t,m,len,rfl,rfl,rfl,aZ,a0,I,B,L⟩:=hcut;clear E1 HF HR;obtain⟨w2,rfl⟩:∃w2:World,w2=wc:=⟨_,rfl⟩;have q:IntKind.i64.wrap ((g:Int)+1)=(g:Int)+1:=IntWalk.i64_in _ af;by_cases V:len=0
 case pos=>
  have q:((len:Int)==0)=true:=by simp[V]
  have o:=Z (show R=kW f j a l (jO (g+1) j) by
   rcases L.out with⟨_,h⟩|⟨h,_⟩
   ·exact h
   have:=h.l1;omega)
  clear L V;go_wp2_with fail
  go_roundg U
  case measure=>omega
  exact⟨g+1,by go_num,by omega,omg aT,I,o⟩
 have g:((len:Int)==0)=false:=aF
 have y:=Z (show tF j t m len/\R=kW f j a l (.tok k t m len) by
  rcases L.out with⟨h,_⟩|h
  ·exact absurd h V
  exact h)
 clear L;have z:ae w2 (ac (w.heap.size+1+1+1) 1) a:=aa.cell I.out.bS 1;have W:ae w2 (ao w 0) (O A n c):=aa.cell I.out.bT 0;have g:=I.out.len;by_cases a1:n=5000
 case pos=>
  have g:((n:Int)==5000)=true:=by simp[a1]
  have kX:=Z (show R=([],3,(a:Int)) by rw[y.out.2];exact if_pos af);clear y;go_wp2_with (go_at_call 86;refine(kf (w.heap.size+1+1+1) 3 a _ z).mono ?_;rintro e g ⟨rfl,rfl⟩)
  try rw[Exit.noGoto_panic]
  have hre:=kX.out;subst hre;refine leaves_cons (f:=80) (args:=#[ak w.heap.size,ak (w.heap.size+1),ak (w.heap.size+1+1)]) aj kQ ?_;exact ry I.out (3) (a) _ rfl rfl rfl
 have g:((n:Int)==5000)=false:=aF
 have X:ae w2 (ac u 0) k:=aa.cell B.out 0;have Y:ae w2 (ac u 1) (.string (ee t)):=aa.cell B.out 1;have ab:ae w2 (ac u 2) m:=aa.cell B.out 2;have ad:ae w2 (ac u 3) (J 0):=aa.cell B.out 3;have a2:=λH=>aa.frozen B.out H;have x:=Z (I.out.Ii (i:=3) aZ a0 a);have D:=Z (aa.aR B.out 3 a);go_upto_region 16 with(fail)
 generalize w2.setCell (ac u 3) a=o at x D⊢;clear X Y ab ad a2 z W I B;have X:ae o (ac u 0) k:=aa.cell D.out 0;have Y:ae o (ac u 1) (.string (ee t)):=aa.cell D.out 1;have ab:ae o (ac u 2) m:=aa.cell D.out 2;have ad:ae o (ac u 3) a:=aa.cell D.out 3;have W:ae o (ao w 0) (O A n c):=aa.cell x.out.bT 0;have I2:=Z (x.out.same ((ag.refl o).alloc (.cells #[k,.string (ee t),m,a] 188)));have aA:=Z (cO o #[k,.string (ee t),m,a] 188 4 rfl);have g:w.heap.size+5<=o.heap.size:=x.out.bK.lt;go_upto_region 17 with(at_builtin;refine eL _ rfl (.tmp 59) (.tmp 61) 121 rfl (w.heap.size+5) 188 aE _ 4 40 underlying121 aG aH aK aL rfl au (O A n c) n (l.flatMap aq.cells) rfl I2.out.own (o.heap.size+1) (some ⟨o.heap.size,0,none⟩) 1 1 (#[k,.string (ee t),m,a]:Array Value).toList rfl aA.out bw cc af aF ?_;intro g al E M ai;obtain⟨am,N,rfl,aB⟩:=bv E;have an:=Z E;have ap:=Z M;have P:=Z (aa.grown I2.out.bT M (λe=>by have:=I2.out.Ij _ e.symm;omega));have aC:ae al (ao w 0) (O A n c):=aa.cell P.out 0;have aD:=(λH=>aa.frozen P.out H);clear E M ai)
 have E:=Z (dR.push I2.out ⟨k,ee t,m,(a:Int)⟩ ⟨by unfold aJ;have:=y.out.1.t1;rw[<-eZ,m3];omega,y.out.1.n0,y.out.1.n1,by show(0:Int)<=a;omega,by show(a:Int)<=20000;omega⟩ af ap.out an.out);clear X Y ab ad W x D I2 aA an ap P aC aD aB;generalize al.setCell (ao w 0) (O am (n+1) N)=ai at E⊢;have z:ae ai (ac (w.heap.size+1+1+1) 1) a:=aa.cell E.out.bS 1;have a3:=λH=>aa.frozen E.out.bS H;have g:=y.out.1.l2;rw[T.out]at g;have g:IntKind.i64.wrap ((a:Int)+len)=(a:Int)+len:=IntWalk.i64_in _ af;have g:((a:Int)+len)=((a+len:Nat):Int):=by omega
 have M:=Z (E.out.move (a':=a+len) (Kp.aI (p:=(ac (w.heap.size+1+1+1) 1)) aj (Kp.refl _ ai) (J ((a:Int)+len))) (by have:=aa.aR E.out.bS 1 (J ((a:Int)+len));rw[g]at this⊢;exact this) af);clear g;go_upto_region 18 with(fail)
 generalize ai.setCell (ac (w.heap.size+1+1+1) 1) (J ((a:Int)+len))=a4 at M⊢;clear z a3 E;go_wp2_with fail
 refine(vN (w.heap.size+1+1+1) d (a+len) a4 C af M.out.bS).mono ?_;rintro e g ⟨rfl,hb,v⟩;have g:=n7 ((ba d).drop (a+len)) false;rw[gr]at g;have a5:=Z (M.out.move v hb af);have a6:=Z (show R=hO f ((ba d).drop (a+len+cV false ((ba d).drop (a+len)))) (a+len+cV false ((ba d).drop (a+len))) (l++[⟨k,ee t,m,(a:Int)⟩]) by
  rw[y.out.2];refine(if_neg af).trans ?_;rw[G.out,show((ba d).drop a).drop len=(ba d).drop (a+len)from List.drop_drop,List.drop_drop])
 have d:=y.out.1.l1;clear hb v M;go_wp2_with fail
 go_roundg f
 case measure=>omega
 exact⟨_,_,am,n+1,N,a5,omg aM,a6⟩
theorem yX (a:ax) (w:ah) (b:aJ a):Calls prog 44 #[a] w λc d=>i7 w (dD (ba a)) c d:=by
 by_cases h:20000<a.size
 ·exact Im a w h b
 exact In a w af
theorem Tryz.tH:(prog.info? 95).map (λi=>(i.zero,i.size,i.bytes))=some (some (.agg #[J 0,ai,J 0,ai,ai,ab,ab,J 0,J 0,J 0,ab,ai,ai,ab,ab,ab,J 0,ai,ab,ab,ab,ai,ai,J 0,J 0]),25,408):=am
theorem lQ (z:Int) (ts:List aq) (n:Nat) (h:ts.length<=n):(gR z ts).Le n:=
 (dI z ts n h).bind λ_ _ h=>(b8 z _ _ n h).bind λ_ _ h=>(dI z _ n h).bind λ_ _ h=>.ok h
theorem yY (z:Int) (a:aB) (ts:List aq) (n:Nat) (h:ts.length<=n):(iu z a ts).Le n:=
 (b8 z _ _ n h).bind λ_ _ h=>(dI z _ n h).bind λ_ _ h=>(b8 z _ _ n h).bind λ_ _ h=>(r2 z _ n h).bind λ_ _ h=>(b8 z _ _ n h).bind λ_ _ h=>.ok h
theorem tI (z:Int):∀(a:Nat) (b:List ct) (ts:List aq) (n:Nat),ts.length<=n->(ir z a b ts).Le n
 |0,_,_,_,h=>.ok h
 |a+1,b,ts,n,h=>.ite (.ok h) ((BF z ts n h).bind λb b h=>tI z a _ b n h)
theorem Io (z:Int) (a:aB) (ts:List aq) (n:Nat) (h:ts.length<=n):(eH z a ts).Le n:=by
 unfold eH;refine .ite ?_ (.ite ?_ (.ite ?_ (.ite ?_ (.ite ?_ (.ite ?_ (.ite ?_ (.ite ?_ (.ite ?_ ?_))))))))
 ·exact(b8 z _ _ n h).bind λ_ _ h=>(me _ _ (r3 z) _ n h).bind λ_ _ h=>(b8 z _ _ n h).bind λ_ _ h=>(r2 z _ n h).bind λ_ _ h=>.ok h
 ·exact(b8 z _ _ n h).bind λ_ _ h=>(fx z _ n h).bind λ_ _ h=>.ok h
 ·exact(b8 z _ _ n h).bind λ_ _ h=>(lQ z _ n h).bind λ_ _ h=>(b8 z _ _ n h).bind λ_ _ h=>(iA z _ _ n h).bind λ_ _ h=>
   .ite ((fx z _ n h).bind λ_ _ h=>.ok h) (.ite ((fx z _ n h).bind λ_ _ h=>(fx z _ n h).bind λ_ _ h=>.ok h) (.ok h))
 ·exact(b8 z _ _ n h).bind λ_ _ h=>(dI z _ n h).bind λ_ _ h=>(b8 z _ _ n h).bind λ_ _ h=>(fx z _ n h).bind λ_ _ h=>(b8 z _ _ n h).bind λ_ _ h=>(tI z _ _ _ n h).bind λ_ _ h=>.ok h
 ·exact(lQ z _ n h).bind λ_ _ h=>(b8 z _ _ n h).bind λ_ _ h=>(iA z _ _ n h).bind λ_ _ h=>.ok h
 ·exact yY z a ts n h
 ·exact(yY z a ts n h).bind λ_ _ h=>(b8 z _ _ n h).bind λ_ _ h=>(dI z _ n h).bind λ_ _ h=>.ite ((me _ _ (r4 z) _ n (iz h)).bind λ_ _ h=>.ok h) (.ok h)
 ·exact(lQ z _ n h).bind λ_ _ h=>(b8 z _ _ n h).bind λ_ _ h=>(lQ z _ n h).bind λ_ _ h=>.ok h
 ·exact(me _ _ (r5 z) _ n h).bind λ_ _ h=>(qg z _ n h).bind λ_ _ h=>.ok h
 exact(b8 z _ _ n h).bind λ_ _ h=>(BK z _ _ n h).bind λ_ _ h=>.ok h
theorem Ip (z:Int) (a:aq) (l:List aq):(jh z (a::l)).Le l.length:=by
 unfold jh;refine PO.Le.bind (n:=l.length) ?_ λa a h=>PO.Le.bind (.ite (.ok h) (dI z a _ h)) λb a h=>(Io z _ a _ h).bind λb a h=>(b8 z _ a _ h).bind λ_ a h=>.ok h;unfold dZ;split
 ·exact .ok (Nat.le_refl _)
 exact oQ _ _ _ _
structure i8 (w:ah) (base:Nat) (A:aU) (n c:Nat) (rs:List RI):Prop where
 own:w.ownsRow base 95 25 (O A n c) n (rs.flatMap RI.cells)
 len:rs.length=n
 sub:∀r∈rs,cW w (λb=>Bw base w.heap.size b/\∀g,A=some ⟨g,0,none⟩->b≠g) r
theorem i8.none_ (w:ah) (base:Nat):i8 w base none 0 0 []:=⟨⟨rfl,.inl ⟨rfl,rfl⟩⟩,rfl,λ_ h=>by cases h⟩
theorem i8.keep {w d:ah} {base:Nat} {A:aU} {n c:Nat} {rs:List RI} (b:i8 w base A n c rs) {l:List Nat} (k:Kp l w d) (e:∀a∈l,a<base):i8 d base A n c rs:=
 ⟨bG b.own k e,b.len,λd f=>((b.sub d f).keep k (λa b h=>by have:=e a b;have:=h.1.1;omega)).mono (λa h=>⟨⟨h.1.1,aV h.1.2 k.size⟩,h.2⟩)⟩
theorem i8.push {w W f:ah} {base P:Nat} {A i:aU} {n c c':Nat} {rs:List RI} {r:RI} (a:i8 w base A n c rs) (k:Kp [P] w W) (q:P<base) (q:base<=w.heap.size)
 (l:cW W (Bw w.heap.size W.heap.size) r) (j:f.ownsRow base 95 25 (O i (n+1) c') (n+1) (rs.flatMap RI.cells++r.cells)) (d:W.grownBy f (Value.slice A n c).ownBlock)
 (hat:(Value.slice i (n+1) c').ownBlock=(Value.slice A n c).ownBlock\/(Value.slice i (n+1) c').ownBlock=some W.heap.size):i8 f base i (n+1) c' (rs++[r]):=by
 rcases j.2 with⟨h,_⟩|⟨g,s,u,e,v,y,z,B,C,D⟩
 ·cases h
 injection e with e1 e2 e3
 subst e1 e3;have hform:∀b,(Value.slice A n c).ownBlock=some b->A=some ⟨b,0,none⟩/\base<=b/\b<w.heap.size:=by
  intro b hb';rcases a.own.2 with⟨e,_⟩|⟨g',E,m,e,o,p,_⟩
  ·rw[e]at hb';cases hb'
  rw[e]at hb';injection hb' with hb'
  injection e with e1
  subst e1;have:g'=b:=hb';subst this;exact⟨rfl,o,aa.lt (t:=95) (cs:=m) p⟩
 have m:Kp ((Value.slice A n c).ownBlock.toList) W f:=⟨d.os,d.tape,d.output,d.size,λb hb' hne=>d.block b hb' (λhe=>hne (by rw[<-he];simp))⟩;have o:g<W.heap.size->(Value.slice A n c).ownBlock=some g:=by
  exact v7
 have hold:∀(e i:Nat->Prop) (x:RI),cW W e x->(∀b,e b->b<W.heap.size/\(Value.slice A n c).ownBlock≠some b)->(∀b,e b->i b)->cW f i x:=by
  intro e i x e hS p;exact(e.keep m (λb hb' h=>(hS b h).2 (by
   cases fE:(Value.slice A n c).ownBlock with
   |none=>rw[fE]at hb';simp at hb'
   |some E=>rw[fE]at hb';simp at hb';rw[hb']))).mono p
 have sr:=k.size;have d:=d.size;have hne:∀b,b<W.heap.size->(Value.slice A n c).ownBlock≠some b->b≠g:=λb d e he=>e (he▸o (he▸d));refine⟨?_,by rw[List.length_append,a.len];rfl,λx p=>?_⟩
 ·rw[List.flatMap_append]
  simpa using j
 rcases cP p with h|h
 ·exact v8
 rw[aC h];refine hold (Bw w.heap.size W.heap.size) _ r l (λb hS=>⟨hS.2,λhe=>by have:=(hform b he).2.2;have:=hS.1;omega⟩) (λb hS=>⟨⟨by have:=hS.1;omega,by have:=hS.2;omega⟩,λg' hg'=>?_⟩);injection hg' with hg'
 injection hg' with hg'
 subst hg';exact hne b hS.2 (λhe=>by have:=(hform b he).2.2;have:=hS.1;omega)
theorem az.one {W:ah} {P:Nat} {z:Int} {e:List aq} (h:az W P z e) {a:Nat} {j:aX} {v:aA} (k:aa W a j #[v]) (l:a≠P) (u:aA):az (W.setCell (ac a 0) u) P z e:=by
 obtain⟨m,n,b⟩:=h;have c:Kp [a] W (W.setCell (ac a 0) u):=Kp.aI (p:=(ac a 0)) aj (Kp.refl _ W) _;refine⟨m,c.blk n (by simp;exact λd=>l d.symm),⟨⟨b.lies.1,b.lies.2.1,λi e=>?_⟩,b.far,b.cap,b.fine,b.few⟩⟩;obtain⟨d,off,b,f,g⟩:=b.lies.2.2 i e;refine⟨d,off,b,aV f c.size,λo q r=>?_⟩;have s:d≠a:=by
  intro t;subst t;have h1:=g 1 _ rfl;have h2:=aa.cell k (off+i*4+1);rw[show(off+i*4+1)=off+(i*4+1) by omega]at h2;rw[<-Nat.add_assoc]at h2;exact yZ
 exact(c.cell (p:=⟨d,_,none⟩) f (by simpa using s)).trans (g o q r)
theorem tJ {P:Program} {b:Func} {g i:aQ} {j:Ending->World->Prop} (h:results b g=results b i):∀(a:List Deferred) (e:FrameMode) (w:ah),Leaves P b g j a e w->Leaves P b i j a e w
 |[],.returning,w,hl=>by obtain⟨f,k,l⟩:=hl;exact⟨f,by rw[<-h];exact k,l⟩
 |[],.panicking _,w,hl=>hl
 |[],.run,_,hl=>hl
 |d::a,e,w,hl=>by
  obtain⟨k,l,m,n,o,p,q,r⟩:=hl;refine⟨k,l,m,n,o,p,q,r.mono ?_⟩;intro s b b f;cases s with
  |returned t=>exact tJ h a _ _ f
  |panicked c=>exact tJ h a _ _ f
  |outgrown=>exact f
theorem tL {b:aQ} {c a:Nat} {e d:aA} (h:c≠a):(b.setIfInBounds c e).getD a d=b.getD a d:=by
 simp only[Array.getD_eq_getD_getElem?,Array.getElem?_setIfInBounds_ne h]
theorem Iq (a:aQ) (b:Nat) (c:aA) (d:b≠2) (e:b≠3) (f:b≠4):results Tryz.f26 (a.setIfInBounds b c)=results Tryz.f26 a:=by
 unfold results;rw[results26];have d:(a.setIfInBounds b c).getD 2 undef=a.getD 2 undef:=tL d;have e:(a.setIfInBounds b c).getD 3 undef=a.getD 3 undef:=tL e;have a:(a.setIfInBounds b c).getD 4 undef=a.getD 4 undef:=tL f;simp only[List.mapM_toArray,List.mapM_cons,List.mapM_nil,d,e,a]
theorem rA {b:Ending->World->Prop} (i:Nat) (v:aA) (d:i≠2) (e:i≠3) (f:i≠4) (c:List PanicEntry) (a:Act) (w:ah) (h:bodyPostD prog Tryz.f26 b (.panic c) (a.put (some i) v) w):bodyPostD prog Tryz.f26 b (.panic c) a w:=
 tJ (Iq a.tmps i v d e f) _ _ _ h
theorem ez.y0 {W:ah} {P:Nat} {h:Hd} {d:List aq} (a:ez W P h d) {b:Nat} {e:aX} {v:aA} (k:aa W b e #[v]) (e:aA):ez (W.setCell (ac b 0) e) P h d:=by
 have f:Kp [b] W (W.setCell (ac b 0) e):=Kp.aI (p:=(ac b 0)) aj (Kp.refl _ W) _;refine⟨⟨a.lies.1,a.lies.2.1,λi d=>?_⟩,a.far,a.cap,a.fine,a.few⟩;obtain⟨c,off,a,g,j⟩:=a.lies.2.2 i d;refine⟨c,off,a,aV g f.size,λl m n=>?_⟩;have o:c≠b:=by
  intro q;subst q;have h1:=j 1 _ rfl;have h2:=aa.cell k (off+i*4+1);exact yZ
 exact(f.cell (p:=⟨c,_,none⟩) g (by simpa using o)).trans (j l m n)
theorem ez.up {W:ah} {P b:Nat} {h:Hd} {c:List aq} (a:ez W P h c) (d:P<=b):ez W b h c:=⟨a.lies,λb c e f=>aV (a.far b c e f) d,a.cap,a.fine,a.few⟩
theorem pP:∀(b e:bR) (n:Nat) (a:Int),du b e n=.bad a->a≠0
 |[],_,_,_,h=>by rw[FP]at h;injection h with h;omega
 |c::b,e,n,a,h=>by
  rw[du.eq_def]at h;simp only at h;split at h
  ·split at h
   ·injection h with h;omega
   cases h
  split at h
  ·injection h with h;omega
  split at h
  ·split at h
   ·injection h with h;omega
   rename_i e d
   split at h
   ·exact pP d _ _ a h
   split at h
   ·exact pP d _ _ a h
   split at h
   ·exact pP d _ _ a h
   injection h with h;omega
  exact pP b _ _ a h
theorem Ir (b:Nat) (c:bR) (a:Int) (h:mW b c=.bad a):a≠0:=by
 unfold mW at h;split at h
 ·unfold kc at h;split at h
  ·split at h
   ·injection h with h;omega
   cases h
  cases h
 split at h
 ·unfold kd at h;split at h
  ·cases h
  split at h
  ·injection h with h;omega
  cases h
 split at h
 ·unfold js at h;split at h
  ·exact pP _ _ _ a h
  cases h
 unfold hL at h;split at h
 ·cases h
 split at h<;>cases h
theorem y2:∀(d a:Nat),a+d=4->∀(b:bR) (c:Int),jO a b=.bad c->c≠0
 |0,a,hj,b,c,h=>by
  obtain rfl:a=4:=af
  have:jO 4 b=.bad 5:=rfl;rw[this]at h;injection h with h;omega
 |d+1,a,hj,b,c,h=>by
  rw[yU a af]at h;unfold Rd.or at h;split at h
  ·exact y2 d (a+1) af b c h
  exact Ir a b c h
theorem y3:∀(a:Nat) (b:bR) (d:Nat) (ts:List aq),(hO a b d ts).2.1=0->(hO a b d ts).2.2=0
 |0,_,_,_,_=>rfl
 |_+1,[],_,_,_=>rfl
 |a+1,c::b,d,ts,h=>by
  rw[yW]at h⊢;unfold kW at h⊢;split at h
  ·simp at h
  ·rename_i d e
   exact absurd h (y2 4 0 rfl (c::b) d e)
  split at h
  ·simp at h
  rename_i b
  rw[if_neg b];exact y3 a _ _ _ h
theorem y4 (l:bR) (h:(dD l).2.1=0):(dD l).2.2=0:=by
 unfold dD at h⊢;split at h
 ·simp at h
 rename_i a
 rw[if_neg a];exact y3 _ _ _ _ h
def gy (l:bR):PO (List aB):=if(dD l).2.1=0 then rX l.length (dD l).1 else .bad (dD l).2.1 (dD l).2.2
theorem rB (z:Int) (f:Nat) (l:List aB) (a:aq) (ts:List aq):ji z (f+1) l (a::ts)=if l.length=200 then .bad 3 a.at_ else(jh z (a::ts)).bind λa b=>ji z f (l++[a]) b:=rfl
structure g9 (w W:ah) (P:Nat) (z:Int) (ts:List aq) (A:aU) (n c:Nat) (rs:List RI):Prop where
 k:Kp [] w W
 bO:aa W w.heap.size 24 #[O A n c]
 bE:aa W (w.heap.size+1) 76 #[J 0]
 bA:aa W (w.heap.size+1+1) 3 #[J 0]
 pb:az W P z ts
 pl:w.heap.size+3<=P
 it:i8 W (P+1) A n c rs
 few:n<=200
def ja (w:ah) (d:PO (List aB)) (c:Ending) (b:ah):Prop:=
 ag w b/\match d with
 |.ok xs _=>∃(h:Hd) (rs:List RI),c=.returned (.tuple #[.agg #[h.val],J 0,J 0])/\rs.map RI.it=xs/\aE b 25 h RI.cells rs/\(∀d∈rs,cW b (Bw w.heap.size b.heap.size) d)/\(∀d e,h.a=some ⟨d,e,none⟩->Bw w.heap.size b.heap.size d)
 |.bad er a=>c=.returned (.tuple #[.agg #[ab],er,a])
section
variable {w W W':ah} {P:Nat} {z:Int} {ts:List aq} {A:aU} {n c:Nat} {rs:List RI}
theorem g9.keep (a:g9 w W P z ts A n c rs) {b:List aq} (k:Kp [P] W W') (d:az W' P z b):g9 w W' P z b A n c rs:=
 have b:=a.pl
 ⟨k.old a.k (λb b e=>by simp at b;omega),k.blk a.bO aF,k.blk a.bE aF,k.blk a.bA aF,d,a.pl,a.it.keep k aj,a.few⟩
theorem g9.fin (a:g9 w W P z ts A n c rs):g9 w (((W.setCell (ao w 0) (O A n c)).setCell (ac (w.heap.size+1) 0) (J 0)).setCell (ac (w.heap.size+1+1) 0) (J 0)) P z ts A n c rs:=by
 have b:=a.pl;have b:Kp [w.heap.size,w.heap.size+1,w.heap.size+1+1] W (((W.setCell (ao w 0) (O A n c)).setCell (ac (w.heap.size+1) 0) (J 0)).setCell (ac (w.heap.size+1+1) 0) (J 0)):=
  Kp.aI (p:=(ac (w.heap.size+1+1) 0)) aj (Kp.aI (p:=(ac (w.heap.size+1) 0)) aj (Kp.aI (p:=(ao w 0)) aj (Kp.refl _ W) _) _) _
 exact⟨b.old a.k (λd d e=>by simp at d;omega),
  aa.far (aa.far (a.bO.aR 0 (O A n c)) (p:=(ac (w.heap.size+1) 0)) aG _) (p:=(ac (w.heap.size+1+1) 0)) aG _,
  aa.far ((aa.far a.bE (p:=(ao w 0)) aG _).aR 0 (J 0)) (p:=(ac (w.heap.size+1+1) 0)) aG _,
  (aa.far (aa.far a.bA (p:=(ao w 0)) aG _) (p:=(ac (w.heap.size+1) 0)) aG _).aR 0 (J 0),
  az.one (az.one (az.one a.pb a.bO af (O A n c)) (aa.far a.bE (p:=(ao w 0)) aG _) af (J 0)) (aa.far (aa.far a.bA (p:=(ao w 0)) aG _) (p:=(ac (w.heap.size+1) 0)) aG _) af (J 0),a.pl,a.it.keep b bd,a.few⟩
theorem g9.push {m e:ah} {t:List aq} {f:aU} {g:Nat} {r:RI} (i:g9 w W P z ts A n c rs) (B:n<200) (k:Kp [P] W m) (u:az m P z t) (S:ag m W') (o:cW m (Bw W.heap.size m.heap.size) r)
 (v:e.ownsRow (P+1) 95 25 (O f (n+1) g) (n+1) (rs.flatMap RI.cells++r.cells)) (b:W'.grownBy e (Value.slice A n c).ownBlock)
 (x:(Value.slice f (n+1) g).ownBlock=(Value.slice A n c).ownBlock\/(Value.slice f (n+1) g).ownBlock=some W'.heap.size):
 g9 w (e.setCell (ao w 0) (O f (n+1) g)) P z t f (n+1) g (rs++[r]):=by
 have m:=i.pl;have m:=i.pb.lt;have q:∀a,(Value.slice A n c).ownBlock=some a->P+1<=a:=by
  intro a d;rcases i.it.own.2 with⟨j,_⟩|⟨s,y,C,j,b,D,E⟩
  ·injection j with e1;subst e1;cases d
  rw[j]at d;injection d with d;subst d;exact b
 have s:∀a,a<P+1->some a≠(Value.slice A n c).ownBlock:=λa j o=>by have:=q a o.symm;omega
 have d:=(i.keep k u);have m:Kp [P] W W':=k.trans (Kp.of_same S);have y:=i8.push i.it m af af ((o.keep (Kp.of_same (l:=[]) S) (λ_ h=>by cases h)).mono (λa h=>⟨h.1,aV h.2 S.size⟩)) v b x;have m:=(d.bO.below S d.bO.lt).grown b (s _ af);have e:Kp [w.heap.size] e (e.setCell (ao w 0) (O f (n+1) g)):=Kp.aI (p:=(ao w 0)) aj (Kp.refl _ e) _;exact⟨(e.old (l':=[]) ((d.k.trans (Kp.of_same S)).grown b (λa j=>.inr (by have:=q a j;omega))) (λa j f=>by simp at j;omega)),m.aR 0 _,e.blk ((d.bE.below S d.bE.lt).grown b (s _ af)) aj,e.blk ((d.bA.below S d.bA.lt).grown b (s _ af)) bd,
  az.one ((u.same S).grown b (λa j=>by have:=q a j;omega)) m af _,i.pl,y.keep e bd,by omega⟩
theorem y5 {d e f:aA} (g:Kp [] w W) (i:aa W w.heap.size 24 #[d]) (j:aa W (w.heap.size+1) 76 #[e]) (k:aa W (w.heap.size+1+1) 3 #[f]) (er at_:Int) (a:aQ) (l:a.getD 2 undef=.pointer (some ⟨w.heap.size,0,none⟩)) (m:a.getD 3 undef=.pointer (some ⟨w.heap.size+1,0,none⟩)) (n:a.getD 4 undef=.pointer (some ⟨w.heap.size+1+1,0,none⟩)):
 CallsD prog 45 #[ak w.heap.size,ak (w.heap.size+1),ak (w.heap.size+1+1)] (.panicking [{v:=gT er at_,recovered:=false}]) W (λ
  |.returned _,b,w'=>Leaves prog Tryz.f26 a (ja w (.bad er at_)) [] (settle b) w'
  |.panicked chain,b,w'=>Leaves prog Tryz.f26 a (ja w (.bad er at_)) [] (raised b chain) w'
  |.outgrown,_,w'=>ja w (.bad er at_) .outgrown w'):=by
 have o:a[2]?.getD undef=.pointer (some ⟨w.heap.size,0,none⟩):=by simpa using l
 have p:a[3]?.getD undef=.pointer (some ⟨w.heap.size+1,0,none⟩):=by simpa using m
 have q:a[4]?.getD undef=.pointer (some ⟨w.heap.size+1+1,0,none⟩):=by simpa using n
 refine(Ia w.heap.size (w.heap.size+1) (w.heap.size+1+1) _ _ _ er at_ [] W i j k af af af).mono ?_;rintro d b c ⟨rfl,rfl,r,s,t,u⟩;have x:ae c (ao w 0) ab:=aa.cell r 0;have y:ae c (ac (w.heap.size+1) 0) er:=aa.cell s 0;have z:ae c (ac (w.heap.size+1+1) 0) at_:=aa.cell t 0;show Leaves prog Tryz.f26 a (ja w (.bad er at_)) [] .returning c;refine⟨.tuple #[.agg #[ab],er,at_],?_,(u.old g (l':=[]) (λa a c=>by simp at a;omega)).same,rfl⟩;simp[results,results26,go_sem,o,p,q,x,y,z]
theorem Is (a:g9 w W P z ts A n c rs) (e:List aq) (b:aQ) (o:b.getD 2 undef=.pointer (some ⟨w.heap.size,0,none⟩)) (p:b.getD 3 undef=.pointer (some ⟨w.heap.size+1,0,none⟩)) (q:b.getD 4 undef=.pointer (some ⟨w.heap.size+1+1,0,none⟩)):
 CallsD prog 45 #[ak w.heap.size,ak (w.heap.size+1),ak (w.heap.size+1+1)] .returning W (λ
  |.returned _,d,w'=>Leaves prog Tryz.f26 b (ja w (.ok (rs.map RI.it) e)) [] (settle d) w'
  |.panicked chain,d,w'=>Leaves prog Tryz.f26 b (ja w (.ok (rs.map RI.it) e)) [] (raised d chain) w'
  |.outgrown,_,w'=>ja w (.ok (rs.map RI.it) e) .outgrown w'):=by
 have r:b[2]?.getD undef=.pointer (some ⟨w.heap.size,0,none⟩):=by simpa using o
 have s:b[3]?.getD undef=.pointer (some ⟨w.heap.size+1,0,none⟩):=by simpa using p
 have u:b[4]?.getD undef=.pointer (some ⟨w.heap.size+1+1,0,none⟩):=by simpa using q
 refine(Ib w.heap.size (w.heap.size+1) (w.heap.size+1+1) W).mono ?_;rintro o d f ⟨rfl,rfl,rfl⟩;have v:ae f (ao w 0) (O A n c):=aa.cell a.bO 0;have x:ae f (ac (w.heap.size+1) 0) (J 0):=aa.cell a.bE 0;have y:ae f (ac (w.heap.size+1+1) 0) (J 0):=aa.cell a.bA 0;have o:=a.pl;have o:=a.few;show Leaves prog Tryz.f26 b (ja w (.ok (rs.map RI.it) e)) [] .returning f;refine⟨.tuple #[.agg #[O A n c],J 0,J 0],?_,a.k.same,⟨A,n,c⟩,rs,rfl,rfl,cJ (h:=⟨A,n,c⟩) RI.len a.it.len (by show n<=_;omega) a.it.own,λb e=>(a.it.sub b e).mono (λb h=>⟨by have:=h.1.1;omega,h.1.2⟩),?_⟩
 ·simp[results,results26,go_sem,r,s,u,v,x,y]
 intro i j l;rcases a.it.own.2 with⟨g,D⟩|⟨E,F,B,g,G,C,_⟩
 ·injection g with e1
  have m:A=some ⟨i,j,none⟩:=l;rw[e1]at m;cases m
 injection g with e1
 have a:A=some ⟨i,j,none⟩:=l;rw[a]at e1;injection e1 with e1
 injection e1 with e1
 subst e1;exact⟨by omega,aa.lt (t:=95) (cs:=B) C⟩
end
end Go.Proofs.YteamkimbmdgdbaaGreatDoor

import Derived.Test.YteamkimbmdgdbaaGreatDoorK15
set_option linter.unusedSimpArgs false
set_option linter.unusedVariables false
set_option maxHeartbeats 16000000
set_option maxRecDepth 100000
namespace Go.Proofs.YteamkimbmdgdbaaGreatDoor
open Go.RowKit
inductive aB where
 |mk (kind table:Int) (hk:Hd) (kids:List aB) (ht:Hd) (tests:List cT) (hc:Hd) (cD:List Int) (col agg:Int) (ha:Hd) (attrs:List RA)
def aB.cells:aB->List Value
 |.mk kind table hk _ ht _ hc _ col agg ha _=>[.int .i64 kind,.int .i64 table,hk.val,ht.val,hc.val,.int .i64 col,.int .i64 agg,ha.val]
def aB.ha:aB->Hd
 |.mk _ _ _ _ _ _ _ _ _ _ ha _=>ha
def aB.attrs:aB->List RA
 |.mk _ _ _ _ _ _ _ _ _ _ _ l=>l
mutual
def aB.pl:aB->Pl
 |.mk kind table _ kids _ tests _ cD col agg _ attrs=>.mk kind table (aB.aN kids) tests cD col agg (attrs.map RA.at_)
def aB.aN:List aB->List Pl
 |[]=>[]
 |r::l=>r.pl::aB.aN l
end
theorem Ic {c:af} {d:Nat} {e:bb} {f n b g:Nat} {i:aX} {l:bg} (h:c.ownsRow d e f (U i n b) g l):n<=b:=by
 rcases h.2 with⟨a,_⟩|⟨j,k,m,a,_,_,o,_⟩
 ·injection a;omega
 injection a;omega
inductive dJ (w:af) (S:Nat->Prop):aB->Prop where
 |mk {kind table:Int} {hk:Hd} {kids:List aB} {ht:Hd} {tests:List cT} {hc:Hd} {cD:List Int} {col agg:Int} {ha:Hd} {attrs:List RA}
  (lk:aF w 8 hk aB.cells kids) (ik:aS S hk) (sub:∀k∈kids,dJ w S k) (lt:aF w 12 ht cT.cells tests) (it:aS S ht) (lc:dQ w hc cD) (ic:aS S hc) (ra:fY w S ha attrs) (cg:kind=8->ha.n<=ha.c:=by simp):dJ w S (.mk kind table hk kids ht tests hc cD col agg ha attrs)
theorem dJ.mono {w:af} {S S':Nat->Prop} {r:aB} (a:dJ w S r) (b:∀c,S c->S' c):dJ w S' r:=by
 induction a with
 |mk d e n f g i j k l m=>exact .mk d (e.mono b) (λc d=>m c d) f (g.mono b) i (j.mono b) (k.mono b) l
theorem dJ.keep {w c:af} {S:Nat->Prop} {d:aB} (i:dJ w S d) {l:List Nat} (k:Kp l w c) (b:∀a∈l,¬S a):dJ c S d:=by
 induction i with
 |mk j e r m f n g o p q=>exact .mk (j.kp k (λa c d i=>b a i (e a c d))) e (λc d=>q c d) (m.kp k (λa c d e=>b a e (f a c d))) f (n.kp k (λa c d e=>b a e (g a c d))) g (o.keep k b) p
theorem aB.len (a:aB):a.cells.length=8:=by cases a;rfl
theorem aB.iB (l:List aB):aB.aN l=l.map aB.pl:=by
 induction l with
 |nil=>rfl
 |cons b l a=>rw[aB.aN,a];rfl
theorem aB.BN (a:aB):a.pl.attrs=a.attrs.map RA.at_:=by cases a;rfl
theorem dJ.res {w:af} {S:Nat->Prop} {a:aB} (b:dJ w S a):fY w S a.ha a.attrs:=by
 cases b with
 |mk d e f g i j k c l=>exact c
theorem jn (l:List aB) (a:Nat) (h:a<l.length):bF (aB.aN l) a=l[a].attrs.map RA.at_:=by
 rw[aB.iB];unfold bF;simp[h,aB.BN]
theorem jo {e:af} {h:Hd} {l:List aB} (f:aF e 8 h aB.cells l) (b:Nat) (g:b<l.length):∃c d,h.a=some ⟨c,d,none⟩/\c<e.heap.size/\e.cell? (ab c (d+b*8+7))=some l[b].ha.val:=by
 obtain⟨c,d,e,f,g⟩:=f.2.2 b g;refine⟨c,d,e,f,g 7 _ ?_⟩;cases l[b];rfl
structure iC (w:af) (X P lo:Nat) (h:Hd) (ts:List RT) (hk:Hd) (kids:List aB) (hc:Hd) (conds:List bB) (hn:Hd) (names:bm) (at_:Int):Prop where
 hX:X<w.heap.size
 xp:X<P
 j3:P<lo
 lw:lo<=w.heap.size
 c0:ac w (ab X 0) h.val
 c8:ac w (ab X 8) at_
 ta:∀W,Kp [P] w W->bI W h ts
 lk:aF w 8 hk aB.cells kids
 ik:aS (Bw lo w.heap.size) hk
 sub:∀k∈kids,dJ w (Bw lo w.heap.size) k
 lc:∀W,Kp [P] w W->aF W 14 hc bB.cells conds
 ln:∀W,Kp [P] w W->b4 W hn names
 l5:names.length<=5001
def iE (b c:Nat) (p:Pl) (v:ay) (w:af):Prop:=v=.tuple #[]/\∃a:aB,a.pl=p/\J w b 105 a.cells.toArray/\dJ w (Bw c w.heap.size) a
def oy:List (Value×Value):=[(.int .i64 1,.int .i64 0),(.int .i64 2,.int .i64 1),(.int .i64 3,.int .i64 1),(.int .i64 4,.int .i64 2),(.int .i64 5,.int .i64 2),(.int .i64 6,.int .i64 2),(.int .i64 7,.int .i64 1),(.int .i64 8,.int .i64 1)]
theorem uF {b:af} {d:Nat} (h:cH (.int .i64) b d oy) (c:Int):
 (ef c=none/\(Instr.lookup 341 (.map (some d)) c true).run Tryz.prog b=.ok (.tuple #[O 0,.bool false]) b)\/
 ∃f:Nat,ef c=some f/\(Instr.lookup 341 (.map (some d)) c true).run Tryz.prog b=.ok (.tuple #[(f:Int),.bool true]) b:=by
 rcases h.look (P:=Tryz.prog) (T:=341) Tryz.underlying341 Tryz.underlying3 (O 0) Tryz.zeroValue3 c rfl with⟨e,a⟩|⟨i,j,e,a⟩
 ·refine .inl ⟨?_,a true⟩
  simp[oy]at e;unfold ef;rw[if_neg ae,if_neg ae,if_neg ae]
 refine .inr ?_;have g:=List.mem_of_getElem? e;simp[oy]at g;rcases g with⟨rfl,rfl⟩|⟨rfl,rfl⟩|⟨rfl,rfl⟩|⟨rfl,rfl⟩|⟨rfl,rfl⟩|⟨rfl,rfl⟩|⟨rfl,rfl⟩|⟨rfl,rfl⟩
 ·exact⟨0,rfl,a true⟩
 ·exact⟨1,rfl,a true⟩
 ·exact⟨1,rfl,a true⟩
 ·exact⟨2,rfl,a true⟩
 ·exact⟨2,rfl,a true⟩
 ·exact⟨2,rfl,a true⟩
 ·exact⟨1,rfl,a true⟩
 exact⟨1,rfl,a true⟩
def km (k:Nat):Array MapEntry:=(([(0:Int),1,1,2,2,2,1,1].take k).zipIdx.map λ(b,a)=>(⟨.int .i64 (a+1:Nat),.int .i64 b,a⟩:MapEntry)).toArray
theorem j4 (a:af):(Instr.mapUpdate 341 (.map (some a.heap.size)) (O 1) (O 0)).run Tryz.prog (a.alloc (.map #[] 0))=.ok () (a.alloc (.map (km 1) 1)):=
 dL (P:=Tryz.prog) (T:=341) Tryz.underlying341 Tryz.underlying3 a #[] 0 _ _ rfl rfl
theorem j5 (a:af):(Instr.mapUpdate 341 (.map (some a.heap.size)) (O 2) (O 1)).run Tryz.prog (a.alloc (.map (km 1) 1))=.ok () (a.alloc (.map (km 2) 2)):=
 dL (P:=Tryz.prog) (T:=341) Tryz.underlying341 Tryz.underlying3 a (km 1) 1 _ _ rfl rfl
theorem j6 (a:af):(Instr.mapUpdate 341 (.map (some a.heap.size)) (O 3) (O 1)).run Tryz.prog (a.alloc (.map (km 2) 2))=.ok () (a.alloc (.map (km 3) 3)):=
 dL (P:=Tryz.prog) (T:=341) Tryz.underlying341 Tryz.underlying3 a (km 2) 2 _ _ rfl rfl
theorem j7 (a:af):(Instr.mapUpdate 341 (.map (some a.heap.size)) (O 4) (O 2)).run Tryz.prog (a.alloc (.map (km 3) 3))=.ok () (a.alloc (.map (km 4) 4)):=
 dL (P:=Tryz.prog) (T:=341) Tryz.underlying341 Tryz.underlying3 a (km 3) 3 _ _ rfl rfl
theorem j8 (a:af):(Instr.mapUpdate 341 (.map (some a.heap.size)) (O 5) (O 2)).run Tryz.prog (a.alloc (.map (km 4) 4))=.ok () (a.alloc (.map (km 5) 5)):=
 dL (P:=Tryz.prog) (T:=341) Tryz.underlying341 Tryz.underlying3 a (km 4) 4 _ _ rfl rfl
theorem j9 (a:af):(Instr.mapUpdate 341 (.map (some a.heap.size)) (O 6) (O 2)).run Tryz.prog (a.alloc (.map (km 5) 5))=.ok () (a.alloc (.map (km 6) 6)):=
 dL (P:=Tryz.prog) (T:=341) Tryz.underlying341 Tryz.underlying3 a (km 5) 5 _ _ rfl rfl
theorem ka (a:af):(Instr.mapUpdate 341 (.map (some a.heap.size)) (O 7) (O 1)).run Tryz.prog (a.alloc (.map (km 6) 6))=.ok () (a.alloc (.map (km 7) 7)):=
 dL (P:=Tryz.prog) (T:=341) Tryz.underlying341 Tryz.underlying3 a (km 6) 6 _ _ rfl rfl
theorem kc (a:af):(Instr.mapUpdate 341 (.map (some a.heap.size)) (O 8) (O 1)).run Tryz.prog (a.alloc (.map (km 7) 7))=.ok () (a.alloc (.map (km 8) 8)):=
 dL (P:=Tryz.prog) (T:=341) Tryz.underlying341 Tryz.underlying3 a (km 7) 7 _ _ rfl rfl
theorem kd (a:af):cH (.int .i64) (a.alloc (.map (km 8) 8)) a.heap.size oy:=⟨(km 8),8,fx _ _,rfl,(List.forall_mem_cons.2 ⟨rfl,(List.forall_mem_cons.2 ⟨rfl,(List.forall_mem_cons.2 ⟨rfl,(List.forall_mem_cons.2 ⟨rfl,(List.forall_mem_cons.2 ⟨rfl,(List.forall_mem_cons.2 ⟨rfl,(List.forall_mem_cons.2 ⟨rfl,(List.forall_mem_cons.2 ⟨rfl,(λ_ h=>by cases h)⟩)⟩)⟩)⟩)⟩)⟩)⟩)⟩)⟩
theorem kO {b:af} {c:Nat} (h:cH (.int .i64) b c oy) {k:Int} {n:Nat} (d:ef k=some n):(Instr.lookup 341 (.map (some c)) k true).run Tryz.prog b=.ok (.tuple #[(n:Int),.bool true]) b:=by
 rcases uF h k with⟨a,_⟩|⟨e,a,f⟩
 ·rw[d]at a;cases a
 have a:n=e:=Option.some.inj (d.symm.trans a);rw[a];exact f
theorem lX {w:af} {b m n c:Nat} {d:bb} {a:aX} {e:bg} (f:w.ownsRow b d m (U a n c) n e):aS (Bw b w.heap.size) ⟨a,n,c⟩:=by
 intro b c d;have a:a=some ⟨b,c,none⟩:=d;exact b3 f b (by rw[a];rfl)
theorem kQ {c:af} {g n d:Nat} {e:aX} {b:List RA} (i:c.ownsRow g 111 6 (U e n d) n (b.flatMap RA.cells)) (j:b.length=n) (k:b.length<=10000) (f:∀a∈b,gL a/\aG a.at_.name/\aG a.at_.dflt.s):
 fY c (Bw g c.heap.size) ⟨e,n,d⟩ b:=
 ⟨⟨cF (h:=⟨e,n,d⟩) RA.uD j (by show n<=_;omega) i,λa b=>⟨pM c (f a b).1,(f a b).2⟩⟩,lX i,(λa b=>(f a b).1),k⟩
theorem fY.bare {c:af} {f:Nat->Prop} {h:Hd} {d:List RA} (e:fY c f h d):∀c∈d,gL c/\aG c.at_.name/\aG c.at_.dflt.s:=λc d=>⟨e.b c d,(e.a.2 c d).2⟩
theorem RA.BZ (a:RA):∀v∈a.cells,v.oneCell'=true:=by
 exact GU
theorem uR (h:Hd) (l:List RA) (a:af) (e:fu a h l) (c:l.length<=10000):
 Calls Tryz.prog 53 #[h.val] a λg c=>∃f b,g=.returned (U f l.length b)/\ag a c/\c.ownsRow a.heap.size 111 6 (U f l.length b) l.length (l.flatMap RA.cells):=by
 have f:l.length=h.n:=e.1.1;refine(uG h RA.cells RA.eE RA.BZ l a e.1 ae).mono ?_;rintro a c (⟨rfl,rfl,d⟩|⟨b,j,rfl,d,i⟩)
 ·exact⟨none,0,rfl,d,rfl,.inl ⟨rfl,rfl⟩⟩
 exact⟨_,b,rfl,d,i⟩
theorem B0 {e:af} {j d n k b:Nat} {a:List RA} (o:e.ownsRow j 111 6 (U (some ⟨d,0,none⟩) n k) n (a.flatMap RA.cells)) (f:a.length=n) (g:a.length<=10000) (l:∀c∈a,gL c/\aG c.at_.name/\aG c.at_.dflt.s)
 (m:b<a.length) {nm:aw} (p:aG nm):∃g:List RA,g.length=n/\g.map RA.at_=(a.map RA.at_).modify b (λq=>{q with name:=nm})/\
  fY (e.setCell (ab d (b*6)) nm) (Bw j (e.setCell (ab d (b*6)) nm).heap.size) ⟨some ⟨d,0,none⟩,n,k⟩ g:=by
 obtain⟨d,i⟩:∃d:RA,d=⟨{a[b].at_ with name:=nm},a[b].h⟩:=⟨_,rfl⟩;have e:=mP RA.eE o f b ae 0 ae nm d (by rw[i];rfl);refine⟨a.set b d,by simp[f],ry a b m d _ (by rw[i]),kQ e (by simp[f]) aC ?_⟩;intro c r;rcases List.mem_or_eq_of_mem_set r with h|h
 ·exact l c h
 rw[h,i];have:=l _ (List.getElem_mem m);exact⟨this.1,p,this.2.2⟩
theorem B1 (h:Hd) (l:bm) (a:af) (e:b4 a h l) (f:l.length<=1000000000):
 Calls Tryz.prog 257 #[h.val] a λg c=>∃f b,g=.returned (U f l.length b)/\ag a c/\c.ownsRow a.heap.size 9 1 (U f l.length b) l.length (l.flatMap dF):=by
 have f:l.length=h.n:=e.1.1;refine(uI h dF (λ_=>rfl) (λf f d=>by simp[dF]at d;subst d;rfl) l a e.1 ae).mono ?_;rintro a c (⟨rfl,rfl,d⟩|⟨b,j,rfl,d,i⟩)
 ·exact⟨none,0,rfl,d,rfl,.inl ⟨rfl,rfl⟩⟩
 exact⟨_,b,rfl,d,i⟩
theorem uS {a:af} {b b' m n:Nat} {c:bb} {v:ay} {xs:bg} (d:a.ownsRow b c m v n xs) (h:b'<=b):a.ownsRow b' c m v n xs:=by
 refine⟨d.1,?_⟩;rcases d.2 with e|⟨f,g,i,j,k,l⟩
 ·exact .inl e
 exact .inr ⟨f,g,i,j,bR h k,l⟩
def kR (b:List Tb):Prop:=∀a∈b,a.attrs.length<=10000/\∀b∈a.attrs,b.was.length<=1000000
def jp (a:af) (b:Nat):Prop:=∀c d,a.cell? (ab b c)≠some (.string d)
theorem aF.iG {e:Type} {w f:af} {m a:Nat} {h:Hd} {enc:e->List Value} {c:List e} (l:aF w m h enc c) (d:∀x∈c,∃g,(enc x)[0]?=some (.string g)) (o:jp w a) (k:Kp [a] w f):aF f m h enc c:=by
 refine⟨l.1,l.2.1,λi n=>?_⟩;obtain⟨b,off,ha,hb,hc⟩:=l.2.2 i n;have hne:b≠a:=by
  rintro rfl;obtain⟨g,d⟩:=d _ (List.getElem_mem n);exact o _ _ (hc 0 _ d)
 exact GW
def gN (a:Nat) (b:List RT):Prop:=∀c∈b,aS (λb=>b≠a) c.hk
theorem bI.iG {w f:af} {b:Nat} {h:Hd} {c:List RT} (a:bI w h c) (e:jp w b) (i:gN b c) (d:Kp [b] w f):bI f h c:=
 ⟨a.1.iG (λb _=>⟨b.name,rfl⟩) e d,λb c=>⟨⟨(a.2 b c).1.1.iG (λf _=>⟨f.at_.name,rfl⟩) e d,λf g=>⟨⟨((a.2 b c).1.2 f g).1.1.iG (λj _=>⟨j,rfl⟩) e d,((a.2 b c).1.2 f g).1.2⟩,((a.2 b c).1.2 f g).2⟩⟩,
  (a.2 b c).2.1.kp d (λd e f g=>i b c d e f (aA g)),(a.2 b c).2.2⟩⟩
def gv (w:af) (a:Nat) (h:Hd) (u:bg):Prop:=∃b:Int,J w a 157 (h.val::(u++[.int .i64 b])).toArray
structure mR (u:bg):Prop where
 n:u.length=7
 s:∀v∈u,∀s,v≠.string s
theorem gv.g9 {w:af} {c:Nat} {h:Hd} {u:bg} (b:gv w c h u) (e:mR u):jp w c:=by
 obtain⟨f,b⟩:=b;intro g d c;rw[J.cell b g]at c;have i:Value.string d∈(h.val::(u++[.int .i64 f])):=List.mem_of_getElem? (by simpa using c);rcases dd i with a|a
 ·cases a
 rcases cY a with a|a
 ·exact e.s _ a d rfl
 rw[List.mem_singleton]at a;cases a
structure jq (w:af) (X Bf Bv:Nat) (h:Hd) (ts:List RT) (u:bg) (S:Nat->Prop):Prop where
 bx:gv w X h u
 us:mR u
 hf:Bf<w.heap.size
 cf:ac w (ab Bf 0) (.func (.func 200) #[] #[aj Bf,aj Bv])
 hv:Bv<w.heap.size
 cv:ac w (ab Bv 0) (aj X)
 nf:Bf≠X
 nv:Bv≠X
 ta:bI w h ts
 ko:gN X ts
 fa:kR (ts.map RT.tb)
 sx:¬S X
 sl:∀b,S b->b<w.heap.size
theorem jq.kp {w b:af} {X c d:Nat} {h:Hd} {e:List RT} {u:bg} {S:Nat->Prop} (a:jq w X c d h e u S) (k:Kp [X] w b) (f:gv b X h u):jq b X c d h e u S:=
 ⟨f,a.us,aT a.hf k.size,(k.cell (p:=(ab c 0)) a.hf (by simpa using a.nf)).trans a.cf,aT a.hv k.size,(k.cell (p:=(ab d 0)) a.hv (by simpa using a.nv)).trans a.cv,a.nf,a.nv,
  a.ta.iG (a.bx.g9 a.us) a.ko k,a.ko,a.fa,a.sx,λb c=>aT (a.sl b c) k.size⟩
theorem jq.hX {w:af} {a b c:Nat} {h:Hd} {d:List RT} {u:bg} {S:Nat->Prop} (e:jq w a b c h d u S):a<w.heap.size:=by
 obtain⟨_,a⟩:=e.bx;exact a.lt
def mS {c:Type} (w:af) (d:Nat) (h:Hd) (u:bg) (f:RO c) (V:c->Value->World->Prop) (e:Ending) (b:af):Prop:=
 Kp [d] w b/\gv b d h u/\match f with
  |.bad er a=>e=.panicked [{v:=eY er a,recovered:=false}]
  |.ok a=>∃c,e=.returned c/\V a c b
def oB (b:Nat) (p:Pl×Int) (v:ay) (w:af):Prop:=∃a:aB,a.pl=p.1/\v=.tuple #[.agg a.cells.toArray,p.2]/\dJ w (Bw b w.heap.size) a
theorem uU {g j:Type} {w o:af} {c:Nat} {h:Hd} {u:bg} {k:FuncId} {l:aO} {i:RO j} {F:g->RO j} {V:g->Value->World->Prop} {d:RO g} {g:Ending->World->Prop} (j:Kp [c] o w) (e:i=d.bind F)
 (o:Calls Tryz.prog k l w λj b=>mS w c h u d V j b)
 (p:∀er a b,Hid (i=.bad er a)->Hid (Kp [c] w b)->Hid (gv b c h u)->g (.panicked [{v:=eY er a,recovered:=false}]) b)
 (q:∀a v b,d=.ok a->Hid (i=F a)->V a v b->Hid (Kp [c] w b)->Hid (gv b c h u)->g (.returned v) b):Calls Tryz.prog k l w g:=by
 refine o.mono ?_;rintro j b ⟨m,n,f⟩;cases hq:d with
 |bad er a=>
  rw[hq]at f e;subst f;exact p er a b (Z e) (Z m) (Z n)
 |ok a=>
  rw[hq]at f e;obtain⟨v,rfl,r⟩:=f;exact q a v b hq (Z e) r (Z m) (Z n)
theorem rz (a:List Tb):∀(b:List Ex) (c:List Pl×Int),fi a b=.ok c->1<=c.2
 |[],c,h=>by
  rw[fi]at h;injection h with h
  rw[<-h];decide
 |e::b,c,h=>by
  rw[fi]at h;cases h1:fR a e with
  |bad d f=>rw[h1]at h;cases h
  |ok d=>
   rw[h1]at h;cases h2:fi a b with
   |bad g i=>
    have f:(fi a b).bind (λf=>RO.ok (d.1::f.1,max (d.2+1) f.2))=.ok c:=h;rw[h2]at f;cases f
   |ok f=>
    have g:(fi a b).bind (λf=>RO.ok (d.1::f.1,max (d.2+1) f.2))=.ok c:=h;rw[h2]at g;injection g with g
    have a:=rz a b f h2;rw[<-g];show 1<=max (d.2+1) f.2;omega
theorem B2 {b:List Tb} {e:Ex} {p:Pl×Int} (h:fR b e=.ok p):1<=p.2/\p.2<=12:=by
 cases e with
 |mk f g i j k l m n d=>
  rw[fR]at h;cases h1:fi b i with
  |bad a c=>rw[h1]at h;cases h
  |ok c=>
   rw[h1]at h;have o:=rz b i c h1;have a:RO.ap (decide (c.2<=12)) 3 d ((cy b f g j k l m n d c.1).bind λa=>RO.ok (a,c.2))=.ok p:=h;unfold RO.ap at a;split at a
   ·rename_i q
    cases h3:cy b f g j k l m n d c.1 with
    |bad r s=>rw[h3]at a;cases a
    |ok r=>
     rw[h3]at a;injection a with a
     rw[<-a];exact⟨o,by simpa using q⟩
   cases a
theorem B3 (b:List Tb) {d:Type} (c:List Ex) (F:List Pl×Int->RO d):(fi b c).bind F=(fi b c).bind λa=>F (a.1,max 1 a.2):=by
 cases h:fi b c with
 |bad e f=>rfl
 |ok a=>
  have b:=rz b c a h;show F a=F (a.1,max 1 a.2);rw[Int.max_eq_right b]
theorem B4 (b:List Tb) {a:Type} (d:Ex) (e:List Ex) (l:List Pl) (c:Int) (F:List Pl×Int->RO a):
 (fi b (d::e)).bind (λa=>F (l++a.1,max c a.2))=(fR b d).bind λp=>(fi b e).bind λa=>F ((l++[p.1])++a.1,max (max c (p.2+1)) a.2):=by
 rw[fi,RO.bind_assoc];congr 1
 funext p
 rw[RO.bind_assoc];congr 1
 funext a
 show F (l++p.1::a.1,max c (max (p.2+1) a.2))=_;rw[List.append_assoc,Int.max_assoc];rfl
theorem B5 (b:List Tb) (d:aw) (e:List bB) (f:bm) (g i:aw) (j c:Int) (a:List Pl):cy b 1 d e f g i j c a=RO.ap (decide (a.length=0)) 1 c ((dS b c d).bind λc=>.ok (.mk 1 c a [] [] 0 0 ((dw b c).attrs.map iY))):=by
 have h:decide (ef 1=some a.length)=decide (a.length=0):=by
  have:ef 1=some 0:=rfl;rw[this];simp only[Option.some.injEq];by_cases b:a.length=0
  ·simp[b]
  have a:¬0=a.length:=λa=>b a.symm;simp[b,a]
 unfold cy;rw[h];rfl
theorem B6 (B c aU:Nat) (h:Hd) (x:List RT) (X:aw) (cG a8:Hd) (i:List aB) (bP:Hd) (bQ:List bB) (bR:Hd) (bS:bm) (a9 aV:aw) (ba at_:Int) (f:af) (fh:aG aV) (cH:kR (x.map RT.tb))
 (bT:J f c 105 #[O 1,O 0,a8.val,aa,aa,O 0,O 0,aa]) (I:iC f B c aU h x a8 i bP bQ bR bS at_):
 Calls Tryz.prog 201 #[aj B,.agg #[O 1,X,cG.val,bP.val,bR.val,a9,aV,ba,at_],aj c] f
  λe w'=>RP [c] f (cy (x.map RT.tb) 1 X bQ bS a9 aV ba at_ (aB.aN i)) (iE c aU) e w':=by
 obtain⟨bU,Y,bW⟩:=h;obtain⟨al,cI,an⟩:=a8;obtain⟨cJ,cK,cL⟩:=cG;obtain⟨cM,cN,cO⟩:=bP;obtain⟨cP,cQ,cR⟩:=bR;have R:=Z I;have dG:i.length=cI:=I.lk.1;have bP:cI<=9223372036854775807:=I.lk.2.1;have bP:x.length=Y:=(I.ta f (Kp.refl _ f)).1.1;have bP:Y<=9223372036854775807:=(I.ta f (Kp.refl _ f)).1.2.1;subst dG;have bP:=I.hX;have bR:=I.xp;have bR:=I.j3;have bR:=I.lw;have cG:=bT.lt;have dH:=Z bT;obtain⟨T,bQ⟩:∃T,T=cy (x.map RT.tb) 1 X bQ bS a9 aV ba at_ (aB.aN i):=⟨_,rfl⟩;rw[<-bQ];have bR:(aB.aN i).length=i.length:=by rw[aB.iB,List.length_map]
 have bs:=Z (show T=RO.ap (decide (i.length=0)) 1 at_ ((dS (x.map RT.tb) at_ X).bind λa=>.ok (.mk 1 a (aB.aN i) [] [] 0 0 ((dw (x.map RT.tb) a).attrs.map iY))) by rw[bQ,B5,bR]);clear bQ I bT bR;have bQ:f.heap.size<=f.heap.size:=Nat.le_refl _;have dI:=Z (Kp.refl [c] f);have dJ:=Z (λ(a:af) (b:Kp [c] f a)=>R.lk.kp b (λa b e Y=>by have a:=(R.out.ik a b e).1;have a:=aA Y;omega));have cS:=Z (λ(a:af) (b:Kp [c] f a)=>show ac a (ab B 0) (U bU Y bW)from(b.cell (p:=(ab B 0)) bP aC).trans R.c0);have cT:=Z (λ(a:af) (b:Kp [c] f a)=>show ac a (ab B 8) at_ from(b.cell (p:=(ab B 8)) bP aC).trans R.c8);have bP:=aW bP;have bP:=aW cG;have bP:∀(bP:Fn) (first cap:aO) (f:af),(Instr.makeFunc bP first cap).run Tryz.prog f=.ok (.func bP first cap) f:=λ_ _ _ _=>rfl;have dK:=@run_makeMap Tryz.prog;show Calls Tryz.prog 201 #[aj B,.agg #[O 1,X,U cJ cK cL,U cM cN cO,U cP cQ cR,a9,aV,ba,at_],aj c] f _;go_enter Tryz.func201,Tryz.ntmps201
 go_upto_region 1 with(fail)
 obtain⟨bS,bP,bR,a,bQ⟩:=nb f 154 #[aj B];rw[bP];clear bP;have bP:=qk dI a;have bS:=qb a dH;have bT:=bP.size;clear a;obtain⟨C,aV,dL,a,a9⟩:=nc bQ 93 #[O 1,X,U cJ cK cL,U cM cN cO,U cP cQ cR,a9,aV,ba,at_];rw[aV];clear aV;have cU:=qk bP a;have dM:=qb a bS;have dN:=qb a bR;have aV:=cU.size;clear a;have aV:f.heap.size+1<C.heap.size:=ae
 clear bQ a9;have dO:=j4 C;have dP:=j5 C;have dQ:=j6 C;have dR:=j7 C;have dT:=j8 C;have dU:=j9 C;have dV:=ka C;have dW:=kc C;go_upto_region 2 with(fail)
 clear dO dP dQ dR dT dU dV dW dK;have M3:=Z (kd C);have a:=Z (show ag C (C.alloc (.map (km 8) 8))from(ag.refl C).alloc _);obtain⟨P,C⟩:∃P,P=C.alloc (.map (km 8) 8):=⟨_,rfl⟩;rw[<-C]at M3 a⊢;clear C;have bb:=qk cU a;have bX:=qb a dM;have bY:=qb a dN;have bZ:=qb a dL;have C:=bb.size;have dX:=kO M3 (k:=1) (n:=0) rfl;clear a M3;have dY:=az bZ;have C:=J.lt bZ;go_upto_region 3 with(fail)
 clear dX dY;have b0:=az bY;have C:=J.lt bY;have b4:ac P (ab c 2) (U al i.length an):=J.cell bX 2;have C:=J.lt bX;have b5:=cT P bb;have C:f.heap.size<P.heap.size:=ae
 have C:c<P.heap.size:=ae
 by_cases b6:i.length=0
 case neg=>
  have d:(((0:Nat):Int)==(i.length:Int))=false:=aC
  have d:((0:Int)==(i.length:Int))=false:=aC
  have b:=Z (show T=RO.ap false 1 at_ _ by rw[bs.out,decide_eq_false b6]);clear bs b6;refine ez 12 (S:=(λw'=>ac w' (am f 0) (aj B)/\ac w' (ab c 2) (U al i.length an))) ⟨b0,b4⟩ (λhS=>?_);refine dg ?_;refine eh ?_;refine aK 11 (λK d=>?_);go_simp;exact bv bb.out.drew (show T=RO.ap false _ at_ _ from b.out) b5
 have dZ:(((0:Nat):Int)==(i.length:Int))=true:=aC
 have d0:((0:Int)==(i.length:Int))=true:=aC
 have cV:=Z (show T=RO.ap true 1 at_ ((dS (x.map RT.tb) at_ X).bind λb=>.ok (.mk 1 b (aB.aN i) [] [] 0 0 ((dw (x.map RT.tb) b).attrs.map iY))) by rw[bs.out,decide_eq_true b6]);clear bs;refine ez 12 (S:=(λw'=>ac w' (am f 0) (aj B)/\ac w' (ab c 2) (U al i.length an))) ⟨b0,b4⟩ (λhS=>?_);refine dg ?_;refine eh ?_;refine aK 11 (λK t=>?_);go_simp;refine bJ bb.out.drew (show T=RO.ap true _ at_ _ from cV.out) b5 λcW=>?_;try go_simp
 refine t.out _ _ (λ_=>hS) ?_;refine av ?_;refine b2 ?_;refine bV ?_;clear hS dZ d0 b0 b4 b5 cV;have a:=Z (show ag P P.drew from(ag.refl P).drew);obtain⟨W,C⟩:∃W,W=P.drew:=⟨_,rfl⟩;rw[<-C]at a⊢;clear C;have cX:=qk bb a;have d1:=qb a bX;have d2:=qb a bY;have cZ:=qb a bZ;have C:=cX.size;clear a;go_upto_region 5 with(fail)
 have y:=Z (show J (W.alloc (.cells #[aa] 79)) W.heap.size 79 #[aa]from J.new W 79 #[aa]);have a:=Z (show ag W (W.alloc (.cells #[aa] 79))from((ag.refl W)).alloc _);obtain⟨L,C⟩:∃L,L=W.alloc (.cells #[aa] 79):=⟨_,rfl⟩;rw[<-C]at y a⊢;clear C;have ao:=qk cX a;have bt:=qb a d1;have bu:=qb a d2;have bf:=qb a cZ;have C:=ao.size;have bg:=y;clear y a;have C:=J.lt bg;have C:c<L.heap.size:=ae
 have C:=J.lt cZ;have d3:=Z (Kp.refl [c] L);have d4:=Z cH;clear cH;have d6:=az bu;have C:=J.lt bu;have d7:=az bf;have d8:=aY bf;have C:=J.lt bf;have d9:=aY bt;have C:=J.lt bt;have ea:=az bg;have C:=J.lt bg;have eb:=λb=>J.frozen bt b;have c1:=Z (nU B ⟨bU,Y,bW⟩ x X at_ L ae (cS L ao) (cT L ao) (R.ta L ao));go_upto_region 11 with(fail)
 go_wp2_with fail
 refine dC cW.out (c1.out) ?ay ?aD
 case ay=>
  intro g I br HX d;go_wp2;refine⟨rfl,?_⟩;rw[HX.out];exact⟨(ao.out.trans ((d.out).mono (λ_ h=>by cases h))),rfl⟩
 intro I ec b8 c2 c3 c4 aq;obtain⟨o,rfl,c5⟩:=mM c2;have ed:ec=.int .i64 (o:Int):=c4;subst ed;have bx:o<x.length:=by simpa using c5
 clear c4 c2 c5;have c9:=qm ao aq;have bz:=qo aq bt;have ee:=qo aq bu;have ef:=qo aq bf;have eg:=qo aq bg;have ei:=qm d3 aq;have C:=c9.size;clear aq;have ej:=aY bz;have C:=J.lt bz;clear d6 d7 d8 d9 ea eb c1;have ek:=λb=>J.frozen bz b;go_upto_region 12 with(fail)
 have y:=Z (show J (b8.setCell (ab c 1) (o:Int)) c 105 #[O 1,(o:Int),U al i.length an,aa,aa,O 0,O 0,aa]from bz.aP 1 (o:Int));have u:=Z (Kp.aE (p:=(ab c 1)) (l:=[c]) ai (Kp.refl [c] b8) (o:Int));obtain⟨M,C⟩:∃M,M=b8.setCell (ab c 1) (o:Int):=⟨_,rfl⟩;rw[<-C]at y u⊢;clear C;have C:=u;have el:=Z (ei.trans u);have bj:=Z (c9.trans u);have b9:=qo u ee;have em:=qo u ef;have en:=qo u eg;have C:=bj.size;have C:=u;have ca:=y;clear y u;clear ej ek;obtain⟨z,bA,da,C,db,cb,dc⟩:=lQ (R.out.ta M bj.out) o bx;have cc:bU=some ⟨z,bA,none⟩:=da;have cd:=Z (λ(d:af) (g:Kp [c] f d)=>(R.ta d g).2 _ (List.getElem_mem bx));have ce:=Z (lR x o bx);have bD:=Z (d4 x[o].tb (List.mem_map.2 ⟨x[o],List.getElem_mem bx,rfl⟩));obtain⟨tq,dd⟩:∃tq,tq=x[o]:=⟨_,rfl⟩;rw[<-dd]at db cb dc cd ce bD;obtain⟨fi,⟨bE,cf,cg⟩,v,⟨fj,fk,fl⟩,fn⟩:=tq;have de:ac M (ab z (bA+o*3+1)) (U bE cf cg):=cb;have ch:Hid (∀(d:af),Kp [c] f d->fu d ⟨bE,cf,cg⟩ v):=Z (λd g=>(cd d g).1);have eo:v.length=cf:=(ch M bj).1.1;have df:Hid (v.length<=10000/\∀d∈v,d.at_.was.length<=1000000):=Z ⟨by have h:=bD.out.1;have d:(v.map RA.at_).length<=10000:=h;rwa[List.length_map]at d,λd g=>bD.out.2 d.at_ (List.mem_map.2 ⟨d,g,rfl⟩)⟩;have x:=df.1;subst eo;have ep:Hid (T=.ok (.mk 1 (o:Int) (aB.aN i) [] [] 0 0 ((v.map RA.at_).map iY))):=Z (by rw[c3.out,ce.out];rfl);clear db cb dc dd da cd bD ce c3 cW;have x:(o:Int)<Y:=by omega
 have x:(0:Int)<=o:=ae
 subst cc;have x:=cS M bj;have C:B<M.heap.size:=ae
 have C:=az b9;have I:=J.lt b9;have I:=aY ca;have P:=J.lt ca;refine ez 15 (S:=(λw'=>ac w' (am f 0) (aj B)/\ac w' (ab B 0) (U (some ⟨z,bA,none⟩) Y bW)/\ac w' (ab c 1) (o:Int)/\ac w' (ab z (bA+o*3+1)) (U bE v.length cg))) ⟨C,x,I,de⟩ (λhS=>?_);refine dg ?_;refine eh ?_;refine tk 11 hS ?_;refine tk 12 hS ?_;refine tk 13 hS ?_;refine tk 14 hS ?_;refine gH ak ?_ _;clear hS C x I de;have a:=Z (show ag M M.drew from(ag.refl M).drew);obtain⟨x,x⟩:∃x,x=M.drew:=⟨_,rfl⟩;rw[<-x]at a⊢;clear x;have x:=qk bj a;have eq:=qb a ca;have B:=qb a b9;have B:=qb a em;have B:=qb a en;have er:=qk el a;have x:=x.size;clear a;obtain⟨es,et,eu,ev,ew⟩:=info_parts Tryz.infoAt;obtain⟨ex,ey,eA,eB,eC⟩:=info_parts Tryz.tl;go_wp2;go_loopg [85] (v.length+1) (λq r wr=>∃(b:Nat) (d:List RA) (g:aX) (j:Nat),r=.int .i64 b/\b<=v.length/\v.length-b<q/\d.length=b/\Hid (d.map RA.at_=((v.map RA.at_).map iY).take b)/\Hid (J wr c 105 #[O 1,(o:Int),U al i.length an,aa,aa,O 0,O 0,U g b j])/\Hid (wr.ownsRow L.heap.size 111 6 (U g b j) b (d.flatMap RA.cells))/\Hid (∀g∈d,gL g/\aG g.at_.name/\aG g.at_.dflt.s)/\Hid (Kp [c] L wr))
 case atStart=>exact⟨0,[],none,0,rfl,by omega,by omega,rfl,Z ai,eq,Z ⟨rfl,.inl ⟨rfl,rfl⟩⟩,Z (λg d=>by cases d),er⟩
 obtain⟨b,bk,bn,bp,rfl,fo,dh,di,ci,dj,cj,dk,aZ⟩:=hrel;have dl:=Z dh;have ck:=Z di;clear dh di;have Q:=Z (ao.trans aZ);have x:=Q.size;have x:=aZ.size;have eD:=qo aZ bu;have eE:=qo aZ bf;have eF:=qo aZ bg;by_cases bF:b<v.length
 case neg=>
  have d:¬(b:Int)<v.length:=ae
  have g:=Z (show T=.ok (.mk 1 (o:Int) (aB.aN i) [] [] 0 0 (bk.map RA.at_)) by rw[ep.out,ci.out,List.take_of_length_le (by rw[List.length_map,List.length_map];omega)]);have j:=Z ((kQ cj ck (by have:=ck.out;omega) dk).mono (S':=Bw aU wr.heap.size) (λz d=>⟨by have:=d.1;omega,d.2⟩));go_wp2;first|go_end0|refine bodyPost_ret (results_none rfl _ _ _) rfl ?_
  rw[g.out];have d:=Q.size;have g:∀z∈[c],¬Bw aU f.heap.size z:=λz d hS=>by have q:=hS.1;have q:=aA d;omega
  have d:∀z,Bw aU f.heap.size z->Bw aU wr.heap.size z:=λz d=>⟨d.1,by have:=d.2;omega⟩;refine⟨Q.out,_,rfl,rfl,(aB.mk 1 (o) ⟨al,i.length,an⟩ i aJ [] aJ [] (0) (0) ⟨bn,b,bp⟩ bk),kg,dj.out,.mk (dJ.out wr Q.out) (R.out.ik.mono d) (λq a8=>((R.out.sub q a8).keep Q.out g).mono d) (aF.none_ _ 12 _) (aS.none_ _ _ _) (aF.none_ _ 1 _) (aS.none_ _ _ _) (j.out)⟩
 have x:(b:Int)<v.length:=ae
 have x:(0:Int)<=b:=ae
 obtain⟨ar,ax,dm,x,cl,cm,cn,co,cp,cq⟩:=iq (ch.out wr Q.out) b bF;have cc:bE=some ⟨ar,ax,none⟩:=dm;have a0:=Z (λ(d:af) (g:Kp [c] f d)=>((ch d g).2 _ (List.getElem_mem bF)));have bG:=Z (df.2 _ (List.getElem_mem bF));have cr:((v.map RA.at_).map iY).take (b+1)=((v.map RA.at_).map iY).take b++[iY v[b].at_]:=by
  rw[List.take_succ_eq_append_getElem (by simpa using bF)];simp
 obtain⟨cs,dn⟩:∃cs,cs=v[b]:=⟨_,rfl⟩;rw[<-dn]at cl cm cn co cp cq a0 bG cr;obtain⟨⟨g,j,d,⟨a1,a2,a3⟩⟩,⟨D,eG,E⟩⟩:=cs;have eH:d.length=eG:=(a0 wr Q).1.1.1;subst eH;have eI:Hid (((v.map RA.at_).map iY).take (b+1)=bk.map RA.at_++[⟨(d++[g])[0]'ai,j,[],V.zero⟩]):=Z (by
  rw[cr,ci.out];congr 2
  show(⟨(d++[g]).headD e0,j,[],V.zero⟩:At)=_;congr 1
  cases d<;>rfl)
 have eJ:Hid (aG ((d++[g])[0]'ai)):=Z (by
  have q:=(a0 wr Q).1.2;have r:=(a0 wr Q).2.1;rcases cY (List.getElem_mem (l:=d++[g]) (n:=0) ai)with h|h
  ·exact q _ h
  rw[aA h];exact r)
 have dq:Hid (∀q,Kp [c] f q->Calls Tryz.prog 257 #[U D d.length E] q λe w'=>∃f r,e=.returned (U f d.length r)/\ag q w'/\w'.ownsRow q.heap.size 9 1 (U f d.length r) d.length (d.flatMap dF)):=Z (λf q=>B1 ⟨D,d.length,E⟩ d f (a0 f q).1 (by have:=bG.out;show d.length<=_;have f:d.length<=1000000:=this;omega));have f:d.length<=1000000:=bG;clear dn dm cr ci a0 bG;have eK:ac wr (ab ar (ax+b*6)) g:=cl;have eL:ac wr (ab ar (ax+b*6+1)) j:=cm;have dr:ac wr (ab ar (ax+b*6+2)) (U D d.length E):=cn;have eM:ac wr (ab ar (ax+b*6+3)) a1:=co;have eN:ac wr (ab ar (ax+b*6+4)) a2:=cp;have eO:ac wr (ab ar (ax+b*6+5)) a3:=cq;have f:IntKind.i64.wrap ((b:Int)+1)=(b:Int)+1:=IntWalk.i64_in _ ae;clear cl cm cn co cp cq;subst cc;go_upto_region 15 with(fail)
 clear eK eL dr eM eN eO;have y:=Z (show J (wr.alloc (.cells #[g,j,U D d.length E,a1,a2,a3] 111)) wr.heap.size 111 #[g,j,U D d.length E,a1,a2,a3]from J.new wr 111 #[g,j,U D d.length E,a1,a2,a3]);have a:=Z (show ag wr (wr.alloc (.cells #[g,j,U D d.length E,a1,a2,a3] 111))from((ag.refl wr)).alloc _);obtain⟨f,x⟩:∃f,f=wr.alloc (.cells #[g,j,U D d.length E,a1,a2,a3] 111):=⟨_,rfl⟩;rw[<-x]at y a⊢;clear x;have B:=qk Q a;have I:=qb a dj;have M:=qb a eD;have P:=qb a eE;have Q:=qb a eF;have R:=Z (aH a cj);have T:=qk aZ a;have x:=B.size;have x:=y;clear y a;have a:=J.lt x;have a:=az x;have C:=bh x;have W:=J.lt x;refine ez 9 (S:=(λw'=>ac w' (am wr 0) g/\ac w' (am wr 2) (U D d.length E))) ⟨a,C⟩ (λhS=>?_);refine lO ?_;refine gt ?_;have q:=Z (show ag f f.drew from(ag.refl f).drew);obtain⟨H,f⟩:∃H,H=f.drew:=⟨_,rfl⟩;rw[<-f]at q hS⊢;clear f;have bH:=qk B q;have eP:=qb q I;have eQ:=qb q M;have eR:=qb q P;have eS:=qb q Q;have bI:=qb q x;have ds:=Z (aH q R);have eT:=qk T q;have f:=bH.size;clear q a C;have bK:=az bI;have bL:=bh bI;have a:=J.lt bI;refine qM 2 5 (λK t=>?aI) (λK t=>?aL)
 case' aI=>
  go_simp;refine(dq.out H bH.out).mono ?_;rintro e r ⟨cE,cF,rfl,w,G⟩;have N:=w.size;have F:(λw':World=>ac w' (am wr 0) g/\ac w' (am wr 2) (U D d.length E)) r:=⟨(w.cell (p:=(am wr 0)) c6).trans bK,(w.cell (p:=(am wr 2)) c6).trans bL⟩;refine t.out _ _ (λ_=>F) ?_;refine av ?_;refine aK 5 (λK t=>?_);go_simp;have a6:(λw':World=>ac w' (am wr 0) g/\ac w' (am wr 2) (U D d.length E)) (r.alloc (.cells #[g] 9)):=⟨(World.cell?_alloc_lt _ _ _ c6).trans F.1,(World.cell?_alloc_lt _ _ _ c6).trans F.2⟩;refine t.out _ _ (λ_=>a6) ?_;refine av ?_;have ad:=Z (J.new r 9 #[g]);have A:=Z (w.trans ((ag.refl r).alloc (.cells #[g] 9)));have aT:=Z (aH ((ag.refl r).alloc (.cells #[g] 9)) G);obtain⟨br,f⟩:∃a,a=r.alloc (.cells #[g] 9):=⟨_,rfl⟩;obtain⟨a7,a⟩:∃a,a=r.heap.size:=⟨_,rfl⟩;have r:H.heap.size<=a7:=by rw[a];exact N
  rw[<-f]at ad A aT a6⊢;rw[<-a]at ad⊢;clear f a w G F N
 case' aL=>
  go_simp;have w:(λw':World=>ac w' (am wr 0) g/\ac w' (am wr 2) (U D d.length E)) (H.alloc (.cells #[g] 9)):=⟨bi bK,bi bL⟩;refine t.out _ _ (λ_=>w) ?_;refine av ?_;refine aK 2 (λK t=>?_);go_simp;refine(dq.out (H.alloc (.cells #[g] 9)) (bH.out.alloc (.cells #[g] 9))).mono ?_;rintro e br ⟨cE,cF,rfl,r,F⟩;have A:=Z (((ag.refl H).alloc (.cells #[g] 9)).trans r);have ad:=Z ((Kp.of_same (l:=[]) r).blk (J.new H 9 #[g]) ai);have aT:=Z (uS (b':=H.heap.size) F ai);have a6:(λw':World=>ac w' (am wr 0) g/\ac w' (am wr 2) (U D d.length E)) br:=⟨(r.cell (p:=(am wr 0)) (by show wr.heap.size<_;simp;omega)).trans w.1,(r.cell (p:=(am wr 2)) (by show wr.heap.size<_;simp;omega)).trans w.2⟩;clear r F;refine t.out _ _ (λ_=>a6) ?_;refine av ?_;obtain⟨a7,a⟩:∃a,a=H.heap.size:=⟨_,rfl⟩;have f:H.heap.size<=a7:=by omega
  rw[<-a]at ad⊢;clear a w
 all_goals
  have a:=A.size;have a:=J.lt ad;have dt:=Z (jd ad (m:=1) rfl);have hrow:=b3 aT;refine aK 6 (λK t=>?_);refine c7 br (.tmp 91) (.tmp 94) 83 rfl H.heap.size 9 ex _ 1 16 Tryz.underlying83 ey eA eB eC rfl au (U cE d.length cF) d.length (d.flatMap dF) rfl aT.out (a7+1) (some ⟨a7,0,none⟩) 1 1 ((#[g]:Array Value).toList) rfl dt.out bl b1 ae ae ?_;intro eU aM aQ r ct;obtain⟨fp,dr,rfl,cu⟩:=bo aQ;have cv:=Z aQ;have w:=Z r;have aR:=Z (fm (Kp.of_same A) r);clear aQ r ct cu a6;have bM:(λw':World=>ac w' (am wr 0) g/\ac w' (am wr 2) (U D d.length E)) aM:=⟨bw aR bK,bw aR.out bL⟩;refine t.out _ _ (λ_=>bM) ?_;refine av ?_;obtain⟨eV,a,eW,f,du,_,_,_,_⟩:=fE cv.out ae;subst eW;have dv:ac aM (ab eV 0) (.string ((d++[g])[0]'ai)):=ke (enc:=dF) (m:=1) (λ_=>rfl) (xs:=d++[g]) (by rw[List.flatMap_append];exact cv.out) ai 0 ae 0 ae;have cw:=Z (And.intro eI.out eJ.out);obtain⟨F,a⟩:∃a,a=((d++[g])[0]'ai):=⟨_,rfl⟩;rw[<-a]at dv cw;clear a;have eX:(0:Int)<((d.length+1:Nat):Int):=by omega
  have eZ:(0:Int)<(d.length:Int)+1:=ae
  have a:=J.lt du;refine tk 7 bM ?_;refine aK 8 (λK t=>?_);go_simp;refine t.out _ _ (λ_=>bM) ?_;refine av ?_;refine b2 ?_;refine tq 9 ?_;refine bV ?_;clear dv bM hS eX eZ du;have dx:=Z ((bH.trans (Kp.of_same A)).grown w (λa r=>.inr (by have:=hrow a r;omega)));have e1:=Z ((eT.trans (Kp.of_same A)).grown w (λa r=>.inr (by have:=hrow a r;omega)));have e2:=Z (j1 (aH A ds) w (λz a=>j2 aT (aH A ds) au z a));have a:=dx.size;have a:H.heap.size<=aM.heap.size:=by have:=w.out.size;omega
  have cx:=Z (J.grown ((Kp.of_same (l:=[]) A).blk eP ai) w (λe=>by have:=hrow _ e.symm;omega));have e3:=Z (J.grown ((Kp.of_same (l:=[]) A).blk eQ ai) w (λe=>by have:=hrow _ e.symm;omega));have e4:=Z (J.grown ((Kp.of_same (l:=[]) A).blk eR ai) w (λe=>by have:=hrow _ e.symm;omega));have e5:=Z (J.grown ((Kp.of_same (l:=[]) A).blk eS ai) w (λe=>by have:=hrow _ e.symm;omega));have cz:=Z (J.grown ((Kp.of_same (l:=[]) A).blk bI ai) w (λe=>by have:=hrow _ e.symm;omega));clear aT ad A dt w aR hrow cv bK bL;go_upto_region 16 with(fail)
  have a:=b7 cx;have d:=J.lt cx;have d:=aY cz;have f:=J.lt cz;refine ez 11 (S:=(λw'=>ac w' (ab c 7) (U bn b bp)/\ac w' (am wr 1) j)) ⟨a,d⟩ (λhS=>?_);refine dg ?_;have q:=Z (show ag aM aM.drew from(ag.refl aM).drew);obtain⟨N,a⟩:∃N,N=aM.drew:=⟨_,rfl⟩;rw[<-a]at q hS⊢;clear a;have dy:=qk dx q;have bN:=qb q cx;have e6:=qb q e3;have e7:=qb q e4;have e8:=qb q e5;have cA:=qb q cz;have cB:=Z (aH q e2);have e9:=qk e1 q;have a:=dy.size;clear q hS;have dz:=b7 bN;have a:=J.lt bN;have dA:=aY cA;have a:=J.lt cA;have dB:(λw':World=>ac w' (ab c 7) (U bn b bp)/\ac w' (am wr 1) j) (N.alloc (.cells #[F,j,aa,O 0,O 0,ah] 111)):=⟨bi dz,bi dA⟩;refine aK 9 (λK t=>?_);go_simp;refine t.out _ _ (λ_=>dB) ?_;refine av ?_;have dD:=Z (aH ((ag.refl N).alloc (.cells #[F,j,aa,O 0,O 0,ah] 111)) cB);have dE:=Z (cC N #[F,j,aa,O 0,O 0,ah] 111 6 rfl);have hrow:∀G,(Value.slice bn b bp).ownBlock=some G->L.heap.size<=G/\G<N.heap.size/\G<wr.heap.size:=λG r=>⟨(b3 cB G r).1,(b3 cB G r).2,(λG r=>(b3 cj G r).2) G r⟩;have a:=J.lt bN;refine aK 10 (λK t=>?_);refine c7 (N.alloc (.cells #[F,j,aa,O 0,O 0,ah] 111)) (.tmp 102) (.tmp 107) 79 rfl (L.heap.size) 111 es _ 6 80 Tryz.underlying79 et eu ev ew rfl au (U bn b bp) b (bk.flatMap RA.cells) rfl dD.out (N.heap.size+1) (some ⟨N.heap.size,0,none⟩) 1 1 ((#[F,j,aa,O 0,O 0,ah]:Array Value).toList) rfl dE.out bl b1 ae aC ?_;intro eU bO aQ r ct;obtain⟨a4,a5,rfl,cu⟩:=bo aQ;have fa:=Z aQ;have w:=Z r;have aR:=Z (fm ((Kp.refl [] N).alloc (.cells #[F,j,aa,O 0,O 0,ah] 111)) r);clear aQ r ct cu;have cD:=Z (J.grown (bN.alloc (.cells #[F,j,aa,O 0,O 0,ah] 111)) w (λe=>by have:=hrow _ e.symm;omega));have fb:=b7 cD;have fc:=λb=>J.frozen cD b;refine t.out _ _ (λ_=>⟨bw aR.out dz,bw aR.out dA⟩) ?_;clear t K dB;refine av ?_;refine b2 ?_;refine tq 11 ?_;refine tq 12 ?_;refine dp 13 (λK t=>?_);go_simp;refine t _ _ ?_;refine av ?_;refine bV ?_;have f:=Z (J.grown (e6.alloc (.cells #[F,j,aa,O 0,O 0,ah] 111)) w (λe=>by have:=hrow _ e.symm;omega));have g:=Z (J.grown (e7.alloc (.cells #[F,j,aa,O 0,O 0,ah] 111)) w (λe=>by have:=hrow _ e.symm;omega));have q:=Z (J.grown (e8.alloc (.cells #[F,j,aa,O 0,O 0,ah] 111)) w (λe=>by have:=hrow _ e.symm;omega));have t:=Z (J.grown (cA.alloc (.cells #[F,j,aa,O 0,O 0,ah] 111)) w (λe=>by have:=hrow _ e.symm;omega));have a:=Z ((dy.alloc (.cells #[F,j,aa,O 0,O 0,ah] 111)).grown w (λG r=>.inr (by have:=hrow G r;omega)));have r:=Z ((e9.alloc (.cells #[F,j,aa,O 0,O 0,ah] 111)).grown w (λG r=>.inr (by have:=hrow G r;omega)));have d:=a.size;have d:N.heap.size<=bO.heap.size:=by have:=w.out.size;simp at this;omega
  clear dD dE w aR hrow fb fc;have y:=Z (show J (bO.setCell (ab c 7) (U a4 (b+1) a5)) c 105 #[O 1,(o:Int),U al i.length an,aa,aa,O 0,O 0,U a4 (b+1) a5]from cD.aP 7 (U a4 (b+1) a5));have u:=Z (Kp.aE (p:=(ab c 7)) (l:=[c]) ai (Kp.refl [c] bO) (U a4 (b+1) a5));obtain⟨d,c⟩:∃d,d=bO.setCell (ab c 7) (U a4 (b+1) a5):=⟨_,rfl⟩;rw[<-c]at y u⊢;clear c;have c:=u;have fd:=Z (r.trans u);have a:=Z (a.trans u);have c:=qo u f;have c:=qo u g;have c:=qo u q;have c:=qo u t;have a:=a.size;have fe:=u;have ff:=y;clear y u;go_wp2_with fail
  go_roundg (v.length-b)
  case measure=>have:=dl.out;omega
  refine⟨b+1,bk++[(⟨⟨F,j,[],V.zero⟩,aJ⟩:RA)],a4,a5,by go_num,by omega,by have:=dl.out;omega,by rw[List.length_append,ck.out];rfl,Z (by rw[List.map_append];exact cw.out.1.symm),ff,Z (bC (by rw[List.flatMap_append];exact fa.out) fe.out (λz a=>by have:=aA a;omega)),Z ?_,fd⟩;intro fg bq;rcases cY bq with bq|bq
  ·exact dk.out fg bq
  rw[aA bq];exact⟨⟨rfl,rfl⟩,cw.out.2,by show(0:Nat)<=_;omega⟩
structure oC (w:af) (X Bw Bl:Nat) (h:Hd) (ra:List RA) (at_:Int):Prop where
 hX:X<w.heap.size
 c8:ac w (ab X 8) at_
 hw:Bw<w.heap.size
 cw:ac w (ab Bw 0) (aj X)
 hl:Bl<w.heap.size
 cl:ac w (ab Bl 0) h.val
 a:fu w h ra
theorem oC.same {w c:af} {X Bw b:Nat} {h:Hd} {ra:List RA} {at_:Int} (a:oC w X Bw b h ra at_) (s:ag w c):oC c X Bw b h ra at_:=
 ⟨aT a.hX s.size,(s.cell (p:=(ab X 8)) a.hX).trans a.c8,aT a.hw s.size,(s.cell (p:=(ab Bw 0)) a.hw).trans a.cw,aT a.hl s.size,(s.cell (p:=(ab b 0)) a.hl).trans a.cl,a.a.same s⟩
theorem B7 (z Bw d:Nat) (h:Hd) (b:List RA) (g:dG) (at_:Int) (f:af) (a:oC f z Bw d h b at_):
 Calls Tryz.prog 271 #[.agg g.cells.toArray,aj Bw,aj d] f λe w'=>RP [] f (lD at_ (b.map RA.at_) g) lT e w':=by
 obtain⟨p,i,l⟩:=h;have E:=Z a;have aS:b.length=i:=a.a.1.1;have aS:=a.hX;have aS:=a.hl;clear a;obtain⟨q,A⟩:=aq (lD at_ (b.map RA.at_) g);rw[<-A];obtain⟨j,k,G,⟨al,am,an⟩⟩:=g;have r:=Z (show q=RO.ap (decide (j=e0)) 8 at_ ((ee at_ (b.map RA.at_) k).bind λc=>.ok (⟨0,c,V.zero⟩,(cE (b.map RA.at_) c).kind))from A);clear A;have F:=jD j e0;have ao:=Z (Kp.refl [] f);show Calls Tryz.prog 271 #[.agg #[j,k,G,al,am,an],aj Bw,aj d] f _;go_enter Tryz.func271,Tryz.ntmps271
 go_upto_region 1 with(fail)
 obtain⟨am,A,al,g,G⟩:=nb f 284 _;rw[A];clear A;have am:=qk ao g;have an:=Z (E.same g);clear g;obtain⟨m,A,ar,g,ao⟩:=nc G 71 _;rw[A];clear A;have s:=qk am g;have H:=qb g al;have n:=Z (an.same g);clear g;have g:f.heap.size+1<m.heap.size:=ae
 clear G ao;have au:=az H;have aw:=n.cw;have t:=n.c8;have B:j.toList.isEmpty=decide (j=e0):=by
  rw[<-F];have c:e0.toList=[]:=by simp[e0]
  rw[c];cases j.toList<;>rfl
 generalize ax:j.toList.isEmpty=ay at B;have u:=Z B.symm;clear B F;cases ay
 case false=>
  have c:=Z (show q=RO.ap false 8 at_ _ by rw[r.out,u.out]);clear r u;go_wp2_with fail
  exact bv s c t
 have I:=Z (show q=RO.ap true 8 at_ ((ee at_ (b.map RA.at_) k).bind λc=>.ok (⟨0,c,V.zero⟩,(cE (b.map RA.at_) c).kind)) by rw[r.out,u.out]);clear r u;go_wp2_with fail
 refine bJ s I t λJ=>?_;clear I ax au;have aA:ac m (ab d 0) (U p i l):=n.cl;have g:=Z (pv z ⟨p,i,l⟩ b k at_ m ae t n.a);have L:Hid (Calls Tryz.prog 272 #[aj z,U p i l,k] m λe w'=>RP [] m (ee at_ (b.map RA.at_) k) g7 e w'):=g;clear g;have aB:=aY H;go_wp2_with fail
 refine dC J L (eL s) ?_;intro a g C M N P w;have aC:g=.int .i64 a:=P;subst aC;obtain⟨c,aD,Q⟩:=pN M;subst aD;have j:c<b.length:=by simpa using Q
 clear Q P M;have R:=Z (s.trans w);have aE:=qo w ar;have aF:=Z (n.same w.same);clear w;clear aB aw t aA L;obtain⟨ba,x,k,S,m,g,n,r,s,t⟩:=iq E.a c j;have T:=(R.cell S ai).trans g;clear g;have aG:p=some ⟨ba,x,none⟩:=k;have g:(c:Int)<i:=ae
 have g:(0:Int)<=c:=ae
 obtain⟨D,g⟩:=aq (b[c].at_.kind);rw[<-g]at T;have aH:=Z (show q=.ok ((⟨0,(c:Int),V.zero⟩:Sd),D) by rw[N.out,jY b c j,<-g]);clear J N g m n r s t k;subst aG;have aI:ac C (ab d 0) (U (some ⟨ba,x,none⟩) i l):=aF.cl;go_upto_region 3 with(fail)
 have y:=Z ((ag.refl C).drew);refine dB 9 aI T λhS=>?_;refine cJ ?_;refine jl ?_;obtain⟨W,b⟩:=aq C.drew;rw[<-b]at y hS⊢;clear b;have X:=qk R y;have Y:=qb y aE;have aJ:=X.size;obtain⟨aL,aM⟩:=hS;have b:=aT S aJ;have b:d<W.heap.size:=ae
 clear y;have b:(λw':World=>ac w' (ab d 0) (U (some ⟨ba,x,none⟩) i l)/\ac w' (ab ba (x+c*6+1)) D) (W.setRow ((f.heap.size+1)) #[O 0,(c:Int),O 0,O 0,ah]):=⟨(lU (by show d<_;omega) (by show d≠_;omega)).trans aL,(lU (by show ba<_;omega) (by show ba≠_;omega)).trans aM⟩;refine aK 7 (λK d=>?_);refine wp_store_row 71 (.tmp 4) (.tmp 18) rfl ((f.heap.size+1)) _ rfl rfl 71 _ Y ak rfl bl (d _ _ (λ_=>b) ?_);refine av ?_;refine tk 8 b ?_;refine gH ak ?_ _;clear b;obtain⟨d,b,o,aa⟩:=jk Y #[O 0,(c:Int),O 0,O 0,ah];rw[b];clear b;have ad:=Z (X.grown aa (λb ad=>.inr (by injection ad with ad;omega)));clear aa;have aN:=az o;have aO:=aY o;have aP:=bh o;have aQ:=bj o;have aR:=bn o;go_wp2_with fail
 refine bodyPost_ret (v:=.tuple #[.agg #[O 0,(c:Int),O 0,O 0,ah],D]) ?_ rfl ?_
 ·simp[results,Tryz.results271,go_sem,aN,aO,aP,aQ,aR]
 rw[aH.out];exact⟨ad,_,rfl,rfl⟩
theorem B8 (c:List Tb) (d:aw) (b:List bB) (f:bm) (g i:aw) (j a:Int) (ks:List Pl):cy c 2 d b f g i j a ks=RO.ap (decide (ks.length=1)) 1 a (RO.ap (aZ b.length 1 12) 3 a ((eT a (lD a (bF ks 0)) [] b).bind λa=>.ok (.mk 2 0 ks a [] 0 0 (bF ks 0)))):=by
 have h:decide (ef 2=some ks.length)=decide (ks.length=1):=by
  have:ef 2=some 1:=rfl;exact tL
 unfold cy;rw[h];rfl
theorem B9 (v f L:Nat) (h:Hd) (bD:List RT) (bk:aw) (cH bp:Hd) (kids:List aB) (ch:Hd) (i:List bB) (ci:Hd) (cj:bm) (bq aI:aw) (br at_:Int) (c:af) (fc:aG aI)
 (ck:J c f 105 #[O 2,O 0,bp.val,aa,aa,O 0,O 0,aa]) (t:iC c v f L h bD bp kids ch i ci cj at_):
 Calls Tryz.prog 201 #[aj v,.agg #[O 2,bk,cH.val,ch.val,ci.val,bq,aI,br,at_],aj f] c
  λe w'=>RP [f] c (cy (bD.map RT.tb) 2 bk i cj bq aI br at_ (aB.aN kids)) (iE f L) e w':=by
 obtain⟨dI,bs,dJ⟩:=h;obtain⟨cI,cK,bE⟩:=bp;obtain⟨cL,cM,cN⟩:=cH;obtain⟨cl,bG,cO⟩:=ch;obtain⟨cP,cQ,cR⟩:=ci;have F:=Z t;have dK:kids.length=cK:=t.lk.1;have ch:cK<=9223372036854775807:=t.lk.2.1;have ch:bD.length=bs:=(t.ta c (Kp.refl _ c)).1.1;have ch:bs<=9223372036854775807:=(t.ta c (Kp.refl _ c)).1.2.1;subst dK;have ch:=t.hX;have ci:=t.xp;have ci:=t.j3;have ci:=t.lw;have cH:=ck.lt;have dL:=Z ck;obtain⟨R,bD⟩:∃R,R=cy (bD.map RT.tb) 2 bk i cj bq aI br at_ (aB.aN kids):=⟨_,rfl⟩;rw[<-bD];have ci:(aB.aN kids).length=kids.length:=by rw[aB.iB,List.length_map]
 have E0:=Z (show R=RO.ap (decide (kids.length=1)) 1 at_ (RO.ap (aZ i.length 1 12) 3 at_ ((eT at_ (lD at_ (bF (aB.aN kids) 0)) [] i).bind λb=>.ok (.mk 2 0 (aB.aN kids) b [] 0 0 (bF (aB.aN kids) 0)))) by rw[bD,B8,ci]);clear bD t ck ci;have bD:c.heap.size<=c.heap.size:=Nat.le_refl _;have dM:=Z (Kp.refl [f] c);have cS:=Z (λ(b:af) (d:Kp [f] c b)=>F.lk.kp d (λb d e bs=>by have b:=(F.out.ik b d e).1;have b:=aA bs;omega));have bs:=Z (λ(b:af) (d:Kp [f] c b)=>show ac b (ab v 0) (U dI bs dJ)from(d.cell (p:=(ab v 0)) ch aC).trans F.c0);have bH:=Z (λ(b:af) (d:Kp [f] c b)=>show ac b (ab v 8) at_ from(d.cell (p:=(ab v 8)) ch aC).trans F.c8);have bs:=aW ch;have bs:=aW cH;have bs:∀(bs:Fn) (first cap:aO) (c:af),(Instr.makeFunc bs first cap).run Tryz.prog c=.ok (.func bs first cap) c:=λ_ _ _ _=>rfl;have dN:=@run_makeMap Tryz.prog;show Calls Tryz.prog 201 #[aj v,.agg #[O 2,bk,U cL cM cN,U cl bG cO,U cP cQ cR,bq,aI,br,at_],aj f] c _;go_enter Tryz.func201,Tryz.ntmps201
 go_upto_region 1 with(fail)
 obtain⟨ci,bs,ch,b,bD⟩:=nb c 154 #[aj v];rw[bs];clear bs;have bs:=qk dM b;have ci:=qb b dL;have cj:=bs.size;clear b;obtain⟨w,aI,dO,b,bk⟩:=nc bD 93 #[O 2,bk,U cL cM cN,U cl bG cO,U cP cQ cR,bq,aI,br,at_];rw[aI];clear aI;have cU:=qk bs b;have dP:=qb b ci;have dQ:=qb b ch;have aI:=cU.size;clear b;have aI:c.heap.size+1<w.heap.size:=ae
 clear bD bk;have dR:=j4 w;have dS:=j5 w;have dT:=j6 w;have dU:=j7 w;have dW:=j8 w;have dX:=j9 w;have dY:=ka w;have dZ:=kc w;go_upto_region 2 with(fail)
 clear dR dS dT dU dW dX dY dZ dN;have M3:=Z (kd w);have b:=Z (show ag w (w.alloc (.map (km 8) 8))from(ag.refl w).alloc _);obtain⟨M,w⟩:∃M,M=w.alloc (.map (km 8) 8):=⟨_,rfl⟩;rw[<-w]at M3 b⊢;clear w;have K3:=qk cU b;have cm:=qb b dP;have cn:=qb b dQ;have co:=qb b dO;have w:=K3.size;have d0:=kO M3 (k:=2) (n:=1) rfl;clear b M3;have d1:=az co;have w:=J.lt co;go_upto_region 3 with(fail)
 clear d0 d1;have eF:=az cn;have w:=J.lt cn;have eG:ac M (ab f 2) (U cI kids.length bE):=J.cell cm 2;have w:=J.lt cm;have eH:=bH M K3;have w:c.heap.size<M.heap.size:=ae
 have w:f<M.heap.size:=ae
 by_cases hN:kids.length=1
 case neg=>
  exact rA
 have tN:(((1:Nat):Int)==(kids.length:Int))=true:=aC
 have pT:((1:Int)==(kids.length:Int))=true:=aC
 have E1:=Z (show R=RO.ap true 1 at_ (RO.ap (aZ i.length 1 12) 3 at_ ((eT at_ (lD at_ (bF (aB.aN kids) 0)) [] i).bind λd=>.ok (.mk 2 0 (aB.aN kids) d [] 0 0 (bF (aB.aN kids) 0)))) by rw[E0.out,decide_eq_true hN]);clear E0;refine dB 12 eF eG λhS=>?_;refine dg ?_;refine eh ?_;refine aK 11 (λK hK=>?_);go_simp;refine bJ K3.out.drew (show R=RO.ap true _ at_ _ from E1.out) eH λcV=>?_;try go_simp
 refine hK.out _ _ (λ_=>hS) ?_;refine av ?_;refine b2 ?_;refine bV ?_;clear hS tN pT eF eG eH E1;have b:=Z ((ag.refl M).drew);obtain⟨A,w⟩:∃A,A=M.drew:=⟨_,rfl⟩;rw[<-w]at b⊢;clear w;have cW:=qk K3 b;have d2:=qb b cm;have d3:=qb b cn;have cX:=qb b co;have w:=cW.size;clear b;go_upto_region 5 with(fail)
 obtain⟨P,w,bt,b,-⟩:=nb A 79 #[aa];rw[w];clear w;have cp:=qk cW b;have cq:=qb b d2;have d4:=qb b d3;have d6:=qb b cX;have w:=cp.size;clear b;have w:=J.lt bt;have w:f<P.heap.size:=ae
 have w:=J.lt cX;have w:0<kids.length:=ae
 obtain⟨aL,aM,cY,M,bI⟩:=jo (cS.out P cp.out) 0 w;have bu:=Z (F.sub _ (List.getElem_mem w)).res;have M:=jn kids 0 w;obtain⟨w,bq⟩:∃w,w=kids[0]:=⟨_,rfl⟩;rw[<-bq]at bI bu M;obtain⟨⟨B,aI,C⟩,bk⟩:∃aI,aI=w.ha:=⟨_,rfl⟩;obtain⟨j,w⟩:∃j,j=w.attrs:=⟨_,rfl⟩;rw[<-bk]at bI;rw[<-bk,<-w]at bu;rw[<-w]at M;have bK:=Z (show R=_ by rw[cV.out,M]);clear cV bq bk w;have cZ:ac P (ab aL (aM+0*8+7)) (U B aI C):=bI;have d7:ac P (ab aL (aM+7)) (U B aI C):=by simpa using cZ
 have d8:cI=some ⟨aL,aM,none⟩:=cY;have w:(0:Int)<kids.length:=ae
 have d9:j.length=aI:=bu.a.1.1;subst d9;clear bI cY;subst d8;have ea:ac P (ab f 2) (U (some ⟨aL,aM,none⟩) kids.length bE):=J.cell cq 2;have w:=J.lt cq;have eb:=az bt;have w:=J.lt bt;have ec:=λbx=>J.frozen bt bx;go_upto_region 7 with(fail)
 have D:=Z (jB bt (U B j.length C));have g:=Z (Kp.aE (p:=(am A 0)) (l:=[A.heap.size]) ai (Kp.refl [A.heap.size] P) (U B j.length C));obtain⟨x,w⟩:∃x,x=P.setCell (am A 0) (U B j.length C):=⟨_,rfl⟩;rw[<-w]at D g⊢;clear w;have w:=g;have G:=Z (g.old cp (λd d m=>absurd m (by rw[aA d];omega)));have ed:=qo g cq;have bL:=qo g d4;have aP:=qo g d6;have w:=G.size;have w:=g;have bM:=D;clear D g;clear ec ea eb d7 cZ;have ee:=Z (λ(d:af) (m:Kp [f] c d)=>bu.keep m (λd d hS=>by have m:=hS.1;have d:=aA d;omega));have ef:=Z (Kp.refl [f] x);have eg:=az aP;have ei:=J.lt aP;have ej:=az bM;have w:=J.lt bM;have ek:i.length=bG:=(F.lc x G).1;have w:bG<=9223372036854775807:=(F.lc x G).2.1;subst ek;go_upto_region 19 with(fail)
 clear eg ej;have cr:=az bL;have w:=J.lt bL;have cs:=bj aP;have ei:=J.lt aP;have bO:=Z (fj (i.length:Int) 1 12 x.drew);obtain⟨el,w⟩:∃w,w=aZ (i.length:Int) 1 12:=⟨_,rfl⟩;rw[<-w]at bO bK;have c1:=Z w;clear w;cases el
 case false=>
  refine dB 6 cr cs λhS=>?_;refine cJ ?_;refine tk 3 hS ?_;refine dV 4 (λK hK=>?_);go_simp;refine(bO.out).mono ?_;rintro e w' ⟨rfl,rfl⟩;try go_simp
  refine hK.out _ _ (λ_=>hS) ?_;refine av ?_;refine aK 5 (λK hK=>?_);go_simp;exact bv G.out.drew (show R=RO.ap false _ at_ _ from bK.out) (bH.out x G.out)
 refine dB 6 cr cs λhS=>?_;refine cJ ?_;refine tk 3 hS ?_;refine dV 4 (λK hK=>?_);go_simp;refine(bO.out).mono ?_;rintro e w' ⟨rfl,rfl⟩;try go_simp
 refine hK.out _ _ (λ_=>hS) ?_;refine av ?_;refine aK 5 (λK hK=>?_);go_simp;refine bJ G.out.drew (show R=RO.ap true _ at_ _ from bK.out) (bH.out x G.out) λc2=>?_;try go_simp
 refine hK.out _ _ (λ_=>hS) ?_;refine av ?_;refine b2 ?_;refine bV ?_;have w:i.length<=12:=by have h:=c1.out.symm;simp[aZ]at h;omega
 clear hS bO cr cs c1 bK;have b:=Z ((ag.refl x).drew);obtain⟨w,w⟩:∃w,w=x.drew:=⟨_,rfl⟩;rw[<-w]at b⊢;clear w;have M:=qk G b;have em:=qb b ed;have w:=qb b bL;have w:=qb b aP;have P:=qb b bM;have en:=qk ef b;have M:=M.size;clear b;have eo:=bj w;have w:=J.lt w;obtain⟨ep,eq,er,es,et⟩:=info_parts Tryz.uC;have eu:Hid (∀d c,(callFunc 271 d).run Tryz.prog c=.ok (.enter 271 d) c):=Z (enters_of Tryz.func271 ak rfl);obtain⟨aQ,w⟩:∃w,w=lD at_ (j.map RA.at_):=⟨_,rfl⟩;have c3:=Z w;have c4:Hid (R=(eT at_ aQ [] (i.drop 0)).bind (λd=>.ok (.mk 2 0 (aB.aN kids) d [] 0 0 (j.map RA.at_)))):=Z (by rw[w];exact c2.out);clear w c2;go_upto_region 21 with(fail)
 clear eo;go_loopg [123] (i.length+1) (λs u wr=>∃(d:Nat) (m:List cT) (o:aX) (q:Nat),u=.int .i64 d/\d<=i.length/\i.length-d<s/\m.length=d/\Hid (wr.ownsRow x.heap.size 73 12 (U o d q) d (m.flatMap cT.cells))/\Hid (J wr f 105 #[O 2,O 0,U (some ⟨aL,aM,none⟩) kids.length bE,U o d q,aa,O 0,O 0,aa])/\Hid (Kp [f] x wr)/\Hid (R=(eT at_ aQ m (i.drop d)).bind (λd=>.ok (.mk 2 0 (aB.aN kids) d [] 0 0 (j.map RA.at_)))))
 case atStart=>exact⟨0,[],none,0,rfl,by omega,by omega,rfl,Z ⟨rfl,.inl ⟨rfl,rfl⟩⟩,em,en,c4⟩
 obtain⟨d,bz,aR,aT,rfl,fd,c5,c6,ct,bA,Q,bP⟩:=hrel;have c9:=Z c5;have da:=Z c6;clear c5 c6 c4;have aU:=Z (G.trans Q);have w:=aU.size;have w:=Q.size;have bR:=qo Q bL;have db:=qo Q aP;have aV:=qo Q bM;by_cases dc:d<i.length
 case neg=>
  have u:¬(d:Int)<i.length:=ae
  have z:=Z (show R=.ok (.mk 2 0 (aB.aN kids) bz [] 0 0 (j.map RA.at_)) by rw[bP.out,List.drop_of_length_le ae];rfl);clear bP;have u:=b7 bA;have u:=J.lt bA;have u:=az aV;have u:=J.lt aV;have u:=λbx=>J.frozen bA bx;go_wp2_with fail
  have D:=Z (gp bA (U B j.length C));have g:=Z (Kp.aE (p:=(ab f 7)) (l:=[f]) ai (Kp.refl [f] wr) (U B j.length C));obtain⟨s,u⟩:∃s,s=wr.setCell (ab f 7) (U B j.length C):=⟨_,rfl⟩;rw[<-u]at D g⊢;clear u;have u:=g;have u:=Z (Q.trans g);have q:=Z (aU.trans g);have u:=qo g bR;have u:=qo g db;have u:=qo g aV;have u:=q.size;have u:=g;have E:=D;clear D g;have y:=Z (bC ct u (λm m=>by have:=aA m;omega));have I:∀m∈[f],¬Bw L c.heap.size m:=λm o hS=>by have H:=hS.1;have N:=aA o;omega
  have T:∀m,Bw L c.heap.size m->Bw L s.heap.size m:=λm o=>⟨o.1,by have:=o.2;have:=q.out.size;omega⟩;go_wp2;first|go_end0|refine bodyPost_ret (results_none rfl _ _ _) rfl ?_
  rw[z.out];have u:=q.size;have w:∀m∈[f],¬Bw L c.heap.size m:=λm o hS=>by have H:=hS.1;have N:=aA o;omega
  have u:∀m,Bw L c.heap.size m->Bw L s.heap.size m:=λm o=>⟨o.1,by have:=o.2;omega⟩;refine⟨q.out,_,rfl,rfl,(aB.mk 2 (0) ⟨(some ⟨aL,aM,none⟩),kids.length,bE⟩ kids ⟨aR,d,aT⟩ bz aJ [] (0) (0) ⟨B,j.length,C⟩ j),kg,E.out,.mk (cS.out s q.out) (F.out.ik.mono u) (λs bp=>((F.out.sub s bp).keep q.out w).mono u) (cF (h:=⟨aR,d,aT⟩) cT.eE da.out (by show d<=_;omega) y.out) ((lX y.out).mono (λm o=>⟨by have:=o.1;omega,o.2⟩)) (aF.none_ _ 1 _) (aS.none_ _ _ _) ((bu.out.keep q.out I).mono T)⟩
 have w:(d:Int)<i.length:=ae
 obtain⟨u,of,F,w,q⟩:=(F.out.lc wr aU.out).2.2 d dc;have ev:cl=some ⟨u,of,none⟩:=F;obtain⟨N,w⟩:∃N,N=i[d]:=⟨_,rfl⟩;rw[<-w]at q;have dd:=Z (show R=(jL at_ aQ N).bind λm=>(eT at_ aQ (bz++[m]) (i.drop (d+1))).bind (λm=>.ok (.mk 2 0 (aB.aN kids) m [] 0 0 (j.map RA.at_))) by rw[bP.out,List.drop_eq_getElem_cons dc,uA,<-w]);clear w F bP;have w:Hid (oC wr v c.heap.size A.heap.size ⟨B,j.length,C⟩ j at_):=Z ⟨by omega,bH.out wr aU.out,J.lt bR.out,J.cell bR.out 0,J.lt aV.out,J.cell aV.out 0,(ee.out wr aU.out).a⟩;have B:=Z (λ(o:dG) (m:af) (s:ag wr m)=>B7 v c.heap.size A.heap.size ⟨B,j.length,C⟩ j o at_ m (w.same s));have cu:=Z (λ(m:af) (j:ag wr m)=>uw v 271 #[aj c.heap.size,aj A.heap.size] eu aQ N at_ m (by have:=(w.out.same j).hX;exact this) ((w.same j).c8) (λm o=>by rw[c3.out];exact B.out N.l m (j.trans o)) (λm o=>by rw[c3.out];exact B.out N.r m (j.trans o)));clear B w;obtain⟨cv,j⟩:∃cv,cv=jL at_ aQ N:=⟨_,rfl⟩;rw[<-j]at dd cu;clear j;obtain⟨⟨a0,a1,a2,⟨a3,a4,a5⟩⟩,a6,⟨a7,a8,a9,⟨ba,bb,bf⟩⟩,bg⟩:=N;have ew:Hid (∀(j:af),ag wr j->Calls Tryz.prog 198 #[aj v,.agg #[a0,a1,a2,a3,a4,a5,a6,a7,a8,a9,ba,bb,bf,bg],.func (.func 271) #[] #[aj c.heap.size,aj A.heap.size]] j λe w'=>RP [] j cv rl e w'):=cu;clear cu;have ex:ac wr (ab u (of+d*14)) a0:=by simpa using q 0 _ rfl
 have ey:ac wr (ab u (of+d*14+1)) a1:=q 1 _ rfl;have eA:ac wr (ab u (of+d*14+2)) a2:=q 2 _ rfl;have eB:ac wr (ab u (of+d*14+3)) a3:=q 3 _ rfl;have eC:ac wr (ab u (of+d*14+4)) a4:=q 4 _ rfl;have eD:ac wr (ab u (of+d*14+5)) a5:=q 5 _ rfl;have eI:ac wr (ab u (of+d*14+6)) a6:=q 6 _ rfl;have eJ:ac wr (ab u (of+d*14+7)) a7:=q 7 _ rfl;have eK:ac wr (ab u (of+d*14+8)) a8:=q 8 _ rfl;have de:ac wr (ab u (of+d*14+9)) a9:=q 9 _ rfl;have eL:ac wr (ab u (of+d*14+10)) ba:=q 10 _ rfl;have eM:ac wr (ab u (of+d*14+11)) bb:=q 11 _ rfl;have eN:ac wr (ab u (of+d*14+12)) bf:=q 12 _ rfl;have eO:ac wr (ab u (of+d*14+13)) bg:=q 13 _ rfl;have j:IntKind.i64.wrap ((d:Int)+1)=(d:Int)+1:=IntWalk.i64_in _ ae;clear q;subst ev;have eP:=Z (Kp.refl [] wr);go_upto_region 23 with(first|(refine wpList_store_row rfl 286 (.tmp 15) (.tmp 126) rfl wr.heap.size #[a0,a1,a2,a3,a4,a5,a6,a7,a8,a9,ba,bb,bf,bg] rfl rfl 286 #[ah,ah,.bool false,O 0,O 0,ah,O 0,ah,ah,.bool false,O 0,O 0,ah,O 0] (J.new wr 286 #[ah,ah,.bool false,O 0,O 0,ah,O 0,ah,ah,.bool false,O 0,O 0,ah,O 0]) ak rfl bl ?_;rw[World.setRow_alloc_new])|fail)
 obtain⟨df,j,m,b,-⟩:=nb wr 286 #[a0,a1,a2,a3,a4,a5,a6,a7,a8,a9,ba,bb,bf,bg];rw[j];clear j;have cw:=qk aU b;have cx:=qb b bA;have cz:=qb b bR;have eQ:=qb b db;have eR:=qb b aV;have dh:=qk eP b;have eS:=qk Q b;have j:=cw.size;clear b;have b:=J.lt m;clear ex ey eA eB eC eD eI eJ eK de eL eM eN eO;have di:=bj cx;have b:=J.lt cx;have dj:=az cz;have b:=J.lt cz;have dk:=az m;have dl:=aY m;have dm:=bh m;have dn:=bj m;have dq:=bn m;have dr:=bQ m;have ds:=cd m;have dt:=b7 m;have du:=bN m;have dv:=iT m;have dw:=ml m;have dx:=nk m;have dy:=o8 m;have dz:=nl m;have b:=J.lt m;refine ez 11 (S:=(λw'=>ac w' (ab f 3) (U aR d aT)/\ac w' (am c 0) (aj v)/\ac w' (am wr 0) a0/\ac w' (am wr 1) a1/\ac w' (am wr 2) a2/\ac w' (am wr 3) a3/\ac w' (am wr 4) a4/\ac w' (am wr 5) a5/\ac w' (am wr 6) a6/\ac w' (am wr 7) a7/\ac w' (am wr 8) a8/\ac w' (am wr 9) a9/\ac w' (am wr 10) ba/\ac w' (am wr 11) bb/\ac w' (am wr 12) bf/\ac w' (am wr 13) bg)) ⟨di,dj,dk,dl,dm,dn,dq,dr,ds,dt,du,dv,dw,dx,dy,dz⟩ (λhS=>?_);refine cJ ?_;refine jl ?_;refine tk 7 hS ?_;refine aK 8 (λK hK=>?_);go_simp;refine dC dd.out (ew.out df.drew dh.out.drew.same) ?ay ?aD
 case ay=>
  intro b t b HX b;refine⟨rfl,?_⟩;rw[HX.out];exact⟨(cw.out.drew.trans ((b.out).mono (λ_ h=>by cases h))),rfl⟩
 intro t eU H eV eW dA E;have E:=Z (((Kp.refl [] df).drew).trans E);have eX:=Z (rfl:t=t);obtain⟨⟨V,W,⟨X,Y,T⟩⟩,ad,⟨al,an,⟨ao,aq,ar⟩⟩,ax⟩:=t;have eZ:eU=.agg #[V,W,X,Y,T,ad,al,an,ao,aq,ar,ax]:=dA;clear dA eX eV;subst eZ;have dD:=qm cw E;have bS:=qo E cx;have cA:=qo E cz;have e0:=qo E eQ;have e1:=qo E eR;have s:=qo E m;have e2:=Z (dh.trans E);have e3:=qm eS E;have b:=dD.size;clear E;try go_simp
 have bT:=bj bS;have b:=J.lt bS;have bU:=az cA;have b:=J.lt cA;have bW:=az s;have bX:=aY s;have bY:=bh s;have bZ:=bj s;have b0:=bn s;have b4:=bQ s;have b5:=cd s;have b6:=b7 s;have b8:=bN s;have b9:=iT s;have ca:=ml s;have cb:=nk s;have cc:=o8 s;have ce:=nl s;have b:=J.lt s;have cB:=Z (aH e2.same ct);refine nP hK ⟨bT,bU,bW,bX,bY,bZ,b0,b4,b5,b6,b8,b9,ca,cb,cc,ce⟩ λb=>?_;refine av ?_;clear hS;have hS:=b;clear b;have dE:(λw':World=>ac w' (ab f 3) (U aR d aT)/\ac w' (am c 0) (aj v)/\ac w' (am wr 0) a0/\ac w' (am wr 1) a1/\ac w' (am wr 2) a2/\ac w' (am wr 3) a3/\ac w' (am wr 4) a4/\ac w' (am wr 5) a5/\ac w' (am wr 6) a6/\ac w' (am wr 7) a7/\ac w' (am wr 8) a8/\ac w' (am wr 9) a9/\ac w' (am wr 10) ba/\ac w' (am wr 11) bb/\ac w' (am wr 12) bf/\ac w' (am wr 13) bg) (H.alloc (.cells #[V,W,X,Y,T,ad,al,an,ao,aq,ar,ax] 73)):=⟨bi bT,bi bU,bi bW,bi bX,bi bY,bi bZ,bi b0,bi b4,bi b5,bi b6,bi b8,bi b9,bi ca,bi cb,bi cc,bi ce⟩;refine aK 9 (λK hK=>?_);go_simp;refine hK.out _ _ (λ_=>dE) ?_;refine av ?_;have dF:=Z (aH ((ag.refl H).alloc (.cells #[V,W,X,Y,T,ad,al,an,ao,aq,ar,ax] 73)) cB);have dH:=Z (cC H #[V,W,X,Y,T,ad,al,an,ao,aq,ar,ax] 73 12 rfl);have hrow:∀y,(Value.slice aR d aT).ownBlock=some y->x.heap.size<=y/\y<H.heap.size/\y<wr.heap.size:=λy z=>⟨(b3 cB y z).1,(b3 cB y z).2,(λy z=>(b3 ct y z).2) y z⟩;have b:=J.lt bS;refine aK 10 (λK hK=>?_);refine c7 (H.alloc (.cells #[V,W,X,Y,T,ad,al,an,ao,aq,ar,ax] 73)) (.tmp 131) (.tmp 136) 62 rfl (x.heap.size) 73 ep _ 12 112 Tryz.underlying62 eq er es et rfl au (U aR d aT) d (bz.flatMap cT.cells) rfl dF.out (H.heap.size+1) (some ⟨H.heap.size,0,none⟩) 1 1 ((#[V,W,X,Y,T,ad,al,an,ao,aq,ar,ax]:Array Value).toList) rfl dH.out bl b1 ae aC ?_;intro de cD cE z e4;obtain⟨cf,cg,rfl,e5⟩:=bo cE;have e6:=Z cE;have I:=Z z;have o:=Z (fm ((Kp.refl [] H).alloc _) z);clear cE z e4 e5;have cG:=Z (J.grown (bS.alloc _) I (λe=>by have:=hrow _ e.symm;omega));have e7:=bj cG;have e8:=λbx=>J.frozen cG bx;refine hK.out _ _ (λ_=>⟨bw o.out bT,bw o.out bU,bw o.out bW,bw o.out bX,bw o.out bY,bw o.out bZ,bw o.out b0,bw o.out b4,bw o.out b5,bw o.out b6,bw o.out b8,bw o.out b9,bw o.out ca,bw o.out cb,bw o.out cc,bw o.out ce⟩) ?_;clear hK K dE;refine av ?_;refine b2 ?_;refine tq 11 ?_;refine tq 12 ?_;refine dp 13 (λK hK=>?_);go_simp;refine hK _ _ ?_;refine av ?_;refine bV ?_;have j:=Z (J.grown (cA.alloc _) I (λe=>by have:=hrow _ e.symm;omega));have m:=Z (J.grown (e0.alloc _) I (λe=>by have:=hrow _ e.symm;omega));have q:=Z (J.grown (e1.alloc _) I (λe=>by have:=hrow _ e.symm;omega));have s:=Z (J.grown (s.alloc _) I (λe=>by have:=hrow _ e.symm;omega));have b:=Z ((dD.alloc _).grown I (λy z=>.inr (by have:=hrow y z;omega)));have t:=Z ((e3.alloc _).grown I (λy z=>.inr (by have:=hrow y z;omega)));have c:=b.size;have c:H.heap.size<=cD.heap.size:=by have:=I.out.size;simp at this;omega
 clear dF dH I o hrow e7 e8;have D:=Z (mm cG (U cf (d+1) cg));have g:=Z (Kp.aE (p:=(ab f 3)) (l:=[f]) ai (Kp.refl [f] cD) (U cf (d+1) cg));obtain⟨c,c⟩:∃c,c=cD.setCell (ab f 3) (U cf (d+1) cg):=⟨_,rfl⟩;rw[<-c]at D g⊢;clear c;have c:=g;have e9:=Z (t.trans g);have b:=Z (b.trans g);have c:=qo g j;have c:=qo g m;have c:=qo g q;have c:=qo g s;have b:=b.size;have fa:=g;have fb:=D;clear D g;clear di dj dk dl dm dn dq dr ds dt du dv dw dx dy dz bT bU bW bX bY bZ b0 b4 b5 b6 b8 b9 ca cb cc ce;go_wp2_with fail
 go_roundg (i.length-d)
 case measure=>have:=c9.out;omega
 refine⟨d+1,bz++[⟨⟨V,W,⟨X,Y,T⟩⟩,ad,⟨al,an,⟨ao,aq,ar⟩⟩,ax⟩],cf,cg,by go_num,by omega,by have:=c9.out;omega,by rw[List.length_append,da.out];rfl,Z ?_,fb,e9,eW⟩;rw[List.flatMap_append];exact bC e6.out fa.out (λb b=>by have:=aA b;omega)
theorem Ca (c:List Tb) (d:aw) (f:List bB) (b:bm) (g i:aw) (j a:Int) (ks:List Pl):cy c 3 d f b g i j a ks=RO.ap (decide (ks.length=1)) 1 a ((fz a (bF ks 0) [] [] b).bind λp=>.ok (.mk 3 0 ks [] p.1 0 0 p.2)):=by
 have h:decide (ef 3=some ks.length)=decide (ks.length=1):=by
  have:ef 3=some 1:=rfl;exact tL
 unfold cy;rw[h];rfl
theorem Cb (t g A:Nat) (h:Hd) (W:List RT) (X:aw) (a1 D:Hd) (d:List aB) (ao:Hd) (ar:List bB) (au:Hd) (u:bm) (Y E:aw) (ad at_:Int) (f:af) (cu:aG E)
 (ax:J f g 105 #[O 3,O 0,D.val,aa,aa,O 0,O 0,aa]) (a:iC f t g A h W D d ao ar au u at_):
 Calls Tryz.prog 201 #[aj t,.agg #[O 3,X,a1.val,ao.val,au.val,Y,E,ad,at_],aj g] f
  λe w'=>RP [g] f (cy (W.map RT.tb) 3 X ar u Y E ad at_ (aB.aN d)) (iE g A) e w':=by
 obtain⟨bp,v,bq⟩:=h;obtain⟨a2,a3,ay⟩:=D;obtain⟨br,bs,bt⟩:=a1;obtain⟨bu,bw,bx⟩:=ao;obtain⟨aD,aH,aI⟩:=au;have o:=Z a;have bz:d.length=a3:=a.lk.1;have ao:a3<=9223372036854775807:=a.lk.2.1;have ao:W.length=v:=(a.ta f (Kp.refl _ f)).1.1;have ao:v<=9223372036854775807:=(a.ta f (Kp.refl _ f)).1.2.1;subst bz;have ao:=a.hX;have au:=a.xp;have au:=a.j3;have au:=a.lw;have au:=ax.lt;have bA:=Z ax;obtain⟨R,W⟩:=aq (cy (W.map RT.tb) 3 X ar u Y E ad at_ (aB.aN d));rw[<-W];have ar:(aB.aN d).length=d.length:=by rw[aB.iB,List.length_map]
 have E0:=Z (show R=RO.ap (decide (d.length=1)) 1 at_ ((fz at_ (bF (aB.aN d) 0) [] [] u).bind λc=>.ok (.mk 3 0 (aB.aN d) [] c.1 0 0 c.2)) by rw[W,Ca,ar]);clear W a ax ar;have W:f.heap.size<=f.heap.size:=Nat.le_refl _;have bC:=Z (Kp.refl [g] f);have a4:=Z (λ(c:af) (i:Kp [g] f c)=>o.lk.kp i (λc i e v=>by have c:=(o.out.ik c i e).1;have c:=aA v;omega));have W:=Z (λ(c:af) (i:Kp [g] f c)=>show ac c (ab t 0) (U bp v bq)from(i.cell ao aC).trans o.c0);have a5:=Z (λ(c:af) (i:Kp [g] f c)=>show ac c (ab t 8) at_ from(i.cell ao aC).trans o.c8);have W:=aW ao;have W:=aW au;have W:∀(W:Fn) (first cap:aO) (f:af),(Instr.makeFunc W first cap).run Tryz.prog f=.ok (.func W first cap) f:=λ_ _ _ _=>rfl;have bD:=@run_makeMap Tryz.prog;show Calls Tryz.prog 201 #[aj t,.agg #[O 3,X,U br bs bt,U bu bw bx,U aD aH aI,Y,E,ad,at_],aj g] f _;go_enter Tryz.func201,Tryz.ntmps201
 go_upto_region 1 with(fail)
 obtain⟨X,E,Y,c,W⟩:=nb f 154 _;rw[E];clear E;have E:=qk bC c;have ad:=qb c bA;have X:=E.size;clear c;obtain⟨m,X,bE,c,ao⟩:=nc W 93 _;rw[X];clear X;have a6:=qk E c;have bG:=qb c ad;have bH:=qb c Y;have E:=a6.size;clear c;have E:f.heap.size+1<m.heap.size:=ae
 clear W ao;have bI:=j4 m;have bK:=j5 m;have bL:=j6 m;have bM:=j7 m;have bN:=j8 m;have bO:=j9 m;have bP:=ka m;have bQ:=kc m;go_upto_region 2 with(fail)
 clear bI bK bL bM bN bO bP bQ bD;have M3:=Z (kd m);have c:=Z (show ag m (m.alloc (.map (km 8) 8))from(ag.refl m).alloc _);obtain⟨B,m⟩:=aq (m.alloc (.map (km 8) 8));rw[<-m]at M3 c⊢;clear m;have K3:=qk a6 c;have aL:=qb c bG;have aM:=qb c bH;have aP:=qb c bE;have m:=K3.size;have bR:=kO M3 (k:=3) (n:=1) rfl;clear c M3;have bS:=az aP;have m:=J.lt aP;go_upto_region 3 with(fail)
 clear bR bS;have eF:=az aM;have m:=J.lt aM;have eG:ac B (ab g 2) (U a2 d.length ay):=J.cell aL 2;have m:=J.lt aL;have eH:=a5 B K3;have m:f.heap.size<B.heap.size:=ae
 have m:g<B.heap.size:=ae
 by_cases hN:d.length=1
 case neg=>
  have i:(((1:Nat):Int)==(d.length:Int))=false:=aC
  have i:((1:Int)==(d.length:Int))=false:=aC
  exact lF
 have bT:(((1:Nat):Int)==(d.length:Int))=true:=aC
 have bU:((1:Int)==(d.length:Int))=true:=aC
 have E1:=Z (show R=RO.ap true 1 at_ ((fz at_ (bF (aB.aN d) 0) [] [] u).bind λi=>.ok (.mk 3 0 (aB.aN d) [] i.1 0 0 i.2)) by rw[E0.out,decide_eq_true hN]);clear E0;refine dB 12 eF eG λhS=>?_;refine dg ?_;refine eh ?_;refine aK 11 (λK hK=>?_);go_simp;refine bJ K3.drew E1 eH λa7=>?_;try go_simp
 refine hK _ _ (λ_=>hS) ?_;refine av ?_;refine b2 ?_;refine bV ?_;clear hS bT bU eF eG eH E1;have c:=Z ((ag.refl B).drew);obtain⟨F,m⟩:=aq B.drew;rw[<-m]at c⊢;clear m;have a8:=qk K3 c;have bW:=qb c aL;have bX:=qb c aM;have a9:=qb c aP;have m:=a8.size;clear c;go_upto_region 5 with(fail)
 obtain⟨w,m,G,c,-⟩:=nb F 79 #[aa];rw[m];clear m;have aQ:=qk a8 c;have aR:=qb c bW;have bY:=qb c bX;have bZ:=qb c a9;have m:=aQ.size;clear c;have c:=J.lt G;have c:g<w.heap.size:=ae
 have c:=J.lt a9;have c:0<d.length:=ae
 obtain⟨H,I,ba,m,al⟩:=jo (a4 w aQ) 0 c;have L:=Z (o.sub _ (List.getElem_mem c)).res;have c:=jn d 0 c;obtain⟨E,W⟩:=aq (d[0]);rw[<-W]at al L c;obtain⟨⟨x,m,y⟩,B⟩:∃m,m=E.ha:=⟨_,rfl⟩;obtain⟨s,E⟩:=aq E.attrs;rw[<-B]at al;rw[<-B,<-E]at L;rw[<-E]at c;have b0:=Z (show R=_ by rw[a7.out,c]);clear a7 W B E;have bb:ac w (ab H (I+0*8+7)) (U x m y):=al;have b1:ac w (ab H (I+7)) (U x m y):=by simpa using bb
 have b3:a2=some ⟨H,I,none⟩:=ba;have c:(0:Int)<d.length:=ae
 have b4:s.length=m:=L.a.1.1;subst b4;clear al ba;subst b3;have b5:ac w (ab g 2) (U (some ⟨H,I,none⟩) d.length ay):=J.cell aR 2;have c:=J.lt aR;have b6:=az G;have c:=J.lt G;have b8:=λM=>J.frozen G M;go_upto_region 7 with(fail)
 have z:=Z (jB G (U x s.length y));have i:=Z (Kp.aE (p:=(am F 0)) (l:=[F.heap.size]) ai (Kp.refl [F.heap.size] w) (U x s.length y));obtain⟨q,c⟩:=aq (w.setCell (am F 0) (U x s.length y));rw[<-c]at z i⊢;clear c;have c:=i;have K6:=Z (i.old aQ (λc c j=>absurd j (by rw[aA c];omega)));have N:=qo i aR;have aT:=qo i bY;have an:=qo i bZ;have c:=K6.size;have c:=i;have aU:=z;clear z i;clear b8 b5 b6 b1 bb;have b9:=Z (λ(c:af) (j:Kp [g] f c)=>L.keep j (λc c hS=>by have j:=hS.1;have c:=aA c;omega));have ca:=az aT;have c:=J.lt aT;have cb:=az aU;have c:=J.lt aU;have c:=az an;have cc:=bn an;have c:=J.lt an;have cd:=bn N;have ce:=b7 N;have c:=J.lt N;have cf:=λM=>J.frozen N M;have bf:=a5 q K6;go_upto_region 27 with(fail)
 have bg:Hid (Calls Tryz.prog 273 #[aj t,U x s.length y,U aD aH aI] q λe w'=>RP [] q (fz at_ (s.map RA.at_) [] [] u) (rt q.heap.size) e w'):=Z (uE t ⟨x,s.length,y⟩ s ⟨aD,aH,aI⟩ u at_ q ae bf (b9 q K6).a L.b (o.ln q K6) o.l5);go_wp2_with fail
 refine dC b0 bg ?ah ?ak
 case ah=>
  exact GX
 intro a cg bh c ch ci C;obtain⟨cj,cv⟩:=a;obtain⟨⟨aV,aX,aY⟩,⟨P,Q,S⟩,ck,bi,cl,bj,cw,cx,rfl,cm,cz,cA⟩:=ci;have cn:cg=.tuple #[U aV aX aY,U P Q S]:=bi;clear bi;subst cn;have bk:=qm K6 C;have T:=qo C N;have co:=qo C aT;have cp:=qo C an;have cq:=qo C aU;have c:=bk.size;clear C;have c:=bn T;have c:=b7 T;have c:=J.lt T;have c:=λM=>J.frozen T M;clear ca cb cc cd ce cf bf bg;go_wp2_with fail
 obtain⟨m,s,t,c⟩:=tt T (U aV aX aY);rw[s];clear s;have s:=Z (bk.trans c);have u:=qo c co;have w:=qo c cp;have x:=qo c cq;have y:=s.size;have y:=c;have z:=Z (gp t (U P Q S));have i:=Z (Kp.aE (p:=(ab g 7)) (l:=[g]) ai (Kp.refl [g] m) (U P Q S));obtain⟨aZ,c⟩:=aq (m.setCell (ab g 7) (U P Q S));rw[<-c]at z i⊢;clear c;have c:=i;have V:=Z (s.trans i);have c:=qo i u;have c:=qo i w;have c:=qo i x;have c:=V.size;have c:=i;have cr:=z;clear z i;have a0:=Z (y.trans c);have bl:∀j∈[g],¬Bw q.heap.size bh.heap.size j:=λj r hS=>by have cs:=hS.1;have ct:=aA r;omega
 have bo:∀j,Bw q.heap.size bh.heap.size j->Bw A aZ.heap.size j:=λj r=>⟨by have:=r.1;omega,by have:=r.2;have:=a0.out.size;omega⟩;go_wp2;first|go_end0|refine bodyPost_ret (results_none rfl _ _ _) rfl ?_
 rw[ch.out];have c:=V.size;have g:∀j∈[g],¬Bw A f.heap.size j:=λj r hS=>by have cs:=hS.1;have ct:=aA r;omega
 have c:∀j,Bw A f.heap.size j->Bw A aZ.heap.size j:=λj r=>⟨r.1,by have:=r.2;omega⟩;refine⟨V,_,rfl,rfl,(aB.mk 3 (0) ⟨(some ⟨H,I,none⟩),d.length,ay⟩ d aJ [] ⟨aV,aX,aY⟩ cj (0) (0) ⟨P,Q,S⟩ ck),kg,cr,.mk (a4 aZ V) (o.ik.mono c) (λd D=>((o.sub d D).keep V g).mono c) (aF.none_ _ 12 _) (aS.none_ _ _ _) (cl.kp a0 (λj c e v=>bl j v (bj j c e))) (bj.mono bo) ((cm.keep a0 bl).mono bo)⟩
end Go.Proofs.YteamkimbmdgdbaaGreatDoor

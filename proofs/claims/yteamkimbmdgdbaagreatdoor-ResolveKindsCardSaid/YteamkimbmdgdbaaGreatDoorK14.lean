import Derived.Test.YteamkimbmdgdbaaGreatDoorK12
import Derived.Test.YteamkimbmdgdbaaGreatDoorK13
set_option linter.unusedSimpArgs false
set_option linter.unusedVariables false
set_option maxHeartbeats 16000000
set_option maxRecDepth 100000
namespace Go.Proofs.YteamkimbmdgdbaaGreatDoor
open Go.RowKit
def A1 (c:Nat) (d:aI) (v:ay) (b:af):Prop:=∃a:RI,a.it=d/\v=.agg a.cells.toArray/\df b (Bw c b.heap.size) a
def PO.All {a:Type} (b:PO a) (c:a->Prop):Prop:=∀a d,b=.ok a d->c a
theorem PO.All.bind {c d:Type} {e:PO c} {f:c->List ao->PO d} {p:d->Prop} (h:∀a us,(f a us).All p):(e.bind f).All p:=by
 intro g us b;cases e with
 |bad b a=>cases b
 |ok a i=>exact h a i g us b
theorem PO.All.ok {α:Type} {a:α} {us:List ao} {p:α->Prop} (h:p a):(PO.ok a us).All p:=by
 intro c c b;injection b with e1 e2
 subst e1;exact h
theorem PO.All.ite {b:Type} {c:Prop} [Decidable c] {d e:PO b} {a:b->Prop} (h:d.All a) (b:e.All a):(if c then d else e).All a:=by split<;>assumption
theorem PO.All.A3 {b f:Type} {c:PO b} {g:b->List ao->PO f} {i:b->Prop} {b:f->Prop} (k:c.All i) (h:∀a d,i a->(g a d).All b):(c.bind g).All b:=by
 intro l d e;cases c with
 |bad e a=>cases e
 |ok a j=>exact h a j (k a j rfl) l d e
theorem ue (b:Int) (a:aI) (c:List ao):(hW b a c).All (λb=>b.kind=a.kind):=
 .bind λ_ _=>.bind λ_ _=>.bind λ_ _=>.bind λ_ _=>.bind λ_ _=>.ok rfl
theorem ji (b:Int) (a:aI) (c:List ao):(en b a c).All (λd=>d.kind=a.kind):=by
 unfold en;refine .ite ?_ (.ite ?_ (.ite ?_ (.ite ?_ (.ite ?_ (.ite ?_ (.ite ?_ (.ite ?_ (.ite ?_ ?_))))))))
 ·exact .bind λ_ _=>.bind λ_ _=>.bind λ_ _=>.bind λ_ _=>.ok rfl
 ·exact .bind λ_ _=>.bind λ_ _=>.ok rfl
 ·exact .bind λ_ _=>.bind λ_ _=>.bind λ_ _=>.bind λ_ _=>.ite (.bind λ_ _=>.ok rfl) (.ite (.bind λ_ _=>.bind λ_ _=>.ok rfl) (.ok rfl))
 ·exact .bind λ_ _=>.bind λ_ _=>.bind λ_ _=>.bind λ_ _=>.bind λ_ _=>.bind λ_ _=>.ok rfl
 ·exact .bind λ_ _=>.bind λ_ _=>.bind λ_ _=>.ok rfl
 ·exact ue b a c
 ·exact PO.All.A3 (ue b a c) λd a a=>.bind λ_ _=>.bind λ_ _=>.ite (.bind λ_ _=>.ok a) (.ok a)
 ·exact .bind λ_ _=>.bind λ_ _=>.bind λ_ _=>.ok rfl
 ·exact .bind λ_ _=>.bind λ_ _=>.ok rfl
 exact .bind λ_ _=>.bind λ_ _=>.ok rfl
theorem jj {f q:Type} {r:Nat} {l l2:List Nat} {c d:af} {s:Int} {t:FuncId} {u:aO} {k:Ending->World->Prop} {m:PO q} {g:PO f} {V:f->Value->World->Prop} {w:f->List ao->PO q} {p:f->Prop} (y:∀i∈l2,i∈l\/c.heap.size<=i) (q:Kp l c d) (j:m=g.bind w) (z:g.All p) (A:Calls Tryz.prog t u d (λf b=>PL l2 s r d g V f b))
 (n:∀er a b,Hid (m=.bad er a)->Hid (Kp l c b)->k (.panicked [{v:=gI er a,recovered:=false}]) b)
 (B:∀a e v b,p a->Hid (m=w a e)->V a v b->Kp l2 d b->Hid (Kp l c b)->Hid (ax b r s e)->c.heap.size<=b.heap.size->k (.returned v) b):Calls Tryz.prog t u d k:=by
 refine A.mono ?_;rintro f b ⟨x,h⟩;have o:=x.old q (λi n c=>by rcases y i n with h|h;exact h;omega);cases hr:g with
 |bad er a=>rw[hr]at h j;subst h;exact n er a b (Z j) (Z o)
 |ok a e=>rw[hr]at h j;obtain⟨v,rfl,C,D⟩:=h;exact B a e v b (z a e hr) (Z j) C x (Z o) (Z D) o.size
theorem A4 (b:Int) (a:List ao) (l:bm):(dK b a l).All (λb=>1<=b/\b<=l.length):=by
 intro b b h;unfold dK at h;split at h
 ·rename_i c d
  injection h with h1 h2
  subst h1;have:=s7 a l 1 c d;omega
 cases a<;>cases h
theorem A5 {e q:Type} {f:Nat} {l:List Nat} {g c:af} {r:Int} {s:FuncId} {t:aO} {k:Ending->World->Prop} {m:PO q} {i:PO e} {V:e->Value->World->Prop} {u:e->List ao->PO q} {p:e->Prop} (x:i.All p) (q:f∈l) (y:Kp l g c) (j:m=i.bind u) (z:Calls Tryz.prog s t c (λe b=>PP r f c i V e b))
 (n:∀er a b,Hid (m=.bad er a)->Hid (Kp l g b)->k (.panicked [{v:=gI er a,recovered:=false}]) b)
 (A:∀a d v b,p a->Hid (m=u a d)->V a v b->Kp [f] c b->Hid (Kp l g b)->Hid (ax b f r d)->g.heap.size<=b.heap.size->k (.returned v) b):Calls Tryz.prog s t c k:=by
 refine z.mono ?_;rintro e b ⟨w,h⟩;have o:=y.trans (w.mono (λc n=>by rw[aA n];exact q));cases hr:i with
 |bad er a=>rw[hr]at h j;subst h;exact n er a b (Z j) (Z o)
 |ok a d=>rw[hr]at h j;obtain⟨v,rfl,B,C⟩:=h;exact A a d v b (x a d hr) (Z j) B w (Z o) (Z C) o.size
theorem A6 {e:Program} {g:Array Oper} {i:List Oper} {c:Oper} {d:Act} {j:af} {k:Exit->Act->World->Prop} (n:c.guard=none) (f:bb) (a:Nat) (b:Operand) (o:c.op=.build f #[(a,b)])
 (v:ay) (p:d.eval b=v) (l:aO) (m:e.built f [(a,v)]=some l) (h:wpList e g k i (d.put c.dst (.agg l)) j):wpList e g k (c::i) d j:=by
 have a:(#[(a,b)].map λ(a,b)=>(a,d.eval b)).toList=[(a,v)]:=by simp[p]
 refine wpList_build n f _ o (by rw[a,m];rfl) ?_;rw[a,m];exact h
theorem ir {P:Program} {i:Array Oper} {j:List Oper} {d:Oper} {f:Act} {a:af} {k:Exit->Act->World->Prop} (n:d.guard=none) (b:bb) (l:Operand) (o:d.op=.load b l)
 (e:Nat) (c:aO) (p:f.eval l=.pointer (some ⟨e,0,none⟩)) (m:bb) (q:a.heap[e]?=some (.cells c m (0,0))) (g:TypeDesc) (r:P.underlying b=some g) (s:(match g with|.struct _|.array _ _=>true|_=>false)=true) (l:(P.info? b).map (·.size)=some c.size)
 (h:wpList P i k j (f.put d.dst (.agg c)) a):wpList P i k (d::j) f a:=by
 refine wpList_plain n λd d=>?_;have f:(Instr.loadAt b (aj e)).run P a=.ok (.agg c) a:=by
  simp only[Instr.loadAt,Instr.sureAddr,Sem.run_bind,Sem.run_pure,Result.andThen];exact run_loadVar_row a e m b c (0,0) g q r s l
 unfold Oper.wp execOp;simp only[o,p,Sem.run_bind,f,Result.andThen_ok];exact d _ _ h
theorem jZ (b:af) (a:Nat) (cs:aO):b.grownBy (b.setRow a cs) (some a):=
 ⟨rfl,rfl,rfl,by simp[World.setRow],λb c c=>by
  have:b≠a:=λa=>c (by rw[a]);simp[World.setRow,Array.getElem?_modify,Ne.symm this]⟩
theorem kM {b:af} {a:Nat} {c:bb} {d:aO} (e:J b a c d) (cs:aO):J (b.setRow a cs) a c cs:=by
 have d:b.heap[a]?=some (.cells d c (0,0)):=e;show(b.setRow a cs).heap[a]?=some (.cells cs c (0,0));simp[World.setRow,Array.getElem?_modify,d]
theorem A7 {a:Int} (b:1<=a) (b:a<=10):a=1\/a=2\/a=3\/a=4\/a=5\/a=6\/a=7\/a=8\/a=9\/a=10:=ae
def im (P a:Nat):Array MapEntry:=(([89,90,91,92,93,94,95,96,97,98].take a).zipIdx.map λ(b,a)=>(⟨.int .i64 (a+1:Nat),.func (.func b) #[aj P] #[],a⟩:MapEntry)).toArray
theorem A8 (P:Nat) (a:af):(Instr.mapUpdate 194 (.map (some a.heap.size)) (O 1) (.func (.func 89) #[aj P] #[])).run Tryz.prog (a.alloc (.map #[] 0))=.ok () (a.alloc (.map (im P 1) 1)):=
 dL (P:=Tryz.prog) (T:=194) Tryz.underlying194 Tryz.underlying3 a #[] 0 _ _ rfl rfl
theorem A9 (P:Nat) {a:af} {b:Nat} (h:a.heap[b]?=some (.map (im P 10) 10)):(Instr.lookup 194 (.map (some b)) (O 1) false).run Tryz.prog a=.ok (.func (.func 89) #[aj P] #[]) a:=
 iX (P:=Tryz.prog) (T:=194) Tryz.underlying194 Tryz.underlying3 h (key:=.int .i64 1) rfl rfl
theorem uf (b:Int) (nm:aw) (a:Int) (c:List ao):en b {aI.zero with kind:=1,name:=nm,at_:=a} c=np b (RI.start 1 nm a).it c:=rfl
theorem Ba (P:Nat) (a:af):(Instr.mapUpdate 194 (.map (some a.heap.size)) (O 2) (.func (.func 90) #[aj P] #[])).run Tryz.prog (a.alloc (.map (im P 1) 1))=.ok () (a.alloc (.map (im P 2) 2)):=
 dL (P:=Tryz.prog) (T:=194) Tryz.underlying194 Tryz.underlying3 a (im P 1) 1 _ _ rfl rfl
theorem Bb (P:Nat) {a:af} {b:Nat} (h:a.heap[b]?=some (.map (im P 10) 10)):(Instr.lookup 194 (.map (some b)) (O 2) false).run Tryz.prog a=.ok (.func (.func 90) #[aj P] #[]) a:=
 iX (P:=Tryz.prog) (T:=194) Tryz.underlying194 Tryz.underlying3 h (key:=.int .i64 2) rfl rfl
theorem ug (b:Int) (nm:aw) (a:Int) (c:List ao):en b {aI.zero with kind:=2,name:=nm,at_:=a} c=nr b (RI.start 2 nm a).it c:=rfl
theorem Bc (P:Nat) (a:af):(Instr.mapUpdate 194 (.map (some a.heap.size)) (O 3) (.func (.func 91) #[aj P] #[])).run Tryz.prog (a.alloc (.map (im P 2) 2))=.ok () (a.alloc (.map (im P 3) 3)):=
 dL (P:=Tryz.prog) (T:=194) Tryz.underlying194 Tryz.underlying3 a (im P 2) 2 _ _ rfl rfl
theorem Bd (P:Nat) {a:af} {b:Nat} (h:a.heap[b]?=some (.map (im P 10) 10)):(Instr.lookup 194 (.map (some b)) (O 3) false).run Tryz.prog a=.ok (.func (.func 91) #[aj P] #[]) a:=
 iX (P:=Tryz.prog) (T:=194) Tryz.underlying194 Tryz.underlying3 h (key:=.int .i64 3) rfl rfl
theorem uh (b:Int) (nm:aw) (a:Int) (c:List ao):en b {aI.zero with kind:=3,name:=nm,at_:=a} c=nt b (RI.start 3 nm a).it c:=rfl
theorem Be (P:Nat) (a:af):(Instr.mapUpdate 194 (.map (some a.heap.size)) (O 4) (.func (.func 92) #[aj P] #[])).run Tryz.prog (a.alloc (.map (im P 3) 3))=.ok () (a.alloc (.map (im P 4) 4)):=
 dL (P:=Tryz.prog) (T:=194) Tryz.underlying194 Tryz.underlying3 a (im P 3) 3 _ _ rfl rfl
theorem Bg (P:Nat) {a:af} {b:Nat} (h:a.heap[b]?=some (.map (im P 10) 10)):(Instr.lookup 194 (.map (some b)) (O 4) false).run Tryz.prog a=.ok (.func (.func 92) #[aj P] #[]) a:=
 iX (P:=Tryz.prog) (T:=194) Tryz.underlying194 Tryz.underlying3 h (key:=.int .i64 4) rfl rfl
theorem ui (b:Int) (nm:aw) (a:Int) (c:List ao):en b {aI.zero with kind:=4,name:=nm,at_:=a} c=nu b (RI.start 4 nm a).it c:=rfl
theorem Bh (P:Nat) (a:af):(Instr.mapUpdate 194 (.map (some a.heap.size)) (O 5) (.func (.func 93) #[aj P] #[])).run Tryz.prog (a.alloc (.map (im P 4) 4))=.ok () (a.alloc (.map (im P 5) 5)):=
 dL (P:=Tryz.prog) (T:=194) Tryz.underlying194 Tryz.underlying3 a (im P 4) 4 _ _ rfl rfl
theorem Bi (P:Nat) {a:af} {b:Nat} (h:a.heap[b]?=some (.map (im P 10) 10)):(Instr.lookup 194 (.map (some b)) (O 5) false).run Tryz.prog a=.ok (.func (.func 93) #[aj P] #[]) a:=
 iX (P:=Tryz.prog) (T:=194) Tryz.underlying194 Tryz.underlying3 h (key:=.int .i64 5) rfl rfl
theorem uj (b:Int) (nm:aw) (a:Int) (c:List ao):en b {aI.zero with kind:=5,name:=nm,at_:=a} c=nw b (RI.start 5 nm a).it c:=rfl
theorem Bj (P:Nat) (a:af):(Instr.mapUpdate 194 (.map (some a.heap.size)) (O 6) (.func (.func 94) #[aj P] #[])).run Tryz.prog (a.alloc (.map (im P 5) 5))=.ok () (a.alloc (.map (im P 6) 6)):=
 dL (P:=Tryz.prog) (T:=194) Tryz.underlying194 Tryz.underlying3 a (im P 5) 5 _ _ rfl rfl
theorem Bm (P:Nat) {a:af} {b:Nat} (h:a.heap[b]?=some (.map (im P 10) 10)):(Instr.lookup 194 (.map (some b)) (O 6) false).run Tryz.prog a=.ok (.func (.func 94) #[aj P] #[]) a:=
 iX (P:=Tryz.prog) (T:=194) Tryz.underlying194 Tryz.underlying3 h (key:=.int .i64 6) rfl rfl
theorem uk (b:Int) (nm:aw) (a:Int) (c:List ao):en b {aI.zero with kind:=6,name:=nm,at_:=a} c=hW b (RI.start 6 nm a).it c:=rfl
theorem Bn (P:Nat) (a:af):(Instr.mapUpdate 194 (.map (some a.heap.size)) (O 7) (.func (.func 95) #[aj P] #[])).run Tryz.prog (a.alloc (.map (im P 6) 6))=.ok () (a.alloc (.map (im P 7) 7)):=
 dL (P:=Tryz.prog) (T:=194) Tryz.underlying194 Tryz.underlying3 a (im P 6) 6 _ _ rfl rfl
theorem Bo (P:Nat) {a:af} {b:Nat} (h:a.heap[b]?=some (.map (im P 10) 10)):(Instr.lookup 194 (.map (some b)) (O 7) false).run Tryz.prog a=.ok (.func (.func 95) #[aj P] #[]) a:=
 iX (P:=Tryz.prog) (T:=194) Tryz.underlying194 Tryz.underlying3 h (key:=.int .i64 7) rfl rfl
theorem ul (b:Int) (nm:aw) (a:Int) (c:List ao):en b {aI.zero with kind:=7,name:=nm,at_:=a} c=nx b (RI.start 7 nm a).it c:=rfl
theorem Bp (P:Nat) (a:af):(Instr.mapUpdate 194 (.map (some a.heap.size)) (O 8) (.func (.func 96) #[aj P] #[])).run Tryz.prog (a.alloc (.map (im P 7) 7))=.ok () (a.alloc (.map (im P 8) 8)):=
 dL (P:=Tryz.prog) (T:=194) Tryz.underlying194 Tryz.underlying3 a (im P 7) 7 _ _ rfl rfl
theorem Bq (P:Nat) {a:af} {b:Nat} (h:a.heap[b]?=some (.map (im P 10) 10)):(Instr.lookup 194 (.map (some b)) (O 8) false).run Tryz.prog a=.ok (.func (.func 96) #[aj P] #[]) a:=
 iX (P:=Tryz.prog) (T:=194) Tryz.underlying194 Tryz.underlying3 h (key:=.int .i64 8) rfl rfl
theorem um (b:Int) (nm:aw) (a:Int) (c:List ao):en b {aI.zero with kind:=8,name:=nm,at_:=a} c=ny b (RI.start 8 nm a).it c:=rfl
theorem Bs (P:Nat) (a:af):(Instr.mapUpdate 194 (.map (some a.heap.size)) (O 9) (.func (.func 97) #[aj P] #[])).run Tryz.prog (a.alloc (.map (im P 8) 8))=.ok () (a.alloc (.map (im P 9) 9)):=
 dL (P:=Tryz.prog) (T:=194) Tryz.underlying194 Tryz.underlying3 a (im P 8) 8 _ _ rfl rfl
theorem Bt (P:Nat) {a:af} {b:Nat} (h:a.heap[b]?=some (.map (im P 10) 10)):(Instr.lookup 194 (.map (some b)) (O 9) false).run Tryz.prog a=.ok (.func (.func 97) #[aj P] #[]) a:=
 iX (P:=Tryz.prog) (T:=194) Tryz.underlying194 Tryz.underlying3 h (key:=.int .i64 9) rfl rfl
theorem un (b:Int) (nm:aw) (a:Int) (c:List ao):en b {aI.zero with kind:=9,name:=nm,at_:=a} c=nz b (RI.start 9 nm a).it c:=rfl
theorem Bu (P:Nat) (a:af):(Instr.mapUpdate 194 (.map (some a.heap.size)) (O 10) (.func (.func 98) #[aj P] #[])).run Tryz.prog (a.alloc (.map (im P 9) 9))=.ok () (a.alloc (.map (im P 10) 10)):=
 dL (P:=Tryz.prog) (T:=194) Tryz.underlying194 Tryz.underlying3 a (im P 9) 9 _ _ rfl rfl
theorem Bx (P:Nat) {a:af} {b:Nat} (h:a.heap[b]?=some (.map (im P 10) 10)):(Instr.lookup 194 (.map (some b)) (O 10) false).run Tryz.prog a=.ok (.func (.func 98) #[aj P] #[]) a:=
 iX (P:=Tryz.prog) (T:=194) Tryz.underlying194 Tryz.underlying3 h (key:=.int .i64 10) rfl rfl
theorem uo (b:Int) (nm:aw) (a:Int) (c:List ao):en b {aI.zero with kind:=10,name:=nm,at_:=a} c=nA b (RI.start 10 nm a).it c:=rfl
theorem By (d:Int) (c:Nat) (e:ao) (l:List ao) (w:af) (bx:ax w c d (e::l)) (bO:b4 w ⟨some ⟨0,0,none⟩,10,10⟩ fb) (bQ:0<c):
 Calls Tryz.prog 47 #[aj c] w λbQ cc=>PP d c w (iV d (e::l)) (A1 w.heap.size) bQ cc:=by
 have bQ:=bx.lt;have cd:=Z bx;have ce:=Z (Kp.refl [c] w);have bP:=Z bO;have aT:=Z (show b8 e.at_ from tW bx);obtain⟨⟨bQ,br,cc⟩,hb,bF⟩:=id bx;have cf:ac w (ab c 0) (U bQ br cc):=J.cell hb 0;have cc:0<br:=by have:=bF.lies.1;simp at this;omega
 obtain⟨b,cc,cg,de,dg,ch,ci,cj,ck⟩:=bF.first;have cl:bQ=some ⟨b,cc,none⟩:=cg;subst cl;have bQ:c≠w.heap.size:=ae
 have bQ:c≠w.heap.size+1:=ae
 clear hb bF bO;clear bx;have bR:=Z (show iV d (e::l)=(dK d (e::l) fb).bind λg f=>(if g=5 then .ok e0 f else bW d f).bind λbr f=>(en d {aI.zero with kind:=g,name:=br,at_:=e.at_} f).bind λi f=>(aR d f (if g=4 then[⟨_⟩]else[⟨#[59]⟩])).bind λ_ f=>.ok i f from rfl);generalize iV d (e::l)=bs at bR⊢;have cm:(#[O 0,ah,e.at_,ah,ah,aa,aa,O 0,O 0,O 0,aa,ah,ah,aa,aa,aa,O 0,ah,aa,aa,aa,ah,ah,O 0,O 0]:Array Value).all (·.oneCell')=true:=bl
 have cn:Tryz.prog.built 95 [(2,.int .i64 e.at_)]=some #[.int .i64 0,.string ⟨#[]⟩,.int .i64 e.at_,.string ⟨#[]⟩,.string ⟨#[]⟩,.slice none 0 0,.slice none 0 0,.int .i64 0,.int .i64 0,.int .i64 0,.slice none 0 0,.string ⟨#[]⟩,.string ⟨#[]⟩,.slice none 0 0,.slice none 0 0,.slice none 0 0,.int .i64 0,.string ⟨#[]⟩,.slice none 0 0,.slice none 0 0,.slice none 0 0,.string ⟨#[]⟩,.string ⟨#[]⟩,.int .i64 0,.int .i64 0]:=ak
 have co:((w.alloc (.cells #[O 0,ah,O 0,ah,ah,aa,aa,O 0,O 0,O 0,aa,ah,ah,aa,aa,aa,O 0,ah,aa,aa,aa,ah,ah,O 0,O 0] 95)).alloc (.cells #[O 0,ah,O 0,ah,ah,aa,aa,O 0,O 0,O 0,aa,ah,ah,aa,aa,aa,O 0,ah,aa,aa,aa,ah,ah,O 0,O 0] 95)).heap[w.heap.size+1]?=some (.cells #[O 0,ah,O 0,ah,ah,aa,aa,O 0,O 0,O 0,aa,ah,ah,aa,aa,aa,O 0,ah,aa,aa,aa,ah,ah,O 0,O 0] 95 (0,0)):=by
  have h:=fx (w.alloc (.cells #[O 0,ah,O 0,ah,ah,aa,aa,O 0,O 0,O 0,aa,ah,ah,aa,aa,aa,O 0,ah,aa,aa,aa,ah,ah,O 0,O 0] 95)) (.cells #[O 0,ah,O 0,ah,ah,aa,aa,O 0,O 0,O 0,aa,ah,ah,aa,aa,aa,O 0,ah,aa,aa,aa,ah,ah,O 0,O 0] 95);exact rX
 have cp:((w.alloc (.cells #[O 0,ah,O 0,ah,ah,aa,aa,O 0,O 0,O 0,aa,ah,ah,aa,aa,aa,O 0,ah,aa,aa,aa,ah,ah,O 0,O 0] 95)).alloc (.cells #[O 0,ah,O 0,ah,ah,aa,aa,O 0,O 0,O 0,aa,ah,ah,aa,aa,aa,O 0,ah,aa,aa,aa,ah,ah,O 0,O 0] 95)).setRow (w.heap.size+1) #[O 0,ah,e.at_,ah,ah,aa,aa,O 0,O 0,O 0,aa,ah,ah,aa,aa,aa,O 0,ah,aa,aa,aa,ah,ah,O 0,O 0]=(w.alloc (.cells #[O 0,ah,O 0,ah,ah,aa,aa,O 0,O 0,O 0,aa,ah,ah,aa,aa,aa,O 0,ah,aa,aa,aa,ah,ah,O 0,O 0] 95)).alloc (.cells #[O 0,ah,e.at_,ah,ah,aa,aa,O 0,O 0,O 0,aa,ah,ah,aa,aa,aa,O 0,ah,aa,aa,aa,ah,ah,O 0,O 0] 95):=by
  have h:=World.setRow_alloc_new (w.alloc (.cells #[O 0,ah,O 0,ah,ah,aa,aa,O 0,O 0,O 0,aa,ah,ah,aa,aa,aa,O 0,ah,aa,aa,aa,ah,ah,O 0,O 0] 95)) #[O 0,ah,O 0,ah,ah,aa,aa,O 0,O 0,O 0,aa,ah,ah,aa,aa,aa,O 0,ah,aa,aa,aa,ah,ah,O 0,O 0] #[O 0,ah,e.at_,ah,ah,aa,aa,O 0,O 0,O 0,aa,ah,ah,aa,aa,aa,O 0,ah,aa,aa,aa,ah,ah,O 0,O 0] 95;exact rX
 go_enter Tryz.func47,Tryz.ntmps47
 go_upto_region 2 with(first|(refine A6 rfl 95 2 (.tmp 11) rfl e.at_ rfl #[O 0,ah,e.at_,ah,ah,aa,aa,O 0,O 0,O 0,aa,ah,ah,aa,aa,aa,O 0,ah,aa,aa,aa,ah,ah,O 0,O 0] cn ?_)|(refine wpList_store_row rfl 95 (.tmp 3) (.tmp 12) rfl (w.heap.size+1) #[O 0,ah,e.at_,ah,ah,aa,aa,O 0,O 0,O 0,aa,ah,ah,aa,aa,aa,O 0,ah,aa,aa,aa,ah,ah,O 0,O 0] rfl rfl 95 #[O 0,ah,O 0,ah,ah,aa,aa,O 0,O 0,O 0,aa,ah,ah,aa,aa,aa,O 0,ah,aa,aa,aa,ah,ah,O 0,O 0] co ak rfl cm ?_;rw[cp]))
 have cq:=Z (J.new w 95 #[O 0,ah,O 0,ah,ah,aa,aa,O 0,O 0,O 0,aa,ah,ah,aa,aa,aa,O 0,ah,aa,aa,aa,ah,ah,O 0,O 0]);have cr:=Z (show J ((w.alloc (.cells #[O 0,ah,O 0,ah,ah,aa,aa,O 0,O 0,O 0,aa,ah,ah,aa,aa,aa,O 0,ah,aa,aa,aa,ah,ah,O 0,O 0] 95)).alloc (.cells #[O 0,ah,e.at_,ah,ah,aa,aa,O 0,O 0,O 0,aa,ah,ah,aa,aa,aa,O 0,ah,aa,aa,aa,ah,ah,O 0,O 0] 95)) (w.heap.size+1) 95 #[O 0,ah,e.at_,ah,ah,aa,aa,O 0,O 0,O 0,aa,ah,ah,aa,aa,aa,O 0,ah,aa,aa,aa,ah,ah,O 0,O 0] by simpa using J.new (w.alloc (.cells #[O 0,ah,O 0,ah,ah,aa,aa,O 0,O 0,O 0,aa,ah,ah,aa,aa,aa,O 0,ah,aa,aa,aa,ah,ah,O 0,O 0] 95)) 95 #[O 0,ah,e.at_,ah,ah,aa,aa,O 0,O 0,O 0,aa,ah,ah,aa,aa,aa,O 0,ah,aa,aa,aa,ah,ah,O 0,O 0]);go_wp2_with fail
 refine A5 (A4 d (e::l) fb) ai ((ce.alloc _).alloc _) bR (s8 d c (e::l) ⟨some ⟨0,0,none⟩,10,10⟩ fb _ ((cd.alloc _).alloc _) (bP.same (((ag.refl w).alloc _).alloc _)) (λb f h=>by injection h with h;injection h with h;omega) au) aM ?_;intro i bG bx bx cs bq hv m bH bI bx;have bz:=b0 m cq;have bA:=bk m cr;obtain⟨rfl,bS,bJ⟩:=hv;clear m;replace bJ:i<=10:=cs.2;have bT:1<=i/\i<=10:=⟨bS,bJ⟩;clear bS bJ cf ch ci cj ck bP;obtain⟨aV,aW,aX,aY,aZ,a0,a1,a2,a3,a4,a6,a7,a8,a9,ba,bb,bc,bd,be,bf,bg,bh,bi,bj,bm⟩:=dI bA;have aK:=λaH=>J.frozen bA aH;obtain⟨ct,cu,cv,cw,cx,cy,cz,cB,cC,cD,cE,cF,cG,cH,cI,cJ,cK,cL,cM,cN,cO,cP,cQ,cR,cS⟩:=dI bz;have cT:=λaH=>J.frozen bz aH;go_upto_if 19 with(fail)
 go_cut [] (λwx=>∃(f:aw) (g:List ao),aG f/\Hid (J wx (w.heap.size) 95 #[O 0,ah,O 0,ah,ah,aa,aa,O 0,O 0,O 0,aa,ah,ah,aa,aa,aa,O 0,ah,aa,aa,aa,ah,ah,O 0,O 0]/\J wx (w.heap.size+1) 95 #[i,f,e.at_,ah,ah,aa,aa,O 0,O 0,O 0,aa,ah,ah,aa,aa,aa,O 0,ah,aa,aa,aa,ah,ah,O 0,O 0]/\Kp [c] w wx/\ax wx c d g/\bs=(en d {aI.zero with kind:=i,name:=f,at_:=e.at_} g).bind λg f=>(aR d f (if i=4 then[⟨#[125]⟩]else[⟨#[59]⟩])).bind λ_ f=>.ok g f))
 case first=>
  by_cases f:i=5
  ·
   have g:(i==5)=true:=by simp[f]
   replace bq:Hid (bs=(en d {aI.zero with kind:=i,name:=e0,at_:=e.at_} bG).bind λj g=>(aR d g (if i=4 then[⟨#[125]⟩]else[⟨#[59]⟩])).bind λ_ g=>.ok j g):=Z (by rw[bq.out,if_pos f];rfl);clear f;go_wp2_with fail
   go_meet;exact⟨e0,_,bZ _ au,Z ⟨(J.far bz (p:=(ab (w.heap.size+1) 0)) aD i),(bA.aP 0 i),(Kp.set (p:=(ab (w.heap.size+1) 0)) aD bH i),(ax.set aD bI _),bq⟩⟩
  have t:(i==5)=false:=by simp[f]
  replace bq:Hid (bs=(bW d bG).bind λbr g=>(en d {aI.zero with kind:=i,name:=br,at_:=e.at_} g).bind λj g=>(aR d g (if i=4 then[⟨#[125]⟩]else[⟨#[59]⟩])).bind λ_ g=>.ok j g):=Z (by rw[bq.out,if_neg f]);clear f;go_wp2_with fail
  refine aQ ai (Kp.set aD bH i) bq (eq d c bG _ (ax.set aD bI _)) aM ?_;intro g f f f k hv m n o f;have q:=Z (m.blk (J.far bz aD i) aU);have j:=Z (m.blk (jB bA i) aU);obtain⟨rfl,s⟩:=hv;clear m;clear aV aW aX aY aZ a0 a1 a2 a3 a4 a6 a7 a8 a9 ba bb bc bd be bf bg bh bi bj bm aK;have aK:=λaH=>J.frozen j aH;have f:=J.cell j 1;go_wp2_with fail
  go_meet;exact⟨g,_,s,Z ⟨(J.far q (p:=(ab (w.heap.size+1) 1)) aD g),(j.aP 1 g),(Kp.set (p:=(ab (w.heap.size+1) 1)) aD n g),(ax.set aD o _),k⟩⟩
 obtain⟨j,f,bn,HX⟩:=hcut;obtain⟨bo,rfl⟩:=aq wc;obtain⟨bU,bV,bX,bY,bt⟩:=HX.out;have b1:=Z bt;clear bt HX;clear bz bA bH bI bq;try clear aV aW aX aY aZ a0 a1 a2 a3 a4 a6 a7 a8 a9 ba bb bc bd be bf bg bh bi bj bm aK
 try clear ct cu cv cw cx cy cz cB cC cD cE cF cG cH cI cJ cK cL cM cN cO cP cQ cR cS cT
 have cV:=@run_makeMap Tryz.prog;have cW:=A8 c bo;have cX:=Ba c bo;have cY:=Bc c bo;have cZ:=Be c bo;have c0:=Bh c bo;have c1:=Bj c bo;have c2:=Bn c bo;have c3:=Bp c bo;have c4:=Bs c bo;have c5:=Bu c bo;go_upto_region 5 with(fail)
 go_cut [4] (λbo wx=>∃g:Nat,bo=.map (some g)/\Hid (J wx (w.heap.size) 95 #[O 0,ah,O 0,ah,ah,aa,aa,O 0,O 0,O 0,aa,ah,ah,aa,aa,aa,O 0,ah,aa,aa,aa,ah,ah,O 0,O 0]/\J wx (w.heap.size+1) 95 #[i,j,e.at_,ah,ah,aa,aa,O 0,O 0,O 0,aa,ah,ah,aa,aa,aa,O 0,ah,aa,aa,aa,ah,ah,O 0,O 0]/\Kp [c] w wx/\ax wx c d f/\wx.heap[g]?=some (.map (im c 10) 10)))
 case first=>
  go_wp2_with fail
  go_meet;exact⟨_,rfl,Z ⟨bU.alloc _,bV.alloc _,bX.alloc _,bY.alloc _,fx _ _⟩⟩
 obtain⟨dh,rfl,HX⟩:=hcut;obtain⟨di,rfl⟩:=aq wc;obtain⟨rf,aF,aL,aN,aO⟩:=HX.out;have aS:=b1;clear HX bU bV bX bY b1 cV cW cX cY cZ c0 c1 c2 c3 c4 c5;have b2:=aF.lt;have aJ:∀b∈[c,w.heap.size+1],b∈[c]\/w.heap.size<=b:=by intro b hb;simp at hb;rcases hb with rfl|rfl;exact .inl ai;exact .inr ae
 obtain⟨g,bo⟩:=aq (w.heap.size+1);rw[<-bo]at aJ b2 aF⊢;have bp:c<g:=ae
 have bq:w.heap.size<g:=ae
 clear bo;go_upto_region 6 with(fail)
 go_cut [] (λwx=>∃(r:RI) (k:List ao),r.kind=i/\Hid (J wx (w.heap.size) 95 #[O 0,ah,O 0,ah,ah,aa,aa,O 0,O 0,O 0,aa,ah,ah,aa,aa,aa,O 0,ah,aa,aa,aa,ah,ah,O 0,O 0]/\J wx g 95 r.cells.toArray/\lS (g+1) r wx/\Kp [c] w wx/\ax wx c d k/\bs=(aR d k (if i=4 then[⟨#[125]⟩]else[⟨#[59]⟩])).bind λ_ k=>.ok r.it k))
 case first=>
  have o:=az aF;rcases A7 bT.1 bT.2 with k|k|k|k|k|k|k|k|k|k
  ·subst k
   have o:=A9 c aO;have n:=Z (aS.trans (congrArg (λr=>PO.bind r _) (uf d j e.at_ f)));go_wp2_with fail
   refine jj (l2:=[c,g]) aJ aL n (by rw[<-uf];exact ji d _ f) (AS d c g f _ 1 j e.at_ aN aF bp ⟨by omega,by omega⟩ bn aT.out) aM ?_;exact pQ
  ·subst k
   have o:=Bb c aO;have n:=Z (aS.trans (congrArg (λr=>PO.bind r _) (ug d j e.at_ f)));go_wp2_with fail
   refine jj (l2:=[c,g]) aJ aL n (by rw[<-ug];exact ji d _ f) (AP d c g f _ 2 j e.at_ aN aF bp ⟨by omega,by omega⟩ bn aT.out) aM ?_;exact pQ
  ·subst k
   have o:=Bd c aO;have n:=Z (aS.trans (congrArg (λr=>PO.bind r _) (uh d j e.at_ f)));go_wp2_with fail
   refine jj (l2:=[c,g]) aJ aL n (by rw[<-uh];exact ji d _ f) (AV d c g f _ 3 j e.at_ aN aF bp ⟨by omega,by omega⟩ bn aT.out) aM ?_;exact pQ
  ·subst k
   have o:=Bg c aO;have n:=Z (aS.trans (congrArg (λr=>PO.bind r _) (ui d j e.at_ f)));go_wp2_with fail
   refine jj (l2:=[c,g]) aJ aL n (by rw[<-ui];exact ji d _ f) (AZ d c g f _ 4 j e.at_ aN aF bp ⟨by omega,by omega⟩ bn aT.out) aM ?_;exact pQ
  ·subst k
   have o:=Bi c aO;have n:=Z (aS.trans (congrArg (λr=>PO.bind r _) (uj d j e.at_ f)));go_wp2_with fail
   refine jj (l2:=[c,g]) aJ aL n (by rw[<-uj];exact ji d _ f) (AQ d c g f _ 5 j e.at_ aN aF bp ⟨by omega,by omega⟩ bn aT.out) aM ?_;exact pQ
  ·subst k
   have o:=Bm c aO;have n:=Z (aS.trans (congrArg (λr=>PO.bind r _) (uk d j e.at_ f)));go_wp2_with fail
   refine jj (l2:=[c,g]) aJ aL n (by rw[<-uk];exact ji d _ f) (uc d c g f _ 6 j e.at_ aN aF bp ⟨by omega,by omega⟩ bn aT.out) aM ?_;exact pQ
  ·subst k
   have o:=Bo c aO;have n:=Z (aS.trans (congrArg (λr=>PO.bind r _) (ul d j e.at_ f)));go_wp2_with fail
   refine jj (l2:=[c,g]) aJ aL n (by rw[<-ul];exact ji d _ f) (A0 d c g f _ 7 j e.at_ aN aF bp ⟨by omega,by omega⟩ bn aT.out) aM ?_;exact pQ
  ·subst k
   have o:=Bq c aO;have n:=Z (aS.trans (congrArg (λr=>PO.bind r _) (um d j e.at_ f)));go_wp2_with fail
   refine jj (l2:=[c,g]) aJ aL n (by rw[<-um];exact ji d _ f) (AR d c g f _ 8 j e.at_ aN aF bp ⟨by omega,by omega⟩ bn aT.out) aM ?_;exact pQ
  ·subst k
   have o:=Bt c aO;have n:=Z (aS.trans (congrArg (λr=>PO.bind r _) (un d j e.at_ f)));go_wp2_with fail
   refine jj (l2:=[c,g]) aJ aL n (by rw[<-un];exact ji d _ f) (AT d c g f _ 9 j e.at_ aN aF bp ⟨by omega,by omega⟩ bn aT.out) aM ?_;exact pQ
  subst k;have k:=Bx c aO;have n:=Z (aS.trans (congrArg (λr=>PO.bind r _) (uo d j e.at_ f)));go_wp2_with fail
  refine jj (l2:=[c,g]) aJ aL n (by rw[<-uo];exact ji d _ f) (AU d c g f _ 10 j e.at_ aN aF bp ⟨by omega,by omega⟩ bn aT.out) aM ?_;intro a5 rg v5 w5 hkd E5 hv k5 K5 Q5 z5;obtain⟨rfl,r,rfl,hb,hi⟩:=hv;go_wp2_with fail
  go_meet;exact⟨r,rg,hkd,Z ⟨k5.blk rf aC,hb,hi.mono (λb h=>⟨by unfold Bw at h;omega,h.2⟩),K5.out,Q5.out,E5.out⟩⟩
 obtain⟨r,bC,hkd,HX⟩:=hcut;obtain⟨bB,rfl⟩:=aq wc;obtain⟨b3,bK,hi,b5,b6,bt⟩:=HX.out;obtain⟨bD,bL⟩:=aq r;rw[<-bL]at hi bt;obtain⟨k,n,o,q,s,⟨t,u,x⟩,dj,⟨y,z,A⟩,dk,B,C,D,⟨E,F,G⟩,dl,H,I,⟨K,L,M⟩,dm,⟨N,P,Q⟩,dn,⟨R,S,T⟩,dp,⟨V,W,⟨X,Y,ad⟩,dq,⟨al,am,an⟩,dr,⟨ap,ar,av⟩,ds,ay,aA,aB,aE⟩⟩:=r;replace hkd:k=i:=hkd;subst hkd;have b7:=Z bL;have b9:=Z hi;have bu:Hid (J bB g 95 #[k,n,o,q,s,U t u x,U y z A,B,C,D,U E F G,H,I,U K L M,U N P Q,U R S T,V,W,U X Y ad,U al am an,U ap ar av,ay,aA,aB,aE]):=Z bK;have bv:=Z bt;have e:=bK.lt;clear bK hi bt HX bL rf aF aL aN aS aO b2 aJ;by_cases bw:k=4
 ·
  have e:(k==4)=true:=by simp[bw]
  replace bv:Hid (bs=(aR d bC [⟨#[125]⟩]).bind λ_ e=>.ok bD.it e):=Z (by rw[bv.out,if_pos bw]);clear bw;obtain⟨aV,aW,aX,aY,aZ,a0,a1,a2,a3,a4,a6,a7,a8,a9,ba,bb,bc,bd,be,bf,bg,bh,bi,bj,bm⟩:=dI bu;have aK:=λaH=>J.frozen bu aH;go_wp2_with fail
  refine aQ ai (b5.alloc _) bv (cU d c bC [⟨_⟩] _ bB _ (b6.alloc _) (cA [⟨_⟩] au)) aM ?_;intro e e e ca c6 hv m c7 c8 e;have cb:=b0 m b3;have bM:=b0 m bu;have c9:=Z (b9.kp (((Kp.refl [c] bB).alloc _).trans (m.mono ai)) aU);obtain rfl:=hv;clear m;clear aV aW aX aY aZ a0 a1 a2 a3 a4 a6 a7 a8 a9 ba bb bc bd be bf bg bh bi bj bm aK;obtain⟨aV,aW,aX,aY,aZ,a0,a1,a2,a3,a4,a6,a7,a8,a9,ba,bb,bc,bd,be,bf,bg,bh,bi,bj,bm⟩:=dI bM;have aK:=λaH=>J.frozen bM aH;clear aV aW aX aY aZ a0 a1 a2 a3 a4 a6 a7 a8 a9 ba bb bc bd be bf bg bh bi bj bm aK;have da:(#[k,n,o,q,s,U t u x,U y z A,B,C,D,U E F G,H,I,U K L M,U N P Q,U R S T,V,W,U X Y ad,U al am an,U ap ar av,ay,aA,aB,aE]:Array Value).all (·.oneCell')=true:=by simp[Value.oneCell']
  go_wp2_with (first|(refine ir rfl 95 (.tmp 3) rfl g #[k,n,o,q,s,U t u x,U y z A,B,C,D,U E F G,H,I,U K L M,U N P Q,U R S T,V,W,U X Y ad,U al am an,U ap ar av,ay,aA,aB,aE] rfl 95 bM.out _ Tryz.underlying95 rfl ak ?_)|(refine wpList_store_row rfl 95 (.tmp 2) (.tmp 59) rfl w.heap.size #[k,n,o,q,s,U t u x,U y z A,B,C,D,U E F G,H,I,U K L M,U N P Q,U R S T,V,W,U X Y ad,U al am an,U ap ar av,ay,aA,aB,aE] rfl rfl 95 #[O 0,ah,O 0,ah,ah,aa,aa,O 0,O 0,O 0,aa,ah,ah,aa,aa,aa,O 0,ah,aa,aa,aa,ah,ah,O 0,O 0] cb.out ak rfl da ?_))
  have bE:=jZ ca w.heap.size #[k,n,o,q,s,U t u x,U y z A,B,C,D,U E F G,H,I,U K L M,U N P Q,U R S T,V,W,U X Y ad,U al am an,U ap ar av,ay,aA,aB,aE];have db:=kM cb #[k,n,o,q,s,U t u x,U y z A,B,C,D,U E F G,H,I,U K L M,U N P Q,U R S T,V,W,U X Y ad,U al am an,U ap ar av,ay,aA,aB,aE];have dc:=Kp.grown c7 bE (λe bN=>by injection bN with bN;omega);have dd:=ax.grown c8 bE (λe bN=>by injection bN with bN;omega);have bN:=lS.kp c9 (Kp.grown (l:=[w.heap.size]) (Kp.refl _ ca) bE (λe bN=>by injection bN with bN;subst bN;simp)) aC;have e:=df.mono (S':=Bw w.heap.size _) bN (λb h=>⟨by have:=h.1;omega,h.2⟩);clear bN bE;refine bodyPost_ret (v:=.agg #[k,n,o,q,s,U t u x,U y z A,B,C,D,U E F G,H,I,U K L M,U N P Q,U R S T,V,W,U X Y ad,U al am an,U ap ar av,ay,aA,aB,aE]) (results_cell_row rfl _ _ w.heap.size 95 #[k,n,o,q,s,U t u x,U y z A,B,C,D,U E F G,H,I,U K L M,U N P Q,U R S T,V,W,U X Y ad,U al am an,U ap ar av,ay,aA,aB,aE] (0,0) _ ?_ db Tryz.underlying95 rfl ak) rfl ?_
  ·rfl
  rw[c6.out];exact⟨dc,_,rfl,⟨bD,rfl,by rw[b7.out];rfl,e⟩,dd⟩
 have e:(k==4)=false:=by simp[bw]
 replace bv:Hid (bs=(aR d bC [⟨#[59]⟩]).bind λ_ e=>.ok bD.it e):=Z (by rw[bv.out,if_neg bw]);clear bw;obtain⟨aV,aW,aX,aY,aZ,a0,a1,a2,a3,a4,a6,a7,a8,a9,ba,bb,bc,bd,be,bf,bg,bh,bi,bj,bm⟩:=dI bu;have aK:=λaH=>J.frozen bu aH;go_wp2_with fail
 refine aQ ai (b5.alloc _) bv (cU d c bC [⟨#[59]⟩] _ bB _ (b6.alloc _) (cA [⟨#[59]⟩] au)) aM ?_;intro d d d ca c6 hv m c7 c8 d;have cb:=b0 m b3;have bM:=b0 m bu;have c9:=Z (b9.kp (((Kp.refl [c] bB).alloc _).trans (m.mono ai)) aU);obtain rfl:=hv;clear m;clear aV aW aX aY aZ a0 a1 a2 a3 a4 a6 a7 a8 a9 ba bb bc bd be bf bg bh bi bj bm aK;obtain⟨aV,aW,aX,aY,aZ,a0,a1,a2,a3,a4,a6,a7,a8,a9,ba,bb,bc,bd,be,bf,bg,bh,bi,bj,bm⟩:=dI bM;have aK:=λaH=>J.frozen bM aH;clear aV aW aX aY aZ a0 a1 a2 a3 a4 a6 a7 a8 a9 ba bb bc bd be bf bg bh bi bj bm aK;have da:(#[k,n,o,q,s,U t u x,U y z A,B,C,D,U E F G,H,I,U K L M,U N P Q,U R S T,V,W,U X Y ad,U al am an,U ap ar av,ay,aA,aB,aE]:Array Value).all (·.oneCell')=true:=by simp[Value.oneCell']
 go_wp2_with (first|(refine ir rfl 95 (.tmp 3) rfl g #[k,n,o,q,s,U t u x,U y z A,B,C,D,U E F G,H,I,U K L M,U N P Q,U R S T,V,W,U X Y ad,U al am an,U ap ar av,ay,aA,aB,aE] rfl 95 bM.out _ Tryz.underlying95 rfl ak ?_)|(refine wpList_store_row rfl 95 (.tmp 2) (.tmp 59) rfl w.heap.size #[k,n,o,q,s,U t u x,U y z A,B,C,D,U E F G,H,I,U K L M,U N P Q,U R S T,V,W,U X Y ad,U al am an,U ap ar av,ay,aA,aB,aE] rfl rfl 95 #[O 0,ah,O 0,ah,ah,aa,aa,O 0,O 0,O 0,aa,ah,ah,aa,aa,aa,O 0,ah,aa,aa,aa,ah,ah,O 0,O 0] cb.out ak rfl da ?_))
 have bE:=jZ ca w.heap.size #[k,n,o,q,s,U t u x,U y z A,B,C,D,U E F G,H,I,U K L M,U N P Q,U R S T,V,W,U X Y ad,U al am an,U ap ar av,ay,aA,aB,aE];have db:=kM cb #[k,n,o,q,s,U t u x,U y z A,B,C,D,U E F G,H,I,U K L M,U N P Q,U R S T,V,W,U X Y ad,U al am an,U ap ar av,ay,aA,aB,aE];have dc:=Kp.grown c7 bE (λc bN=>by injection bN with bN;omega);have dd:=ax.grown c8 bE (λc bN=>by injection bN with bN;omega);have bN:=lS.kp c9 (Kp.grown (l:=[w.heap.size]) (Kp.refl _ ca) bE (λc bN=>by injection bN with bN;subst bN;simp)) aC;have c:=df.mono (S':=Bw w.heap.size _) bN (λb h=>⟨by have:=h.1;omega,h.2⟩);clear bN bE;refine bodyPost_ret (v:=.agg #[k,n,o,q,s,U t u x,U y z A,B,C,D,U E F G,H,I,U K L M,U N P Q,U R S T,V,W,U X Y ad,U al am an,U ap ar av,ay,aA,aB,aE]) (results_cell_row rfl _ _ w.heap.size 95 #[k,n,o,q,s,U t u x,U y z A,B,C,D,U E F G,H,I,U K L M,U N P Q,U R S T,V,W,U X Y ad,U al am an,U ap ar av,ay,aA,aB,aE] (0,0) _ ?_ db Tryz.underlying95 rfl ak) rfl ?_
 ·rfl
 rw[c6.out];exact⟨dc,_,rfl,⟨bD,rfl,by rw[b7.out];rfl,c⟩,dd⟩
theorem jk {w:af} {a:Nat} {d:bb} {b:aO} (e:Hid (J w a d b)) (b:aO):∃c,w.setRow a b=c/\Hid (J c a d b)/\Hid (w.grownBy c (some a)):=⟨_,rfl,kM e.out b,jZ w a b⟩
theorem cT.len (t:cT):t.cells.length=12:=rfl
structure eZ (w:af) (S:Nat->Prop) (r:cG):Prop where
 lc:dQ w r.hc r.cD
 ic:aS S r.hc
 lf:aF w 4 r.hf Fx.cells r.fixed
 iF:aS S r.hf
 lb:dQ w r.hb r.tables
 ib:aS S r.hb
 ls:aF w 12 r.hs cT.cells r.tests
 rh:aS S r.hs
theorem eZ.mono {w:af} {S S':Nat->Prop} {r:cG} (a:eZ w S r) (b:∀c,S c->S' c):eZ w S' r:=
 ⟨a.lc,a.ic.mono b,a.lf,a.iF.mono b,a.lb,a.ib.mono b,a.ls,a.rh.mono b⟩
theorem eZ.keep {w d:af} {S:Nat->Prop} {e:cG} (b:eZ w S e) {l:List Nat} (k:Kp l w d) (c:∀a∈l,¬S a):eZ d S e:=
 ⟨b.lc.kp k (λa d e f=>c a f (b.ic a d e)),b.ic,b.lf.kp k (λa d e f=>c a f (b.iF a d e)),b.iF,b.lb.kp k (λa d e f=>c a f (b.ib a d e)),b.ib,b.ls.kp k (λa d e f=>c a f (b.rh a d e)),b.rh⟩
def iu (e b:af) (g k:Nat) (i:aX) (a j:Nat) (l:List cG) (m:Ru) (n:Value->Array Value):Prop:=
 ∃(f:cG) (c:aX) (d:Nat),f.ru=m/\J b g 157 (n (U c (a+1) d))/\b.ownsRow k 64 10 (U c (a+1) d) (a+1) ((l++[f]).flatMap cG.cells)/\
  Kp (g::(Value.slice i a j).ownBlock.toList) e b/\((Value.slice c (a+1) d).ownBlock=(Value.slice i a j).ownBlock\/∃g,(Value.slice c (a+1) d).ownBlock=some g/\e.heap.size<=g)/\
  eZ b (λg=>Bw e.heap.size b.heap.size g/\some g≠(Value.slice c (a+1) d).ownBlock) f
theorem jm {v:ay} {a:Nat} (h:a∈v.ownBlock.toList):v.ownBlock=some a:=by
 cases hv:v.ownBlock with
 |none=>rw[hv]at h;simp at h
 |some b=>rw[hv]at h;simp at h;rw[h]
theorem iu.pK {a e m:af} {i c:Nat} {j:aX} {f k:Nat} {n:List cG} {g:cG} {s:bg} {o:Value->Array Value} (q:Kp [] a e) (t:a.ownsRow c 64 10 (U j f k) f s) (s:i<c) (s:c<=a.heap.size)
 (u:eZ e (Bw a.heap.size e.heap.size) g) (p:fo e m i c 64 10 cG.cells j f k n g o):iu a m i c j f k n g.ru o:=by
 obtain⟨v,w,b,x,l,r⟩:=p;have hr:=b3 t;refine⟨g,v,w,rfl,b,x,(q.mono (λ_ h=>by cases h)).trans l,r.imp id (λ⟨a,h1,c⟩=>⟨a,h1,bR q.size c⟩),(u.keep l ?_).mono ?_⟩
 ·exact tT
 intro b hS;have h1:=hS.1;have a:=hS.2;have a:=l.size;refine⟨⟨h1,by omega⟩,λd=>?_⟩;rcases r with h|⟨y,h,z⟩
 ·rw[h]at d
  have:=(hr b d.symm).2;omega
 rw[h]at d;injection d with d
 omega
def cG.flat (a:Int) (b:aw) (c d e f:Int):cG:=⟨a,b,c,aJ,[],d,aJ,[],e,f,aJ,[],aJ,[]⟩
theorem eZ.flat (a:af) (b:Nat->Prop) (c:Int) (d:aw) (e f g i:Int):eZ a b (cG.flat c d e f g i):=
 ⟨aF.none_ a 1 _,aS.none_ _ _ _,aF.none_ a 4 _,aS.none_ _ _ _,aF.none_ a 1 _,aS.none_ _ _ _,aF.none_ a 12 _,aS.none_ _ _ _⟩
def rj (d:List Tb) (a:aI):RO Ru:=
 (fC d a.at_ a.table a.attr).bind λb=>(fC d a.at_ a.other a.kA).bind λc=>RO.ap (decide (b.2.2=c.2.2)) 10 a.at_<|
  .ok {Ru.zero with kind:=3,name:=a.name,table:=b.1,col:=b.2.1,other:=c.1,lA:=c.2.1}
theorem BA (d k:Nat) (j:RI) (h:Hd) (f:List RT) (u1 u2 u3 u4 u6 u7:ay) (p:aX) (g q:Nat) (r:List cG) (c:af) (l:J c d 157 #[h.val,u1,u2,u3,u4,U p g q,u6,u7,j.at_]) (I:bI c h f) (w:c.ownsRow k 64 10 (U p g q) g (r.flatMap cG.cells)) (ag:r.length=g) (L:d<k) (ah:k<=c.heap.size) (ai:g<=1000):
 Calls Tryz.prog 120 #[aj d,.agg j.cells.toArray] c λe w'=>jh c (rj (f.map RT.tb) j.it) (λx w'=>iu c w' d k p g q r x (λx=>#[h.val,u1,u2,u3,u4,x,u6,u7,j.at_])) e w':=by
 obtain⟨ak,x⟩:=aq (rj (f.map RT.tb) j.it);rw[<-x];have M:=Z x;clear x;obtain⟨al,y,i,z,A,⟨am,an,ao⟩,bz,⟨ar,au,av⟩,bA,aw,ax,aA,⟨aB,aC,aD⟩,bB,B,C,⟨aE,aF,aG⟩,bC,⟨aI,aJ,aK⟩,bD,⟨aL,aM,s⟩,bE,⟨aN,aO,⟨aP,aQ,aR⟩,bF,⟨aS,aT,aU⟩,bG,⟨aV,aW,aZ⟩,bH,a0,a1,a2,a3⟩⟩:=j;have a4:=Z (show ak=(fC (f.map RT.tb) i z A).bind λb=>(fC (f.map RT.tb) i B C).bind λm=>RO.ap (decide (b.2.2=m.2.2)) 10 i<|.ok ({Ru.zero with kind:=3,name:=y,table:=b.1,col:=b.2.1,other:=m.1,lA:=m.2.1}:Ru)from M);clear M;have j:=l;clear l;have l:=j;clear j;have a5:=Z (Kp.refl [] c);have a6:=Z I;have a7:=Z l;have a8:=Z w;have a9:=Z w;show Calls Tryz.prog 120 #[aj d,.agg #[al,y,i,z,A,U am an ao,U ar au av,aw,ax,aA,U aB aC aD,B,C,U aE aF aG,U aI aJ aK,U aL aM s,aN,aO,U aP aQ aR,U aS aT aU,U aV aW aZ,a0,a1,a2,a3]] c _;clear l I w;go_enter Tryz.func120,Tryz.ntmps120
 go_upto_region 1 with(fail)
 obtain⟨ba,j,D,c,l⟩:=nb c 95 _;rw[j];clear j;have N:=qk a5 c;have O:=Z (a6.same c);have bb:=Z (aH c a8);have t:=qb c a7;clear c;have P:=az t;have Q:=bN t;have bf:=J.lt t;have bg:=bj D;have bh:=bn D;go_wp2_with fail
 refine dC a4 (pI d h f z A i ba bf P Q O) (eL N) ?_;intro a E bi bk bl m b;obtain⟨R,S,u⟩:=a;have F:E=.tuple #[R,S,u]:=m;subst F;have T:=Z (N.trans b);have bm:=Z (O.same (b.same));have bo:=Z (aH (b.same) bb);have v:=qo b t;have G:=qo b D;clear b;clear m bk P Q bg bh;go_upto_region 2 with(fail)
 have V:=az v;have W:=bN v;have bp:=J.lt v;have bq:=nk G;have br:=o8 G;go_wp2_with fail
 refine dC bl (pI d h f B C i bi bp V W bm) (eL T) ?_;intro a E bs bt X m b;obtain⟨Y,s,qk⟩:=a;have F:E=.tuple #[Y,s,qk]:=m;subst F;have H:=Z (T.trans b);have bu:=Z (aH (b.same) bo);have aa:=qo b v;have ab:=qo b G;clear b;clear m bt V W bq br;go_upto_region 3 with(fail)
 have ac:=bN aa;have b:=aY ab;have b:=J.lt ab;have n:=Z X.out;clear X;by_cases o:u=qk
 case neg=>
  have tk:(u==qk)=false:=by simp[o]
  rw[decide_eq_false o]at n;go_wp2_with fail
  exact bv H n ac
 rw[decide_eq_true o]at n;have tk:(u==qk)=true:=by simp[o]
 go_wp2_with fail
 refine bJ H n ac λbw=>?_;clear n tk o;have ad:=Z (pJ d k (cG.flat 3 y R S Y s) i h.val u1 u2 u3 u4 u6 u7 p g q r bs aa bu ag L ae ai);go_wp2_with fail
 refine ad.mono ?_;rintro e b ⟨rfl,bx⟩;clear ad;go_wp2;first|go_end0|refine bodyPost_ret (results_none rfl _ _ _) rfl ?_
 rw[bw.out];exact⟨rfl,iu.pK H a9 L ah (eZ.flat _ _ _ _ _ _ _ _) bx⟩
def iw (b:List Tb) (a:aI):RO (Int×List Int):=
 (dS b a.at_ a.table).bind λc=>RO.ap (decide (0<a.names.length)) 1 a.at_<|(dv a.at_ (dw b c).attrs [] a.names).bind λa=>.ok (c,a)
theorem ur (a:List Tb) (x:aI) (kind:Int):jJ a x kind=(iw a x).bind λp=>.ok {Ru.zero with kind:=kind,name:=x.name,table:=p.1,cD:=p.2}:=by
 unfold jJ iw;cases dS a x.at_ x.table with
 |bad b c=>rfl
 |ok b=>
  unfold RO.bind RO.ap;dsimp only;split
  ·cases dv x.at_ (dw a b).attrs [] x.names<;>rfl
  rfl
theorem ut {b:List Tb} {a:aI} {p:Int×List Int} (h:iw b a=.ok p):∃c:Nat,p.1=c/\c<b.length:=by
 unfold iw at h;cases hf:dS b a.at_ a.table with
 |bad d e=>rw[hf]at h;cases h
 |ok d=>
  rw[hf]at h;unfold RO.bind RO.ap at h;dsimp only at h;split at h
  ·cases hc:dv a.at_ (dw b d).attrs [] a.names with
   |bad e f=>rw[hc]at h;cases h
   |ok e=>rw[hc]at h;injection h with h;subst h;exact mM hf
  cases h
def rk (c:Int) (d:aw) (e:Nat) (p:Int×List Int) (v:ay) (b:af):Prop:=
 ∃a:Hd,v=.agg #[c,d,p.1,a.val,O 0,aa,O 0,O 0,aa,aa]/\dQ b a p.2/\aS (Bw e b.heap.size) a
theorem uu (k:Nat) (g:RI) (h:Hd) (f:List RT) (q:Int) (u1 u2 u3 u4 u5 u6 u7:ay) (d:af) (r:J d k 157 #[h.val,u1,u2,u3,u4,u5,u6,u7,g.at_]) (M:bI d h f) (N:b4 d g.il g.names) (aG:g.names.length<=5001):
 Calls Tryz.prog 195 #[aj k,.agg g.cells.toArray,q] d λl w'=>RP [] d (iw (f.map RT.tb) g.it) (rk q g.name d.heap.size) l w':=by
 obtain⟨w,P⟩:=aq (iw (f.map RT.tb) g.it);rw[<-P];have aH:=Z P;clear P;obtain⟨ba,x,e,Q,bb,⟨bf,bg,bi⟩,cw,⟨y,s,z⟩,m,bk,bm,bo,⟨bp,A,bq⟩,cx,br,bs,⟨bt,bu,bv⟩,cy,⟨bw,bx,bz⟩,cz,⟨bA,bB,bC⟩,cA,⟨bD,bE,⟨bF,bG,bH⟩,cB,⟨bJ,bK,bL⟩,cC,⟨bM,bO,bP⟩,cD,bR,bS,bT,bU⟩⟩:=g;have aI:=Z (show w=(dS (f.map RT.tb) e Q).bind λb=>RO.ap (decide (0<m.length)) 1 e<|(dv e (dw (f.map RT.tb) b).attrs [] m).bind λc=>.ok (b,c)from aH);clear aH;obtain⟨aJ,o,R⟩:=h;have g:=r;clear r;have r:J d k 157 #[U aJ o R,u1,u2,u3,u4,u5,u6,u7,e]:=g;clear g;have bW:=Z N;have bX:=aG;have bY:=N.1.1;have g:=M.1.1;clear N aG;have bZ:=Z (Kp.refl [] d);have b0:=Z M;have b1:=Z r;show Calls Tryz.prog 195 #[aj k,.agg #[ba,x,e,Q,bb,U bf bg bi,U y s z,bk,bm,bo,U bp A bq,br,bs,U bt bu bv,U bw bx bz,U bA bB bC,bD,bE,U bF bG bH,U bJ bK bL,U bM bO bP,bR,bS,bT,bU],q] d _;clear r M;go_enter Tryz.func195,Tryz.ntmps195
 go_upto_region 1 with(fail)
 obtain⟨P,r,M,g,N⟩:=nb d 95 _;rw[r];clear r;have P:=qk bZ g;have aG:=Z (b0.same g);have aH:=qb g b1;have ba:=Z (bW.same g);clear g;obtain⟨b3,r,b5,g,N⟩:=nc N 64 _;rw[r];clear r;have aL:=qk P g;have aM:=Z (aG.same g);have B:=qb g aH;have aN:=qb g M;have b6:=Z (ba.same g);clear g;have aO:=az B;have aP:=bN B;have b8:=J.lt B;have b9:=bj aN;go_wp2_with fail
 refine dC aI (nU k ⟨aJ,o,R⟩ f Q e b3 b8 aO aP aM) (eL aL) ?_;intro a S n aQ aR C c;obtain⟨b,rfl,aS⟩:=mM aQ;have D:S=.int .i64 (b:Int):=C;subst D;have T:b<f.length:=by simpa using aS
 have E:=Z (aL.trans c);have aU:=Z (aM.same (c.same));have t:=qo c B;have F:=qo c aN;have aV:=qo c b5;have ca:=Z (b6.same c.same);clear c;clear C aQ aS aO aP b9;go_upto_region 2 with(fail)
 have aW:=bN t;have V:=J.lt t;have W:=cd F;have g:=Z (show w=RO.ap (decide (0<m.length)) 1 e ((dv e f[b].tb.attrs [] m).bind λg=>.ok ((b:Int),g)) by rw[aR.out,lR f b T]);clear aR aI;have aX:=Z (show w=RO.ap (decide (0<s)) 1 e ((dv e f[b].tb.attrs [] m).bind λi=>.ok ((b:Int),i)) by rw[g.out,bY]);clear g;go_wp2_with fail
 refine fk E aX aW ?ah ?au
 case ah=>
  intro HX _;go_wp2;refine⟨rfl,?_⟩;rw[HX.out];exact⟨E,rfl⟩
 intro u _;clear aX W;obtain⟨i,p,cb,X,Y,ad,al⟩:=lQ aU b T;have an:=Z (λ(j:af) (g:ag n j)=>ua k f[b] ⟨y,s,z⟩ m e j (aT V g.size) ((g.cell V).trans aW) ((aU.2 _ (List.getElem_mem T)).same g) (ca.same g) bX);obtain⟨tq,aZ⟩:=aq (f[b]);rw[<-aZ]at Y ad al an u;obtain⟨A,⟨ao,ar,aw⟩,a0,⟨ax,aB,aC⟩,cE⟩:=tq;have a1:=Y;have a2:ac n (ab i (p+b*3+1)) (U ao ar aw):=ad;have a3:ac n (ab i (p+b*3+2)) (U ax aB aC):=al;have cc:Hid (∀f,ag n f->Calls Tryz.prog 113 #[aj k,.agg #[A,U ao ar aw,U ax aB aC],U y s z] f λl w'=>RP [] f (dv e (a0.map RA.at_) [] m) (dM f.heap.size 1 cj (λ_=>True)) l w'):=an;have e:Hid (w=(dv e (a0.map RA.at_) [] m).bind λe=>.ok ((b:Int),e)):=u;clear Y ad al an u aZ;have u:=e;clear e;subst cb;have e:(b:Int)<o:=ae
 have e:(0:Int)<=b:=ae
 have ce:=az t;have V:=J.lt t;have cf:=aY F;have W:=cd F;go_upto_region 3 with(fail)
 refine tr 18 ce cf W a1 a2 a3 λhS=>?_;refine dg ?_;refine eh ?_;refine tk 11 hS ?_;refine tk 12 hS ?_;refine tk 13 hS ?_;refine tk 14 hS ?_;refine tk 15 hS ?_;refine aK 16 (λK aD=>?_);go_simp;refine dC u (cc n.drew ((ag.refl n).drew)) (eL (E.drew)) ?_;intro a S a4 e cg C c;have c:=Z (((Kp.refl [] n).drew).trans c);obtain⟨⟨G,H,I⟩,D,L⟩:=C;have ch:S=.slice G H I:=D;clear D;subst ch;have a5:=(c.cell X ai).trans a1;have a6:=(c.cell X ai).trans a2;have a7:=(c.cell X ai).trans a3;have ci:=Z (E.trans c);have ck:=qo c t;have a8:=qo c F;have a9:=qo c aV;clear c;try go_simp
 have c:=az ck;have e:=aY a8;have f:=cd a8;refine aD _ _ (λ_=>⟨c,e,f,a5,a6,a7⟩) ?_;refine av ?_;have c:(λw':World=>ac w' (ab k 0) (U (some ⟨i,p,none⟩) o R)/\ac w' (am d 1) x/\ac w' (am d 6) (U y s z)/\ac w' (ab i (p+b*3)) A/\ac w' (ab i (p+b*3+1)) (U ao ar aw)/\ac w' (ab i (p+b*3+2)) (U ax aB aC)) a4:=⟨c,e,f,a5,a6,a7⟩;refine tk 17 c ?_;refine b2 ?_;refine dp 18 (λK aD=>?_);refine Eq.mpr (if_pos rfl) ?_;refine wp_store_row 64 (.tmp 6) (.tmp 35) rfl ((d.heap.size+1)) _ rfl rfl 64 _ a9 ak rfl bl (aD _ _ ?_);refine av ?_;refine bV ?_;obtain⟨e,c,j,aE⟩:=jk a9 #[q,x,(b:Int),U G H I,O 0,aa,O 0,O 0,aa,aa];rw[c];clear c;have cl:=Z (ci.grown aE (λc aF=>.inr (by injection aF with aF;omega)));have aF:=Z ((Kp.refl [(d.heap.size+1)] a4).grown aE (λc aF=>.inl (by injection aF with aF;simp[aF])));clear aE;have cm:=az j;have cn:=aY j;have co:=bh j;have cp:=bj j;have cq:=bn j;have cr:=bQ j;have cs:=cd j;have ct:=b7 j;have cu:=bN j;have cv:=iT j;go_wp2_with fail
 refine bodyPost_ret (v:=.agg #[q,x,(b:Int),U G H I,O 0,aa,O 0,O 0,aa,aa]) ?_ rfl ?_
 ·simp[results,Tryz.results195,go_sem,cm,cn,co,cp,cq,cr,cs,ct,cu,cv]
 rw[cg.out];have b:=J.lt aV;have b:=aF.size;exact⟨cl,_,rfl,⟨G,H,I⟩,rfl,L.1.kp aF (λi b l o=>by have b:=(L.2.2.1 i b l).1;rw[d5]at b;have:=aA o;omega),λi b l=>⟨by have c:=(L.2.2.1 i b l).1;rw[d5]at c;omega,by have c:=(L.2.2.1 i b l).2;omega⟩⟩
theorem eZ.cD {w:af} {S:Nat->Prop} {a:Hd} {l:List Int} (b:Int) (c:aw) (d e:Int) (f:dQ w a l) (g:aS S a):eZ w S ⟨b,c,d,a,l,e,aJ,[],0,0,aJ,[],aJ,[]⟩:=
 ⟨f,g,aF.none_ w 4 _,aS.none_ _ _ _,aF.none_ w 1 _,aS.none_ _ _ _,aF.none_ w 12 _,aS.none_ _ _ _⟩
theorem BB (d m:Nat) (c:RI) (h:Hd) (f:List RT) (u1 u2 u3 u4 u6 u7:ay) (k:aX) (e l:Nat) (p:List cG) (b:af) (g:J b d 157 #[h.val,u1,u2,u3,u4,U k e l,u6,u7,c.at_]) (q:bI b h f) (r:b4 b c.il c.names) (y:c.names.length<=5001) (z:b.ownsRow m 64 10 (U k e l) e (p.flatMap cG.cells)) (aU:p.length=e) (aG:d<m) (aV:m<=b.heap.size) (aY:e<=1000):
 Calls Tryz.prog 118 #[aj d,.agg c.cells.toArray] b λs n=>jh b (jJ (f.map RT.tb) c.it 1) (λt n=>iu b n d m k e l p t (λt=>#[h.val,u1,u2,u3,u4,t,u6,u7,c.at_])) s n:=by
 have A:=Z (λ(i:af) (g:J i d 157 _) (q:bI i h f) (r:b4 i c.il c.names)=>uu d c h f 1 u1 u2 u3 u4 (U k e l) u6 u7 i g q r y);obtain⟨bi,t⟩:=aq (jJ (f.map RT.tb) c.it 1);rw[<-t];rw[ur]at t;have aI:=Z t;clear t;obtain⟨aK,t⟩:=aq (iw (f.map RT.tb) c.it);have aZ:=Z (λ(i:Int×List Int) (h:aK=.ok i)=>ut (show iw (f.map RT.tb) c.it=.ok i by rw[<-t];exact h));rw[<-t]at A aI;clear t;have u:=Z r;have t:=y;clear r y;obtain⟨B,i,o,C,D,⟨E,F,G⟩,bj,⟨v,w,x⟩,a0,H,I,L,⟨M,N,P⟩,bk,Q,R,⟨S,T,V⟩,bl,⟨W,X,Y⟩,bm,⟨ab,ac,ad⟩,bn,⟨ag,ah,⟨ai,al,am⟩,bo,⟨an,ao,ap⟩,bp,⟨ar,au,av⟩,bq,aw,ax,az,aA⟩⟩:=c;have c:=g;clear g;have g:=c;clear c;have a1:Hid (∀(c:af),J c d 157 #[h.val,u1,u2,u3,u4,U k e l,u6,u7,o]->bI c h f->b4 c ⟨v,w,x⟩ a0->Calls Tryz.prog 195 #[aj d,.agg #[B,i,o,C,D,U E F G,U v w x,H,I,L,U M N P,Q,R,U S T V,U W X Y,U ab ac ad,ag,ah,U ai al am,U an ao ap,U ar au av,aw,ax,az,aA],O 1] c λs n=>RP [] c aK (rk 1 i c.heap.size) s n):=A;clear A;have c:=u;clear u;have u:=c;clear c;have c:=g.lt;have f:b.heap.size<=b.heap.size:=Nat.le_refl _;have a2:=Z (Kp.refl [] b);have a3:=Z q;have a4:=Z g;have a5:=Z z;have a6:=Z z;have c:=aW c;show Calls Tryz.prog 118 #[aj d,.agg #[B,i,o,C,D,U E F G,U v w x,H,I,L,U M N P,Q,R,U S T V,U W X Y,U ab ac ad,ag,ah,U ai al am,U an ao ap,U ar au av,aw,ax,az,aA]] b _;clear g q z;go_enter Tryz.func118,Tryz.ntmps118
 go_upto_region 1 with(fail)
 obtain⟨a7,f,aL,c,g⟩:=nb b 95 _;rw[f];clear f;have aB:=qk a2 c;have aM:=Z (a3.same c);have a8:=Z (aH c a5);have aN:=qb c a4;have aO:=Z (u.same c);have f:=aB.size;clear c;go_wp2_with (first|(refine ir rfl 95 (.tmp 3) rfl b.heap.size #[B,i,o,C,D,U E F G,U v w x,H,I,L,U M N P,Q,R,U S T V,U W X Y,U ab ac ad,ag,ah,U ai al am,U an ao ap,U ar au av,aw,ax,az,aA] rfl 95 aL.out _ Tryz.underlying95 rfl ak ?_)|fail)
 refine dC aI (a1 a7 aN aM aO) (eL aB) ?_;intro a a9 aP ba bb bc j;obtain⟨aC,bd⟩:=a;obtain⟨⟨aD,aE,aF⟩,aQ,be,aR⟩:=bc;have bf:a9=.agg #[O 1,i,aC,U aD aE aF,O 0,aa,O 0,O 0,aa,aa]:=aQ;clear aQ;subst bf;have aS:=Z (aB.trans j);have c:=Z (aM.same (j.same));have c:=Z (aH (j.same) a8);have f:=qo j aN;have g:=qo j aL;have g:=Z (aO.same j.same);have g:=aS.size;clear j;have bg:=Z (aR.low (lo':=b.heap.size) ae);clear aR ba aZ;have b:=Z (pJ d m ⟨1,i,aC,⟨aD,aE,aF⟩,bd,0,aJ,[],0,0,aJ,[],aJ,[]⟩ o h.val u1 u2 u3 u4 u6 u7 k e l p aP f c aU aG ae aY);have aT:Hid (Calls Tryz.prog 194 #[aj d,.agg #[O 1,i,aC,U aD aE aF,O 0,aa,O 0,O 0,aa,aa]] aP _):=b;clear b;go_wp2_with fail
 refine aT.mono ?_;rintro s b ⟨rfl,bh⟩;clear aT;go_wp2;first|go_end0|refine bodyPost_ret (results_none rfl _ _ _) rfl ?_
 rw[bb.out];exact⟨rfl,iu.pK aS a6 aG aV (eZ.cD _ _ _ _ be bg) bh⟩
theorem uv {k:Program} {f:Oper} {c:Act} {m:Exit->Act->World->Prop} {l:Act->World->Prop} (g:bb) (i j:Operand) (n:f.op=.store g i j) (b:af) (a d:aO) (e:bb)
 (o:c.eval i=.pointer (some ⟨b.heap.size,0,none⟩)) (p:c.eval j=.agg a) (q:(k.info? g).map (·.size)=some a.size) (r:d.size=a.size) (s:a.all (·.oneCell')=true)
 (t:l (c.put f.dst undef) (b.alloc (.cells a e))):f.wp k c (b.alloc (.cells d e)) l m:=by
 refine wp_store_row g i j n b.heap.size a o p e d (J.new b e d) q r s ?_;rw[World.setRow_alloc_new];exact t
theorem RO.bind_assoc {b c d:Type} (a:RO b) (f:b->RO c) (g:c->RO d):(a.bind f).bind g=a.bind λb=>(f b).bind g:=by cases a<;>rfl
theorem RO.gK {b g:Type} (a:Bool) (c d:Int) (e:RO b) (f:b->RO g):(RO.ap a c d e).bind f=RO.ap a c d (e.bind f):=by cases a<;>rfl
def n7 (c:List Tb) (a:aI):RO Ru:=
 (jJ c a 2).bind λb=>(cO a.at_ (dw c b.table).attrs a.attr).bind λd=>RO.ap (!b.cD.any λe=>decide (e=d)) 1 a.at_<|
  (fg (dw c b.table).attrs a.at_ [] a.fixed).bind λa=>.ok {b with col:=d,fixed:=a}
theorem BC (a:List Tb) (x:aI):n7 a x=(iw a x).bind λp=>(cO x.at_ (dw a p.1).attrs x.attr).bind λc=>RO.ap (!p.2.any λb=>decide (b=c)) 1 x.at_<|
 (fg (dw a p.1).attrs x.at_ [] x.fixed).bind λl=>.ok {Ru.zero with kind:=2,name:=x.name,table:=p.1,cD:=p.2,col:=c,fixed:=l}:=by
 unfold n7;rw[ur,RO.bind_assoc];rfl
theorem BD {g:Type} (c:List At) (a:Int) (l:List Fx) (b:du) (f:List du) (d:List Fx->RO g):(fg c a l (b::f)).bind d=
 (cO a c b.name).bind λe=>RO.ap (!l.any λg=>decide (g.col=e)) 9 a<|RO.ap b.v.ok 2 a<|RO.ap (decide (b.v.k=(cE c e).kind)) 10 a<|(fg c a (l++[⟨e,b.v⟩]) f).bind d:=by
 show((cO a c b.name).bind _).bind d=_;rw[RO.bind_assoc];simp only[RO.gK]
theorem Tryz.BE:(Tryz.prog.info? 68).map (λa=>(a.zero,a.size,a.bytes))=some (some (.agg #[O 0,O 0,O 0,ah]),4,40):=ak
theorem Fx.len (f:Fx):f.cells.length=4:=rfl
theorem BF (u a9:Nat) (s:RI) (h:Hd) (w:List RT) (aG aI aL aM aN aO:ay) (ax:aX) (F j:Nat) (cf:List cG) (f:af) (aB:J f u 157 #[h.val,aG,aI,aL,aM,U ax F j,aN,aO,s.at_]) (bb:bI f h w) (cg:b4 f s.il s.names) (cy:s.names.length<=5001) (dd:aF f 4 s.n5 du.cells s.fixed) (de:s.fixed.length<=5001) (cA:f.ownsRow a9 64 10 (U ax F j) F (cf.flatMap cG.cells)) (eq:cf.length=F) (df:u<a9) (aD:a9<=f.heap.size) (es:F<=1000):
 Calls Tryz.prog 119 #[aj u,.agg s.cells.toArray] f λe w'=>jh f (n7 (w.map RT.tb) s.it) (λdh w'=>iu f w' u a9 ax F j cf dh (λci=>#[h.val,aG,aI,aL,aM,ci,aN,aO,s.at_])) e w':=by
 obtain⟨et,eu,ev,ew,ex⟩:=info_parts Tryz.BE;have ch:=Z (λ(b:af) (aB:J b u 157 #[h.val,aG,aI,aL,aM,U ax F j,aN,aO,s.at_]) (bb:bI b h w) (cg:b4 b s.il s.names)=>uu u s h w 2 aG aI aL aM (U ax F j) aN aO b aB bb cg cy);obtain⟨G,ci⟩:=aq (n7 (w.map RT.tb) s.it);rw[<-ci];rw[BC]at ci;have cj:=Z ci;clear ci;obtain⟨cB,ci⟩:=aq (iw (w.map RT.tb) s.it);have ey:=Z (λ(b:Int×List Int) (h:cB=.ok b)=>ut (show iw (w.map RT.tb) s.it=.ok b by rw[<-ci];exact h));rw[<-ci]at ch cj;clear ci;obtain⟨ck,aQ,bf⟩:=h;have ci:w.length=aQ:=bb.1.1;have cH:=Z cg;have ci:=cy;have bg:=Z dd;have di:=de;clear cg cy dd de;obtain⟨bk,q,d,bm,W,⟨bp,bq,br⟩,f8,⟨aR,aU,aV⟩,dj,bs,bt,bu,⟨bw,bx,bz⟩,f9,bA,bB,⟨aW,cI,a3⟩,m,⟨bD,bE,bF⟩,ga,⟨bH,bK,bL⟩,gb,⟨bM,bO,⟨bP,bR,bS⟩,gc,⟨bT,bU,bW⟩,gd,⟨bX,bY,bZ⟩,ge,b0,b5,b6,b7⟩⟩:=s;have s:=aB;clear aB;have aB:J f u 157 #[U ck aQ bf,aG,aI,aL,aM,U ax F j,aN,aO,d]:=s;clear s;have cJ:Hid (∀(b:af),J b u 157 #[U ck aQ bf,aG,aI,aL,aM,U ax F j,aN,aO,d]->bI b ⟨ck,aQ,bf⟩ w->b4 b ⟨aR,aU,aV⟩ dj->Calls Tryz.prog 195 #[aj u,.agg #[bk,q,d,bm,W,U bp bq br,U aR aU aV,bs,bt,bu,U bw bx bz,bA,bB,U aW cI a3,U bD bE bF,U bH bK bL,bM,bO,U bP bR bS,U bT bU bW,U bX bY bZ,b0,b5,b6,b7],O 2] b λe w'=>RP [] b cB (rk 2 q b.heap.size) e w'):=ch;have s:Hid (b4 f ⟨aR,aU,aV⟩ dj):=cH;have cH:=s;have s:Hid (aF f 4 ⟨aW,cI,a3⟩ du.cells m):=bg;have bg:=s;have s:m.length<=5001:=di;clear di;have ez:m.length=cI:=bg.1;subst ez;have eA:Hid (G=cB.bind λb=>(cO d (dw (w.map RT.tb) b.1).attrs W).bind λj=>RO.ap (!b.2.any λc=>decide (c=j)) 1 d<|(fg (dw (w.map RT.tb) b.1).attrs d [] m).bind λc=>.ok {Ru.zero with kind:=2,name:=q,table:=b.1,cD:=b.2,col:=j,fixed:=c}):=cj;have cj:=eA;show Calls Tryz.prog 119 #[aj u,.agg #[bk,q,d,bm,W,U bp bq br,U aR aU aV,bs,bt,bu,U bw bx bz,bA,bB,U aW m.length a3,U bD bE bF,U bH bK bL,bM,bO,U bP bR bS,U bT bU bW,U bX bY bZ,b0,b5,b6,b7]] f _;have ch:=cJ;have cJ:=ch;have dk:=aB.lt;have eB:=Z (Kp.refl [] f);have dl:=Z bb;have cK:=Z aB;have dm:=Z cA;have eC:=Z cA;show Calls Tryz.prog 119 #[aj u,.agg #[bk,q,d,bm,W,U bp bq br,U aR aU aV,bs,bt,bu,U bw bx bz,bA,bB,U aW m.length a3,U bD bE bF,U bH bK bL,bM,bO,U bP bR bS,U bT bU bW,U bX bY bZ,b0,b5,b6,b7]] f _;clear aB bb cA;go_enter Tryz.func119,Tryz.ntmps119
 go_upto_region 1 with(fail)
 obtain⟨dn,s,dq,b,aB⟩:=nb f 95 _;rw[s];clear s;have cL:=qk eB b;have dr:=Z (dl.same b);have eD:=Z (aH b dm);have ds:=qb b cK;have eE:=Z (cH.same b);have eF:=Z (bg.same b);have s:=cL.size;go_wp2_with (first|(refine ir rfl 95 (.tmp 3) rfl f.heap.size #[bk,q,d,bm,W,U bp bq br,U aR aU aV,bs,bt,bu,U bw bx bz,bA,bB,U aW m.length a3,U bD bE bF,U bH bK bL,bM,bO,U bP bR bS,U bT bU bW,U bX bY bZ,b0,b5,b6,b7] rfl 95 dq.out _ Tryz.underlying95 rfl ak ?_)|fail)
 refine dC cj (cJ dn ds dr eE) (eL cL) ?_;intro a b8 r dt dv aZ i;obtain⟨eG,C⟩:=a;obtain⟨g,s,dx⟩:=ey _ dt;have eH:eG=(g:Int):=s;clear s;subst eH;have cM:g<w.length:=by simpa using dx
 obtain⟨⟨P,Q,R⟩,a4,dy,dz⟩:=aZ;have eI:b8=.agg #[O 2,q,(g:Int),U P Q R,O 0,aa,O 0,O 0,aa,aa]:=a4;clear a4;subst eI;have dA:=Z (cL.trans i);have eJ:=Z (dr.same (i.same));have dB:=Z (aH (i.same) eD);have eK:=qo i ds;have dD:=qo i dq;have eM:=Z (eF.same i.same);have s:=dA.size;clear i;have eN:=Z (dz.low (lo':=f.heap.size) ae);have s:dn.heap.size<=r.heap.size:=by have:=dD.out.lt;omega
 clear dz dt dx;go_upto_region 2 with(first|(refine wpList_store_row rfl 64 (.tmp 4) (.tmp 11) rfl r.heap.size #[O 2,q,(g:Int),U P Q R,O 0,aa,O 0,O 0,aa,aa] rfl rfl 64 #[O 0,ah,O 0,aa,O 0,aa,O 0,O 0,aa,aa] (J.new r 64 #[O 0,ah,O 0,aa,O 0,aa,O 0,O 0,aa,aa]) ak rfl bl ?_;rw[World.setRow_alloc_new])|fail)
 have aB:=Z (Kp.refl [] r);obtain⟨x,s,cl,b,-⟩:=nb r 64 #[O 2,q,(g:Int),U P Q R,O 0,aa,O 0,O 0,aa,aa];rw[s];clear s;have cN:=qk dA b;have s:=Z (eJ.same b);have cP:=qb b eK;have eO:=qb b dD;have eP:=Z (eM.same b);have eQ:=qk aB b;have aB:=cN.size;have aB:=J.lt cl;obtain⟨B,X,dE,eR,cQ,cR,cS⟩:=lQ s g cM;have b9:ck=some ⟨B,X,none⟩:=dE;have dF:=Z (show G=(cO d w[g].tb.attrs W).bind λj=>RO.ap (!C.any λc=>decide (c=j)) 1 d<|(fg w[g].tb.attrs d [] m).bind λc=>.ok ({Ru.zero with kind:=2,name:=q,table:=g,cD:=C,col:=j,fixed:=c}:Ru) by rw[dv.out,lR w g cM]);clear dv;have cT:=Z (dl.2 _ (List.getElem_mem cM));have dG:=Z (λ(a:aw) (n:af) (c:ag f n)=>nV u w[g] a d n (aT dk c.size) ((c.cell (p:=(ab u 8)) dk).trans (J.cell cK 8)) (cT.same c));obtain⟨eS,dH⟩:=aq (w[g]);rw[<-dH]at cQ cR cS dG dF cT;obtain⟨Y,⟨H,D,S⟩,I,⟨ad,al,an⟩,gf⟩:=eS;have dI:ac x (ab B (X+g*3)) Y:=cQ;have dJ:ac x (ab B (X+g*3+1)) (U H D S):=cR;have dK:ac x (ab B (X+g*3+2)) (U ad al an):=cS;have cU:Hid (∀(a:aw) (c:af),ag f c->Calls Tryz.prog 187 #[aj u,.agg #[Y,U H D S,U ad al an],a] c λe w'=>RP [] c (cO d (I.map RA.at_) a) g7 e w'):=dG;have dL:Hid (fu f ⟨H,D,S⟩ I):=cT.1;have eT:Hid (G=(cO d (I.map RA.at_) W).bind λj=>RO.ap (!C.any λc=>decide (c=j)) 1 d<|(fg (I.map RA.at_) d [] m).bind λc=>.ok ({Ru.zero with kind:=2,name:=q,table:=g,cD:=C,col:=j,fixed:=c}:Ru)):=dF;clear cQ cR cS dH dE;have s:=eR;have s:(g:Int)<aQ:=ae
 have s:(0:Int)<=g:=ae
 subst b9;have eU:=Z (dL.same cN.same);have s:=az cP;have w:=J.lt cP;have w:=bh cl;have aB:=J.lt cl;refine qU 11 s w dI dJ dK λhS=>?_;refine dg ?_;refine tk 9 hS ?_;have dM:(λw':World=>ac w' (ab u 0) (U (some ⟨B,X,none⟩) aQ bf)/\ac w' (am r 2) g/\ac w' (ab B (X+g*3)) Y/\ac w' (ab B (X+g*3+1)) (U H D S)/\ac w' (ab B (X+g*3+2)) (U ad al an)) (x.drew.alloc (.cells #[ah,aa,aa] 81)):=⟨bi s,bi w,bi dI,bi dJ,bi dK⟩;refine aK 10 (λK a5=>?_);go_simp;refine a5 _ _ (λ_=>dM) ?_;refine av ?_;refine b2 ?_;refine dp 11 (λK a5=>?_);refine Eq.mpr (if_pos rfl) ?_;refine uv 81 (.tmp 5) (.tmp 21) rfl x.drew _ _ 81 rfl rfl ak rfl bl (a5 _ _ ?_);refine av ?_;refine bV ?_;have ao:=Z (show J (x.drew.alloc (.cells #[Y,U H D S,U ad al an] 81)) x.heap.size 81 #[Y,U H D S,U ad al an]from J.new x.drew 81 #[Y,U H D S,U ad al an]);have b:=Z (show ag x (x.drew.alloc (.cells #[Y,U H D S,U ad al an] 81))from((ag.refl x).drew).alloc _);obtain⟨eV,s⟩:=aq (x.drew.alloc (.cells #[Y,U H D S,U ad al an] 81));rw[<-s]at ao b⊢;clear s;have cV:=qk cN b;have eW:=qb b cP;have dN:=qb b eO;have eX:=qb b cl;have e0:=Z (eP.same b);have e1:=Z (eU.same b);have e2:=qk eQ b;have cm:=ao;clear hS dM;go_upto_region 3 with(fail)
 have s:=bn dN;have s:=az cm;have s:=aY cm;have s:=bh cm;go_upto_region 3 with(fail)
 go_wp2_with fail
 refine dC eT (cU W eV cV.same) (eL cV) ?_;intro a b8 dO e3 a0 aZ i;have a4:b8=.int .i64 a:=aZ;subst a4;have e4:=Z (cV.trans i);have e5:=qo i eW;have e6:=qo i dN;have cW:=qo i eX;have e7:=qo i cm;have s:=Z (e0.same i.same);have s:=Z (e1.same i.same);have e8:=Z (e2.trans i);clear i;obtain⟨y,e9⟩:∃y:Int,y=a:=⟨a,rfl⟩;subst e9;clear aZ e3;have s:=λc=>J.frozen cW c;have s:=bn cW;go_upto_region 4 with(fail)
 have ao:=Z (lu cW y);have s:=Z (Kp.aE (p:=(am r 4)) (l:=[r.heap.size]) ai (Kp.refl [r.heap.size] dO) y);obtain⟨w,aB⟩:=aq (dO.setCell (am r 4) y);rw[<-aB]at ao s⊢;clear aB;have dP:=Z (s.old e8 (λB aD n=>absurd n (by rw[aA aD];omega)));have cX:=Z (s.old e4 (λB aD n=>absurd n (by rw[aA aD];omega)));have aB:=qo s e5;have dQ:=qo s e6;have dR:=qo s e7;have cn:=ao;have s:=bj cn;have s:=bn cn;have dS:=bN aB;have cY:Hid (Calls Tryz.prog 188 #[U P Q R,y] w λe w'=>e=.returned (.bool (C.any λn=>decide (n=y)))/\w=w'):=Z (o9 ⟨P,Q,R⟩ C y w (dy.same dP.same));have s:=Z (show G=RO.ap (!C.any λn=>decide (n=y)) 1 d ((fg (I.map RA.at_) d [] m).bind λn=>.ok ({Ru.zero with kind:=2,name:=q,table:=g,cD:=C,col:=y,fixed:=n}:Ru))from a0);clear a0;have a0:=s;generalize (C.any λn=>decide (n=y))=fa at cY a0;cases fa
 case true=>
  go_wp2_with (first|(go_at_call 188;refine cY.out.mono ?_;rintro e w' ⟨rfl,rfl⟩)|fail)
  exact bv cX a0 dS
 go_wp2_with (first|(go_at_call 188;refine cY.out.mono ?_;rintro e w' ⟨rfl,rfl⟩)|fail)
 refine bJ cX a0 dS λs=>?_;clear a0;have w:=nl dQ;obtain⟨ar,hF⟩:∃ar:List Fx->RO Ru,ar=λn=>.ok ({Ru.zero with kind:=2,name:=q,table:=g,cD:=C,col:=y,fixed:=n}:Ru):=⟨_,rfl⟩;have fb:=Z (λn=>congrFun hF n);have dT:=Z (show G=(fg (I.map RA.at_) d [] m).bind ar by rw[hF];exact s.out);clear hF s;obtain⟨T,s⟩:=aq (I.map RA.at_);have dU:=Z s;rw[<-s]at dT cU;clear s;go_wp2_with fail
 go_loopg [39] (m.length+1) (λt w wr=>∃(c:Nat) (n:List Fx) (o:aX) (s:Nat),w=.int .i64 c/\c<=m.length/\m.length-c<t/\n.length=c/\Hid (wr.ownsRow (x.heap.size+1) 68 4 (U o c s) c (n.flatMap Fx.cells))/\Hid (J wr r.heap.size 64 #[O 2,q,(g:Int),U P Q R,y,U o c s,O 0,O 0,aa,aa])/\Hid (J wr x.heap.size 81 #[Y,U H D S,U ad al an])/\Hid (J wr f.heap.size 95 #[bk,q,d,bm,W,U bp bq br,U aR aU aV,bs,bt,bu,U bw bx bz,bA,bB,U aW m.length a3,U bD bE bF,U bH bK bL,bM,bO,U bP bR bS,U bT bU bW,U bX bY bZ,b0,b5,b6,b7])/\Hid (Kp [] f wr)/\Hid (Kp [] r wr)/\x.heap.size<wr.heap.size/\Hid (G=(fg T d n (m.drop c)).bind ar))
 case atStart=>exact⟨0,[],none,0,rfl,by omega,by omega,rfl,Z ⟨rfl,.inl ⟨rfl,rfl⟩⟩,cn,dR,dQ,cX,dP,J.lt dR.out,dT⟩
 obtain⟨c,n,E,L,rfl,gg,dV,dW,co,dX,fc,fd,a1,cZ,gh,cp⟩:=hrel;have dY:=Z dV;have c0:=Z dW;clear dV dW cn;have fe:=Z (Kp.refl [] wr);have ff:=Z (aH a1.same dm);have fh:=Z (bg.same a1.same);have fi:=Z (dL.same a1.same);have dZ:=qo a1 cK;have s:=a1.size;by_cases d0:c<m.length
 case neg=>
  have s:¬(c:Int)<m.length:=ae
  have o:=Z (show G=ar n by rw[cp.out,List.drop_of_length_le ae];rfl);clear cp;have s:=Z (pJ u a9 ⟨2,q,g,⟨P,Q,R⟩,C,y,⟨E,c,L⟩,n,0,0,aJ,[],aJ,[]⟩ d (U (some ⟨B,X,none⟩) aQ bf) aG aI aL aM aN aO ax F j cf wr dZ ff eq df ae es);have t:Hid (Calls Tryz.prog 194 #[aj u,.agg #[O 2,q,(g:Int),U P Q R,y,U E c L,O 0,O 0,aa,aa]] wr _):=s;go_wp2_with (first|(refine ir rfl 64 (.tmp 4) rfl r.heap.size #[O 2,q,(g:Int),U P Q R,y,U E c L,O 0,O 0,aa,aa] rfl 64 dX.out _ Tryz.underlying64 rfl ak ?_)|fail)
  refine t.mono ?_;rintro e s ⟨rfl,z⟩;go_wp2;first|go_end0|refine bodyPost_ret (results_none rfl _ _ _) rfl ?_
  rw[o.out,fb.out n];have o:=cF (h:=⟨E,c,L⟩) Fx.len c0 (by show c<=_;omega) co;have g:eZ wr (Bw f.heap.size wr.heap.size) ⟨2,q,g,⟨P,Q,R⟩,C,y,⟨E,c,L⟩,n,0,0,aJ,[],aJ,[]⟩:=⟨dy.same cZ.same,eN.mono (λB aD=>⟨aD.1,by have:=aD.2;have:=cZ.out.size;omega⟩),o,(λB g e=>by have h:=b3 co.out B (by show(Value.slice E c L).ownBlock=_;have g:E=some ⟨B,g,none⟩:=e;rw[g];rfl);exact⟨by omega,h.2⟩),aF.none_ wr 1 _,aS.none_ _ _ _,aF.none_ wr 12 _,aS.none_ _ _ _⟩;exact⟨rfl,iu.pK a1 eC df aD g z⟩
 have g:(c:Int)<m.length:=ae
 obtain⟨ca,of,d1,g,a6⟩:=fh.2.2 c d0;have b9:aW=some ⟨ca,of,none⟩:=d1;obtain⟨cb,c1⟩:=aq (m[c]);rw[<-c1]at a6;have c2:=Z (show G=(cO d T cb.name).bind λj=>RO.ap (!n.any λg=>decide (g.col=j)) 9 d<|RO.ap cb.v.ok 2 d<|RO.ap (decide (cb.v.k=(cE T j).kind)) 10 d<|(fg T d (n++[⟨j,cb.v⟩]) (m.drop (c+1))).bind ar by
  rw[cp.out,List.drop_eq_getElem_cons d0,BD,<-c1])
 clear c1 d1 cp;obtain⟨cc,⟨o,z,A⟩⟩:=cb;have g:ac wr (ab ca (of+c*4)) cc:=by simpa using a6 0 _ rfl
 have fj:ac wr (ab ca (of+c*4+1)) o:=a6 1 _ rfl;have g:ac wr (ab ca (of+c*4+2)) z:=a6 2 _ rfl;have g:ac wr (ab ca (of+c*4+3)) A:=a6 3 _ rfl;have g:IntKind.i64.wrap ((c:Int)+1)=(c:Int)+1:=IntWalk.i64_in _ ae;clear a6;subst b9;have fk:Hid (G=(cO d T cc).bind λj=>RO.ap (!n.any λg=>decide (g.col=j)) 9 d<|RO.ap (V.ok ⟨o,z,A⟩) 2 d<|RO.ap (decide (o=(cE T j).kind)) 10 d<|(fg T d (n++[⟨j,⟨o,z,A⟩⟩]) (m.drop (c+1))).bind ar):=c2;have c2:=fk;go_upto_region 8 with(first|(refine wpList_store_row rfl 238 (.tmp 7) (.tmp 42) rfl wr.heap.size #[cc,o,z,A] rfl rfl 238 #[ah,O 0,O 0,ah] (J.new wr 238 #[ah,O 0,O 0,ah]) ak rfl bl ?_;rw[World.setRow_alloc_new])|fail)
 obtain⟨fl,g,ao,b,-⟩:=nb wr 238 #[cc,o,z,A];rw[g];clear g;have c3:=qk a1 b;have fm:=qb b dZ;have fn:=qb b fd;have fo:=qb b dX;have cq:=qb b fc;have fp:=Z (fi.same b);have fq:=qk cZ b;have fr:=qk fe b;have d2:=ao;have g:=az cq;have g:=aY cq;have g:=bh cq;have g:=az d2;go_wp2_with fail
 refine dC c2 (cU cc fl c3.same) (eL c3) ?_;intro a b8 c4 d3 a7 aZ i;have a4:b8=.int .i64 a:=aZ;subst a4;obtain⟨t,fs,c5⟩:=pH d3;subst fs;have d4:t<I.length:=by rw[dU.out]at c5;simpa using c5
 clear c5;have ft:=Z (c3.trans i);have fv:=qo i fm;have fw:=qo i fn;have fx:=qo i fo;have fy:=qo i cq;have fz:=qo i d2;have fA:=Z (fp.same i.same);have fB:=Z (fq.trans i);have fC:=Z (fr.trans i);clear i;clear aZ d3;go_upto_region 9 with(fail)
 obtain⟨g,i,ao,b,-⟩:=nb c4 3 #[(t:Int)];rw[i];clear i;have fD:=qk ft b;have fE:=qb b fv;have fF:=qb b fw;have d7:=qb b fx;have fG:=qb b fy;have fH:=qb b fz;have fI:=Z (fA.same b);have fJ:=qk fB b;have d8:=qk fC b;have c6:=ao;have i:∀i f,(callFunc 197 i).run Tryz.prog f=.ok (.enter 197 i) f:=enters_of Tryz.func197 ak rfl;have q:=az c6;have s:=J.lt c6;have j:=bQ d7;have j:=Z (aH d8.same co);have j:=cF (h:=⟨E,c,L⟩) Fx.len c0 (by show c<=_;omega) j;have d9:Hid (Calls Tryz.prog 196 #[U E c L,.func (.func 197) #[] #[aj c4.heap.size]] g λe w'=>e=.returned (.bool (n.any λu=>decide (u.col=(t:Int))))/\ag g w'):=
  Z (AK 197 _ i ⟨E,c,L⟩ Fx.cells (λdh=>⟨_,_,_,_,rfl⟩) _ n g j (AM (c4.heap.size) (t:Int) g s q n))
 clear j i;obtain⟨ea,c7⟩:=aq (n.any λg=>decide (g.col=(t:Int)));rw[<-c7]at d9;have fK:=Z (show G=RO.ap (!ea) 9 d (RO.ap (V.ok ⟨o,z,A⟩) 2 d<|RO.ap (decide (o=(cE T t).kind)) 10 d<|(fg T d (n++[⟨t,⟨o,z,A⟩⟩]) (m.drop (c+1))).bind ar) by rw[c7];exact a7.out);clear c7 a7;have a7:=fK;go_wp2_with fail
 refine d9.mono ?_;rintro e fL ⟨rfl,M⟩;have c8:=cz fD M;have eb:=bG M fE;have fM:=bG M fF;have fN:=bG M d7;have fO:=bG M fG;have cr:=bG M fH;have fP:=bG M c6;have fQ:=Z (fI.same M);have fR:=cz fJ M;have fS:=cz d8 M;clear M;have ec:=bN eb;cases ea
 case true=>
  go_wp2_with fail
  exact bv c8 a7 ec
 go_wp2_with fail
 refine bJ c8 a7 ec λcs=>?_;have g:=aY cr;have g:=bh cr;have g:=bj cr;clear a7;have ed:Hid (Rs 42 #[.agg #[o,z,A]] (.bool (V.ok ⟨o,z,A⟩))):=Z (λg=>ng ⟨o,z,A⟩ g);obtain⟨fT,g⟩:=aq (V.ok ⟨o,z,A⟩);rw[<-g]at ed cs;clear g;go_wp2_with fail
 refine(ed fL).mono ?_;rintro e ee ⟨rfl,N⟩;have cd:=cz c8 N;have g:=bG N eb;have fU:=bG N fM;have fV:=bG N fN;have ef:=bG N fO;have eg:=bG N cr;have ei:=bG N fP;have ej:=Z (fQ.same N);have fW:=cz fR N;have fX:=cz fS N;clear N;have ct:=bN g;cases fT
 case false=>
  go_wp2_with fail
  exact bv cd cs ct
 go_wp2_with fail
 refine bJ cd cs ct λa2=>?_;clear cs;obtain⟨ba,g,i,y,j,cu,q,s,u,w⟩:=iq ej t d4;have b9:H=some ⟨ba,g,none⟩:=i;have g:(t:Int)<D:=by have:=ej.out.1.1;have g:I.length=D:=this;omega
 have g:(0:Int)<=t:=ae
 obtain⟨cv,g⟩:=aq (I[t].at_.kind);rw[<-g]at cu;have d:=Z (show G=RO.ap (decide (o=cv)) 10 d ((fg T d (n++[⟨t,⟨o,z,A⟩⟩]) (m.drop (c+1))).bind ar) by rw[a2.out,dU.out,jY I t d4,<-g]);clear a2 g j q s u w i;have a2:=d;subst b9;have ek:=aY ef;have el:=aY eg;have em:=az ei;go_upto_region 11 with(fail)
 cases hk:decide (o=cv)with
 |false=>
  have d:(o==cv)=false:=by simpa using hk
  rw[hk]at a2;clear hk;refine kH 12 ek el em cu λhS=>?_;refine dg ?_;refine eh ?_;refine aK 11 (λK a5=>?_);go_simp;exact bv cd.drew a2 ct
 |true=>
  have fY:(o==cv)=true:=by simpa using hk
  rw[hk]at a2;clear hk;refine kH 12 ek el em cu λhS=>?_;refine dg ?_;refine eh ?_;refine aK 11 (λK a5=>?_);go_simp;refine bJ cd.drew a2 ct λfZ=>?_;try go_simp
  refine a5 _ _ (λ_=>hS) ?_;refine av ?_;refine b2 ?_;refine bV ?_;have b:=Z ((ag.refl ee).drew);obtain⟨cw,d⟩:=aq ee.drew;rw[<-d]at b⊢;clear d;have f0:=qk cd b;have f1:=qb b fU;have en:=qb b fV;have f2:=qb b ef;have d:=qb b eg;have g:=qb b ei;have f3:=qk fW b;have b:=qk fX b;clear hS cu fY;have i:=bQ en;have g:=az g;have g:=aY d;have g:=bh d;have g:=bj d;have d:=J.lt d;have b:=Z (aH b.same co);have dB:=Z (aH ((ag.refl cw).alloc (.cells #[(t:Int),o,z,A] 68)) b);have f4:=Z (cC cw #[(t:Int),o,z,A] 68 4 rfl);have ce:=b3 b;go_wp2_with (at_builtin;refine d6 _ rfl (.tmp 73) (.tmp 78) 61 rfl (x.heap.size+1) 68 et _ 4 40 Tryz.underlying61 eu ev ew ex rfl au (U E c L) c (n.flatMap Fx.cells) rfl dB.out (cw.heap.size+1) (some ⟨cw.heap.size,0,none⟩) 1 1 (#[(t:Int),o,z,A]:Array Value).toList rfl f4.out bl b1 ae aC ?_;intro fj da c9 eo f5;obtain⟨db,dc,rfl,f6⟩:=bo c9;have ep:=Z c9;have a8:=Z eo;clear c9 eo f5 f6;have cx:=Z (J.grown (en.out.alloc (.cells #[(t:Int),o,z,A] 68)) a8.out (λe=>by have:=(ce _ e.symm).1;omega));have b:ac da (am r 5) (U E c L):=J.cell cx.out 5;have b:=λc=>J.frozen cx.out c)
  have c9:=Z (J.grown (f2.alloc _) a8 (λe=>by have:=(ce _ e.symm).1;omega));have eo:=Z (J.grown (f1.alloc _) a8 (λe=>by have:=(ce _ e.symm).1;omega));have f5:=Z ((f0.alloc _).grown a8 (λb d=>.inr (by have:=ce b d;omega)));have f6:=Z ((f3.alloc _).grown a8 (λb d=>.inr (by have:=ce b d;omega)));have f7:=J.lt c9;go_roundg (m.length-c)
  case measure=>have:=dY.out;omega
  refine⟨c+1,n++[⟨(t:Int),⟨o,z,A⟩⟩],db,dc,by go_num,by omega,by have:=dY.out;omega,by rw[List.length_append,c0.out];rfl,Z ?_,Z (cx.out.aP 5 (U db (c+1) dc)),Z (c9.out.far (by show x.heap.size≠r.heap.size;omega) _),Z (eo.out.far (by show f.heap.size≠r.heap.size;omega) _),Z (f5.out.setCell (.inr (by show f.heap.size<=r.heap.size;omega)) _),Z (f6.out.setCell (.inr (Nat.le_refl _)) _),by simpa using f7,fZ⟩;rw[List.flatMap_append];exact bC ep (Kp.aE (p:=(am r 5)) (l:=[r.heap.size]) ai (Kp.refl _ da) _) aC
end Go.Proofs.YteamkimbmdgdbaaGreatDoor

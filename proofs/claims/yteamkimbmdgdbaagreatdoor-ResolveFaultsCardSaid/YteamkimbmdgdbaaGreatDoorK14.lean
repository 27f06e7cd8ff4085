import Derived.Test.YteamkimbmdgdbaaGreatDoorK12
import Derived.Test.YteamkimbmdgdbaaGreatDoorK13
set_option linter.unusedSimpArgs false
set_option linter.unusedVariables false
set_option maxHeartbeats 16000000
set_option maxRecDepth 100000
namespace Go.Proofs.YteamkimbmdgdbaaGreatDoor
open Go.RowKit
def A1 (c:Nat) (d:aI) (v:ay) (b:af):Prop:=∃a:RI,a.it=d/\v=.agg a.cells.toArray/\df b (Bw c b.heap.size) a
def PO.All {a:Type} (b:PO a) (c:a->Prop):Prop:=∀a d,b=.ok a d->c a
theorem PO.All.bind {c d:Type} {e:PO c} {f:c->List ao->PO d} {p:d->Prop} (h:∀a us,(f a us).All p):(e.bind f).All p:=by
 intro g us b;cases e with
 |bad b a=>cases b
 |ok a c=>exact h a c g us b
theorem PO.All.ok {α:Type} {a:α} {us:List ao} {p:α->Prop} (h:p a):(PO.ok a us).All p:=by
 intro c c b;injection b with e1 e2
 subst e1;exact h
theorem PO.All.ite {b:Type} {c:Prop} [Decidable c] {d e:PO b} {a:b->Prop} (h:d.All a) (b:e.All a):(if c then d else e).All a:=by split<;>assumption
theorem PO.All.A3 {b f:Type} {c:PO b} {g:b->List ao->PO f} {i:b->Prop} {b:f->Prop} (j:c.All i) (h:∀a d,i a->(g a d).All b):(c.bind g).All b:=by
 intro k d e;cases c with
 |bad e a=>cases e
 |ok a b=>exact h a b (j a b rfl) k d e
theorem ue (b:Int) (a:aI) (c:List ao):(hW b a c).All (λb=>b.kind=a.kind):=
 .bind λ_ _=>.bind λ_ _=>.bind λ_ _=>.bind λ_ _=>.bind λ_ _=>.ok rfl
theorem ji (b:Int) (a:aI) (c:List ao):(en b a c).All (λd=>d.kind=a.kind):=by
 unfold en;refine .ite ?_ (.ite ?_ (.ite ?_ (.ite ?_ (.ite ?_ (.ite ?_ (.ite ?_ (.ite ?_ (.ite ?_ ?_))))))))
 ·exact .bind λ_ _=>.bind λ_ _=>.bind λ_ _=>.bind λ_ _=>.ok rfl
 ·exact .bind λ_ _=>.bind λ_ _=>.ok rfl
 ·exact .bind λ_ _=>.bind λ_ _=>.bind λ_ _=>.bind λ_ _=>.ite (.bind λ_ _=>.ok rfl) (.ite (.bind λ_ _=>.bind λ_ _=>.ok rfl) (.ok rfl))
 ·exact .bind λ_ _=>.bind λ_ _=>.bind λ_ _=>.bind λ_ _=>.bind λ_ _=>.bind λ_ _=>.ok rfl
 ·exact .bind λ_ _=>.bind λ_ _=>.bind λ_ _=>.ok rfl
 ·exact ue b a c
 ·exact PO.All.A3 (ue b a c) λd a a=>.bind λ_ _=>.bind λ_ _=>.ite (.bind λ_ _=>.ok a) (.ok a)
 ·exact .bind λ_ _=>.bind λ_ _=>.bind λ_ _=>.ok rfl
 ·exact .bind λ_ _=>.bind λ_ _=>.ok rfl
 exact .bind λ_ _=>.bind λ_ _=>.ok rfl
theorem jj {f q:Type} {r:Nat} {l l2:List Nat} {c d:af} {s:Int} {t:FuncId} {u:aO} {k:Ending->World->Prop} {m:PO q} {g:PO f} {V:f->Value->World->Prop} {w:f->List ao->PO q} {p:f->Prop} (y:∀i∈l2,i∈l\/c.heap.size<=i) (q:Kp l c d) (j:m=g.bind w) (z:g.All p) (A:Calls Tryz.prog t u d (λf b=>PL l2 s r d g V f b))
 (n:∀er a b,Hid (m=.bad er a)->Hid (Kp l c b)->k (.panicked [{v:=gI er a,recovered:=false}]) b)
 (B:∀a e v b,p a->Hid (m=w a e)->V a v b->Kp l2 d b->Hid (Kp l c b)->Hid (ax b r s e)->c.heap.size<=b.heap.size->k (.returned v) b):Calls Tryz.prog t u d k:=by
 refine A.mono ?_;rintro f b ⟨x,h⟩;have o:=x.old q (λi n c=>by rcases y i n with h|h;exact h;omega);cases hr:g with
 |bad er a=>rw[hr]at h j;subst h;exact n er a b (Z j) (Z o)
 |ok a e=>rw[hr]at h j;obtain⟨v,rfl,C,D⟩:=h;exact B a e v b (z a e hr) (Z j) C x (Z o) (Z D) o.size
theorem A4 (b:Int) (a:List ao) (l:bm):(dK b a l).All (λb=>1<=b/\b<=l.length):=by
 intro b b h;unfold dK at h;split at h
 ·rename_i c d
  injection h with h1 h2
  subst h1;have:=s7 a l 1 c d;omega
 cases a<;>cases h
theorem A5 {e q:Type} {f:Nat} {l:List Nat} {g c:af} {r:Int} {s:FuncId} {t:aO} {k:Ending->World->Prop} {m:PO q} {i:PO e} {V:e->Value->World->Prop} {u:e->List ao->PO q} {p:e->Prop} (x:i.All p) (q:f∈l) (y:Kp l g c) (j:m=i.bind u) (z:Calls Tryz.prog s t c (λe b=>PP r f c i V e b))
 (n:∀er a b,Hid (m=.bad er a)->Hid (Kp l g b)->k (.panicked [{v:=gI er a,recovered:=false}]) b)
 (A:∀a d v b,p a->Hid (m=u a d)->V a v b->Kp [f] c b->Hid (Kp l g b)->Hid (ax b f r d)->g.heap.size<=b.heap.size->k (.returned v) b):Calls Tryz.prog s t c k:=by
 refine z.mono ?_;rintro e b ⟨w,h⟩;have o:=y.trans (w.mono (λc n=>by rw[aA n];exact q));cases hr:i with
 |bad er a=>rw[hr]at h j;subst h;exact n er a b (Z j) (Z o)
 |ok a d=>rw[hr]at h j;obtain⟨v,rfl,B,C⟩:=h;exact A a d v b (x a d hr) (Z j) B w (Z o) (Z C) o.size
theorem A6 {e:Program} {g:Array Oper} {i:List Oper} {c:Oper} {d:Act} {j:af} {k:Exit->Act->World->Prop} (n:c.guard=none) (f:bb) (a:Nat) (b:Operand) (o:c.op=.build f #[(a,b)])
 (v:ay) (p:d.eval b=v) (l:aO) (m:e.built f [(a,v)]=some l) (h:wpList e g k i (d.put c.dst (.agg l)) j):wpList e g k (c::i) d j:=by
 have a:(#[(a,b)].map λ(a,b)=>(a,d.eval b)).toList=[(a,v)]:=by simp[p]
 refine wpList_build n f _ o (by rw[a,m];rfl) ?_;rw[a,m];exact h
theorem ir {P:Program} {i:Array Oper} {j:List Oper} {d:Oper} {f:Act} {a:af} {k:Exit->Act->World->Prop} (m:d.guard=none) (b:bb) (g:Operand) (n:d.op=.load b g)
 (e:Nat) (c:aO) (o:f.eval g=.pointer (some ⟨e,0,none⟩)) (l:bb) (p:a.heap[e]?=some (.cells c l (0,0))) (g:TypeDesc) (q:P.underlying b=some g) (r:(match g with|.struct _|.array _ _=>true|_=>false)=true) (s:(P.info? b).map (·.size)=some c.size)
 (h:wpList P i k j (f.put d.dst (.agg c)) a):wpList P i k (d::j) f a:=by
 refine wpList_plain m λd d=>?_;have f:(Instr.loadAt b (aj e)).run P a=.ok (.agg c) a:=by
  simp only[Instr.loadAt,Instr.sureAddr,Sem.run_bind,Sem.run_pure,Result.andThen];exact run_loadVar_row a e l b c (0,0) g p q r s
 unfold Oper.wp execOp;simp only[n,o,Sem.run_bind,f,Result.andThen_ok];exact d _ _ h
theorem jZ (b:af) (a:Nat) (cs:aO):b.grownBy (b.setRow a cs) (some a):=
 ⟨rfl,rfl,rfl,by simp[World.setRow],λb c c=>by
  have:b≠a:=λa=>c (by rw[a]);simp[World.setRow,Array.getElem?_modify,Ne.symm this]⟩
theorem kM {b:af} {a:Nat} {c:bb} {d:aO} (e:J b a c d) (cs:aO):J (b.setRow a cs) a c cs:=by
 have d:b.heap[a]?=some (.cells d c (0,0)):=e;show(b.setRow a cs).heap[a]?=some (.cells cs c (0,0));simp[World.setRow,Array.getElem?_modify,d]
theorem A7 {a:Int} (b:1<=a) (b:a<=10):a=1\/a=2\/a=3\/a=4\/a=5\/a=6\/a=7\/a=8\/a=9\/a=10:=ae
def im (P a:Nat):Array MapEntry:=(([89,90,91,92,93,94,95,96,97,98].take a).zipIdx.map λ(b,a)=>(⟨.int .i64 (a+1:Nat),.func (.func b) #[aj P] #[],a⟩:MapEntry)).toArray
theorem A8 (P:Nat) (a:af):(Instr.mapUpdate 194 (.map (some a.heap.size)) (O 1) (.func (.func 89) #[aj P] #[])).run Tryz.prog (a.alloc (.map #[] 0))=.ok () (a.alloc (.map (im P 1) 1)):=
 dL (P:=Tryz.prog) (T:=194) Tryz.underlying194 Tryz.underlying3 a #[] 0 _ _ rfl rfl
theorem A9 (P:Nat) {a:af} {b:Nat} (h:a.heap[b]?=some (.map (im P 10) 10)):(Instr.lookup 194 (.map (some b)) (O 1) false).run Tryz.prog a=.ok (.func (.func 89) #[aj P] #[]) a:=
 iX (P:=Tryz.prog) (T:=194) Tryz.underlying194 Tryz.underlying3 h (key:=.int .i64 1) rfl rfl
theorem uf (b:Int) (nm:aw) (a:Int) (c:List ao):en b {aI.zero with kind:=1,name:=nm,at_:=a} c=np b (RI.start 1 nm a).it c:=rfl
theorem Ba (P:Nat) (a:af):(Instr.mapUpdate 194 (.map (some a.heap.size)) (O 2) (.func (.func 90) #[aj P] #[])).run Tryz.prog (a.alloc (.map (im P 1) 1))=.ok () (a.alloc (.map (im P 2) 2)):=
 dL (P:=Tryz.prog) (T:=194) Tryz.underlying194 Tryz.underlying3 a (im P 1) 1 _ _ rfl rfl
theorem Bb (P:Nat) {a:af} {b:Nat} (h:a.heap[b]?=some (.map (im P 10) 10)):(Instr.lookup 194 (.map (some b)) (O 2) false).run Tryz.prog a=.ok (.func (.func 90) #[aj P] #[]) a:=
 iX (P:=Tryz.prog) (T:=194) Tryz.underlying194 Tryz.underlying3 h (key:=.int .i64 2) rfl rfl
theorem ug (b:Int) (nm:aw) (a:Int) (c:List ao):en b {aI.zero with kind:=2,name:=nm,at_:=a} c=nr b (RI.start 2 nm a).it c:=rfl
theorem Bc (P:Nat) (a:af):(Instr.mapUpdate 194 (.map (some a.heap.size)) (O 3) (.func (.func 91) #[aj P] #[])).run Tryz.prog (a.alloc (.map (im P 2) 2))=.ok () (a.alloc (.map (im P 3) 3)):=
 dL (P:=Tryz.prog) (T:=194) Tryz.underlying194 Tryz.underlying3 a (im P 2) 2 _ _ rfl rfl
theorem Bd (P:Nat) {a:af} {b:Nat} (h:a.heap[b]?=some (.map (im P 10) 10)):(Instr.lookup 194 (.map (some b)) (O 3) false).run Tryz.prog a=.ok (.func (.func 91) #[aj P] #[]) a:=
 iX (P:=Tryz.prog) (T:=194) Tryz.underlying194 Tryz.underlying3 h (key:=.int .i64 3) rfl rfl
theorem uh (b:Int) (nm:aw) (a:Int) (c:List ao):en b {aI.zero with kind:=3,name:=nm,at_:=a} c=nt b (RI.start 3 nm a).it c:=rfl
theorem Be (P:Nat) (a:af):(Instr.mapUpdate 194 (.map (some a.heap.size)) (O 4) (.func (.func 92) #[aj P] #[])).run Tryz.prog (a.alloc (.map (im P 3) 3))=.ok () (a.alloc (.map (im P 4) 4)):=
 dL (P:=Tryz.prog) (T:=194) Tryz.underlying194 Tryz.underlying3 a (im P 3) 3 _ _ rfl rfl
theorem Bg (P:Nat) {a:af} {b:Nat} (h:a.heap[b]?=some (.map (im P 10) 10)):(Instr.lookup 194 (.map (some b)) (O 4) false).run Tryz.prog a=.ok (.func (.func 92) #[aj P] #[]) a:=
 iX (P:=Tryz.prog) (T:=194) Tryz.underlying194 Tryz.underlying3 h (key:=.int .i64 4) rfl rfl
theorem ui (b:Int) (nm:aw) (a:Int) (c:List ao):en b {aI.zero with kind:=4,name:=nm,at_:=a} c=nu b (RI.start 4 nm a).it c:=rfl
theorem Bh (P:Nat) (a:af):(Instr.mapUpdate 194 (.map (some a.heap.size)) (O 5) (.func (.func 93) #[aj P] #[])).run Tryz.prog (a.alloc (.map (im P 4) 4))=.ok () (a.alloc (.map (im P 5) 5)):=
 dL (P:=Tryz.prog) (T:=194) Tryz.underlying194 Tryz.underlying3 a (im P 4) 4 _ _ rfl rfl
theorem Bi (P:Nat) {a:af} {b:Nat} (h:a.heap[b]?=some (.map (im P 10) 10)):(Instr.lookup 194 (.map (some b)) (O 5) false).run Tryz.prog a=.ok (.func (.func 93) #[aj P] #[]) a:=
 iX (P:=Tryz.prog) (T:=194) Tryz.underlying194 Tryz.underlying3 h (key:=.int .i64 5) rfl rfl
theorem uj (b:Int) (nm:aw) (a:Int) (c:List ao):en b {aI.zero with kind:=5,name:=nm,at_:=a} c=nw b (RI.start 5 nm a).it c:=rfl
theorem Bj (P:Nat) (a:af):(Instr.mapUpdate 194 (.map (some a.heap.size)) (O 6) (.func (.func 94) #[aj P] #[])).run Tryz.prog (a.alloc (.map (im P 5) 5))=.ok () (a.alloc (.map (im P 6) 6)):=
 dL (P:=Tryz.prog) (T:=194) Tryz.underlying194 Tryz.underlying3 a (im P 5) 5 _ _ rfl rfl
theorem Bm (P:Nat) {a:af} {b:Nat} (h:a.heap[b]?=some (.map (im P 10) 10)):(Instr.lookup 194 (.map (some b)) (O 6) false).run Tryz.prog a=.ok (.func (.func 94) #[aj P] #[]) a:=
 iX (P:=Tryz.prog) (T:=194) Tryz.underlying194 Tryz.underlying3 h (key:=.int .i64 6) rfl rfl
theorem uk (b:Int) (nm:aw) (a:Int) (c:List ao):en b {aI.zero with kind:=6,name:=nm,at_:=a} c=hW b (RI.start 6 nm a).it c:=rfl
theorem Bn (P:Nat) (a:af):(Instr.mapUpdate 194 (.map (some a.heap.size)) (O 7) (.func (.func 95) #[aj P] #[])).run Tryz.prog (a.alloc (.map (im P 6) 6))=.ok () (a.alloc (.map (im P 7) 7)):=
 dL (P:=Tryz.prog) (T:=194) Tryz.underlying194 Tryz.underlying3 a (im P 6) 6 _ _ rfl rfl
theorem Bo (P:Nat) {a:af} {b:Nat} (h:a.heap[b]?=some (.map (im P 10) 10)):(Instr.lookup 194 (.map (some b)) (O 7) false).run Tryz.prog a=.ok (.func (.func 95) #[aj P] #[]) a:=
 iX (P:=Tryz.prog) (T:=194) Tryz.underlying194 Tryz.underlying3 h (key:=.int .i64 7) rfl rfl
theorem ul (b:Int) (nm:aw) (a:Int) (c:List ao):en b {aI.zero with kind:=7,name:=nm,at_:=a} c=nx b (RI.start 7 nm a).it c:=rfl
theorem Bp (P:Nat) (a:af):(Instr.mapUpdate 194 (.map (some a.heap.size)) (O 8) (.func (.func 96) #[aj P] #[])).run Tryz.prog (a.alloc (.map (im P 7) 7))=.ok () (a.alloc (.map (im P 8) 8)):=
 dL (P:=Tryz.prog) (T:=194) Tryz.underlying194 Tryz.underlying3 a (im P 7) 7 _ _ rfl rfl
theorem Bq (P:Nat) {a:af} {b:Nat} (h:a.heap[b]?=some (.map (im P 10) 10)):(Instr.lookup 194 (.map (some b)) (O 8) false).run Tryz.prog a=.ok (.func (.func 96) #[aj P] #[]) a:=
 iX (P:=Tryz.prog) (T:=194) Tryz.underlying194 Tryz.underlying3 h (key:=.int .i64 8) rfl rfl
theorem um (b:Int) (nm:aw) (a:Int) (c:List ao):en b {aI.zero with kind:=8,name:=nm,at_:=a} c=ny b (RI.start 8 nm a).it c:=rfl
theorem Bs (P:Nat) (a:af):(Instr.mapUpdate 194 (.map (some a.heap.size)) (O 9) (.func (.func 97) #[aj P] #[])).run Tryz.prog (a.alloc (.map (im P 8) 8))=.ok () (a.alloc (.map (im P 9) 9)):=
 dL (P:=Tryz.prog) (T:=194) Tryz.underlying194 Tryz.underlying3 a (im P 8) 8 _ _ rfl rfl
theorem Bt (P:Nat) {a:af} {b:Nat} (h:a.heap[b]?=some (.map (im P 10) 10)):(Instr.lookup 194 (.map (some b)) (O 9) false).run Tryz.prog a=.ok (.func (.func 97) #[aj P] #[]) a:=
 iX (P:=Tryz.prog) (T:=194) Tryz.underlying194 Tryz.underlying3 h (key:=.int .i64 9) rfl rfl
theorem un (b:Int) (nm:aw) (a:Int) (c:List ao):en b {aI.zero with kind:=9,name:=nm,at_:=a} c=nz b (RI.start 9 nm a).it c:=rfl
theorem Bu (P:Nat) (a:af):(Instr.mapUpdate 194 (.map (some a.heap.size)) (O 10) (.func (.func 98) #[aj P] #[])).run Tryz.prog (a.alloc (.map (im P 9) 9))=.ok () (a.alloc (.map (im P 10) 10)):=
 dL (P:=Tryz.prog) (T:=194) Tryz.underlying194 Tryz.underlying3 a (im P 9) 9 _ _ rfl rfl
theorem Bx (P:Nat) {a:af} {b:Nat} (h:a.heap[b]?=some (.map (im P 10) 10)):(Instr.lookup 194 (.map (some b)) (O 10) false).run Tryz.prog a=.ok (.func (.func 98) #[aj P] #[]) a:=
 iX (P:=Tryz.prog) (T:=194) Tryz.underlying194 Tryz.underlying3 h (key:=.int .i64 10) rfl rfl
theorem uo (b:Int) (nm:aw) (a:Int) (c:List ao):en b {aI.zero with kind:=10,name:=nm,at_:=a} c=nA b (RI.start 10 nm a).it c:=rfl
theorem By (d:Int) (c:Nat) (e:ao) (l:List ao) (w:af) (bx:ax w c d (e::l)) (bO:b4 w ⟨some ⟨0,0,none⟩,10,10⟩ fb) (bQ:0<c):
 Calls Tryz.prog 47 #[aj c] w λbQ cc=>PP d c w (iV d (e::l)) (A1 w.heap.size) bQ cc:=by
 have bQ:=bx.lt;have cd:=Z bx;have ce:=Z (Kp.refl [c] w);have bP:=Z bO;have aT:=Z (show b8 e.at_ from tW bx);obtain⟨⟨bQ,br,cc⟩,hb,bF⟩:=id bx;have cf:ac w (ab c 0) (U bQ br cc):=J.cell hb 0;have cc:0<br:=by have:=bF.lies.1;simp at this;omega
 obtain⟨b,cc,cg,de,bne,ch,ci,cj,ck⟩:=bF.first;have cl:bQ=some ⟨b,cc,none⟩:=cg;subst cl;have bQ:c≠w.heap.size:=ae
 have bQ:c≠w.heap.size+1:=ae
 clear hb bF bO;clear bx;have bR:=Z (show iV d (e::l)=(dK d (e::l) fb).bind λg f=>(if g=5 then .ok e0 f else bW d f).bind λbr f=>(en d {aI.zero with kind:=g,name:=br,at_:=e.at_} f).bind λi f=>(aR d f (if g=4 then[⟨_⟩]else[⟨#[59]⟩])).bind λ_ f=>.ok i f from rfl);generalize iV d (e::l)=bs at bR⊢;have cm:(#[O 0,ah,e.at_,ah,ah,aa,aa,O 0,O 0,O 0,aa,ah,ah,aa,aa,aa,O 0,ah,aa,aa,aa,ah,ah,O 0,O 0]:Array Value).all (·.oneCell')=true:=bl
 have cn:Tryz.prog.built 95 [(2,.int .i64 e.at_)]=some #[.int .i64 0,.string ⟨#[]⟩,.int .i64 e.at_,.string ⟨#[]⟩,.string ⟨#[]⟩,.slice none 0 0,.slice none 0 0,.int .i64 0,.int .i64 0,.int .i64 0,.slice none 0 0,.string ⟨#[]⟩,.string ⟨#[]⟩,.slice none 0 0,.slice none 0 0,.slice none 0 0,.int .i64 0,.string ⟨#[]⟩,.slice none 0 0,.slice none 0 0,.slice none 0 0,.string ⟨#[]⟩,.string ⟨#[]⟩,.int .i64 0,.int .i64 0]:=ak
 have co:((w.alloc (.cells #[O 0,ah,O 0,ah,ah,aa,aa,O 0,O 0,O 0,aa,ah,ah,aa,aa,aa,O 0,ah,aa,aa,aa,ah,ah,O 0,O 0] 95)).alloc (.cells #[O 0,ah,O 0,ah,ah,aa,aa,O 0,O 0,O 0,aa,ah,ah,aa,aa,aa,O 0,ah,aa,aa,aa,ah,ah,O 0,O 0] 95)).heap[w.heap.size+1]?=some (.cells #[O 0,ah,O 0,ah,ah,aa,aa,O 0,O 0,O 0,aa,ah,ah,aa,aa,aa,O 0,ah,aa,aa,aa,ah,ah,O 0,O 0] 95 (0,0)):=by
  have h:=fx (w.alloc (.cells #[O 0,ah,O 0,ah,ah,aa,aa,O 0,O 0,O 0,aa,ah,ah,aa,aa,aa,O 0,ah,aa,aa,aa,ah,ah,O 0,O 0] 95)) (.cells #[O 0,ah,O 0,ah,ah,aa,aa,O 0,O 0,O 0,aa,ah,ah,aa,aa,aa,O 0,ah,aa,aa,aa,ah,ah,O 0,O 0] 95);exact s0
 have cp:((w.alloc (.cells #[O 0,ah,O 0,ah,ah,aa,aa,O 0,O 0,O 0,aa,ah,ah,aa,aa,aa,O 0,ah,aa,aa,aa,ah,ah,O 0,O 0] 95)).alloc (.cells #[O 0,ah,O 0,ah,ah,aa,aa,O 0,O 0,O 0,aa,ah,ah,aa,aa,aa,O 0,ah,aa,aa,aa,ah,ah,O 0,O 0] 95)).setRow (w.heap.size+1) #[O 0,ah,e.at_,ah,ah,aa,aa,O 0,O 0,O 0,aa,ah,ah,aa,aa,aa,O 0,ah,aa,aa,aa,ah,ah,O 0,O 0]=(w.alloc (.cells #[O 0,ah,O 0,ah,ah,aa,aa,O 0,O 0,O 0,aa,ah,ah,aa,aa,aa,O 0,ah,aa,aa,aa,ah,ah,O 0,O 0] 95)).alloc (.cells #[O 0,ah,e.at_,ah,ah,aa,aa,O 0,O 0,O 0,aa,ah,ah,aa,aa,aa,O 0,ah,aa,aa,aa,ah,ah,O 0,O 0] 95):=by
  have h:=World.setRow_alloc_new (w.alloc (.cells #[O 0,ah,O 0,ah,ah,aa,aa,O 0,O 0,O 0,aa,ah,ah,aa,aa,aa,O 0,ah,aa,aa,aa,ah,ah,O 0,O 0] 95)) #[O 0,ah,O 0,ah,ah,aa,aa,O 0,O 0,O 0,aa,ah,ah,aa,aa,aa,O 0,ah,aa,aa,aa,ah,ah,O 0,O 0] #[O 0,ah,e.at_,ah,ah,aa,aa,O 0,O 0,O 0,aa,ah,ah,aa,aa,aa,O 0,ah,aa,aa,aa,ah,ah,O 0,O 0] 95;exact s0
 go_enter Tryz.func47,Tryz.ntmps47
 go_upto_region 2 with(first|(refine A6 rfl 95 2 (.tmp 11) rfl e.at_ rfl #[O 0,ah,e.at_,ah,ah,aa,aa,O 0,O 0,O 0,aa,ah,ah,aa,aa,aa,O 0,ah,aa,aa,aa,ah,ah,O 0,O 0] cn ?_)|(refine wpList_store_row rfl 95 (.tmp 3) (.tmp 12) rfl (w.heap.size+1) #[O 0,ah,e.at_,ah,ah,aa,aa,O 0,O 0,O 0,aa,ah,ah,aa,aa,aa,O 0,ah,aa,aa,aa,ah,ah,O 0,O 0] rfl rfl 95 #[O 0,ah,O 0,ah,ah,aa,aa,O 0,O 0,O 0,aa,ah,ah,aa,aa,aa,O 0,ah,aa,aa,aa,ah,ah,O 0,O 0] co ak rfl cm ?_;rw[cp]))
 have cq:=Z (J.new w 95 #[O 0,ah,O 0,ah,ah,aa,aa,O 0,O 0,O 0,aa,ah,ah,aa,aa,aa,O 0,ah,aa,aa,aa,ah,ah,O 0,O 0]);have cr:=Z (show J ((w.alloc (.cells #[O 0,ah,O 0,ah,ah,aa,aa,O 0,O 0,O 0,aa,ah,ah,aa,aa,aa,O 0,ah,aa,aa,aa,ah,ah,O 0,O 0] 95)).alloc (.cells #[O 0,ah,e.at_,ah,ah,aa,aa,O 0,O 0,O 0,aa,ah,ah,aa,aa,aa,O 0,ah,aa,aa,aa,ah,ah,O 0,O 0] 95)) (w.heap.size+1) 95 #[O 0,ah,e.at_,ah,ah,aa,aa,O 0,O 0,O 0,aa,ah,ah,aa,aa,aa,O 0,ah,aa,aa,aa,ah,ah,O 0,O 0] by simpa using J.new (w.alloc (.cells #[O 0,ah,O 0,ah,ah,aa,aa,O 0,O 0,O 0,aa,ah,ah,aa,aa,aa,O 0,ah,aa,aa,aa,ah,ah,O 0,O 0] 95)) 95 #[O 0,ah,e.at_,ah,ah,aa,aa,O 0,O 0,O 0,aa,ah,ah,aa,aa,aa,O 0,ah,aa,aa,aa,ah,ah,O 0,O 0]);go_wp2_with fail
 refine A5 (A4 d (e::l) fb) ai ((ce.alloc _).alloc _) bR (s8 d c (e::l) ⟨some ⟨0,0,none⟩,10,10⟩ fb _ ((cd.alloc _).alloc _) (bP.same (((ag.refl w).alloc _).alloc _)) (λb f h=>by injection h with h;injection h with h;omega) au) aM ?_;intro i bG bx bx cs bq hv m bH bI bx;have bz:=b0 m cq;have bA:=bk m cr;obtain⟨rfl,bS,bJ⟩:=hv;clear m;replace bJ:i<=10:=cs.2;have bT:1<=i/\i<=10:=⟨bS,bJ⟩;clear bS bJ cf ch ci cj ck bP;obtain⟨aV,aW,aX,aY,aZ,a0,a1,a2,a3,a4,a6,a7,a8,a9,ba,bb,bc,bd,be,bf,bg,bh,bi,bj,bm⟩:=dI bA;have aK:=λaH=>J.frozen bA aH;obtain⟨ct,cu,cv,cw,cx,cy,cz,cB,cC,cD,cE,cF,cG,cH,cI,cJ,cK,cL,cM,cN,cO,cP,cQ,cR,cS⟩:=dI bz;have cT:=λaH=>J.frozen bz aH;go_upto_if 19 with(fail)
 go_cut [] (λwx=>∃(f:aw) (g:List ao),aG f/\Hid (J wx (w.heap.size) 95 #[O 0,ah,O 0,ah,ah,aa,aa,O 0,O 0,O 0,aa,ah,ah,aa,aa,aa,O 0,ah,aa,aa,aa,ah,ah,O 0,O 0]/\J wx (w.heap.size+1) 95 #[i,f,e.at_,ah,ah,aa,aa,O 0,O 0,O 0,aa,ah,ah,aa,aa,aa,O 0,ah,aa,aa,aa,ah,ah,O 0,O 0]/\Kp [c] w wx/\ax wx c d g/\bs=(en d {aI.zero with kind:=i,name:=f,at_:=e.at_} g).bind λg f=>(aR d f (if i=4 then[⟨#[125]⟩]else[⟨#[59]⟩])).bind λ_ f=>.ok g f))
 case first=>
  by_cases f:i=5
  ·
   have g:(i==5)=true:=by simp[f]
   replace bq:Hid (bs=(en d {aI.zero with kind:=i,name:=e0,at_:=e.at_} bG).bind λj g=>(aR d g (if i=4 then[⟨#[125]⟩]else[⟨#[59]⟩])).bind λ_ g=>.ok j g):=Z (by rw[bq.out,if_pos f];rfl);clear f;go_wp2_with fail
   go_meet;exact⟨e0,_,bZ _ au,Z ⟨(J.far bz (p:=(ab (w.heap.size+1) 0)) aD i),(bA.aP 0 i),(Kp.set (p:=(ab (w.heap.size+1) 0)) aD bH i),(ax.set aD bI _),bq⟩⟩
  have t:(i==5)=false:=by simp[f]
  replace bq:Hid (bs=(bW d bG).bind λbr g=>(en d {aI.zero with kind:=i,name:=br,at_:=e.at_} g).bind λj g=>(aR d g (if i=4 then[⟨#[125]⟩]else[⟨#[59]⟩])).bind λ_ g=>.ok j g):=Z (by rw[bq.out,if_neg f]);clear f;go_wp2_with fail
  refine aQ ai (Kp.set aD bH i) bq (eq d c bG _ (ax.set aD bI _)) aM ?_;intro g f f f k hv m n o f;have q:=Z (m.blk (J.far bz aD i) aU);have j:=Z (m.blk (jB bA i) aU);obtain⟨rfl,s⟩:=hv;clear m;clear aV aW aX aY aZ a0 a1 a2 a3 a4 a6 a7 a8 a9 ba bb bc bd be bf bg bh bi bj bm aK;have aK:=λaH=>J.frozen j aH;have f:=J.cell j 1;go_wp2_with fail
  go_meet;exact⟨g,_,s,Z ⟨(J.far q (p:=(ab (w.heap.size+1) 1)) aD g),(j.aP 1 g),(Kp.set (p:=(ab (w.heap.size+1) 1)) aD n g),(ax.set aD o _),k⟩⟩
 obtain⟨j,f,bn,HX⟩:=hcut;obtain⟨bo,rfl⟩:=aq wc;obtain⟨bU,bV,bX,bY,bt⟩:=HX.out;have b1:=Z bt;clear bt HX;clear bz bA bH bI bq;try clear aV aW aX aY aZ a0 a1 a2 a3 a4 a6 a7 a8 a9 ba bb bc bd be bf bg bh bi bj bm aK
 try clear ct cu cv cw cx cy cz cB cC cD cE cF cG cH cI cJ cK cL cM cN cO cP cQ cR cS cT
 have cV:=@run_makeMap Tryz.prog;have cW:=A8 c bo;have cX:=Ba c bo;have cY:=Bc c bo;have cZ:=Be c bo;have c0:=Bh c bo;have c1:=Bj c bo;have c2:=Bn c bo;have c3:=Bp c bo;have c4:=Bs c bo;have c5:=Bu c bo;go_upto_region 5 with(fail)
 go_cut [4] (λk wx=>∃g:Nat,k=.map (some g)/\Hid (J wx (w.heap.size) 95 #[O 0,ah,O 0,ah,ah,aa,aa,O 0,O 0,O 0,aa,ah,ah,aa,aa,aa,O 0,ah,aa,aa,aa,ah,ah,O 0,O 0]/\J wx (w.heap.size+1) 95 #[i,j,e.at_,ah,ah,aa,aa,O 0,O 0,O 0,aa,ah,ah,aa,aa,aa,O 0,ah,aa,aa,aa,ah,ah,O 0,O 0]/\Kp [c] w wx/\ax wx c d f/\wx.heap[g]?=some (.map (im c 10) 10)))
 case first=>
  go_wp2_with fail
  go_meet;exact⟨_,rfl,Z ⟨bU.alloc _,bV.alloc _,bX.alloc _,bY.alloc _,fx _ _⟩⟩
 obtain⟨dg,rfl,HX⟩:=hcut;obtain⟨dh,rfl⟩:=aq wc;obtain⟨rf,aF,aL,aN,aO⟩:=HX.out;have aS:=b1;clear HX bU bV bX bY b1 cV cW cX cY cZ c0 c1 c2 c3 c4 c5;have b2:=aF.lt;have aJ:∀b∈[c,w.heap.size+1],b∈[c]\/w.heap.size<=b:=by intro b hb;simp at hb;rcases hb with rfl|rfl;exact .inl ai;exact .inr ae
 obtain⟨g,bo⟩:=aq (w.heap.size+1);rw[<-bo]at aJ b2 aF⊢;have bp:c<g:=ae
 have bq:w.heap.size<g:=ae
 clear bo;go_upto_region 6 with(fail)
 go_cut [] (λwx=>∃(r:RI) (k:List ao),r.kind=i/\Hid (J wx (w.heap.size) 95 #[O 0,ah,O 0,ah,ah,aa,aa,O 0,O 0,O 0,aa,ah,ah,aa,aa,aa,O 0,ah,aa,aa,aa,ah,ah,O 0,O 0]/\J wx g 95 r.cells.toArray/\lS (g+1) r wx/\Kp [c] w wx/\ax wx c d k/\bs=(aR d k (if i=4 then[⟨#[125]⟩]else[⟨#[59]⟩])).bind λ_ k=>.ok r.it k))
 case first=>
  have o:=az aF;rcases A7 bT.1 bT.2 with k|k|k|k|k|k|k|k|k|k
  ·subst k
   have o:=A9 c aO;have n:=Z (aS.trans (congrArg (λr=>PO.bind r _) (uf d j e.at_ f)));go_wp2_with fail
   refine jj (l2:=[c,g]) aJ aL n (by rw[<-uf];exact ji d _ f) (AS d c g f _ 1 j e.at_ aN aF bp ⟨by omega,by omega⟩ bn aT.out) aM ?_;exact pQ
  ·subst k
   have o:=Bb c aO;have n:=Z (aS.trans (congrArg (λr=>PO.bind r _) (ug d j e.at_ f)));go_wp2_with fail
   refine jj (l2:=[c,g]) aJ aL n (by rw[<-ug];exact ji d _ f) (AP d c g f _ 2 j e.at_ aN aF bp ⟨by omega,by omega⟩ bn aT.out) aM ?_;exact pQ
  ·subst k
   have o:=Bd c aO;have n:=Z (aS.trans (congrArg (λr=>PO.bind r _) (uh d j e.at_ f)));go_wp2_with fail
   refine jj (l2:=[c,g]) aJ aL n (by rw[<-uh];exact ji d _ f) (AV d c g f _ 3 j e.at_ aN aF bp ⟨by omega,by omega⟩ bn aT.out) aM ?_;exact pQ
  ·subst k
   have o:=Bg c aO;have n:=Z (aS.trans (congrArg (λr=>PO.bind r _) (ui d j e.at_ f)));go_wp2_with fail
   refine jj (l2:=[c,g]) aJ aL n (by rw[<-ui];exact ji d _ f) (AZ d c g f _ 4 j e.at_ aN aF bp ⟨by omega,by omega⟩ bn aT.out) aM ?_;exact pQ
  ·subst k
   have o:=Bi c aO;have n:=Z (aS.trans (congrArg (λr=>PO.bind r _) (uj d j e.at_ f)));go_wp2_with fail
   refine jj (l2:=[c,g]) aJ aL n (by rw[<-uj];exact ji d _ f) (AQ d c g f _ 5 j e.at_ aN aF bp ⟨by omega,by omega⟩ bn aT.out) aM ?_;exact pQ
  ·subst k
   have o:=Bm c aO;have n:=Z (aS.trans (congrArg (λr=>PO.bind r _) (uk d j e.at_ f)));go_wp2_with fail
   refine jj (l2:=[c,g]) aJ aL n (by rw[<-uk];exact ji d _ f) (uc d c g f _ 6 j e.at_ aN aF bp ⟨by omega,by omega⟩ bn aT.out) aM ?_;exact pQ
  ·subst k
   have o:=Bo c aO;have n:=Z (aS.trans (congrArg (λr=>PO.bind r _) (ul d j e.at_ f)));go_wp2_with fail
   refine jj (l2:=[c,g]) aJ aL n (by rw[<-ul];exact ji d _ f) (A0 d c g f _ 7 j e.at_ aN aF bp ⟨by omega,by omega⟩ bn aT.out) aM ?_;exact pQ
  ·subst k
   have o:=Bq c aO;have n:=Z (aS.trans (congrArg (λr=>PO.bind r _) (um d j e.at_ f)));go_wp2_with fail
   refine jj (l2:=[c,g]) aJ aL n (by rw[<-um];exact ji d _ f) (AR d c g f _ 8 j e.at_ aN aF bp ⟨by omega,by omega⟩ bn aT.out) aM ?_;exact pQ
  ·subst k
   have o:=Bt c aO;have n:=Z (aS.trans (congrArg (λr=>PO.bind r _) (un d j e.at_ f)));go_wp2_with fail
   refine jj (l2:=[c,g]) aJ aL n (by rw[<-un];exact ji d _ f) (AT d c g f _ 9 j e.at_ aN aF bp ⟨by omega,by omega⟩ bn aT.out) aM ?_;exact pQ
  subst k;have k:=Bx c aO;have n:=Z (aS.trans (congrArg (λr=>PO.bind r _) (uo d j e.at_ f)));go_wp2_with fail
  refine jj (l2:=[c,g]) aJ aL n (by rw[<-uo];exact ji d _ f) (AU d c g f _ 10 j e.at_ aN aF bp ⟨by omega,by omega⟩ bn aT.out) aM ?_;intro a5 rg v5 w5 hkd E5 hv k5 K5 Q5 z5;obtain⟨rfl,r,rfl,hb,hi⟩:=hv;go_wp2_with fail
  go_meet;exact⟨r,rg,hkd,Z ⟨k5.blk rf aC,hb,hi.mono (λb h=>⟨by unfold Bw at h;omega,h.2⟩),K5.out,Q5.out,E5.out⟩⟩
 obtain⟨r,bC,hkd,HX⟩:=hcut;obtain⟨bB,rfl⟩:=aq wc;obtain⟨b3,bK,hi,b5,b6,bt⟩:=HX.out;obtain⟨bD,bL⟩:=aq r;rw[<-bL]at hi bt;obtain⟨k,n,o,q,s,⟨t,u,x⟩,e,⟨y,z,A⟩,f,B,C,D,⟨E,F,G⟩,j,H,I,⟨K,L,M⟩,aT,⟨N,P,Q⟩,bn,⟨R,S,T⟩,bo,⟨V,W,⟨X,Y,ad⟩,bp,⟨al,am,an⟩,bq,⟨ap,ar,av⟩,br,ay,aA,aB,aE⟩⟩:=r;replace hkd:k=i:=hkd;subst hkd;have b7:=Z bL;have b9:=Z hi;have bu:Hid (J bB g 95 #[k,n,o,q,s,U t u x,U y z A,B,C,D,U E F G,H,I,U K L M,U N P Q,U R S T,V,W,U X Y ad,U al am an,U ap ar av,ay,aA,aB,aE]):=Z bK;have bv:=Z bt;have e:=bK.lt;clear bK hi bt HX bL rf aF aL aN aS aO b2 aJ;by_cases bw:k=4
 ·
  have e:(k==4)=true:=by simp[bw]
  replace bv:Hid (bs=(aR d bC [⟨#[125]⟩]).bind λ_ e=>.ok bD.it e):=Z (by rw[bv.out,if_pos bw]);clear bw;obtain⟨aV,aW,aX,aY,aZ,a0,a1,a2,a3,a4,a6,a7,a8,a9,ba,bb,bc,bd,be,bf,bg,bh,bi,bj,bm⟩:=dI bu;have aK:=λaH=>J.frozen bu aH;go_wp2_with fail
  refine aQ ai (b5.alloc _) bv (cU d c bC [⟨_⟩] _ bB _ (b6.alloc _) (cA [⟨_⟩] au)) aM ?_;intro e e e ca c6 hv m c7 c8 e;have cb:=b0 m b3;have bM:=b0 m bu;have c9:=Z (b9.kp (((Kp.refl [c] bB).alloc _).trans (m.mono ai)) aU);obtain rfl:=hv;clear m;clear aV aW aX aY aZ a0 a1 a2 a3 a4 a6 a7 a8 a9 ba bb bc bd be bf bg bh bi bj bm aK;obtain⟨aV,aW,aX,aY,aZ,a0,a1,a2,a3,a4,a6,a7,a8,a9,ba,bb,bc,bd,be,bf,bg,bh,bi,bj,bm⟩:=dI bM;have aK:=λaH=>J.frozen bM aH;clear aV aW aX aY aZ a0 a1 a2 a3 a4 a6 a7 a8 a9 ba bb bc bd be bf bg bh bi bj bm aK;have da:(#[k,n,o,q,s,U t u x,U y z A,B,C,D,U E F G,H,I,U K L M,U N P Q,U R S T,V,W,U X Y ad,U al am an,U ap ar av,ay,aA,aB,aE]:Array Value).all (·.oneCell')=true:=by simp[Value.oneCell']
  go_wp2_with (first|(refine ir rfl 95 (.tmp 3) rfl g #[k,n,o,q,s,U t u x,U y z A,B,C,D,U E F G,H,I,U K L M,U N P Q,U R S T,V,W,U X Y ad,U al am an,U ap ar av,ay,aA,aB,aE] rfl 95 bM.out _ Tryz.underlying95 rfl ak ?_)|(refine wpList_store_row rfl 95 (.tmp 2) (.tmp 59) rfl w.heap.size #[k,n,o,q,s,U t u x,U y z A,B,C,D,U E F G,H,I,U K L M,U N P Q,U R S T,V,W,U X Y ad,U al am an,U ap ar av,ay,aA,aB,aE] rfl rfl 95 #[O 0,ah,O 0,ah,ah,aa,aa,O 0,O 0,O 0,aa,ah,ah,aa,aa,aa,O 0,ah,aa,aa,aa,ah,ah,O 0,O 0] cb.out ak rfl da ?_))
  have bE:=jZ ca w.heap.size #[k,n,o,q,s,U t u x,U y z A,B,C,D,U E F G,H,I,U K L M,U N P Q,U R S T,V,W,U X Y ad,U al am an,U ap ar av,ay,aA,aB,aE];have db:=kM cb #[k,n,o,q,s,U t u x,U y z A,B,C,D,U E F G,H,I,U K L M,U N P Q,U R S T,V,W,U X Y ad,U al am an,U ap ar av,ay,aA,aB,aE];have dc:=Kp.grown c7 bE (λe bN=>by injection bN with bN;omega);have dd:=ax.grown c8 bE (λe bN=>by injection bN with bN;omega);have bN:=lS.kp c9 (Kp.grown (l:=[w.heap.size]) (Kp.refl _ ca) bE (λe bN=>by injection bN with bN;subst bN;simp)) aC;have e:=df.mono (S':=Bw w.heap.size _) bN (λb h=>⟨by have:=h.1;omega,h.2⟩);clear bN bE;refine bodyPost_ret (v:=.agg #[k,n,o,q,s,U t u x,U y z A,B,C,D,U E F G,H,I,U K L M,U N P Q,U R S T,V,W,U X Y ad,U al am an,U ap ar av,ay,aA,aB,aE]) (results_cell_row rfl _ _ w.heap.size 95 #[k,n,o,q,s,U t u x,U y z A,B,C,D,U E F G,H,I,U K L M,U N P Q,U R S T,V,W,U X Y ad,U al am an,U ap ar av,ay,aA,aB,aE] (0,0) _ ?_ db Tryz.underlying95 rfl ak) rfl ?_
  ·rfl
  rw[c6.out];exact⟨dc,_,rfl,⟨bD,rfl,by rw[b7.out];rfl,e⟩,dd⟩
 have e:(k==4)=false:=by simp[bw]
 replace bv:Hid (bs=(aR d bC [⟨#[59]⟩]).bind λ_ e=>.ok bD.it e):=Z (by rw[bv.out,if_neg bw]);clear bw;obtain⟨aV,aW,aX,aY,aZ,a0,a1,a2,a3,a4,a6,a7,a8,a9,ba,bb,bc,bd,be,bf,bg,bh,bi,bj,bm⟩:=dI bu;have aK:=λaH=>J.frozen bu aH;go_wp2_with fail
 refine aQ ai (b5.alloc _) bv (cU d c bC [⟨#[59]⟩] _ bB _ (b6.alloc _) (cA [⟨#[59]⟩] au)) aM ?_;intro d d d ca c6 hv m c7 c8 d;have cb:=b0 m b3;have bM:=b0 m bu;have c9:=Z (b9.kp (((Kp.refl [c] bB).alloc _).trans (m.mono ai)) aU);obtain rfl:=hv;clear m;clear aV aW aX aY aZ a0 a1 a2 a3 a4 a6 a7 a8 a9 ba bb bc bd be bf bg bh bi bj bm aK;obtain⟨aV,aW,aX,aY,aZ,a0,a1,a2,a3,a4,a6,a7,a8,a9,ba,bb,bc,bd,be,bf,bg,bh,bi,bj,bm⟩:=dI bM;have aK:=λaH=>J.frozen bM aH;clear aV aW aX aY aZ a0 a1 a2 a3 a4 a6 a7 a8 a9 ba bb bc bd be bf bg bh bi bj bm aK;have da:(#[k,n,o,q,s,U t u x,U y z A,B,C,D,U E F G,H,I,U K L M,U N P Q,U R S T,V,W,U X Y ad,U al am an,U ap ar av,ay,aA,aB,aE]:Array Value).all (·.oneCell')=true:=by simp[Value.oneCell']
 go_wp2_with (first|(refine ir rfl 95 (.tmp 3) rfl g #[k,n,o,q,s,U t u x,U y z A,B,C,D,U E F G,H,I,U K L M,U N P Q,U R S T,V,W,U X Y ad,U al am an,U ap ar av,ay,aA,aB,aE] rfl 95 bM.out _ Tryz.underlying95 rfl ak ?_)|(refine wpList_store_row rfl 95 (.tmp 2) (.tmp 59) rfl w.heap.size #[k,n,o,q,s,U t u x,U y z A,B,C,D,U E F G,H,I,U K L M,U N P Q,U R S T,V,W,U X Y ad,U al am an,U ap ar av,ay,aA,aB,aE] rfl rfl 95 #[O 0,ah,O 0,ah,ah,aa,aa,O 0,O 0,O 0,aa,ah,ah,aa,aa,aa,O 0,ah,aa,aa,aa,ah,ah,O 0,O 0] cb.out ak rfl da ?_))
 have bE:=jZ ca w.heap.size #[k,n,o,q,s,U t u x,U y z A,B,C,D,U E F G,H,I,U K L M,U N P Q,U R S T,V,W,U X Y ad,U al am an,U ap ar av,ay,aA,aB,aE];have db:=kM cb #[k,n,o,q,s,U t u x,U y z A,B,C,D,U E F G,H,I,U K L M,U N P Q,U R S T,V,W,U X Y ad,U al am an,U ap ar av,ay,aA,aB,aE];have dc:=Kp.grown c7 bE (λc bN=>by injection bN with bN;omega);have dd:=ax.grown c8 bE (λc bN=>by injection bN with bN;omega);have bN:=lS.kp c9 (Kp.grown (l:=[w.heap.size]) (Kp.refl _ ca) bE (λc bN=>by injection bN with bN;subst bN;simp)) aC;have c:=df.mono (S':=Bw w.heap.size _) bN (λb h=>⟨by have:=h.1;omega,h.2⟩);clear bN bE;refine bodyPost_ret (v:=.agg #[k,n,o,q,s,U t u x,U y z A,B,C,D,U E F G,H,I,U K L M,U N P Q,U R S T,V,W,U X Y ad,U al am an,U ap ar av,ay,aA,aB,aE]) (results_cell_row rfl _ _ w.heap.size 95 #[k,n,o,q,s,U t u x,U y z A,B,C,D,U E F G,H,I,U K L M,U N P Q,U R S T,V,W,U X Y ad,U al am an,U ap ar av,ay,aA,aB,aE] (0,0) _ ?_ db Tryz.underlying95 rfl ak) rfl ?_
 ·rfl
 rw[c6.out];exact⟨dc,_,rfl,⟨bD,rfl,by rw[b7.out];rfl,c⟩,dd⟩
theorem jk {w:af} {a:Nat} {d:bb} {b:aO} (e:Hid (J w a d b)) (b:aO):∃c,w.setRow a b=c/\Hid (J c a d b)/\Hid (w.grownBy c (some a)):=⟨_,rfl,kM e.out b,jZ w a b⟩
theorem cT.len (t:cT):t.cells.length=12:=rfl
structure eZ (w:af) (S:Nat->Prop) (r:cG):Prop where
 lc:dQ w r.hc r.cD
 ic:aS S r.hc
 lf:aF w 4 r.hf Fx.cells r.fixed
 iF:aS S r.hf
 lb:dQ w r.hb r.tables
 ib:aS S r.hb
 ls:aF w 12 r.hs cT.cells r.tests
 rh:aS S r.hs
theorem eZ.mono {w:af} {S S':Nat->Prop} {r:cG} (a:eZ w S r) (b:∀c,S c->S' c):eZ w S' r:=
 ⟨a.lc,a.ic.mono b,a.lf,a.iF.mono b,a.lb,a.ib.mono b,a.ls,a.rh.mono b⟩
theorem eZ.keep {w d:af} {S:Nat->Prop} {e:cG} (b:eZ w S e) {l:List Nat} (k:Kp l w d) (c:∀a∈l,¬S a):eZ d S e:=
 ⟨b.lc.kp k (λa d e f=>c a f (b.ic a d e)),b.ic,b.lf.kp k (λa d e f=>c a f (b.iF a d e)),b.iF,b.lb.kp k (λa d e f=>c a f (b.ib a d e)),b.ib,b.ls.kp k (λa d e f=>c a f (b.rh a d e)),b.rh⟩
def iu (e b:af) (g k:Nat) (i:aX) (a j:Nat) (l:List cG) (m:Ru) (n:Value->Array Value):Prop:=
 ∃(f:cG) (c:aX) (d:Nat),f.ru=m/\J b g 157 (n (U c (a+1) d))/\b.ownsRow k 64 10 (U c (a+1) d) (a+1) ((l++[f]).flatMap cG.cells)/\
  Kp (g::(Value.slice i a j).ownBlock.toList) e b/\((Value.slice c (a+1) d).ownBlock=(Value.slice i a j).ownBlock\/∃g,(Value.slice c (a+1) d).ownBlock=some g/\e.heap.size<=g)/\
  eZ b (λg=>Bw e.heap.size b.heap.size g/\some g≠(Value.slice c (a+1) d).ownBlock) f
theorem jm {v:ay} {a:Nat} (h:a∈v.ownBlock.toList):v.ownBlock=some a:=by
 cases hv:v.ownBlock with
 |none=>rw[hv]at h;simp at h
 |some a=>rw[hv]at h;simp at h;rw[h]
theorem iu.pK {c e m:af} {i d:Nat} {j:aX} {f k:Nat} {n:List cG} {g:cG} {s:bg} {o:Value->Array Value} (q:Kp [] c e) (t:c.ownsRow d 64 10 (U j f k) f s) (s:i<d) (s:d<=c.heap.size)
 (u:eZ e (Bw c.heap.size e.heap.size) g) (p:fo e m i d 64 10 cG.cells j f k n g o):iu c m i d j f k n g.ru o:=by
 obtain⟨c,d,b,e,l,r⟩:=p;have hr:=b3 t;refine⟨g,c,d,rfl,b,e,(q.mono (λ_ h=>by cases h)).trans l,r.imp id (λ⟨c,h1,d⟩=>⟨c,h1,bR q.size d⟩),(u.keep l ?_).mono ?_⟩
 ·exact tT
 intro b hS;have h1:=hS.1;have c:=hS.2;have c:=l.size;refine⟨⟨h1,by omega⟩,λa=>?_⟩;rcases r with h|⟨v,h,w⟩
 ·rw[h]at a
  have:=(hr b a.symm).2;omega
 rw[h]at a;injection a with a
 omega
def cG.flat (a:Int) (b:aw) (c d e f:Int):cG:=⟨a,b,c,aJ,[],d,aJ,[],e,f,aJ,[],aJ,[]⟩
theorem eZ.flat (a:af) (b:Nat->Prop) (c:Int) (d:aw) (e f g i:Int):eZ a b (cG.flat c d e f g i):=
 ⟨aF.none_ a 1 _,aS.none_ _ _ _,aF.none_ a 4 _,aS.none_ _ _ _,aF.none_ a 1 _,aS.none_ _ _ _,aF.none_ a 12 _,aS.none_ _ _ _⟩
def rj (c:List Tb) (a:aI):RO Ru:=
 (fC c a.at_ a.table a.attr).bind λb=>(fC c a.at_ a.other a.kA).bind λc=>RO.ap (decide (b.2.2=c.2.2)) 10 a.at_<|
  .ok {Ru.zero with kind:=3,name:=a.name,table:=b.1,col:=b.2.1,other:=c.1,lA:=c.2.1}
theorem BA (d k:Nat) (j:RI) (h:Hd) (f:List RT) (u1 u2 u3 u4 u6 u7:ay) (p:aX) (g q:Nat) (r:List cG) (c:af) (l:J c d 157 #[h.val,u1,u2,u3,u4,U p g q,u6,u7,j.at_]) (I:bI c h f) (w:c.ownsRow k 64 10 (U p g q) g (r.flatMap cG.cells)) (ag:r.length=g) (L:d<k) (ah:k<=c.heap.size) (ai:g<=1000):
 Calls Tryz.prog 120 #[aj d,.agg j.cells.toArray] c λe w'=>jh c (rj (f.map RT.tb) j.it) (λx w'=>iu c w' d k p g q r x (λx=>#[h.val,u1,u2,u3,u4,x,u6,u7,j.at_])) e w':=by
 obtain⟨ak,x⟩:=aq (rj (f.map RT.tb) j.it);rw[<-x];have M:=Z x;clear x;obtain⟨x,y,i,z,A,⟨al,am,an⟩,j,⟨ao,ar,au⟩,bx,av,aw,ax,⟨aA,aB,aC⟩,bz,B,C,⟨aD,aE,aF⟩,bA,⟨aG,aI,aJ⟩,bB,⟨aK,aL,s⟩,bC,⟨aM,aN,⟨aO,aP,aQ⟩,bD,⟨aR,aS,aT⟩,bE,⟨aU,aV,aW⟩,bF,aZ,a0,a1,a2⟩⟩:=j;have a3:=Z (show ak=(fC (f.map RT.tb) i z A).bind λb=>(fC (f.map RT.tb) i B C).bind λj=>RO.ap (decide (b.2.2=j.2.2)) 10 i<|.ok ({Ru.zero with kind:=3,name:=y,table:=b.1,col:=b.2.1,other:=j.1,lA:=j.2.1}:Ru)from M);clear M;have j:=l;clear l;have l:=j;clear j;have a4:=Z (Kp.refl [] c);have a5:=Z I;have a6:=Z l;have a7:=Z w;have a8:=Z w;show Calls Tryz.prog 120 #[aj d,.agg #[x,y,i,z,A,U al am an,U ao ar au,av,aw,ax,U aA aB aC,B,C,U aD aE aF,U aG aI aJ,U aK aL s,aM,aN,U aO aP aQ,U aR aS aT,U aU aV aW,aZ,a0,a1,a2]] c _;clear l I w;go_enter Tryz.func120,Tryz.ntmps120
 go_upto_region 1 with(fail)
 obtain⟨a9,j,D,c,l⟩:=nb c 95 _;rw[j];clear j;have N:=qk a4 c;have O:=Z (a5.same c);have ba:=Z (aH c a7);have t:=qb c a6;clear c;have P:=az t;have Q:=bN t;have bb:=J.lt t;have bf:=bj D;have bg:=bn D;go_wp2_with fail
 refine dC a3 (pI d h f z A i a9 bb P Q O) (eL N) ?_;intro a E bh bi bk m b;obtain⟨R,S,u⟩:=a;have F:E=.tuple #[R,S,u]:=m;subst F;have T:=Z (N.trans b);have bl:=Z (O.same (b.same));have bm:=Z (aH (b.same) ba);have v:=qo b t;have G:=qo b D;clear b;clear m bi P Q bf bg;go_upto_region 2 with(fail)
 have V:=az v;have W:=bN v;have bo:=J.lt v;have bp:=nk G;have bq:=o8 G;go_wp2_with fail
 refine dC bk (pI d h f B C i bh bo V W bl) (eL T) ?_;intro a E br bs X m b;obtain⟨Y,s,qk⟩:=a;have F:E=.tuple #[Y,s,qk]:=m;subst F;have H:=Z (T.trans b);have bt:=Z (aH (b.same) bm);have aa:=qo b v;have ab:=qo b G;clear b;clear m bs V W bp bq;go_upto_region 3 with(fail)
 have ac:=bN aa;have b:=aY ab;have b:=J.lt ab;have n:=Z X.out;clear X;by_cases o:u=qk
 case neg=>
  have tk:(u==qk)=false:=by simp[o]
  rw[decide_eq_false o]at n;go_wp2_with fail
  exact bv H n ac
 rw[decide_eq_true o]at n;have tk:(u==qk)=true:=by simp[o]
 go_wp2_with fail
 refine bJ H n ac λbu=>?_;clear n tk o;have ad:=Z (pJ d k (cG.flat 3 y R S Y s) i h.val u1 u2 u3 u4 u6 u7 p g q r br aa bt ag L ae ai);go_wp2_with fail
 refine ad.mono ?_;rintro e b ⟨rfl,bw⟩;clear ad;go_wp2;first|go_end0|refine bodyPost_ret (results_none rfl _ _ _) rfl ?_
 rw[bu.out];exact⟨rfl,iu.pK H a8 L ah (eZ.flat _ _ _ _ _ _ _ _) bw⟩
def iw (b:List Tb) (a:aI):RO (Int×List Int):=
 (dS b a.at_ a.table).bind λc=>RO.ap (decide (0<a.names.length)) 1 a.at_<|(dv a.at_ (dw b c).attrs [] a.names).bind λa=>.ok (c,a)
theorem ur (a:List Tb) (x:aI) (kind:Int):jJ a x kind=(iw a x).bind λp=>.ok {Ru.zero with kind:=kind,name:=x.name,table:=p.1,cD:=p.2}:=by
 unfold jJ iw;cases dS a x.at_ x.table with
 |bad b b=>rfl
 |ok b=>
  unfold RO.bind RO.ap;dsimp only;split
  ·cases dv x.at_ (dw a b).attrs [] x.names<;>rfl
  rfl
theorem ut {b:List Tb} {a:aI} {p:Int×List Int} (h:iw b a=.ok p):∃c:Nat,p.1=c/\c<b.length:=by
 unfold iw at h;cases hf:dS b a.at_ a.table with
 |bad c c=>rw[hf]at h;cases h
 |ok d=>
  rw[hf]at h;unfold RO.bind RO.ap at h;dsimp only at h;split at h
  ·cases hc:dv a.at_ (dw b d).attrs [] a.names with
   |bad a a=>rw[hc]at h;cases h
   |ok a=>rw[hc]at h;injection h with h;subst h;exact mM hf
  cases h
def rk (c:Int) (d:aw) (e:Nat) (p:Int×List Int) (v:ay) (b:af):Prop:=
 ∃a:Hd,v=.agg #[c,d,p.1,a.val,O 0,aa,O 0,O 0,aa,aa]/\dQ b a p.2/\aS (Bw e b.heap.size) a
theorem uu (k:Nat) (g:RI) (h:Hd) (f:List RT) (q:Int) (u1 u2 u3 u4 u5 u6 u7:ay) (d:af) (r:J d k 157 #[h.val,u1,u2,u3,u4,u5,u6,u7,g.at_]) (N:bI d h f) (P:b4 d g.il g.names) (aC:g.names.length<=5001):
 Calls Tryz.prog 195 #[aj k,.agg g.cells.toArray,q] d λl w'=>RP [] d (iw (f.map RT.tb) g.it) (rk q g.name d.heap.size) l w':=by
 obtain⟨w,Q⟩:=aq (iw (f.map RT.tb) g.it);rw[<-Q];have aD:=Z Q;clear Q;obtain⟨Q,x,e,R,a4,⟨a5,a6,a7⟩,g,⟨y,s,z⟩,m,a8,a9,ba,⟨bb,A,bf⟩,cp,bg,bi,⟨bk,bm,bo⟩,cq,⟨bp,bq,br⟩,cr,⟨bs,bt,bu⟩,cs,⟨bv,bw,⟨bx,bz,bA⟩,ct,⟨bB,bC,bD⟩,cu,⟨bE,bF,bG⟩,cv,bH,bJ,bK,bL⟩⟩:=g;have aE:=Z (show w=(dS (f.map RT.tb) e R).bind λb=>RO.ap (decide (0<m.length)) 1 e<|(dv e (dw (f.map RT.tb) b).attrs [] m).bind λc=>.ok (b,c)from aD);clear aD;obtain⟨aF,o,S⟩:=h;have g:=r;clear r;have r:J d k 157 #[U aF o S,u1,u2,u3,u4,u5,u6,u7,e]:=g;clear g;have bM:=Z P;have bO:=aC;have bP:=P.1.1;have g:=N.1.1;clear P aC;have bR:=Z (Kp.refl [] d);have bS:=Z N;have bT:=Z r;show Calls Tryz.prog 195 #[aj k,.agg #[Q,x,e,R,a4,U a5 a6 a7,U y s z,a8,a9,ba,U bb A bf,bg,bi,U bk bm bo,U bp bq br,U bs bt bu,bv,bw,U bx bz bA,U bB bC bD,U bE bF bG,bH,bJ,bK,bL],q] d _;clear r N;go_enter Tryz.func195,Tryz.ntmps195
 go_upto_region 1 with(fail)
 obtain⟨Q,r,N,g,P⟩:=nb d 95 _;rw[r];clear r;have Q:=qk bR g;have aC:=Z (bS.same g);have aD:=qb g bT;have a4:=Z (bM.same g);clear g;obtain⟨bU,r,bW,g,P⟩:=nc P 64 _;rw[r];clear r;have aG:=qk Q g;have aH:=Z (aC.same g);have B:=qb g aD;have aI:=qb g N;have bX:=Z (a4.same g);clear g;have aJ:=az B;have aL:=bN B;have bY:=J.lt B;have bZ:=bj aI;go_wp2_with fail
 refine dC aE (nU k ⟨aF,o,S⟩ f R e bU bY aJ aL aH) (eL aG) ?_;intro a T n aM aN C c;obtain⟨b,rfl,aO⟩:=mM aM;have D:T=.int .i64 (b:Int):=C;subst D;have V:b<f.length:=by simpa using aO
 have E:=Z (aG.trans c);have aP:=Z (aH.same (c.same));have t:=qo c B;have F:=qo c aI;have aQ:=qo c bW;have b0:=Z (bX.same c.same);clear c;clear C aM aO aJ aL bZ;go_upto_region 2 with(fail)
 have aR:=bN t;have W:=J.lt t;have X:=cd F;have g:=Z (show w=RO.ap (decide (0<m.length)) 1 e ((dv e f[b].tb.attrs [] m).bind λg=>.ok ((b:Int),g)) by rw[aN.out,lR f b V]);clear aN aE;have aS:=Z (show w=RO.ap (decide (0<s)) 1 e ((dv e f[b].tb.attrs [] m).bind λi=>.ok ((b:Int),i)) by rw[g.out,bP]);clear g;go_wp2_with fail
 refine fk E aS aR ?ah ?au
 case ah=>
  intro HX _;go_wp2;refine⟨rfl,?_⟩;rw[HX.out];exact⟨E,rfl⟩
 intro u _;clear aS X;obtain⟨i,p,b1,Y,r,B,N⟩:=lQ aP b V;have g:=Z (λ(j:af) (g:ag n j)=>ua k f[b] ⟨y,s,z⟩ m e j (aT W g.size) ((g.cell W).trans aR) ((aP.2 _ (List.getElem_mem V)).same g) (b0.same g) bO);obtain⟨tq,P⟩:=aq (f[b]);rw[<-P]at r B N g u;obtain⟨A,⟨ad,al,an⟩,Q,⟨ao,ar,aw⟩,f⟩:=tq;have aU:=r;have aV:ac n (ab i (p+b*3+1)) (U ad al an):=B;have aW:ac n (ab i (p+b*3+2)) (U ao ar aw):=N;have b3:Hid (∀f,ag n f->Calls Tryz.prog 113 #[aj k,.agg #[A,U ad al an,U ao ar aw],U y s z] f λl w'=>RP [] f (dv e (Q.map RA.at_) [] m) (dM f.heap.size 1 cj (λ_=>True)) l w'):=g;have e:Hid (w=(dv e (Q.map RA.at_) [] m).bind λe=>.ok ((b:Int),e)):=u;clear r B N g u P;have u:=e;clear e;subst b1;have e:(b:Int)<o:=ae
 have e:(0:Int)<=b:=ae
 have b5:=az t;have W:=J.lt t;have b6:=aY F;have X:=cd F;go_upto_region 3 with(fail)
 refine tr 18 b5 b6 X aU aV aW λhS=>?_;refine dg ?_;refine eh ?_;refine tk 11 hS ?_;refine tk 12 hS ?_;refine tk 13 hS ?_;refine tk 14 hS ?_;refine tk 15 hS ?_;refine aK 16 (λK M=>?_);go_simp;refine dC u (b3 n.drew ((ag.refl n).drew)) (eL (E.drew)) ?_;intro a T aX e b8 C c;have c:=Z (((Kp.refl [] n).drew).trans c);obtain⟨⟨G,H,I⟩,D,L⟩:=C;have b9:T=.slice G H I:=D;clear D;subst b9;have aZ:=(c.cell Y ai).trans aU;have a0:=(c.cell Y ai).trans aV;have a1:=(c.cell Y ai).trans aW;have ca:=Z (E.trans c);have cb:=qo c t;have a2:=qo c F;have a3:=qo c aQ;clear c;try go_simp
 have c:=az cb;have e:=aY a2;have f:=cd a2;refine M _ _ (λ_=>⟨c,e,f,aZ,a0,a1⟩) ?_;refine av ?_;have c:(λw':World=>ac w' (ab k 0) (U (some ⟨i,p,none⟩) o S)/\ac w' (am d 1) x/\ac w' (am d 6) (U y s z)/\ac w' (ab i (p+b*3)) A/\ac w' (ab i (p+b*3+1)) (U ad al an)/\ac w' (ab i (p+b*3+2)) (U ao ar aw)) aX:=⟨c,e,f,aZ,a0,a1⟩;refine tk 17 c ?_;refine b2 ?_;refine dp 18 (λK M=>?_);refine Eq.mpr (if_pos rfl) ?_;refine wp_store_row 64 (.tmp 6) (.tmp 35) rfl ((d.heap.size+1)) _ rfl rfl 64 _ a3 ak rfl bl (M _ _ ?_);refine av ?_;refine bV ?_;obtain⟨e,c,j,ax⟩:=jk a3 #[q,x,(b:Int),U G H I,O 0,aa,O 0,O 0,aa,aa];rw[c];clear c;have cc:=Z (ca.grown ax (λc aB=>.inr (by injection aB with aB;omega)));have aB:=Z ((Kp.refl [(d.heap.size+1)] aX).grown ax (λc aB=>.inl (by injection aB with aB;simp[aB])));clear ax;have ce:=az j;have cf:=aY j;have cg:=bh j;have ch:=bj j;have ci:=bn j;have ck:=bQ j;have cl:=cd j;have cm:=b7 j;have cn:=bN j;have co:=iT j;go_wp2_with fail
 refine bodyPost_ret (v:=.agg #[q,x,(b:Int),U G H I,O 0,aa,O 0,O 0,aa,aa]) ?_ rfl ?_
 ·simp[results,Tryz.results195,go_sem,ce,cf,cg,ch,ci,ck,cl,cm,cn,co]
 rw[b8.out];have b:=J.lt aQ;have b:=aB.size;exact⟨cc,_,rfl,⟨G,H,I⟩,rfl,L.1.kp aB (λi b l o=>by have b:=(L.2.2.1 i b l).1;rw[d5]at b;have:=aA o;omega),λi b l=>⟨by have c:=(L.2.2.1 i b l).1;rw[d5]at c;omega,by have c:=(L.2.2.1 i b l).2;omega⟩⟩
theorem eZ.cD {w:af} {b:Nat->Prop} {a:Hd} {l:List Int} (c:Int) (d:aw) (e f:Int) (g:dQ w a l) (i:aS b a):eZ w b ⟨c,d,e,a,l,f,aJ,[],0,0,aJ,[],aJ,[]⟩:=
 ⟨g,i,aF.none_ w 4 _,aS.none_ _ _ _,aF.none_ w 1 _,aS.none_ _ _ _,aF.none_ w 12 _,aS.none_ _ _ _⟩
theorem BB (d m:Nat) (c:RI) (h:Hd) (f:List RT) (u1 u2 u3 u4 u6 u7:ay) (k:aX) (e l:Nat) (p:List cG) (b:af) (g:J b d 157 #[h.val,u1,u2,u3,u4,U k e l,u6,u7,c.at_]) (q:bI b h f) (r:b4 b c.il c.names) (y:c.names.length<=5001) (z:b.ownsRow m 64 10 (U k e l) e (p.flatMap cG.cells)) (aT:p.length=e) (aG:d<m) (aU:m<=b.heap.size) (aV:e<=1000):
 Calls Tryz.prog 118 #[aj d,.agg c.cells.toArray] b λs n=>jh b (jJ (f.map RT.tb) c.it 1) (λt n=>iu b n d m k e l p t (λt=>#[h.val,u1,u2,u3,u4,t,u6,u7,c.at_])) s n:=by
 have A:=Z (λ(i:af) (g:J i d 157 _) (q:bI i h f) (r:b4 i c.il c.names)=>uu d c h f 1 u1 u2 u3 u4 (U k e l) u6 u7 i g q r y);obtain⟨aK,t⟩:=aq (jJ (f.map RT.tb) c.it 1);rw[<-t];rw[ur]at t;have aI:=Z t;clear t;obtain⟨aK,t⟩:=aq (iw (f.map RT.tb) c.it);have aY:=Z (λ(i:Int×List Int) (h:aK=.ok i)=>ut (show iw (f.map RT.tb) c.it=.ok i by rw[<-t];exact h));rw[<-t]at A aI;clear t;have u:=Z r;have t:=y;clear r y;obtain⟨B,i,o,C,D,⟨E,F,G⟩,c,⟨v,w,x⟩,r,H,I,L,⟨M,N,P⟩,t,Q,R,⟨S,T,V⟩,y,⟨W,X,Y⟩,be,⟨ab,ac,ad⟩,bf,⟨ag,ah,⟨ai,al,am⟩,bg,⟨an,ao,ap⟩,bh,⟨ar,au,av⟩,bi,aw,ax,az,aA⟩⟩:=c;have c:=g;clear g;have g:=c;clear c;have aZ:Hid (∀(c:af),J c d 157 #[h.val,u1,u2,u3,u4,U k e l,u6,u7,o]->bI c h f->b4 c ⟨v,w,x⟩ r->Calls Tryz.prog 195 #[aj d,.agg #[B,i,o,C,D,U E F G,U v w x,H,I,L,U M N P,Q,R,U S T V,U W X Y,U ab ac ad,ag,ah,U ai al am,U an ao ap,U ar au av,aw,ax,az,aA],O 1] c λs n=>RP [] c aK (rk 1 i c.heap.size) s n):=A;clear A;have c:=u;clear u;have u:=c;clear c;have c:=g.lt;have f:b.heap.size<=b.heap.size:=Nat.le_refl _;have a0:=Z (Kp.refl [] b);have a1:=Z q;have a2:=Z g;have a3:=Z z;have a4:=Z z;have c:=aW c;show Calls Tryz.prog 118 #[aj d,.agg #[B,i,o,C,D,U E F G,U v w x,H,I,L,U M N P,Q,R,U S T V,U W X Y,U ab ac ad,ag,ah,U ai al am,U an ao ap,U ar au av,aw,ax,az,aA]] b _;clear g q z;go_enter Tryz.func118,Tryz.ntmps118
 go_upto_region 1 with(fail)
 obtain⟨a5,f,aL,c,g⟩:=nb b 95 _;rw[f];clear f;have aB:=qk a0 c;have aM:=Z (a1.same c);have a6:=Z (aH c a3);have aN:=qb c a2;have aO:=Z (u.same c);have f:=aB.size;clear c;go_wp2_with (first|(refine ir rfl 95 (.tmp 3) rfl b.heap.size #[B,i,o,C,D,U E F G,U v w x,H,I,L,U M N P,Q,R,U S T V,U W X Y,U ab ac ad,ag,ah,U ai al am,U an ao ap,U ar au av,aw,ax,az,aA] rfl 95 aL.out _ Tryz.underlying95 rfl ak ?_)|fail)
 refine dC aI (aZ a5 aN aM aO) (eL aB) ?_;intro a f aP a7 a8 c j;obtain⟨aC,a9⟩:=a;obtain⟨⟨aD,aE,aF⟩,c,ba,aQ⟩:=c;have bb:f=.agg #[O 1,i,aC,U aD aE aF,O 0,aa,O 0,O 0,aa,aa]:=c;clear c;subst bb;have aR:=Z (aB.trans j);have c:=Z (aM.same (j.same));have c:=Z (aH (j.same) a6);have f:=qo j aN;have g:=qo j aL;have g:=Z (aO.same j.same);have g:=aR.size;clear j;have bc:=Z (aQ.low (lo':=b.heap.size) ae);clear aQ a7 aY;have b:=Z (pJ d m ⟨1,i,aC,⟨aD,aE,aF⟩,a9,0,aJ,[],0,0,aJ,[],aJ,[]⟩ o h.val u1 u2 u3 u4 u6 u7 k e l p aP f c aT aG ae aV);have aS:Hid (Calls Tryz.prog 194 #[aj d,.agg #[O 1,i,aC,U aD aE aF,O 0,aa,O 0,O 0,aa,aa]] aP _):=b;clear b;go_wp2_with fail
 refine aS.mono ?_;rintro s b ⟨rfl,bd⟩;clear aS;go_wp2;first|go_end0|refine bodyPost_ret (results_none rfl _ _ _) rfl ?_
 rw[a8.out];exact⟨rfl,iu.pK aR a4 aG aU (eZ.cD _ _ _ _ ba bc) bd⟩
theorem uv {k:Program} {f:Oper} {c:Act} {m:Exit->Act->World->Prop} {l:Act->World->Prop} (g:bb) (i j:Operand) (n:f.op=.store g i j) (b:af) (a d:aO) (e:bb)
 (o:c.eval i=.pointer (some ⟨b.heap.size,0,none⟩)) (p:c.eval j=.agg a) (q:(k.info? g).map (·.size)=some a.size) (r:d.size=a.size) (s:a.all (·.oneCell')=true)
 (t:l (c.put f.dst undef) (b.alloc (.cells a e))):f.wp k c (b.alloc (.cells d e)) l m:=by
 refine wp_store_row g i j n b.heap.size a o p e d (J.new b e d) q r s ?_;rw[World.setRow_alloc_new];exact t
theorem RO.bind_assoc {b c d:Type} (a:RO b) (f:b->RO c) (g:c->RO d):(a.bind f).bind g=a.bind λb=>(f b).bind g:=by cases a<;>rfl
theorem RO.gK {b g:Type} (a:Bool) (c d:Int) (e:RO b) (f:b->RO g):(RO.ap a c d e).bind f=RO.ap a c d (e.bind f):=by cases a<;>rfl
def n7 (c:List Tb) (a:aI):RO Ru:=
 (jJ c a 2).bind λb=>(cO a.at_ (dw c b.table).attrs a.attr).bind λd=>RO.ap (!b.cD.any λe=>decide (e=d)) 1 a.at_<|
  (fg (dw c b.table).attrs a.at_ [] a.fixed).bind λa=>.ok {b with col:=d,fixed:=a}
theorem BC (a:List Tb) (x:aI):n7 a x=(iw a x).bind λp=>(cO x.at_ (dw a p.1).attrs x.attr).bind λc=>RO.ap (!p.2.any λb=>decide (b=c)) 1 x.at_<|
 (fg (dw a p.1).attrs x.at_ [] x.fixed).bind λl=>.ok {Ru.zero with kind:=2,name:=x.name,table:=p.1,cD:=p.2,col:=c,fixed:=l}:=by
 unfold n7;rw[ur,RO.bind_assoc];rfl
theorem BD {e:Type} (c:List At) (a:Int) (l:List Fx) (b:du) (f:List du) (d:List Fx->RO e):(fg c a l (b::f)).bind d=
 (cO a c b.name).bind λe=>RO.ap (!l.any λg=>decide (g.col=e)) 9 a<|RO.ap b.v.ok 2 a<|RO.ap (decide (b.v.k=(cE c e).kind)) 10 a<|(fg c a (l++[⟨e,b.v⟩]) f).bind d:=by
 show((cO a c b.name).bind _).bind d=_;rw[RO.bind_assoc];simp only[RO.gK]
theorem Tryz.BE:(Tryz.prog.info? 68).map (λa=>(a.zero,a.size,a.bytes))=some (some (.agg #[O 0,O 0,O 0,ah]),4,40):=ak
theorem Fx.len (f:Fx):f.cells.length=4:=rfl
theorem BF (u a8:Nat) (s:RI) (h:Hd) (w:List RT) (aG aI aL aM aN aO:ay) (ax:aX) (F j:Nat) (cc:List cG) (f:af) (aB:J f u 157 #[h.val,aG,aI,aL,aM,U ax F j,aN,aO,s.at_]) (a9:bI f h w) (cd:b4 f s.il s.names) (cv:s.names.length<=5001) (c3:aF f 4 s.n5 du.cells s.fixed) (c4:s.fixed.length<=5001) (cw:f.ownsRow a8 64 10 (U ax F j) F (cc.flatMap cG.cells)) (d8:cc.length=F) (c5:u<a8) (aD:a8<=f.heap.size) (d9:F<=1000):
 Calls Tryz.prog 119 #[aj u,.agg s.cells.toArray] f λe w'=>jh f (n7 (w.map RT.tb) s.it) (λc6 w'=>iu f w' u a8 ax F j cc c6 (λcf=>#[h.val,aG,aI,aL,aM,cf,aN,aO,s.at_])) e w':=by
 obtain⟨ea,eb,ec,ed,ee⟩:=info_parts Tryz.BE;have ce:=Z (λ(b:af) (aB:J b u 157 #[h.val,aG,aI,aL,aM,U ax F j,aN,aO,s.at_]) (a9:bI b h w) (cd:b4 b s.il s.names)=>uu u s h w 2 aG aI aL aM (U ax F j) aN aO b aB a9 cd cv);obtain⟨G,cf⟩:=aq (n7 (w.map RT.tb) s.it);rw[<-cf];rw[BC]at cf;have cg:=Z cf;clear cf;obtain⟨cx,cf⟩:=aq (iw (w.map RT.tb) s.it);have ef:=Z (λ(b:Int×List Int) (h:cx=.ok b)=>ut (show iw (w.map RT.tb) s.it=.ok b by rw[<-cf];exact h));rw[<-cf]at ce cg;clear cf;obtain⟨ch,aQ,bb⟩:=h;have cf:w.length=aQ:=a9.1.1;have cy:=Z cd;have cf:=cv;have bf:=Z c3;have cf:=c4;clear cd cv c3 c4;obtain⟨bg,q,d,bk,W,⟨bm,bp,bq⟩,cv,⟨aR,aU,aV⟩,cd,br,bs,bt,⟨bu,bw,bx⟩,c3,bz,bA,⟨aW,s,a4⟩,m,⟨bB,bD,bE⟩,c4,⟨bF,bH,bK⟩,fK,⟨bL,bM,⟨bO,bP,bR⟩,fL,⟨bS,bT,bU⟩,fM,⟨bW,bX,bY⟩,fN,bZ,b0,b5,b6⟩⟩:=s;have cv:=aB;clear aB;have aB:J f u 157 #[U ch aQ bb,aG,aI,aL,aM,U ax F j,aN,aO,d]:=cv;clear cv;have cA:Hid (∀(b:af),J b u 157 #[U ch aQ bb,aG,aI,aL,aM,U ax F j,aN,aO,d]->bI b ⟨ch,aQ,bb⟩ w->b4 b ⟨aR,aU,aV⟩ cd->Calls Tryz.prog 195 #[aj u,.agg #[bg,q,d,bk,W,U bm bp bq,U aR aU aV,br,bs,bt,U bu bw bx,bz,bA,U aW s a4,U bB bD bE,U bF bH bK,bL,bM,U bO bP bR,U bS bT bU,U bW bX bY,bZ,b0,b5,b6],O 2] b λe w'=>RP [] b cx (rk 2 q b.heap.size) e w'):=ce;have cd:Hid (b4 f ⟨aR,aU,aV⟩ cd):=cy;have cy:=cd;have cd:Hid (aF f 4 ⟨aW,s,a4⟩ du.cells m):=bf;have bf:=cd;have cd:m.length<=5001:=cf;clear cf;have eg:m.length=s:=bf.1;subst eg;have s:Hid (G=cx.bind λb=>(cO d (dw (w.map RT.tb) b.1).attrs W).bind λj=>RO.ap (!b.2.any λc=>decide (c=j)) 1 d<|(fg (dw (w.map RT.tb) b.1).attrs d [] m).bind λc=>.ok {Ru.zero with kind:=2,name:=q,table:=b.1,cD:=b.2,col:=j,fixed:=c}):=cg;have cg:=s;show Calls Tryz.prog 119 #[aj u,.agg #[bg,q,d,bk,W,U bm bp bq,U aR aU aV,br,bs,bt,U bu bw bx,bz,bA,U aW m.length a4,U bB bD bE,U bF bH bK,bL,bM,U bO bP bR,U bS bT bU,U bW bX bY,bZ,b0,b5,b6]] f _;have ce:=cA;have cA:=ce;have c7:=aB.lt;have ei:=Z (Kp.refl [] f);have c8:=Z a9;have cB:=Z aB;have c9:=Z cw;have ej:=Z cw;show Calls Tryz.prog 119 #[aj u,.agg #[bg,q,d,bk,W,U bm bp bq,U aR aU aV,br,bs,bt,U bu bw bx,bz,bA,U aW m.length a4,U bB bD bE,U bF bH bK,bL,bM,U bO bP bR,U bS bT bU,U bW bX bY,bZ,b0,b5,b6]] f _;clear aB a9 cw;go_enter Tryz.func119,Tryz.ntmps119
 go_upto_region 1 with(fail)
 obtain⟨da,s,db,b,aB⟩:=nb f 95 _;rw[s];clear s;have cH:=qk ei b;have dc:=Z (c8.same b);have ek:=Z (aH b c9);have dd:=qb b cB;have el:=Z (cy.same b);have em:=Z (bf.same b);have s:=cH.size;go_wp2_with (first|(refine ir rfl 95 (.tmp 3) rfl f.heap.size #[bg,q,d,bk,W,U bm bp bq,U aR aU aV,br,bs,bt,U bu bw bx,bz,bA,U aW m.length a4,U bB bD bE,U bF bH bK,bL,bM,U bO bP bR,U bS bT bU,U bW bX bY,bZ,b0,b5,b6] rfl 95 db.out _ Tryz.underlying95 rfl ak ?_)|fail)
 refine dC cg (cA da dd dc el) (eL cH) ?_;intro a b7 r de df aZ i;obtain⟨aB,C⟩:=a;obtain⟨g,s,dh⟩:=ef _ de;have en:aB=(g:Int):=s;clear s;subst en;have cI:g<w.length:=by simpa using dh
 obtain⟨⟨P,Q,R⟩,a5,di,dj⟩:=aZ;have eo:b7=.agg #[O 2,q,(g:Int),U P Q R,O 0,aa,O 0,O 0,aa,aa]:=a5;clear a5;subst eo;have dk:=Z (cH.trans i);have ep:=Z (dc.same (i.same));have dl:=Z (aH (i.same) ek);have eq:=qo i dd;have dm:=qo i db;have es:=Z (em.same i.same);have s:=dk.size;clear i;have et:=Z (dj.low (lo':=f.heap.size) ae);have s:da.heap.size<=r.heap.size:=by have:=dm.out.lt;omega
 clear dj de dh;go_upto_region 2 with(first|(refine wpList_store_row rfl 64 (.tmp 4) (.tmp 11) rfl r.heap.size #[O 2,q,(g:Int),U P Q R,O 0,aa,O 0,O 0,aa,aa] rfl rfl 64 #[O 0,ah,O 0,aa,O 0,aa,O 0,O 0,aa,aa] (J.new r 64 #[O 0,ah,O 0,aa,O 0,aa,O 0,O 0,aa,aa]) ak rfl bl ?_;rw[World.setRow_alloc_new])|fail)
 have aB:=Z (Kp.refl [] r);obtain⟨x,s,ci,b,-⟩:=nb r 64 #[O 2,q,(g:Int),U P Q R,O 0,aa,O 0,O 0,aa,aa];rw[s];clear s;have cJ:=qk dk b;have s:=Z (ep.same b);have cK:=qb b eq;have eu:=qb b dm;have ev:=Z (es.same b);have ew:=qk aB b;have aB:=cJ.size;have aB:=J.lt ci;obtain⟨B,X,ce,cv,s,aB,a9⟩:=lQ s g cI;have b8:ch=some ⟨B,X,none⟩:=ce;have cf:=Z (show G=(cO d w[g].tb.attrs W).bind λj=>RO.ap (!C.any λc=>decide (c=j)) 1 d<|(fg w[g].tb.attrs d [] m).bind λc=>.ok ({Ru.zero with kind:=2,name:=q,table:=g,cD:=C,col:=j,fixed:=c}:Ru) by rw[df.out,lR w g cI]);clear df;have cd:=Z (c8.2 _ (List.getElem_mem cI));have cg:=Z (λ(a:aw) (n:af) (c:ag f n)=>nV u w[g] a d n (aT c7 c.size) ((c.cell (p:=(ab u 8)) c7).trans (J.cell cB 8)) (cd.same c));obtain⟨ch,w⟩:=aq (w[g]);rw[<-w]at s aB a9 cg cf cd;obtain⟨Y,⟨H,D,S⟩,I,⟨ad,al,an⟩,ch⟩:=ch;have dn:ac x (ab B (X+g*3)) Y:=s;have dq:ac x (ab B (X+g*3+1)) (U H D S):=aB;have dr:ac x (ab B (X+g*3+2)) (U ad al an):=a9;have cL:Hid (∀(a:aw) (c:af),ag f c->Calls Tryz.prog 187 #[aj u,.agg #[Y,U H D S,U ad al an],a] c λe w'=>RP [] c (cO d (I.map RA.at_) a) g7 e w'):=cg;have ds:Hid (fu f ⟨H,D,S⟩ I):=cd.1;have ex:Hid (G=(cO d (I.map RA.at_) W).bind λj=>RO.ap (!C.any λc=>decide (c=j)) 1 d<|(fg (I.map RA.at_) d [] m).bind λc=>.ok ({Ru.zero with kind:=2,name:=q,table:=g,cD:=C,col:=j,fixed:=c}:Ru)):=cf;clear s aB a9 w ce;have s:=cv;have s:(g:Int)<aQ:=ae
 have s:(0:Int)<=g:=ae
 subst b8;have ey:=Z (ds.same cJ.same);have s:=az cK;have w:=J.lt cK;have w:=bh ci;have aB:=J.lt ci;refine qU 11 s w dn dq dr λhS=>?_;refine dg ?_;refine tk 9 hS ?_;have dt:(λw':World=>ac w' (ab u 0) (U (some ⟨B,X,none⟩) aQ bb)/\ac w' (am r 2) g/\ac w' (ab B (X+g*3)) Y/\ac w' (ab B (X+g*3+1)) (U H D S)/\ac w' (ab B (X+g*3+2)) (U ad al an)) (x.drew.alloc (.cells #[ah,aa,aa] 81)):=⟨bi s,bi w,bi dn,bi dq,bi dr⟩;refine aK 10 (λK a3=>?_);go_simp;refine a3 _ _ (λ_=>dt) ?_;refine av ?_;refine b2 ?_;refine dp 11 (λK a3=>?_);refine Eq.mpr (if_pos rfl) ?_;refine uv 81 (.tmp 5) (.tmp 21) rfl x.drew _ _ 81 rfl rfl ak rfl bl (a3 _ _ ?_);refine av ?_;refine bV ?_;have ao:=Z (show J (x.drew.alloc (.cells #[Y,U H D S,U ad al an] 81)) x.heap.size 81 #[Y,U H D S,U ad al an]from J.new x.drew 81 #[Y,U H D S,U ad al an]);have b:=Z (show ag x (x.drew.alloc (.cells #[Y,U H D S,U ad al an] 81))from((ag.refl x).drew).alloc _);obtain⟨ez,s⟩:=aq (x.drew.alloc (.cells #[Y,U H D S,U ad al an] 81));rw[<-s]at ao b⊢;clear s;have cM:=qk cJ b;have eA:=qb b cK;have dv:=qb b eu;have eB:=qb b ci;have eC:=Z (ev.same b);have eD:=Z (ey.same b);have eE:=qk ew b;have cj:=ao;clear hS dt;go_upto_region 3 with(fail)
 have s:=bn dv;have s:=az cj;have s:=aY cj;have s:=bh cj;go_upto_region 3 with(fail)
 go_wp2_with fail
 refine dC ex (cL W ez cM.same) (eL cM) ?_;intro a b7 dx eF a0 aZ i;have a5:b7=.int .i64 a:=aZ;subst a5;have eG:=Z (cM.trans i);have eH:=qo i eA;have eI:=qo i dv;have cN:=qo i eB;have eJ:=qo i cj;have s:=Z (eC.same i.same);have s:=Z (eD.same i.same);have eK:=Z (eE.trans i);clear i;obtain⟨y,eM⟩:∃y:Int,y=a:=⟨a,rfl⟩;subst eM;clear aZ eF;have s:=λc=>J.frozen cN c;have s:=bn cN;go_upto_region 4 with(fail)
 have ao:=Z (lu cN y);have s:=Z (Kp.aE (p:=(am r 4)) (l:=[r.heap.size]) ai (Kp.refl [r.heap.size] dx) y);obtain⟨w,aB⟩:=aq (dx.setCell (am r 4) y);rw[<-aB]at ao s⊢;clear aB;have dy:=Z (s.old eK (λB aD n=>absurd n (by rw[aA aD];omega)));have cP:=Z (s.old eG (λB aD n=>absurd n (by rw[aA aD];omega)));have aB:=qo s eH;have dz:=qo s eI;have dA:=qo s eJ;have ck:=ao;have s:=bj ck;have s:=bn ck;have dB:=bN aB;have cQ:Hid (Calls Tryz.prog 188 #[U P Q R,y] w λe w'=>e=.returned (.bool (C.any λn=>decide (n=y)))/\w=w'):=Z (o9 ⟨P,Q,R⟩ C y w (di.same dy.same));have s:=Z (show G=RO.ap (!C.any λn=>decide (n=y)) 1 d ((fg (I.map RA.at_) d [] m).bind λn=>.ok ({Ru.zero with kind:=2,name:=q,table:=g,cD:=C,col:=y,fixed:=n}:Ru))from a0);clear a0;have a0:=s;generalize (C.any λn=>decide (n=y))=eN at cQ a0;cases eN
 case true=>
  go_wp2_with (first|(go_at_call 188;refine cQ.out.mono ?_;rintro e w' ⟨rfl,rfl⟩)|fail)
  exact bv cP a0 dB
 go_wp2_with (first|(go_at_call 188;refine cQ.out.mono ?_;rintro e w' ⟨rfl,rfl⟩)|fail)
 refine bJ cP a0 dB λs=>?_;clear a0;have w:=nl dz;obtain⟨ar,hF⟩:∃ar:List Fx->RO Ru,ar=λn=>.ok ({Ru.zero with kind:=2,name:=q,table:=g,cD:=C,col:=y,fixed:=n}:Ru):=⟨_,rfl⟩;have eO:=Z (λn=>congrFun hF n);have dD:=Z (show G=(fg (I.map RA.at_) d [] m).bind ar by rw[hF];exact s.out);clear hF s;obtain⟨T,s⟩:=aq (I.map RA.at_);have dE:=Z s;rw[<-s]at dD cL;clear s;go_wp2_with fail
 go_loopg [39] (m.length+1) (λt w wr=>∃(c:Nat) (n:List Fx) (o:aX) (s:Nat),w=.int .i64 c/\c<=m.length/\m.length-c<t/\n.length=c/\Hid (wr.ownsRow (x.heap.size+1) 68 4 (U o c s) c (n.flatMap Fx.cells))/\Hid (J wr r.heap.size 64 #[O 2,q,(g:Int),U P Q R,y,U o c s,O 0,O 0,aa,aa])/\Hid (J wr x.heap.size 81 #[Y,U H D S,U ad al an])/\Hid (J wr f.heap.size 95 #[bg,q,d,bk,W,U bm bp bq,U aR aU aV,br,bs,bt,U bu bw bx,bz,bA,U aW m.length a4,U bB bD bE,U bF bH bK,bL,bM,U bO bP bR,U bS bT bU,U bW bX bY,bZ,b0,b5,b6])/\Hid (Kp [] f wr)/\Hid (Kp [] r wr)/\x.heap.size<wr.heap.size/\Hid (G=(fg T d n (m.drop c)).bind ar))
 case atStart=>exact⟨0,[],none,0,rfl,by omega,by omega,rfl,Z ⟨rfl,.inl ⟨rfl,rfl⟩⟩,ck,dA,dz,cP,dy,J.lt dA.out,dD⟩
 obtain⟨c,n,E,L,rfl,fO,dF,dG,cl,dH,eP,eQ,a1,cR,fP,cm⟩:=hrel;have dI:=Z dF;have cS:=Z dG;clear dF dG ck;have eR:=Z (Kp.refl [] wr);have s:=Z (aH a1.same c9);have eS:=Z (bf.same a1.same);have eT:=Z (ds.same a1.same);have dJ:=qo a1 cB;have w:=a1.size;by_cases dK:c<m.length
 case neg=>
  have w:¬(c:Int)<m.length:=ae
  have o:=Z (show G=ar n by rw[cm.out,List.drop_of_length_le ae];rfl);clear cm;have s:=Z (pJ u a8 ⟨2,q,g,⟨P,Q,R⟩,C,y,⟨E,c,L⟩,n,0,0,aJ,[],aJ,[]⟩ d (U (some ⟨B,X,none⟩) aQ bb) aG aI aL aM aN aO ax F j cc wr dJ s d8 c5 ae d9);have t:Hid (Calls Tryz.prog 194 #[aj u,.agg #[O 2,q,(g:Int),U P Q R,y,U E c L,O 0,O 0,aa,aa]] wr _):=s;go_wp2_with (first|(refine ir rfl 64 (.tmp 4) rfl r.heap.size #[O 2,q,(g:Int),U P Q R,y,U E c L,O 0,O 0,aa,aa] rfl 64 dH.out _ Tryz.underlying64 rfl ak ?_)|fail)
  refine t.mono ?_;rintro e s ⟨rfl,z⟩;go_wp2;first|go_end0|refine bodyPost_ret (results_none rfl _ _ _) rfl ?_
  rw[o.out,eO.out n];have o:=cF (h:=⟨E,c,L⟩) Fx.len cS (by show c<=_;omega) cl;have g:eZ wr (Bw f.heap.size wr.heap.size) ⟨2,q,g,⟨P,Q,R⟩,C,y,⟨E,c,L⟩,n,0,0,aJ,[],aJ,[]⟩:=⟨di.same cR.same,et.mono (λB aD=>⟨aD.1,by have:=aD.2;have:=cR.out.size;omega⟩),o,(λB g e=>by have h:=b3 cl.out B (by show(Value.slice E c L).ownBlock=_;have g:E=some ⟨B,g,none⟩:=e;rw[g];rfl);exact⟨by omega,h.2⟩),aF.none_ wr 1 _,aS.none_ _ _ _,aF.none_ wr 12 _,aS.none_ _ _ _⟩;exact⟨rfl,iu.pK a1 ej c5 aD g z⟩
 have g:(c:Int)<m.length:=ae
 obtain⟨q,of,w,s,g⟩:=eS.2.2 c dK;have b8:aW=some ⟨q,of,none⟩:=w;obtain⟨s,u⟩:=aq (m[c]);rw[<-u]at g;have cT:=Z (show G=(cO d T s.name).bind λj=>RO.ap (!n.any λo=>decide (o.col=j)) 9 d<|RO.ap s.v.ok 2 d<|RO.ap (decide (s.v.k=(cE T j).kind)) 10 d<|(fg T d (n++[⟨j,s.v⟩]) (m.drop (c+1))).bind ar by
  rw[cm.out,List.drop_eq_getElem_cons dK,BD,<-u])
 clear u w cm;obtain⟨b9,⟨o,z,A⟩⟩:=s;have s:ac wr (ab q (of+c*4)) b9:=by simpa using g 0 _ rfl
 have eU:ac wr (ab q (of+c*4+1)) o:=g 1 _ rfl;have s:ac wr (ab q (of+c*4+2)) z:=g 2 _ rfl;have q:ac wr (ab q (of+c*4+3)) A:=g 3 _ rfl;have q:IntKind.i64.wrap ((c:Int)+1)=(c:Int)+1:=IntWalk.i64_in _ ae;clear g;subst b8;have g:Hid (G=(cO d T b9).bind λj=>RO.ap (!n.any λg=>decide (g.col=j)) 9 d<|RO.ap (V.ok ⟨o,z,A⟩) 2 d<|RO.ap (decide (o=(cE T j).kind)) 10 d<|(fg T d (n++[⟨j,⟨o,z,A⟩⟩]) (m.drop (c+1))).bind ar):=cT;have cT:=g;go_upto_region 8 with(first|(refine wpList_store_row rfl 238 (.tmp 7) (.tmp 42) rfl wr.heap.size #[b9,o,z,A] rfl rfl 238 #[ah,O 0,O 0,ah] (J.new wr 238 #[ah,O 0,O 0,ah]) ak rfl bl ?_;rw[World.setRow_alloc_new])|fail)
 obtain⟨eV,g,ao,b,-⟩:=nb wr 238 #[b9,o,z,A];rw[g];clear g;have cU:=qk a1 b;have eW:=qb b dJ;have eX:=qb b eQ;have e0:=qb b dH;have cn:=qb b eP;have e1:=Z (eT.same b);have e2:=qk cR b;have e3:=qk eR b;have dL:=ao;have g:=az cn;have g:=aY cn;have g:=bh cn;have g:=az dL;go_wp2_with fail
 refine dC cT (cL b9 eV cU.same) (eL cU) ?_;intro a b7 cV dM a6 aZ i;have a5:b7=.int .i64 a:=aZ;subst a5;obtain⟨t,e4,cW⟩:=pH dM;subst e4;have dN:t<I.length:=by rw[dE.out]at cW;simpa using cW
 clear cW;have e5:=Z (cU.trans i);have e6:=qo i eW;have e7:=qo i eX;have e8:=qo i e0;have e9:=qo i cn;have fa:=qo i dL;have fb:=Z (e1.same i.same);have fc:=Z (e2.trans i);have fd:=Z (e3.trans i);clear i;clear aZ dM;go_upto_region 9 with(fail)
 obtain⟨g,i,ao,b,-⟩:=nb cV 3 #[(t:Int)];rw[i];clear i;have fe:=qk e5 b;have ff:=qb b e6;have fh:=qb b e7;have dO:=qb b e8;have fi:=qb b e9;have fj:=qb b fa;have fk:=Z (fb.same b);have fl:=qk fc b;have dP:=qk fd b;have cX:=ao;have i:∀i f,(callFunc 197 i).run Tryz.prog f=.ok (.enter 197 i) f:=enters_of Tryz.func197 ak rfl;have q:=az cX;have s:=J.lt cX;have j:=bQ dO;have j:=Z (aH dP.same cl);have j:=cF (h:=⟨E,c,L⟩) Fx.len cS (by show c<=_;omega) j;have dQ:Hid (Calls Tryz.prog 196 #[U E c L,.func (.func 197) #[] #[aj cV.heap.size]] g λe w'=>e=.returned (.bool (n.any λu=>decide (u.col=(t:Int))))/\ag g w'):=
  Z (AK 197 _ i ⟨E,c,L⟩ Fx.cells (λc6=>⟨_,_,_,_,rfl⟩) _ n g j (AM (cV.heap.size) (t:Int) g s q n))
 clear j i;obtain⟨dR,g⟩:=aq (n.any λg=>decide (g.col=(t:Int)));rw[<-g]at dQ;have i:=Z (show G=RO.ap (!dR) 9 d (RO.ap (V.ok ⟨o,z,A⟩) 2 d<|RO.ap (decide (o=(cE T t).kind)) 10 d<|(fg T d (n++[⟨t,⟨o,z,A⟩⟩]) (m.drop (c+1))).bind ar) by rw[g];exact a6.out);clear g a6;have a6:=i;go_wp2_with fail
 refine dQ.mono ?_;rintro e fm ⟨rfl,M⟩;have cY:=cz fe M;have dS:=bG M ff;have fn:=bG M fh;have fo:=bG M dO;have fp:=bG M fi;have co:=bG M fj;have fq:=bG M cX;have fr:=Z (fk.same M);have fs:=cz fl M;have ft:=cz dP M;clear M;have dT:=bN dS;cases dR
 case true=>
  go_wp2_with fail
  exact bv cY a6 dT
 go_wp2_with fail
 refine bJ cY a6 dT λcp=>?_;have g:=aY co;have g:=bh co;have g:=bj co;clear a6;have dU:Hid (Rs 42 #[.agg #[o,z,A]] (.bool (V.ok ⟨o,z,A⟩))):=Z (λg=>ng ⟨o,z,A⟩ g);obtain⟨fv,g⟩:=aq (V.ok ⟨o,z,A⟩);rw[<-g]at dU cp;clear g;go_wp2_with fail
 refine(dU fm).mono ?_;rintro e dV ⟨rfl,N⟩;have ca:=cz cY N;have g:=bG N dS;have fw:=bG N fn;have fx:=bG N fo;have dW:=bG N fp;have dX:=bG N co;have dY:=bG N fq;have dZ:=Z (fr.same N);have fy:=cz fs N;have fz:=cz ft N;clear N;have cq:=bN g;cases fv
 case false=>
  go_wp2_with fail
  exact bv ca cp cq
 go_wp2_with fail
 refine bJ ca cp cq λa2=>?_;clear cp;obtain⟨ba,g,i,y,j,cr,q,s,u,w⟩:=iq dZ t dN;have b8:H=some ⟨ba,g,none⟩:=i;have g:(t:Int)<D:=by have:=dZ.out.1.1;have g:I.length=D:=this;omega
 have g:(0:Int)<=t:=ae
 obtain⟨cs,g⟩:=aq (I[t].at_.kind);rw[<-g]at cr;have d:=Z (show G=RO.ap (decide (o=cs)) 10 d ((fg T d (n++[⟨t,⟨o,z,A⟩⟩]) (m.drop (c+1))).bind ar) by rw[a2.out,dE.out,jY I t dN,<-g]);clear a2 g j q s u w i;have a2:=d;subst b8;have d0:=aY dW;have d1:=aY dX;have d2:=az dY;go_upto_region 11 with(fail)
 cases hk:decide (o=cs)with
 |false=>
  have d:(o==cs)=false:=by simpa using hk
  rw[hk]at a2;clear hk;refine kH 12 d0 d1 d2 cr λhS=>?_;refine dg ?_;refine eh ?_;refine aK 11 (λK a3=>?_);go_simp;exact bv ca.drew a2 cq
 |true=>
  have fA:(o==cs)=true:=by simpa using hk
  rw[hk]at a2;clear hk;refine kH 12 d0 d1 d2 cr λhS=>?_;refine dg ?_;refine eh ?_;refine aK 11 (λK a3=>?_);go_simp;refine bJ ca.drew a2 cq λfB=>?_;try go_simp
  refine a3 _ _ (λ_=>hS) ?_;refine av ?_;refine b2 ?_;refine bV ?_;have b:=Z ((ag.refl dV).drew);obtain⟨ct,d⟩:=aq dV.drew;rw[<-d]at b⊢;clear d;have fC:=qk ca b;have fD:=qb b fw;have d3:=qb b fx;have fE:=qb b dW;have d:=qb b dX;have g:=qb b dY;have fF:=qk fy b;have b:=qk fz b;clear hS cr fA;have i:=bQ d3;have g:=az g;have g:=aY d;have g:=bh d;have g:=bj d;have d:=J.lt d;have b:=Z (aH b.same cl);have dl:=Z (aH ((ag.refl ct).alloc (.cells #[(t:Int),o,z,A] 68)) b);have fG:=Z (cC ct #[(t:Int),o,z,A] 68 4 rfl);have cb:=b3 b;go_wp2_with (at_builtin;refine d6 _ rfl (.tmp 73) (.tmp 78) 61 rfl (x.heap.size+1) 68 ea _ 4 40 Tryz.underlying61 eb ec ed ee rfl au (U E c L) c (n.flatMap Fx.cells) rfl dl.out (ct.heap.size+1) (some ⟨ct.heap.size,0,none⟩) 1 1 (#[(t:Int),o,z,A]:Array Value).toList rfl fG.out bl b1 ae aC ?_;intro eU c0 cZ d4 fH;obtain⟨c1,c2,rfl,fI⟩:=bo cZ;have d7:=Z cZ;have a7:=Z d4;clear cZ d4 fH fI;have cu:=Z (J.grown (d3.out.alloc (.cells #[(t:Int),o,z,A] 68)) a7.out (λe=>by have:=(cb _ e.symm).1;omega));have b:ac c0 (am r 5) (U E c L):=J.cell cu.out 5;have b:=λc=>J.frozen cu.out c)
  have cZ:=Z (J.grown (fE.alloc _) a7 (λe=>by have:=(cb _ e.symm).1;omega));have d4:=Z (J.grown (fD.alloc _) a7 (λe=>by have:=(cb _ e.symm).1;omega));have fH:=Z ((fC.alloc _).grown a7 (λb d=>.inr (by have:=cb b d;omega)));have fI:=Z ((fF.alloc _).grown a7 (λb d=>.inr (by have:=cb b d;omega)));have fJ:=J.lt cZ;go_roundg (m.length-c)
  case measure=>have:=dI.out;omega
  refine⟨c+1,n++[⟨(t:Int),⟨o,z,A⟩⟩],c1,c2,by go_num,by omega,by have:=dI.out;omega,by rw[List.length_append,cS.out];rfl,Z ?_,Z (cu.out.aP 5 (U c1 (c+1) c2)),Z (cZ.out.far (by show x.heap.size≠r.heap.size;omega) _),Z (d4.out.far (by show f.heap.size≠r.heap.size;omega) _),Z (fH.out.setCell (.inr (by show f.heap.size<=r.heap.size;omega)) _),Z (fI.out.setCell (.inr (Nat.le_refl _)) _),by simpa using fJ,fB⟩;rw[List.flatMap_append];exact bC d7 (Kp.aE (p:=(am r 5)) (l:=[r.heap.size]) ai (Kp.refl _ c0) _) aC
end Go.Proofs.YteamkimbmdgdbaaGreatDoor

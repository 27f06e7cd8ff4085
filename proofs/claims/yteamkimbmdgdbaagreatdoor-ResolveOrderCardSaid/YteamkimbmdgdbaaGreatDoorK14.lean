import Derived.Test.YteamkimbmdgdbaaGreatDoorK12
import Derived.Test.YteamkimbmdgdbaaGreatDoorK13
set_option linter.unusedSimpArgs false
set_option linter.unusedVariables false
set_option maxHeartbeats 16000000
set_option maxRecDepth 100000
namespace Go.Proofs.YteamkimbmdgdbaaGreatDoor
open Go.Proofs.Tryz
open Go.RowKit
def DX (c:Nat) (d:aB) (v:aA) (b:ah):Prop:=∃a:RI,a.it=d/\v=.agg a.cells.toArray/\cW b (Bw c b.heap.size) a
def PO.All {a:Type} (b:PO a) (c:a->Prop):Prop:=∀a d,b=.ok a d->c a
theorem PO.All.bind {c d:Type} {e:PO c} {f:c->List aq->PO d} {p:d->Prop} (h:∀a us,(f a us).All p):(e.bind f).All p:=by
 intro g us b;cases e with
 |bad b a=>cases b
 |ok a i=>exact h a i g us b
theorem PO.All.ok {α:Type} {a:α} {us:List aq} {p:α->Prop} (h:p a):(PO.ok a us).All p:=by
 intro c c b;injection b with e1 e2
 subst e1;exact h
theorem PO.All.ite {b:Type} {c:Prop} [Decidable c] {d e:PO b} {a:b->Prop} (h:d.All a) (b:e.All a):(if c then d else e).All a:=by split<;>assumption
theorem PO.All.wo {b f:Type} {c:PO b} {g:b->List aq->PO f} {i:b->Prop} {b:f->Prop} (k:c.All i) (h:∀a d,i a->(g a d).All b):(c.bind g).All b:=by
 intro l d e;cases c with
 |bad e a=>cases e
 |ok a j=>exact h a j (k a j rfl) l d e
theorem ws (b:Int) (a:aB) (c:List aq):(iu b a c).All (λb=>b.kind=a.kind):=
 .bind λ_ _=>.bind λ_ _=>.bind λ_ _=>.bind λ_ _=>.bind λ_ _=>.ok rfl
theorem jz (b:Int) (a:aB) (c:List aq):(eH b a c).All (λd=>d.kind=a.kind):=by
 unfold eH;refine .ite ?_ (.ite ?_ (.ite ?_ (.ite ?_ (.ite ?_ (.ite ?_ (.ite ?_ (.ite ?_ (.ite ?_ ?_))))))))
 ·exact .bind λ_ _=>.bind λ_ _=>.bind λ_ _=>.bind λ_ _=>.ok rfl
 ·exact .bind λ_ _=>.bind λ_ _=>.ok rfl
 ·exact .bind λ_ _=>.bind λ_ _=>.bind λ_ _=>.bind λ_ _=>.ite (.bind λ_ _=>.ok rfl) (.ite (.bind λ_ _=>.bind λ_ _=>.ok rfl) (.ok rfl))
 ·exact .bind λ_ _=>.bind λ_ _=>.bind λ_ _=>.bind λ_ _=>.bind λ_ _=>.bind λ_ _=>.ok rfl
 ·exact .bind λ_ _=>.bind λ_ _=>.bind λ_ _=>.ok rfl
 ·exact ws b a c
 ·exact PO.All.wo (ws b a c) λd a a=>.bind λ_ _=>.bind λ_ _=>.ite (.bind λ_ _=>.ok a) (.ok a)
 ·exact .bind λ_ _=>.bind λ_ _=>.bind λ_ _=>.ok rfl
 ·exact .bind λ_ _=>.bind λ_ _=>.ok rfl
 exact .bind λ_ _=>.bind λ_ _=>.ok rfl
theorem jA {f q:Type} {r:Nat} {l l2:List Nat} {c d:ah} {s:Int} {t:FuncId} {u:aQ} {k:Ending->World->Prop} {m:PO q} {g:PO f} {V:f->Value->World->Prop} {w:f->List aq->PO q} {p:f->Prop} (y:∀i∈l2,i∈l\/c.heap.size<=i) (q:Kp l c d) (j:m=g.bind w) (z:g.All p) (A:Calls prog t u d (λf b=>PL l2 s r d g V f b))
 (n:∀er a b,Hid (m=.bad er a)->Hid (Kp l c b)->k (.panicked [{v:=gT er a,recovered:=false}]) b)
 (B:∀a e v b,p a->Hid (m=w a e)->V a v b->Kp l2 d b->Hid (Kp l c b)->Hid (az b r s e)->c.heap.size<=b.heap.size->k (.returned v) b):Calls prog t u d k:=by
 refine A.mono ?_;rintro f b ⟨x,h⟩;have o:=x.old q (λi n c=>by rcases y i n with h|h;exact h;omega);cases hr:g with
 |bad er a=>rw[hr]at h j;subst h;exact n er a b (Z j) (Z o)
 |ok a e=>rw[hr]at h j;obtain⟨v,rfl,C,D⟩:=h;exact B a e v b (z a e hr) (Z j) C x (Z o) (Z D) o.size
theorem DY (b:Int) (a:List aq) (l:bk):(dZ b a l).All (λb=>1<=b/\b<=l.length):=by
 intro b b h;unfold dZ at h;split at h
 ·rename_i c d
  injection h with h1 h2
  subst h1;have:=vr a l 1 c d;omega
 cases a<;>cases h
theorem DZ {e q:Type} {f:Nat} {l:List Nat} {g c:ah} {r:Int} {s:FuncId} {t:aQ} {k:Ending->World->Prop} {m:PO q} {i:PO e} {V:e->Value->World->Prop} {u:e->List aq->PO q} {p:e->Prop} (x:i.All p) (q:f∈l) (y:Kp l g c) (j:m=i.bind u) (z:Calls prog s t c (λe b=>PP r f c i V e b))
 (n:∀er a b,Hid (m=.bad er a)->Hid (Kp l g b)->k (.panicked [{v:=gT er a,recovered:=false}]) b)
 (A:∀a d v b,p a->Hid (m=u a d)->V a v b->Kp [f] c b->Hid (Kp l g b)->Hid (az b f r d)->g.heap.size<=b.heap.size->k (.returned v) b):Calls prog s t c k:=by
 refine z.mono ?_;rintro e b ⟨w,h⟩;have o:=y.trans (w.mono (λc n=>by rw[aC n];exact q));cases hr:i with
 |bad er a=>rw[hr]at h j;subst h;exact n er a b (Z j) (Z o)
 |ok a d=>rw[hr]at h j;obtain⟨v,rfl,B,C⟩:=h;exact A a d v b (x a d hr) (Z j) B w (Z o) (Z C) o.size
theorem D0 {e:Program} {g:Array Oper} {i:List Oper} {c:Oper} {d:Act} {j:ah} {k:Exit->Act->World->Prop} (n:c.guard=none) (f:aX) (a:Nat) (b:Operand) (o:c.op=.build f #[(a,b)])
 (v:aA) (p:d.eval b=v) (l:aQ) (m:e.built f [(a,v)]=some l) (h:wpList e g k i (d.put c.dst (.agg l)) j):wpList e g k (c::i) d j:=by
 have a:(#[(a,b)].map λ(a,b)=>(a,d.eval b)).toList=[(a,v)]:=by simp[p]
 refine wpList_build n f _ o (by rw[a,m];rfl) ?_;rw[a,m];exact h
theorem iK {P:Program} {i:Array Oper} {j:List Oper} {d:Oper} {f:Act} {a:ah} {k:Exit->Act->World->Prop} (n:d.guard=none) (b:aX) (l:Operand) (o:d.op=.load b l)
 (e:Nat) (c:aQ) (p:f.eval l=.pointer (some ⟨e,0,none⟩)) (m:aX) (q:a.heap[e]?=some (.cells c m (0,0))) (g:TypeDesc) (r:P.underlying b=some g) (s:(match g with|.struct _|.array _ _=>true|_=>false)=true) (l:(P.info? b).map (·.size)=some c.size)
 (h:wpList P i k j (f.put d.dst (.agg c)) a):wpList P i k (d::j) f a:=by
 refine wpList_plain n λd d=>?_;have f:(Instr.loadAt b (ak e)).run P a=.ok (.agg c) a:=by
  simp only[Instr.loadAt,Instr.sureAddr,Sem.run_bind,Sem.run_pure,Result.andThen];exact run_loadVar_row a e m b c (0,0) g q r s l
 unfold Oper.wp execOp;simp only[o,p,Sem.run_bind,f,Result.andThen_ok];exact d _ _ h
theorem kv (b:ah) (a:Nat) (cs:aQ):b.grownBy (b.setRow a cs) (some a):=
 ⟨rfl,rfl,rfl,by simp[World.setRow],λb c c=>by
  have:b≠a:=λa=>c (by rw[a]);simp[World.setRow,Array.getElem?_modify,Ne.symm this]⟩
theorem lu {b:ah} {a:Nat} {c:aX} {d:aQ} (e:aa b a c d) (cs:aQ):aa (b.setRow a cs) a c cs:=by
 have d:b.heap[a]?=some (.cells d c (0,0)):=e;show(b.setRow a cs).heap[a]?=some (.cells cs c (0,0));simp[World.setRow,Array.getElem?_modify,d]
theorem D1 {a:Int} (b:1<=a) (b:a<=10):a=1\/a=2\/a=3\/a=4\/a=5\/a=6\/a=7\/a=8\/a=9\/a=10:=af
def im (P a:Nat):Array MapEntry:=(([89,90,91,92,93,94,95,96,97,98].take a).zipIdx.map λ(b,a)=>(⟨.int .i64 (a+1:Nat),.func (.func b) #[ak P] #[],a⟩:MapEntry)).toArray
theorem D2 (P:Nat) (a:ah):(Instr.mapUpdate 194 (.map (some a.heap.size)) (J 1) (.func (.func 89) #[ak P] #[])).run prog (a.alloc (.map #[] 0))=.ok () (a.alloc (.map (im P 1) 1)):=
 d0 (P:=prog) (T:=194) underlying194 underlying3 a #[] 0 _ _ rfl rfl
theorem D3 (P:Nat) {a:ah} {b:Nat} (h:a.heap[b]?=some (.map (im P 10) 10)):(Instr.lookup 194 (.map (some b)) (J 1) false).run prog a=.ok (.func (.func 89) #[ak P] #[]) a:=
 jj (P:=prog) (T:=194) underlying194 underlying3 h (key:=.int .i64 1) rfl rfl
theorem wt (b:Int) (nm:ax) (a:Int) (c:List aq):eH b {aB.zero with kind:=1,name:=nm,at_:=a} c=oz b (RI.start 1 nm a).it c:=rfl
theorem D4 (P:Nat) (a:ah):(Instr.mapUpdate 194 (.map (some a.heap.size)) (J 2) (.func (.func 90) #[ak P] #[])).run prog (a.alloc (.map (im P 1) 1))=.ok () (a.alloc (.map (im P 2) 2)):=
 d0 (P:=prog) (T:=194) underlying194 underlying3 a (im P 1) 1 _ _ rfl rfl
theorem D5 (P:Nat) {a:ah} {b:Nat} (h:a.heap[b]?=some (.map (im P 10) 10)):(Instr.lookup 194 (.map (some b)) (J 2) false).run prog a=.ok (.func (.func 90) #[ak P] #[]) a:=
 jj (P:=prog) (T:=194) underlying194 underlying3 h (key:=.int .i64 2) rfl rfl
theorem wu (b:Int) (nm:ax) (a:Int) (c:List aq):eH b {aB.zero with kind:=2,name:=nm,at_:=a} c=oA b (RI.start 2 nm a).it c:=rfl
theorem D6 (P:Nat) (a:ah):(Instr.mapUpdate 194 (.map (some a.heap.size)) (J 3) (.func (.func 91) #[ak P] #[])).run prog (a.alloc (.map (im P 2) 2))=.ok () (a.alloc (.map (im P 3) 3)):=
 d0 (P:=prog) (T:=194) underlying194 underlying3 a (im P 2) 2 _ _ rfl rfl
theorem D7 (P:Nat) {a:ah} {b:Nat} (h:a.heap[b]?=some (.map (im P 10) 10)):(Instr.lookup 194 (.map (some b)) (J 3) false).run prog a=.ok (.func (.func 91) #[ak P] #[]) a:=
 jj (P:=prog) (T:=194) underlying194 underlying3 h (key:=.int .i64 3) rfl rfl
theorem wv (b:Int) (nm:ax) (a:Int) (c:List aq):eH b {aB.zero with kind:=3,name:=nm,at_:=a} c=oB b (RI.start 3 nm a).it c:=rfl
theorem D8 (P:Nat) (a:ah):(Instr.mapUpdate 194 (.map (some a.heap.size)) (J 4) (.func (.func 92) #[ak P] #[])).run prog (a.alloc (.map (im P 3) 3))=.ok () (a.alloc (.map (im P 4) 4)):=
 d0 (P:=prog) (T:=194) underlying194 underlying3 a (im P 3) 3 _ _ rfl rfl
theorem D9 (P:Nat) {a:ah} {b:Nat} (h:a.heap[b]?=some (.map (im P 10) 10)):(Instr.lookup 194 (.map (some b)) (J 4) false).run prog a=.ok (.func (.func 92) #[ak P] #[]) a:=
 jj (P:=prog) (T:=194) underlying194 underlying3 h (key:=.int .i64 4) rfl rfl
theorem ww (b:Int) (nm:ax) (a:Int) (c:List aq):eH b {aB.zero with kind:=4,name:=nm,at_:=a} c=oC b (RI.start 4 nm a).it c:=rfl
theorem Ea (P:Nat) (a:ah):(Instr.mapUpdate 194 (.map (some a.heap.size)) (J 5) (.func (.func 93) #[ak P] #[])).run prog (a.alloc (.map (im P 4) 4))=.ok () (a.alloc (.map (im P 5) 5)):=
 d0 (P:=prog) (T:=194) underlying194 underlying3 a (im P 4) 4 _ _ rfl rfl
theorem Eb (P:Nat) {a:ah} {b:Nat} (h:a.heap[b]?=some (.map (im P 10) 10)):(Instr.lookup 194 (.map (some b)) (J 5) false).run prog a=.ok (.func (.func 93) #[ak P] #[]) a:=
 jj (P:=prog) (T:=194) underlying194 underlying3 h (key:=.int .i64 5) rfl rfl
theorem wy (b:Int) (nm:ax) (a:Int) (c:List aq):eH b {aB.zero with kind:=5,name:=nm,at_:=a} c=oD b (RI.start 5 nm a).it c:=rfl
theorem Ec (P:Nat) (a:ah):(Instr.mapUpdate 194 (.map (some a.heap.size)) (J 6) (.func (.func 94) #[ak P] #[])).run prog (a.alloc (.map (im P 5) 5))=.ok () (a.alloc (.map (im P 6) 6)):=
 d0 (P:=prog) (T:=194) underlying194 underlying3 a (im P 5) 5 _ _ rfl rfl
theorem Ed (P:Nat) {a:ah} {b:Nat} (h:a.heap[b]?=some (.map (im P 10) 10)):(Instr.lookup 194 (.map (some b)) (J 6) false).run prog a=.ok (.func (.func 94) #[ak P] #[]) a:=
 jj (P:=prog) (T:=194) underlying194 underlying3 h (key:=.int .i64 6) rfl rfl
theorem wz (b:Int) (nm:ax) (a:Int) (c:List aq):eH b {aB.zero with kind:=6,name:=nm,at_:=a} c=iu b (RI.start 6 nm a).it c:=rfl
theorem Ee (P:Nat) (a:ah):(Instr.mapUpdate 194 (.map (some a.heap.size)) (J 7) (.func (.func 95) #[ak P] #[])).run prog (a.alloc (.map (im P 6) 6))=.ok () (a.alloc (.map (im P 7) 7)):=
 d0 (P:=prog) (T:=194) underlying194 underlying3 a (im P 6) 6 _ _ rfl rfl
theorem Ef (P:Nat) {a:ah} {b:Nat} (h:a.heap[b]?=some (.map (im P 10) 10)):(Instr.lookup 194 (.map (some b)) (J 7) false).run prog a=.ok (.func (.func 95) #[ak P] #[]) a:=
 jj (P:=prog) (T:=194) underlying194 underlying3 h (key:=.int .i64 7) rfl rfl
theorem wB (b:Int) (nm:ax) (a:Int) (c:List aq):eH b {aB.zero with kind:=7,name:=nm,at_:=a} c=oE b (RI.start 7 nm a).it c:=rfl
theorem Eg (P:Nat) (a:ah):(Instr.mapUpdate 194 (.map (some a.heap.size)) (J 8) (.func (.func 96) #[ak P] #[])).run prog (a.alloc (.map (im P 7) 7))=.ok () (a.alloc (.map (im P 8) 8)):=
 d0 (P:=prog) (T:=194) underlying194 underlying3 a (im P 7) 7 _ _ rfl rfl
theorem Eh (P:Nat) {a:ah} {b:Nat} (h:a.heap[b]?=some (.map (im P 10) 10)):(Instr.lookup 194 (.map (some b)) (J 8) false).run prog a=.ok (.func (.func 96) #[ak P] #[]) a:=
 jj (P:=prog) (T:=194) underlying194 underlying3 h (key:=.int .i64 8) rfl rfl
theorem wC (b:Int) (nm:ax) (a:Int) (c:List aq):eH b {aB.zero with kind:=8,name:=nm,at_:=a} c=oF b (RI.start 8 nm a).it c:=rfl
theorem Ei (P:Nat) (a:ah):(Instr.mapUpdate 194 (.map (some a.heap.size)) (J 9) (.func (.func 97) #[ak P] #[])).run prog (a.alloc (.map (im P 8) 8))=.ok () (a.alloc (.map (im P 9) 9)):=
 d0 (P:=prog) (T:=194) underlying194 underlying3 a (im P 8) 8 _ _ rfl rfl
theorem Ej (P:Nat) {a:ah} {b:Nat} (h:a.heap[b]?=some (.map (im P 10) 10)):(Instr.lookup 194 (.map (some b)) (J 9) false).run prog a=.ok (.func (.func 97) #[ak P] #[]) a:=
 jj (P:=prog) (T:=194) underlying194 underlying3 h (key:=.int .i64 9) rfl rfl
theorem wD (b:Int) (nm:ax) (a:Int) (c:List aq):eH b {aB.zero with kind:=9,name:=nm,at_:=a} c=oG b (RI.start 9 nm a).it c:=rfl
theorem Ek (P:Nat) (a:ah):(Instr.mapUpdate 194 (.map (some a.heap.size)) (J 10) (.func (.func 98) #[ak P] #[])).run prog (a.alloc (.map (im P 9) 9))=.ok () (a.alloc (.map (im P 10) 10)):=
 d0 (P:=prog) (T:=194) underlying194 underlying3 a (im P 9) 9 _ _ rfl rfl
theorem El (P:Nat) {a:ah} {b:Nat} (h:a.heap[b]?=some (.map (im P 10) 10)):(Instr.lookup 194 (.map (some b)) (J 10) false).run prog a=.ok (.func (.func 98) #[ak P] #[]) a:=
 jj (P:=prog) (T:=194) underlying194 underlying3 h (key:=.int .i64 10) rfl rfl
theorem wE (b:Int) (nm:ax) (a:Int) (c:List aq):eH b {aB.zero with kind:=10,name:=nm,at_:=a} c=oH b (RI.start 10 nm a).it c:=rfl
theorem Em (d:Int) (c:Nat) (e:aq) (l:List aq) (w:ah) (bx:az w c d (e::l)) (bO:b5 w ⟨some ⟨0,0,none⟩,10,10⟩ fJ) (bQ:0<c):
 Calls prog 47 #[ak c] w λbQ cc=>PP d c w (jh d (e::l)) (DX w.heap.size) bQ cc:=by
 have bQ:=bx.lt;have cd:=Z bx;have ce:=Z (Kp.refl [c] w);have bP:=Z bO;have aQ:=Z (show cb e.at_ from wa bx);obtain⟨⟨bQ,bq,cc⟩,hb,bF⟩:=id bx;have cf:ae w (ac c 0) (O bQ bq cc):=aa.cell hb 0;have cc:0<bq:=by have:=bF.lies.1;simp at this;omega
 obtain⟨b,cc,cg,de,dg,ch,ci,cj,ck⟩:=bF.first;have cl:bQ=some ⟨b,cc,none⟩:=cg;subst cl;have bQ:c≠w.heap.size:=af
 have bQ:c≠w.heap.size+1:=af
 clear hb bF bO;clear bx;have bR:=Z (show jh d (e::l)=(dZ d (e::l) fJ).bind λg f=>(if g=5 then .ok e0 f else bW d f).bind λbq f=>(eH d {aB.zero with kind:=g,name:=bq,at_:=e.at_} f).bind λi f=>(aW d f (if g=4 then[⟨_⟩]else[⟨#[59]⟩])).bind λ_ f=>.ok i f from rfl);generalize jh d (e::l)=br at bR⊢;have cm:(#[J 0,ai,e.at_,ai,ai,ab,ab,J 0,J 0,J 0,ab,ai,ai,ab,ab,ab,J 0,ai,ab,ab,ab,ai,ai,J 0,J 0]:Array Value).all (·.oneCell')=true:=bw
 have cn:prog.built 95 [(2,.int .i64 e.at_)]=some #[.int .i64 0,.string ⟨#[]⟩,.int .i64 e.at_,.string ⟨#[]⟩,.string ⟨#[]⟩,.slice none 0 0,.slice none 0 0,.int .i64 0,.int .i64 0,.int .i64 0,.slice none 0 0,.string ⟨#[]⟩,.string ⟨#[]⟩,.slice none 0 0,.slice none 0 0,.slice none 0 0,.int .i64 0,.string ⟨#[]⟩,.slice none 0 0,.slice none 0 0,.slice none 0 0,.string ⟨#[]⟩,.string ⟨#[]⟩,.int .i64 0,.int .i64 0]:=am
 have co:((w.alloc (.cells #[J 0,ai,J 0,ai,ai,ab,ab,J 0,J 0,J 0,ab,ai,ai,ab,ab,ab,J 0,ai,ab,ab,ab,ai,ai,J 0,J 0] 95)).alloc (.cells #[J 0,ai,J 0,ai,ai,ab,ab,J 0,J 0,J 0,ab,ai,ai,ab,ab,ab,J 0,ai,ab,ab,ab,ai,ai,J 0,J 0] 95)).heap[w.heap.size+1]?=some (.cells #[J 0,ai,J 0,ai,ai,ab,ab,J 0,J 0,J 0,ab,ai,ai,ab,ab,ab,J 0,ai,ab,ab,ab,ai,ai,J 0,J 0] 95 (0,0)):=by
  have h:=fK (w.alloc (.cells #[J 0,ai,J 0,ai,ai,ab,ab,J 0,J 0,J 0,ab,ai,ai,ab,ab,ab,J 0,ai,ab,ab,ab,ai,ai,J 0,J 0] 95)) (.cells #[J 0,ai,J 0,ai,ai,ab,ab,J 0,J 0,J 0,ab,ai,ai,ab,ab,ab,J 0,ai,ab,ab,ab,ai,ai,J 0,J 0] 95);exact wF
 have cp:((w.alloc (.cells #[J 0,ai,J 0,ai,ai,ab,ab,J 0,J 0,J 0,ab,ai,ai,ab,ab,ab,J 0,ai,ab,ab,ab,ai,ai,J 0,J 0] 95)).alloc (.cells #[J 0,ai,J 0,ai,ai,ab,ab,J 0,J 0,J 0,ab,ai,ai,ab,ab,ab,J 0,ai,ab,ab,ab,ai,ai,J 0,J 0] 95)).setRow (w.heap.size+1) #[J 0,ai,e.at_,ai,ai,ab,ab,J 0,J 0,J 0,ab,ai,ai,ab,ab,ab,J 0,ai,ab,ab,ab,ai,ai,J 0,J 0]=(w.alloc (.cells #[J 0,ai,J 0,ai,ai,ab,ab,J 0,J 0,J 0,ab,ai,ai,ab,ab,ab,J 0,ai,ab,ab,ab,ai,ai,J 0,J 0] 95)).alloc (.cells #[J 0,ai,e.at_,ai,ai,ab,ab,J 0,J 0,J 0,ab,ai,ai,ab,ab,ab,J 0,ai,ab,ab,ab,ai,ai,J 0,J 0] 95):=by
  have h:=World.setRow_alloc_new (w.alloc (.cells #[J 0,ai,J 0,ai,ai,ab,ab,J 0,J 0,J 0,ab,ai,ai,ab,ab,ab,J 0,ai,ab,ab,ab,ai,ai,J 0,J 0] 95)) #[J 0,ai,J 0,ai,ai,ab,ab,J 0,J 0,J 0,ab,ai,ai,ab,ab,ab,J 0,ai,ab,ab,ab,ai,ai,J 0,J 0] #[J 0,ai,e.at_,ai,ai,ab,ab,J 0,J 0,J 0,ab,ai,ai,ab,ab,ab,J 0,ai,ab,ab,ab,ai,ai,J 0,J 0] 95;exact wF
 go_enter func47,ntmps47
 go_upto_region 2 with(first|(refine D0 rfl 95 2 (.tmp 11) rfl e.at_ rfl #[J 0,ai,e.at_,ai,ai,ab,ab,J 0,J 0,J 0,ab,ai,ai,ab,ab,ab,J 0,ai,ab,ab,ab,ai,ai,J 0,J 0] cn ?_)|(refine wpList_store_row rfl 95 (.tmp 3) (.tmp 12) rfl (w.heap.size+1) #[J 0,ai,e.at_,ai,ai,ab,ab,J 0,J 0,J 0,ab,ai,ai,ab,ab,ab,J 0,ai,ab,ab,ab,ai,ai,J 0,J 0] rfl rfl 95 #[J 0,ai,J 0,ai,ai,ab,ab,J 0,J 0,J 0,ab,ai,ai,ab,ab,ab,J 0,ai,ab,ab,ab,ai,ai,J 0,J 0] co am rfl cm ?_;rw[cp]))
 have cq:=Z (aa.new w 95 #[J 0,ai,J 0,ai,ai,ab,ab,J 0,J 0,J 0,ab,ai,ai,ab,ab,ab,J 0,ai,ab,ab,ab,ai,ai,J 0,J 0]);have cr:=Z (show aa ((w.alloc (.cells #[J 0,ai,J 0,ai,ai,ab,ab,J 0,J 0,J 0,ab,ai,ai,ab,ab,ab,J 0,ai,ab,ab,ab,ai,ai,J 0,J 0] 95)).alloc (.cells #[J 0,ai,e.at_,ai,ai,ab,ab,J 0,J 0,J 0,ab,ai,ai,ab,ab,ab,J 0,ai,ab,ab,ab,ai,ai,J 0,J 0] 95)) (w.heap.size+1) 95 #[J 0,ai,e.at_,ai,ai,ab,ab,J 0,J 0,J 0,ab,ai,ai,ab,ab,ab,J 0,ai,ab,ab,ab,ai,ai,J 0,J 0] by simpa using aa.new (w.alloc (.cells #[J 0,ai,J 0,ai,ai,ab,ab,J 0,J 0,J 0,ab,ai,ai,ab,ab,ab,J 0,ai,ab,ab,ab,ai,ai,J 0,J 0] 95)) 95 #[J 0,ai,e.at_,ai,ai,ab,ab,J 0,J 0,J 0,ab,ai,ai,ab,ab,ab,J 0,ai,ab,ab,ab,ai,ai,J 0,J 0]);go_wp2_with fail
 refine DZ (DY d (e::l) fJ) aj ((ce.alloc _).alloc _) bR (vt d c (e::l) ⟨some ⟨0,0,none⟩,10,10⟩ fJ _ ((cd.alloc _).alloc _) (bP.same (((ag.refl w).alloc _).alloc _)) (λb f h=>by injection h with h;injection h with h;omega) au) aN ?_;intro i bG bx bx cs bp hv m bH bI bx;have bz:=b6 m cq;have bA:=bn m cr;obtain⟨rfl,bS,bJ⟩:=hv;clear m;replace bJ:i<=10:=cs.2;have bT:1<=i/\i<=10:=⟨bS,bJ⟩;clear bS bJ cf ch ci cj ck bP;obtain⟨aS,aU,aV,aX,aY,aZ,a0,a1,a2,a3,a4,a6,a7,a8,a9,ba,bb,bc,be,bf,bg,bh,bi,bj,bk⟩:=dW bA;have aK:=λaH=>aa.frozen bA aH;obtain⟨ct,cu,cv,cw,cx,cy,cz,cA,cB,cD,cE,cF,cG,cH,cI,cJ,cK,cL,cM,cN,cO,cP,cQ,cR,cS⟩:=dW bz;have cT:=λaH=>aa.frozen bz aH;go_upto_if 19 with(fail)
 go_cut [] (λwx=>∃(f:ax) (g:List aq),aJ f/\Hid (aa wx (w.heap.size) 95 #[J 0,ai,J 0,ai,ai,ab,ab,J 0,J 0,J 0,ab,ai,ai,ab,ab,ab,J 0,ai,ab,ab,ab,ai,ai,J 0,J 0]/\aa wx (w.heap.size+1) 95 #[i,f,e.at_,ai,ai,ab,ab,J 0,J 0,J 0,ab,ai,ai,ab,ab,ab,J 0,ai,ab,ab,ab,ai,ai,J 0,J 0]/\Kp [c] w wx/\az wx c d g/\br=(eH d {aB.zero with kind:=i,name:=f,at_:=e.at_} g).bind λg f=>(aW d f (if i=4 then[⟨#[125]⟩]else[⟨#[59]⟩])).bind λ_ f=>.ok g f))
 case first=>
  by_cases f:i=5
  ·
   have g:(i==5)=true:=by simp[f]
   replace bp:Hid (br=(eH d {aB.zero with kind:=i,name:=e0,at_:=e.at_} bG).bind λj g=>(aW d g (if i=4 then[⟨#[125]⟩]else[⟨#[59]⟩])).bind λ_ g=>.ok j g):=Z (by rw[bp.out,if_pos f];rfl);clear f;go_wp2_with fail
   go_meet;exact⟨e0,_,bY _ au,Z ⟨(aa.far bz (p:=(ac (w.heap.size+1) 0)) aG i),(bA.aR 0 i),(Kp.set (p:=(ac (w.heap.size+1) 0)) aG bH i),(az.set aG bI _),bp⟩⟩
  have t:(i==5)=false:=by simp[f]
  replace bp:Hid (br=(bW d bG).bind λbq g=>(eH d {aB.zero with kind:=i,name:=bq,at_:=e.at_} g).bind λj g=>(aW d g (if i=4 then[⟨#[125]⟩]else[⟨#[59]⟩])).bind λ_ g=>.ok j g):=Z (by rw[bp.out,if_neg f]);clear f;go_wp2_with fail
  refine aT aj (Kp.set aG bH i) bp (eJ d c bG _ (az.set aG bI _)) aN ?_;intro g f f f k hv m n o f;have q:=Z (m.blk (aa.far bz aG i) bd);have j:=Z (m.blk (jf bA i) bd);obtain⟨rfl,s⟩:=hv;clear m;clear aS aU aV aX aY aZ a0 a1 a2 a3 a4 a6 a7 a8 a9 ba bb bc be bf bg bh bi bj bk aK;have aK:=λaH=>aa.frozen j aH;have f:=aa.cell j 1;go_wp2_with fail
  go_meet;exact⟨g,_,s,Z ⟨(aa.far q (p:=(ac (w.heap.size+1) 1)) aG g),(j.aR 1 g),(Kp.set (p:=(ac (w.heap.size+1) 1)) aG n g),(az.set aG o _),k⟩⟩
 obtain⟨j,f,bl,HX⟩:=hcut;obtain⟨bm,rfl⟩:=av wc;obtain⟨bU,bV,bX,bZ,bs⟩:=HX.out;have b0:=Z bs;clear bs HX;clear bz bA bH bI bp;try clear aS aU aV aX aY aZ a0 a1 a2 a3 a4 a6 a7 a8 a9 ba bb bc be bf bg bh bi bj bk aK
 try clear ct cu cv cw cx cy cz cA cB cD cE cF cG cH cI cJ cK cL cM cN cO cP cQ cR cS cT
 have cU:=@run_makeMap prog;have cV:=D2 c bm;have cX:=D4 c bm;have cY:=D6 c bm;have cZ:=D8 c bm;have c0:=Ea c bm;have c1:=Ec c bm;have c2:=Ee c bm;have c3:=Eg c bm;have c4:=Ei c bm;have c5:=Ek c bm;go_upto_region 5 with(fail)
 go_cut [4] (λbm wx=>∃g:Nat,bm=.map (some g)/\Hid (aa wx (w.heap.size) 95 #[J 0,ai,J 0,ai,ai,ab,ab,J 0,J 0,J 0,ab,ai,ai,ab,ab,ab,J 0,ai,ab,ab,ab,ai,ai,J 0,J 0]/\aa wx (w.heap.size+1) 95 #[i,j,e.at_,ai,ai,ab,ab,J 0,J 0,J 0,ab,ai,ai,ab,ab,ab,J 0,ai,ab,ab,ab,ai,ai,J 0,J 0]/\Kp [c] w wx/\az wx c d f/\wx.heap[g]?=some (.map (im c 10) 10)))
 case first=>
  go_wp2_with fail
  go_meet;exact⟨_,rfl,Z ⟨bU.alloc _,bV.alloc _,bX.alloc _,bZ.alloc _,fK _ _⟩⟩
 obtain⟨dh,rfl,HX⟩:=hcut;obtain⟨di,rfl⟩:=av wc;obtain⟨sy,aE,aL,aM,aO⟩:=HX.out;have aP:=b0;clear HX bU bV bX bZ b0 cU cV cX cY cZ c0 c1 c2 c3 c4 c5;have b1:=aE.lt;have aI:∀b∈[c,w.heap.size+1],b∈[c]\/w.heap.size<=b:=by intro b hb;simp at hb;rcases hb with rfl|rfl;exact .inl aj;exact .inr af
 obtain⟨g,bm⟩:=av (w.heap.size+1);rw[<-bm]at aI b1 aE⊢;have bo:c<g:=af
 have bp:w.heap.size<g:=af
 clear bm;go_upto_region 6 with(fail)
 go_cut [] (λwx=>∃(r:RI) (k:List aq),r.kind=i/\Hid (aa wx (w.heap.size) 95 #[J 0,ai,J 0,ai,ai,ab,ab,J 0,J 0,J 0,ab,ai,ai,ab,ab,ab,J 0,ai,ab,ab,ab,ai,ai,J 0,J 0]/\aa wx g 95 r.cells.toArray/\mr (g+1) r wx/\Kp [c] w wx/\az wx c d k/\br=(aW d k (if i=4 then[⟨#[125]⟩]else[⟨#[59]⟩])).bind λ_ k=>.ok r.it k))
 case first=>
  have o:=ay aE;rcases D1 bT.1 bT.2 with k|k|k|k|k|k|k|k|k|k
  ·subst k
   have o:=D3 c aO;have n:=Z (aP.trans (congrArg (λr=>PO.bind r _) (wt d j e.at_ f)));go_wp2_with fail
   refine jA (l2:=[c,g]) aI aL n (by rw[<-wt];exact jz d _ f) (DO d c g f _ 1 j e.at_ aM aE bo ⟨by omega,by omega⟩ bl aQ.out) aN ?_;exact kw
  ·subst k
   have o:=D5 c aO;have n:=Z (aP.trans (congrArg (λr=>PO.bind r _) (wu d j e.at_ f)));go_wp2_with fail
   refine jA (l2:=[c,g]) aI aL n (by rw[<-wu];exact jz d _ f) (DL d c g f _ 2 j e.at_ aM aE bo ⟨by omega,by omega⟩ bl aQ.out) aN ?_;exact kw
  ·subst k
   have o:=D7 c aO;have n:=Z (aP.trans (congrArg (λr=>PO.bind r _) (wv d j e.at_ f)));go_wp2_with fail
   refine jA (l2:=[c,g]) aI aL n (by rw[<-wv];exact jz d _ f) (DR d c g f _ 3 j e.at_ aM aE bo ⟨by omega,by omega⟩ bl aQ.out) aN ?_;exact kw
  ·subst k
   have o:=D9 c aO;have n:=Z (aP.trans (congrArg (λr=>PO.bind r _) (ww d j e.at_ f)));go_wp2_with fail
   refine jA (l2:=[c,g]) aI aL n (by rw[<-ww];exact jz d _ f) (DV d c g f _ 4 j e.at_ aM aE bo ⟨by omega,by omega⟩ bl aQ.out) aN ?_;exact kw
  ·subst k
   have o:=Eb c aO;have n:=Z (aP.trans (congrArg (λr=>PO.bind r _) (wy d j e.at_ f)));go_wp2_with fail
   refine jA (l2:=[c,g]) aI aL n (by rw[<-wy];exact jz d _ f) (DM d c g f _ 5 j e.at_ aM aE bo ⟨by omega,by omega⟩ bl aQ.out) aN ?_;exact kw
  ·subst k
   have o:=Ed c aO;have n:=Z (aP.trans (congrArg (λr=>PO.bind r _) (wz d j e.at_ f)));go_wp2_with fail
   refine jA (l2:=[c,g]) aI aL n (by rw[<-wz];exact jz d _ f) (wm d c g f _ 6 j e.at_ aM aE bo ⟨by omega,by omega⟩ bl aQ.out) aN ?_;exact kw
  ·subst k
   have o:=Ef c aO;have n:=Z (aP.trans (congrArg (λr=>PO.bind r _) (wB d j e.at_ f)));go_wp2_with fail
   refine jA (l2:=[c,g]) aI aL n (by rw[<-wB];exact jz d _ f) (DW d c g f _ 7 j e.at_ aM aE bo ⟨by omega,by omega⟩ bl aQ.out) aN ?_;exact kw
  ·subst k
   have o:=Eh c aO;have n:=Z (aP.trans (congrArg (λr=>PO.bind r _) (wC d j e.at_ f)));go_wp2_with fail
   refine jA (l2:=[c,g]) aI aL n (by rw[<-wC];exact jz d _ f) (DN d c g f _ 8 j e.at_ aM aE bo ⟨by omega,by omega⟩ bl aQ.out) aN ?_;exact kw
  ·subst k
   have o:=Ej c aO;have n:=Z (aP.trans (congrArg (λr=>PO.bind r _) (wD d j e.at_ f)));go_wp2_with fail
   refine jA (l2:=[c,g]) aI aL n (by rw[<-wD];exact jz d _ f) (DP d c g f _ 9 j e.at_ aM aE bo ⟨by omega,by omega⟩ bl aQ.out) aN ?_;exact kw
  subst k;have k:=El c aO;have n:=Z (aP.trans (congrArg (λr=>PO.bind r _) (wE d j e.at_ f)));go_wp2_with fail
  refine jA (l2:=[c,g]) aI aL n (by rw[<-wE];exact jz d _ f) (DQ d c g f _ 10 j e.at_ aM aE bo ⟨by omega,by omega⟩ bl aQ.out) aN ?_;intro a5 sz v5 w5 hkd E5 hv k5 K5 Q5 z5;obtain⟨rfl,r,rfl,hb,hi⟩:=hv;go_wp2_with fail
  go_meet;exact⟨r,sz,hkd,Z ⟨k5.blk sy aF,hb,hi.mono (λb h=>⟨by unfold Bw at h;omega,h.2⟩),K5.out,Q5.out,E5.out⟩⟩
 obtain⟨r,bC,hkd,HX⟩:=hcut;obtain⟨bB,rfl⟩:=av wc;obtain⟨b2,bK,hi,b3,b4,bs⟩:=HX.out;obtain⟨bD,bL⟩:=av r;rw[<-bL]at hi bs;obtain⟨k,n,o,q,s,⟨t,u,x⟩,dj,⟨y,z,A⟩,dk,B,C,D,⟨E,F,G⟩,dl,H,I,⟨K,L,M⟩,dm,⟨N,P,Q⟩,dn,⟨R,S,T⟩,dp,⟨U,V,⟨W,X,Y⟩,dq,⟨ad,al,an⟩,dr,⟨ao,ap,ar⟩,ds,aw,aA,aC,aD⟩⟩:=r;replace hkd:k=i:=hkd;subst hkd;have b7:=Z bL;have b8:=Z hi;have bt:Hid (aa bB g 95 #[k,n,o,q,s,O t u x,O y z A,B,C,D,O E F G,H,I,O K L M,O N P Q,O R S T,U,V,O W X Y,O ad al an,O ao ap ar,aw,aA,aC,aD]):=Z bK;have bu:=Z bs;have e:=bK.lt;clear bK hi bs HX bL sy aE aL aM aP aO b1 aI;by_cases bv:k=4
 ·
  have e:(k==4)=true:=by simp[bv]
  replace bu:Hid (br=(aW d bC [⟨#[125]⟩]).bind λ_ e=>.ok bD.it e):=Z (by rw[bu.out,if_pos bv]);clear bv;obtain⟨aS,aU,aV,aX,aY,aZ,a0,a1,a2,a3,a4,a6,a7,a8,a9,ba,bb,bc,be,bf,bg,bh,bi,bj,bk⟩:=dW bt;have aK:=λaH=>aa.frozen bt aH;go_wp2_with fail
  refine aT aj (b3.alloc _) bu (df d c bC [⟨_⟩] _ bB _ (b4.alloc _) (cC [⟨_⟩] au)) aN ?_;intro e e e b9 c6 hv m c7 c8 e;have ca:=b6 m b2;have bM:=b6 m bt;have c9:=Z (b8.kp (((Kp.refl [c] bB).alloc _).trans (m.mono aj)) bd);obtain rfl:=hv;clear m;clear aS aU aV aX aY aZ a0 a1 a2 a3 a4 a6 a7 a8 a9 ba bb bc be bf bg bh bi bj bk aK;obtain⟨aS,aU,aV,aX,aY,aZ,a0,a1,a2,a3,a4,a6,a7,a8,a9,ba,bb,bc,be,bf,bg,bh,bi,bj,bk⟩:=dW bM;have aK:=λaH=>aa.frozen bM aH;clear aS aU aV aX aY aZ a0 a1 a2 a3 a4 a6 a7 a8 a9 ba bb bc be bf bg bh bi bj bk aK;have da:(#[k,n,o,q,s,O t u x,O y z A,B,C,D,O E F G,H,I,O K L M,O N P Q,O R S T,U,V,O W X Y,O ad al an,O ao ap ar,aw,aA,aC,aD]:Array Value).all (·.oneCell')=true:=by simp[Value.oneCell']
  go_wp2_with (first|(refine iK rfl 95 (.tmp 3) rfl g #[k,n,o,q,s,O t u x,O y z A,B,C,D,O E F G,H,I,O K L M,O N P Q,O R S T,U,V,O W X Y,O ad al an,O ao ap ar,aw,aA,aC,aD] rfl 95 bM.out _ underlying95 rfl am ?_)|(refine wpList_store_row rfl 95 (.tmp 2) (.tmp 59) rfl w.heap.size #[k,n,o,q,s,O t u x,O y z A,B,C,D,O E F G,H,I,O K L M,O N P Q,O R S T,U,V,O W X Y,O ad al an,O ao ap ar,aw,aA,aC,aD] rfl rfl 95 #[J 0,ai,J 0,ai,ai,ab,ab,J 0,J 0,J 0,ab,ai,ai,ab,ab,ab,J 0,ai,ab,ab,ab,ai,ai,J 0,J 0] ca.out am rfl da ?_))
  have bE:=kv b9 w.heap.size #[k,n,o,q,s,O t u x,O y z A,B,C,D,O E F G,H,I,O K L M,O N P Q,O R S T,U,V,O W X Y,O ad al an,O ao ap ar,aw,aA,aC,aD];have db:=lu ca #[k,n,o,q,s,O t u x,O y z A,B,C,D,O E F G,H,I,O K L M,O N P Q,O R S T,U,V,O W X Y,O ad al an,O ao ap ar,aw,aA,aC,aD];have dc:=Kp.grown c7 bE (λe bN=>by injection bN with bN;omega);have dd:=az.grown c8 bE (λe bN=>by injection bN with bN;omega);have bN:=mr.kp c9 (Kp.grown (l:=[w.heap.size]) (Kp.refl _ b9) bE (λe bN=>by injection bN with bN;subst bN;simp)) aF;have e:=cW.mono (S':=Bw w.heap.size _) bN (λb h=>⟨by have:=h.1;omega,h.2⟩);clear bN bE;refine bodyPost_ret (v:=.agg #[k,n,o,q,s,O t u x,O y z A,B,C,D,O E F G,H,I,O K L M,O N P Q,O R S T,U,V,O W X Y,O ad al an,O ao ap ar,aw,aA,aC,aD]) (results_cell_row rfl _ _ w.heap.size 95 #[k,n,o,q,s,O t u x,O y z A,B,C,D,O E F G,H,I,O K L M,O N P Q,O R S T,U,V,O W X Y,O ad al an,O ao ap ar,aw,aA,aC,aD] (0,0) _ ?_ db underlying95 rfl am) rfl ?_
  ·rfl
  rw[c6.out];exact⟨dc,_,rfl,⟨bD,rfl,by rw[b7.out];rfl,e⟩,dd⟩
 have e:(k==4)=false:=by simp[bv]
 replace bu:Hid (br=(aW d bC [⟨#[59]⟩]).bind λ_ e=>.ok bD.it e):=Z (by rw[bu.out,if_neg bv]);clear bv;obtain⟨aS,aU,aV,aX,aY,aZ,a0,a1,a2,a3,a4,a6,a7,a8,a9,ba,bb,bc,be,bf,bg,bh,bi,bj,bk⟩:=dW bt;have aK:=λaH=>aa.frozen bt aH;go_wp2_with fail
 refine aT aj (b3.alloc _) bu (df d c bC [⟨#[59]⟩] _ bB _ (b4.alloc _) (cC [⟨#[59]⟩] au)) aN ?_;intro d d d b9 c6 hv m c7 c8 d;have ca:=b6 m b2;have bM:=b6 m bt;have c9:=Z (b8.kp (((Kp.refl [c] bB).alloc _).trans (m.mono aj)) bd);obtain rfl:=hv;clear m;clear aS aU aV aX aY aZ a0 a1 a2 a3 a4 a6 a7 a8 a9 ba bb bc be bf bg bh bi bj bk aK;obtain⟨aS,aU,aV,aX,aY,aZ,a0,a1,a2,a3,a4,a6,a7,a8,a9,ba,bb,bc,be,bf,bg,bh,bi,bj,bk⟩:=dW bM;have aK:=λaH=>aa.frozen bM aH;clear aS aU aV aX aY aZ a0 a1 a2 a3 a4 a6 a7 a8 a9 ba bb bc be bf bg bh bi bj bk aK;have da:(#[k,n,o,q,s,O t u x,O y z A,B,C,D,O E F G,H,I,O K L M,O N P Q,O R S T,U,V,O W X Y,O ad al an,O ao ap ar,aw,aA,aC,aD]:Array Value).all (·.oneCell')=true:=by simp[Value.oneCell']
 go_wp2_with (first|(refine iK rfl 95 (.tmp 3) rfl g #[k,n,o,q,s,O t u x,O y z A,B,C,D,O E F G,H,I,O K L M,O N P Q,O R S T,U,V,O W X Y,O ad al an,O ao ap ar,aw,aA,aC,aD] rfl 95 bM.out _ underlying95 rfl am ?_)|(refine wpList_store_row rfl 95 (.tmp 2) (.tmp 59) rfl w.heap.size #[k,n,o,q,s,O t u x,O y z A,B,C,D,O E F G,H,I,O K L M,O N P Q,O R S T,U,V,O W X Y,O ad al an,O ao ap ar,aw,aA,aC,aD] rfl rfl 95 #[J 0,ai,J 0,ai,ai,ab,ab,J 0,J 0,J 0,ab,ai,ai,ab,ab,ab,J 0,ai,ab,ab,ab,ai,ai,J 0,J 0] ca.out am rfl da ?_))
 have bE:=kv b9 w.heap.size #[k,n,o,q,s,O t u x,O y z A,B,C,D,O E F G,H,I,O K L M,O N P Q,O R S T,U,V,O W X Y,O ad al an,O ao ap ar,aw,aA,aC,aD];have db:=lu ca #[k,n,o,q,s,O t u x,O y z A,B,C,D,O E F G,H,I,O K L M,O N P Q,O R S T,U,V,O W X Y,O ad al an,O ao ap ar,aw,aA,aC,aD];have dc:=Kp.grown c7 bE (λc bN=>by injection bN with bN;omega);have dd:=az.grown c8 bE (λc bN=>by injection bN with bN;omega);have bN:=mr.kp c9 (Kp.grown (l:=[w.heap.size]) (Kp.refl _ b9) bE (λc bN=>by injection bN with bN;subst bN;simp)) aF;have c:=cW.mono (S':=Bw w.heap.size _) bN (λb h=>⟨by have:=h.1;omega,h.2⟩);clear bN bE;refine bodyPost_ret (v:=.agg #[k,n,o,q,s,O t u x,O y z A,B,C,D,O E F G,H,I,O K L M,O N P Q,O R S T,U,V,O W X Y,O ad al an,O ao ap ar,aw,aA,aC,aD]) (results_cell_row rfl _ _ w.heap.size 95 #[k,n,o,q,s,O t u x,O y z A,B,C,D,O E F G,H,I,O K L M,O N P Q,O R S T,U,V,O W X Y,O ad al an,O ao ap ar,aw,aA,aC,aD] (0,0) _ ?_ db underlying95 rfl am) rfl ?_
 ·rfl
 rw[c6.out];exact⟨dc,_,rfl,⟨bD,rfl,by rw[b7.out];rfl,c⟩,dd⟩
theorem mu {w:ah} {a:Nat} {d:aX} {b:aQ} (e:Hid (aa w a d b)) (b:aQ):∃c,w.setRow a b=c/\Hid (aa c a d b)/\Hid (w.grownBy c (some a)):=⟨_,rfl,lu e.out b,kv w a b⟩
theorem cG.len (t:cG):t.cells.length=12:=rfl
structure eU (w:ah) (S:Nat->Prop) (r:cn):Prop where
 lc:cY w r.hc r.cQ
 ic:bc S r.hc
 lf:aE w 4 r.hf Fx.cells r.fixed
 iF:bc S r.hf
 lb:cY w r.hb r.tables
 ib:bc S r.hb
 ls:aE w 12 r.hs cG.cells r.tests
 sA:bc S r.hs
theorem eU.mono {w:ah} {S S':Nat->Prop} {r:cn} (a:eU w S r) (b:∀c,S c->S' c):eU w S' r:=
 ⟨a.lc,a.ic.mono b,a.lf,a.iF.mono b,a.lb,a.ib.mono b,a.ls,a.sA.mono b⟩
theorem eU.keep {w d:ah} {S:Nat->Prop} {e:cn} (b:eU w S e) {l:List Nat} (k:Kp l w d) (c:∀a∈l,¬S a):eU d S e:=
 ⟨b.lc.kp k (λa d e f=>c a f (b.ic a d e)),b.ic,b.lf.kp k (λa d e f=>c a f (b.iF a d e)),b.iF,b.lb.kp k (λa d e f=>c a f (b.ib a d e)),b.ib,b.ls.kp k (λa d e f=>c a f (b.sA a d e)),b.sA⟩
def iL (e b:ah) (g k:Nat) (i:aU) (a j:Nat) (l:List cn) (m:Ru) (n:Value->Array Value):Prop:=
 ∃(f:cn) (c:aU) (d:Nat),f.ru=m/\aa b g 157 (n (O c (a+1) d))/\b.ownsRow k 64 10 (O c (a+1) d) (a+1) ((l++[f]).flatMap cn.cells)/\
  Kp (g::(Value.slice i a j).ownBlock.toList) e b/\((Value.slice c (a+1) d).ownBlock=(Value.slice i a j).ownBlock\/∃g,(Value.slice c (a+1) d).ownBlock=some g/\e.heap.size<=g)/\
  eU b (λg=>Bw e.heap.size b.heap.size g/\some g≠(Value.slice c (a+1) d).ownBlock) f
theorem jB {v:aA} {a:Nat} (h:a∈v.ownBlock.toList):v.ownBlock=some a:=by
 cases hv:v.ownBlock with
 |none=>rw[hv]at h;simp at h
 |some b=>rw[hv]at h;simp at h;rw[h]
theorem iL.qK {a e m:ah} {i c:Nat} {j:aU} {f k:Nat} {n:List cn} {g:cn} {s:aP} {o:Value->Array Value} (q:Kp [] a e) (t:a.ownsRow c 64 10 (O j f k) f s) (s:i<c) (s:c<=a.heap.size)
 (u:eU e (Bw a.heap.size e.heap.size) g) (p:fP e m i c 64 10 cn.cells j f k n g o):iL a m i c j f k n g.ru o:=by
 obtain⟨v,w,b,x,l,r⟩:=p;have hr:=b2 t;refine⟨g,v,w,rfl,b,x,(q.mono (λ_ h=>by cases h)).trans l,r.imp id (λ⟨a,h1,c⟩=>⟨a,h1,bJ q.size c⟩),(u.keep l ?_).mono ?_⟩
 ·exact sB
 intro b hS;have h1:=hS.1;have a:=hS.2;have a:=l.size;refine⟨⟨h1,by omega⟩,λd=>?_⟩;rcases r with h|⟨y,h,z⟩
 ·rw[h]at d
  have:=(hr b d.symm).2;omega
 rw[h]at d;injection d with d
 omega
def cn.flat (a:Int) (b:ax) (c d e f:Int):cn:=⟨a,b,c,aL,[],d,aL,[],e,f,aL,[],aL,[]⟩
theorem eU.flat (a:ah) (b:Nat->Prop) (c:Int) (d:ax) (e f g i:Int):eU a b (cn.flat c d e f g i):=
 ⟨aE.none_ a 1 _,bc.none_ _ _ _,aE.none_ a 4 _,bc.none_ _ _ _,aE.none_ a 1 _,bc.none_ _ _ _,aE.none_ a 12 _,bc.none_ _ _ _⟩
def sC (d:List Tb) (a:aB):RO Ru:=
 (fT d a.at_ a.table a.attr).bind λb=>(fT d a.at_ a.other a.k6).bind λc=>RO.ap (decide (b.2.2=c.2.2)) 10 a.at_<|
  .ok {Ru.zero with kind:=3,name:=a.name,table:=b.1,col:=b.2.1,other:=c.1,l7:=c.2.1}
theorem Eo (d k:Nat) (j:RI) (h:Hd) (f:List RT) (u1 u2 u3 u4 u6 u7:aA) (p:aU) (g q:Nat) (r:List cn) (c:ah) (l:aa c d 157 #[h.val,u1,u2,u3,u4,O p g q,u6,u7,j.at_]) (I:bI c h f) (w:c.ownsRow k 64 10 (O p g q) g (r.flatMap cn.cells)) (ae:r.length=g) (J:d<k) (ag:k<=c.heap.size) (ai:g<=1000):
 Calls prog 120 #[ak d,.agg j.cells.toArray] c λe w'=>jy c (sC (f.map RT.tb) j.it) (λx w'=>iL c w' d k p g q r x (λx=>#[h.val,u1,u2,u3,u4,x,u6,u7,j.at_])) e w':=by
 obtain⟨aj,x⟩:=av (sC (f.map RT.tb) j.it);rw[<-x];have L:=Z x;clear x;obtain⟨al,y,i,z,A,⟨am,an,ao⟩,bx,⟨aq,ar,au⟩,bz,aw,ax,az,⟨aB,aC,aD⟩,bA,B,C,⟨aE,aF,aG⟩,bB,⟨aH,aI,aJ⟩,bC,⟨aL,aM,s⟩,bD,⟨aN,aO,⟨aP,aQ,aR⟩,bE,⟨aT,aV,aW⟩,bF,⟨aX,aY,aZ⟩,bG,a0,a1,a2,a3⟩⟩:=j;have a4:=Z (show aj=(fT (f.map RT.tb) i z A).bind λb=>(fT (f.map RT.tb) i B C).bind λm=>RO.ap (decide (b.2.2=m.2.2)) 10 i<|.ok ({Ru.zero with kind:=3,name:=y,table:=b.1,col:=b.2.1,other:=m.1,l7:=m.2.1}:Ru)from L);clear L;have j:=l;clear l;have l:=j;clear j;have a5:=Z (Kp.refl [] c);have a6:=Z I;have a7:=Z l;have a8:=Z w;have a9:=Z w;show Calls prog 120 #[ak d,.agg #[al,y,i,z,A,O am an ao,O aq ar au,aw,ax,az,O aB aC aD,B,C,O aE aF aG,O aH aI aJ,O aL aM s,aN,aO,O aP aQ aR,O aT aV aW,O aX aY aZ,a0,a1,a2,a3]] c _;clear l I w;go_enter func120,ntmps120
 go_upto_region 1 with(fail)
 obtain⟨ba,j,D,c,l⟩:=nb c 95 _;rw[j];clear j;have M:=qk a5 c;have N:=Z (a6.same c);have bb:=Z (aK c a8);have t:=qb c a7;clear c;have P:=ay t;have Q:=b4 t;have bc:=aa.lt t;have bd:=bi D;have bh:=bl D;go_wp2_with fail
 refine dQ a4 (qI d h f z A i ba bc P Q N) (fb M) ?_;intro a E bj bk bm m b;obtain⟨R,S,u⟩:=a;have F:E=.tuple #[R,S,u]:=m;subst F;have T:=Z (M.trans b);have bn:=Z (N.same (b.same));have bo:=Z (aK (b.same) bb);have v:=qo b t;have G:=qo b D;clear b;clear m bk P Q bd bh;go_upto_region 2 with(fail)
 have U:=ay v;have V:=b4 v;have bp:=aa.lt v;have bq:=ov G;have br:=p8 G;go_wp2_with fail
 refine dQ bm (qI d h f B C i bj bp U V bn) (fb T) ?_;intro a E bs bt W m b;obtain⟨X,s,qk⟩:=a;have F:E=.tuple #[X,s,qk]:=m;subst F;have H:=Z (T.trans b);have bu:=Z (aK (b.same) bo);have Y:=qo b v;have ab:=qo b G;clear b;clear m bt U V bq br;go_upto_region 3 with(fail)
 have ac:=b4 Y;have b:=aS ab;have b:=aa.lt ab;have n:=Z W.out;clear W;by_cases o:u=qk
 case neg=>
  have tk:(u==qk)=false:=by simp[o]
  rw[decide_eq_false o]at n;go_wp2_with fail
  exact b1 H n ac
 rw[decide_eq_true o]at n;have tk:(u==qk)=true:=by simp[o]
 go_wp2_with fail
 refine bV H n ac λbv=>?_;clear n tk o;have ad:=Z (qJ d k (cn.flat 3 y R S X s) i h.val u1 u2 u3 u4 u6 u7 p g q r bs Y bu ae J af ai);go_wp2_with fail
 refine ad.mono ?_;rintro e b ⟨rfl,bw⟩;clear ad;go_wp2;first|go_end0|refine bodyPost_ret (results_none rfl _ _ _) rfl ?_
 rw[bv.out];exact⟨rfl,iL.qK H a9 J ag (eU.flat _ _ _ _ _ _ _ _) bw⟩
def iM (b:List Tb) (a:aB):RO (Int×List Int):=
 (d1 b a.at_ a.table).bind λc=>RO.ap (decide (0<a.names.length)) 1 a.at_<|(dA a.at_ (dB b c).attrs [] a.names).bind λa=>.ok (c,a)
theorem wG (a:List Tb) (x:aB) (kind:Int):jk a x kind=(iM a x).bind λp=>.ok {Ru.zero with kind:=kind,name:=x.name,table:=p.1,cQ:=p.2}:=by
 unfold jk iM;cases d1 a x.at_ x.table with
 |bad b c=>rfl
 |ok b=>
  unfold RO.bind RO.ap;dsimp only;split
  ·cases dA x.at_ (dB a b).attrs [] x.names<;>rfl
  rfl
theorem wH {b:List Tb} {a:aB} {p:Int×List Int} (h:iM b a=.ok p):∃c:Nat,p.1=c/\c<b.length:=by
 unfold iM at h;cases hf:d1 b a.at_ a.table with
 |bad d e=>rw[hf]at h;cases h
 |ok d=>
  rw[hf]at h;unfold RO.bind RO.ap at h;dsimp only at h;split at h
  ·cases hc:dA a.at_ (dB b d).attrs [] a.names with
   |bad e f=>rw[hc]at h;cases h
   |ok e=>rw[hc]at h;injection h with h;subst h;exact ny hf
  cases h
def sD (c:Int) (d:ax) (e:Nat) (p:Int×List Int) (v:aA) (b:ah):Prop:=
 ∃a:Hd,v=.agg #[c,d,p.1,a.val,J 0,ab,J 0,J 0,ab,ab]/\cY b a p.2/\bc (Bw e b.heap.size) a
theorem wI (k:Nat) (g:RI) (h:Hd) (f:List RT) (q:Int) (u1 u2 u3 u4 u5 u6 u7:aA) (d:ah) (r:aa d k 157 #[h.val,u1,u2,u3,u4,u5,u6,u7,g.at_]) (M:bI d h f) (N:b5 d g.hQ g.names) (aG:g.names.length<=5001):
 Calls prog 195 #[ak k,.agg g.cells.toArray,q] d λl w'=>RP [] d (iM (f.map RT.tb) g.it) (sD q g.name d.heap.size) l w':=by
 obtain⟨w,P⟩:=av (iM (f.map RT.tb) g.it);rw[<-P];have aH:=Z P;clear P;obtain⟨bb,x,e,Q,bc,⟨bd,bh,bj⟩,cw,⟨y,s,z⟩,m,bk,bm,bn,⟨bo,A,bp⟩,cx,bq,br,⟨bs,bt,bu⟩,cy,⟨bv,bx,bz⟩,cz,⟨bA,bB,bC⟩,cA,⟨bD,bE,⟨bG,bH,bJ⟩,cB,⟨bK,bL,bN⟩,cC,⟨bO,bP,bQ⟩,cD,bR,bS,bT,bV⟩⟩:=g;have aI:=Z (show w=(d1 (f.map RT.tb) e Q).bind λb=>RO.ap (decide (0<m.length)) 1 e<|(dA e (dB (f.map RT.tb) b).attrs [] m).bind λc=>.ok (b,c)from aH);clear aH;obtain⟨aJ,o,R⟩:=h;have g:=r;clear r;have r:aa d k 157 #[O aJ o R,u1,u2,u3,u4,u5,u6,u7,e]:=g;clear g;have bW:=Z N;have bX:=aG;have bY:=N.1.1;have g:=M.1.1;clear N aG;have b0:=Z (Kp.refl [] d);have b1:=Z M;have b2:=Z r;show Calls prog 195 #[ak k,.agg #[bb,x,e,Q,bc,O bd bh bj,O y s z,bk,bm,bn,O bo A bp,bq,br,O bs bt bu,O bv bx bz,O bA bB bC,bD,bE,O bG bH bJ,O bK bL bN,O bO bP bQ,bR,bS,bT,bV],q] d _;clear r M;go_enter func195,ntmps195
 go_upto_region 1 with(fail)
 obtain⟨P,r,M,g,N⟩:=nb d 95 _;rw[r];clear r;have P:=qk b0 g;have aG:=Z (b1.same g);have aH:=qb g b2;have bb:=Z (bW.same g);clear g;obtain⟨b6,r,b8,g,N⟩:=nc N 64 _;rw[r];clear r;have aK:=qk P g;have aL:=Z (aG.same g);have B:=qb g aH;have aN:=qb g M;have b9:=Z (bb.same g);clear g;have aO:=ay B;have aP:=b4 B;have ca:=aa.lt B;have cb:=bi aN;go_wp2_with fail
 refine dQ aI (o1 k ⟨aJ,o,R⟩ f Q e b6 ca aO aP aL) (fb aK) ?_;intro a S n aQ aR C c;obtain⟨b,rfl,aT⟩:=ny aQ;have D:S=.int .i64 (b:Int):=C;subst D;have T:b<f.length:=by simpa using aT
 have E:=Z (aK.trans c);have aU:=Z (aL.same (c.same));have t:=qo c B;have F:=qo c aN;have aW:=qo c b8;have cc:=Z (b9.same c.same);clear c;clear C aQ aT aO aP cb;go_upto_region 2 with(fail)
 have aX:=b4 t;have U:=aa.lt t;have V:=b3 F;have g:=Z (show w=RO.ap (decide (0<m.length)) 1 e ((dA e f[b].tb.attrs [] m).bind λg=>.ok ((b:Int),g)) by rw[aR.out,nz f b T]);clear aR aI;have aY:=Z (show w=RO.ap (decide (0<s)) 1 e ((dA e f[b].tb.attrs [] m).bind λi=>.ok ((b:Int),i)) by rw[g.out,bY]);clear g;go_wp2_with fail
 refine fN E aY aX ?au ?aB
 case au=>
  intro HX _;go_wp2;refine⟨rfl,?_⟩;rw[HX.out];exact⟨E,rfl⟩
 intro u _;clear aY V;obtain⟨i,p,cd,W,X,Y,ad⟩:=nx aU b T;have ai:=Z (λ(j:ah) (g:ag n j)=>wj k f[b] ⟨y,s,z⟩ m e j (aV U g.size) ((g.cell U).trans aX) ((aU.2 _ (List.getElem_mem T)).same g) (cc.same g) bX);obtain⟨tq,a0⟩:=av (f[b]);rw[<-a0]at X Y ad ai u;obtain⟨A,⟨al,an,aq⟩,a1,⟨ar,ax,az⟩,cE⟩:=tq;have a2:=X;have a3:ae n (ac i (p+b*3+1)) (O al an aq):=Y;have a4:ae n (ac i (p+b*3+2)) (O ar ax az):=ad;have ce:Hid (∀f,ag n f->Calls prog 113 #[ak k,.agg #[A,O al an aq,O ar ax az],O y s z] f λl w'=>RP [] f (dA e (a1.map RA.at_) [] m) (d3 f.heap.size 1 bU (λ_=>True)) l w'):=ai;have e:Hid (w=(dA e (a1.map RA.at_) [] m).bind λe=>.ok ((b:Int),e)):=u;clear X Y ad ai u a0;have u:=e;clear e;subst cd;have e:(b:Int)<o:=af
 have e:(0:Int)<=b:=af
 have cf:=ay t;have U:=aa.lt t;have cg:=aS F;have V:=b3 F;go_upto_region 3 with(fail)
 refine vG 18 cf cg V a2 a3 a4 λhS=>?_;refine dv ?_;refine eA ?_;refine tk 11 hS ?_;refine tk 12 hS ?_;refine tk 13 hS ?_;refine tk 14 hS ?_;refine tk 15 hS ?_;refine aM 16 (λK aD=>?_);go_simp;refine dQ u (ce n.drew ((ag.refl n).drew)) (fb (E.drew)) ?_;intro a S a5 e ch C c;have c:=Z (((Kp.refl [] n).drew).trans c);obtain⟨⟨G,H,I⟩,D,L⟩:=C;have ci:S=.slice G H I:=D;clear D;subst ci;have a6:=(c.cell W aj).trans a2;have a7:=(c.cell W aj).trans a3;have a8:=(c.cell W aj).trans a4;have cj:=Z (E.trans c);have ck:=qo c t;have a9:=qo c F;have ba:=qo c aW;clear c;try go_simp
 have c:=ay ck;have e:=aS a9;have f:=b3 a9;refine aD _ _ (λ_=>⟨c,e,f,a6,a7,a8⟩) ?_;refine aw ?_;have c:(λw':World=>ae w' (ac k 0) (O (some ⟨i,p,none⟩) o R)/\ae w' (ao d 1) x/\ae w' (ao d 6) (O y s z)/\ae w' (ac i (p+b*3)) A/\ae w' (ac i (p+b*3+1)) (O al an aq)/\ae w' (ac i (p+b*3+2)) (O ar ax az)) a5:=⟨c,e,f,a6,a7,a8⟩;refine tk 17 c ?_;refine bZ ?_;refine dt 18 (λK aD=>?_);refine Eq.mpr (if_pos rfl) ?_;refine wp_store_row 64 (.tmp 6) (.tmp 35) rfl ((d.heap.size+1)) _ rfl rfl 64 _ ba am rfl bw (aD _ _ ?_);refine aw ?_;refine bM ?_;obtain⟨e,c,j,aE⟩:=mu ba #[q,x,(b:Int),O G H I,J 0,ab,J 0,J 0,ab,ab];rw[c];clear c;have cl:=Z (cj.grown aE (λc aF=>.inr (by injection aF with aF;omega)));have aF:=Z ((Kp.refl [(d.heap.size+1)] a5).grown aE (λc aF=>.inl (by injection aF with aF;simp[aF])));clear aE;have cm:=ay j;have cn:=aS j;have co:=aZ j;have cp:=bi j;have cq:=bl j;have cr:=bF j;have cs:=b3 j;have ct:=b7 j;have cu:=b4 j;have cv:=je j;go_wp2_with fail
 refine bodyPost_ret (v:=.agg #[q,x,(b:Int),O G H I,J 0,ab,J 0,J 0,ab,ab]) ?_ rfl ?_
 ·simp[results,results195,go_sem,cm,cn,co,cp,cq,cr,cs,ct,cu,cv]
 rw[ch.out];have b:=aa.lt aW;have b:=aF.size;exact⟨cl,_,rfl,⟨G,H,I⟩,rfl,L.1.kp aF (λi b l o=>by have b:=(L.2.2.1 i b l).1;rw[eo]at b;have:=aC o;omega),λi b l=>⟨by have c:=(L.2.2.1 i b l).1;rw[eo]at c;omega,by have c:=(L.2.2.1 i b l).2;omega⟩⟩
theorem eU.cQ {w:ah} {b:Nat->Prop} {a:Hd} {l:List Int} (c:Int) (d:ax) (e f:Int) (g:cY w a l) (i:bc b a):eU w b ⟨c,d,e,a,l,f,aL,[],0,0,aL,[],aL,[]⟩:=
 ⟨g,i,aE.none_ w 4 _,bc.none_ _ _ _,aE.none_ w 1 _,bc.none_ _ _ _,aE.none_ w 12 _,bc.none_ _ _ _⟩
theorem Ep (d m:Nat) (c:RI) (h:Hd) (f:List RT) (u1 u2 u3 u4 u6 u7:aA) (k:aU) (e l:Nat) (p:List cn) (b:ah) (g:aa b d 157 #[h.val,u1,u2,u3,u4,O k e l,u6,u7,c.at_]) (q:bI b h f) (r:b5 b c.hQ c.names) (y:c.names.length<=5001) (z:b.ownsRow m 64 10 (O k e l) e (p.flatMap cn.cells)) (aV:p.length=e) (aG:d<m) (aW:m<=b.heap.size) (aX:e<=1000):
 Calls prog 118 #[ak d,.agg c.cells.toArray] b λs n=>jy b (jk (f.map RT.tb) c.it 1) (λt n=>iL b n d m k e l p t (λt=>#[h.val,u1,u2,u3,u4,t,u6,u7,c.at_])) s n:=by
 have A:=Z (λ(i:ah) (g:aa i d 157 _) (q:bI i h f) (r:b5 i c.hQ c.names)=>wI d c h f 1 u1 u2 u3 u4 (O k e l) u6 u7 i g q r y);obtain⟨bi,t⟩:=av (jk (f.map RT.tb) c.it 1);rw[<-t];rw[wG]at t;have aH:=Z t;clear t;obtain⟨aI,t⟩:=av (iM (f.map RT.tb) c.it);have aY:=Z (λ(i:Int×List Int) (h:aI=.ok i)=>wH (show iM (f.map RT.tb) c.it=.ok i by rw[<-t];exact h));rw[<-t]at A aH;clear t;have u:=Z r;have t:=y;clear r y;obtain⟨B,i,o,C,D,⟨E,F,G⟩,bj,⟨v,w,x⟩,aZ,H,I,L,⟨M,N,P⟩,bk,Q,R,⟨S,T,U⟩,bl,⟨V,W,X⟩,bm,⟨Y,ac,ad⟩,bn,⟨ae,ag,⟨ai,aj,al⟩,bo,⟨an,ao,ap⟩,bp,⟨aq,ar,au⟩,bq,aw,ax,ay,az⟩⟩:=c;have c:=g;clear g;have g:=c;clear c;have a0:Hid (∀(c:ah),aa c d 157 #[h.val,u1,u2,u3,u4,O k e l,u6,u7,o]->bI c h f->b5 c ⟨v,w,x⟩ aZ->Calls prog 195 #[ak d,.agg #[B,i,o,C,D,O E F G,O v w x,H,I,L,O M N P,Q,R,O S T U,O V W X,O Y ac ad,ae,ag,O ai aj al,O an ao ap,O aq ar au,aw,ax,ay,az],J 1] c λs n=>RP [] c aI (sD 1 i c.heap.size) s n):=A;clear A;have c:=u;clear u;have u:=c;clear c;have c:=g.lt;have f:b.heap.size<=b.heap.size:=Nat.le_refl _;have a1:=Z (Kp.refl [] b);have a2:=Z q;have a3:=Z g;have a4:=Z z;have a5:=Z z;have c:=bb c;show Calls prog 118 #[ak d,.agg #[B,i,o,C,D,O E F G,O v w x,H,I,L,O M N P,Q,R,O S T U,O V W X,O Y ac ad,ae,ag,O ai aj al,O an ao ap,O aq ar au,aw,ax,ay,az]] b _;clear g q z;go_enter func118,ntmps118
 go_upto_region 1 with(fail)
 obtain⟨a6,f,aJ,c,g⟩:=nb b 95 _;rw[f];clear f;have aB:=qk a1 c;have aM:=Z (a2.same c);have a7:=Z (aK c a4);have aN:=qb c a3;have aO:=Z (u.same c);have f:=aB.size;clear c;go_wp2_with (first|(refine iK rfl 95 (.tmp 3) rfl b.heap.size #[B,i,o,C,D,O E F G,O v w x,H,I,L,O M N P,Q,R,O S T U,O V W X,O Y ac ad,ae,ag,O ai aj al,O an ao ap,O aq ar au,aw,ax,ay,az] rfl 95 aJ.out _ underlying95 rfl am ?_)|fail)
 refine dQ aH (a0 a6 aN aM aO) (fb aB) ?_;intro a a8 aP a9 ba bc j;obtain⟨aC,bd⟩:=a;obtain⟨⟨aD,aE,aF⟩,aQ,be,aR⟩:=bc;have bf:a8=.agg #[J 1,i,aC,O aD aE aF,J 0,ab,J 0,J 0,ab,ab]:=aQ;clear aQ;subst bf;have aS:=Z (aB.trans j);have c:=Z (aM.same (j.same));have c:=Z (aK (j.same) a7);have f:=qo j aN;have g:=qo j aJ;have g:=Z (aO.same j.same);have g:=aS.size;clear j;have bg:=Z (aR.low (lo':=b.heap.size) af);clear aR a9 aY;have b:=Z (qJ d m ⟨1,i,aC,⟨aD,aE,aF⟩,bd,0,aL,[],0,0,aL,[],aL,[]⟩ o h.val u1 u2 u3 u4 u6 u7 k e l p aP f c aV aG af aX);have aT:Hid (Calls prog 194 #[ak d,.agg #[J 1,i,aC,O aD aE aF,J 0,ab,J 0,J 0,ab,ab]] aP _):=b;clear b;go_wp2_with fail
 refine aT.mono ?_;rintro s b ⟨rfl,bh⟩;clear aT;go_wp2;first|go_end0|refine bodyPost_ret (results_none rfl _ _ _) rfl ?_
 rw[ba.out];exact⟨rfl,iL.qK aS a5 aG aW (eU.cQ _ _ _ _ be bg) bh⟩
theorem wJ {k:Program} {f:Oper} {c:Act} {m:Exit->Act->World->Prop} {l:Act->World->Prop} (g:aX) (i j:Operand) (n:f.op=.store g i j) (b:ah) (a d:aQ) (e:aX)
 (o:c.eval i=.pointer (some ⟨b.heap.size,0,none⟩)) (p:c.eval j=.agg a) (q:(k.info? g).map (·.size)=some a.size) (r:d.size=a.size) (s:a.all (·.oneCell')=true)
 (t:l (c.put f.dst undef) (b.alloc (.cells a e))):f.wp k c (b.alloc (.cells d e)) l m:=by
 refine wp_store_row g i j n b.heap.size a o p e d (aa.new b e d) q r s ?_;rw[World.setRow_alloc_new];exact t
theorem RO.bind_assoc {b c d:Type} (a:RO b) (f:b->RO c) (g:c->RO d):(a.bind f).bind g=a.bind λb=>(f b).bind g:=by cases a<;>rfl
theorem RO.gW {b g:Type} (a:Bool) (c d:Int) (e:RO b) (f:b->RO g):(RO.ap a c d e).bind f=RO.ap a c d (e.bind f):=by cases a<;>rfl
def pa (c:List Tb) (a:aB):RO Ru:=
 (jk c a 2).bind λb=>(cS a.at_ (dB c b.table).attrs a.attr).bind λd=>RO.ap (!b.cQ.any λe=>decide (e=d)) 1 a.at_<|
  (fw (dB c b.table).attrs a.at_ [] a.fixed).bind λa=>.ok {b with col:=d,fixed:=a}
theorem Er (a:List Tb) (x:aB):pa a x=(iM a x).bind λp=>(cS x.at_ (dB a p.1).attrs x.attr).bind λc=>RO.ap (!p.2.any λb=>decide (b=c)) 1 x.at_<|
 (fw (dB a p.1).attrs x.at_ [] x.fixed).bind λl=>.ok {Ru.zero with kind:=2,name:=x.name,table:=p.1,cQ:=p.2,col:=c,fixed:=l}:=by
 unfold pa;rw[wG,RO.bind_assoc];rfl
theorem Es {g:Type} (c:List At) (a:Int) (l:List Fx) (b:da) (f:List da) (d:List Fx->RO g):(fw c a l (b::f)).bind d=
 (cS a c b.name).bind λe=>RO.ap (!l.any λg=>decide (g.col=e)) 9 a<|RO.ap b.v.ok 2 a<|RO.ap (decide (b.v.k=(cH c e).kind)) 10 a<|(fw c a (l++[⟨e,b.v⟩]) f).bind d:=by
 show((cS a c b.name).bind _).bind d=_;rw[RO.bind_assoc];simp only[RO.gW]
theorem Tryz.Et:(prog.info? 68).map (λa=>(a.zero,a.size,a.bytes))=some (some (.agg #[J 0,J 0,J 0,ai]),4,40):=am
theorem Fx.len (f:Fx):f.cells.length=4:=rfl
theorem Eu (u a9:Nat) (s:RI) (h:Hd) (w:List RT) (aD aG aH aJ aN aO:aA) (ar:aU) (F j:Nat) (ce:List cn) (f:ah) (az:aa f u 157 #[h.val,aD,aG,aH,aJ,O ar F j,aN,aO,s.at_]) (bb:bI f h w) (cf:b5 f s.hQ s.names) (cy:s.names.length<=5001) (dd:aE f 4 s.nu da.cells s.fixed) (de:s.fixed.length<=5001) (cz:f.ownsRow a9 64 10 (O ar F j) F (ce.flatMap cn.cells)) (en:ce.length=F) (df:u<a9) (aB:a9<=f.heap.size) (ep:F<=1000):
 Calls prog 119 #[ak u,.agg s.cells.toArray] f λe w'=>jy f (pa (w.map RT.tb) s.it) (λdg w'=>iL f w' u a9 ar F j ce dg (λch=>#[h.val,aD,aG,aH,aJ,ch,aN,aO,s.at_])) e w':=by
 obtain⟨eq,es,et,eu,ev⟩:=info_parts Tryz.Et;have cg:=Z (λ(b:ah) (az:aa b u 157 #[h.val,aD,aG,aH,aJ,O ar F j,aN,aO,s.at_]) (bb:bI b h w) (cf:b5 b s.hQ s.names)=>wI u s h w 2 aD aG aH aJ (O ar F j) aN aO b az bb cf cy);obtain⟨G,ch⟩:=av (pa (w.map RT.tb) s.it);rw[<-ch];rw[Er]at ch;have ci:=Z ch;clear ch;obtain⟨cA,ch⟩:=av (iM (w.map RT.tb) s.it);have ew:=Z (λ(b:Int×List Int) (h:cA=.ok b)=>wH (show iM (w.map RT.tb) s.it=.ok b by rw[<-ch];exact h));rw[<-ch]at cg ci;clear ch;obtain⟨cj,aP,bd⟩:=h;have ch:w.length=aP:=bb.1.1;have cB:=Z cf;have ch:=cy;have bh:=Z dd;have dh:=de;clear cf cy dd de;obtain⟨bk,q,d,bm,U,⟨bn,bo,bp⟩,f8,⟨aQ,aT,aW⟩,di,bq,br,bs,⟨bt,bu,bx⟩,f9,bz,bA,⟨aX,cC,a3⟩,m,⟨bB,bC,bD⟩,ga,⟨bE,bH,bJ⟩,gb,⟨bK,bL,⟨bN,bO,bP⟩,gc,⟨bQ,bR,bS⟩,gd,⟨bT,bU,bW⟩,ge,bX,bY,b0,b3⟩⟩:=s;have s:=az;clear az;have az:aa f u 157 #[O cj aP bd,aD,aG,aH,aJ,O ar F j,aN,aO,d]:=s;clear s;have cD:Hid (∀(b:ah),aa b u 157 #[O cj aP bd,aD,aG,aH,aJ,O ar F j,aN,aO,d]->bI b ⟨cj,aP,bd⟩ w->b5 b ⟨aQ,aT,aW⟩ di->Calls prog 195 #[ak u,.agg #[bk,q,d,bm,U,O bn bo bp,O aQ aT aW,bq,br,bs,O bt bu bx,bz,bA,O aX cC a3,O bB bC bD,O bE bH bJ,bK,bL,O bN bO bP,O bQ bR bS,O bT bU bW,bX,bY,b0,b3],J 2] b λe w'=>RP [] b cA (sD 2 q b.heap.size) e w'):=cg;have s:Hid (b5 f ⟨aQ,aT,aW⟩ di):=cB;have cB:=s;have s:Hid (aE f 4 ⟨aX,cC,a3⟩ da.cells m):=bh;have bh:=s;have s:m.length<=5001:=dh;clear dh;have ex:m.length=cC:=bh.1;subst ex;have ey:Hid (G=cA.bind λb=>(cS d (dB (w.map RT.tb) b.1).attrs U).bind λj=>RO.ap (!b.2.any λc=>decide (c=j)) 1 d<|(fw (dB (w.map RT.tb) b.1).attrs d [] m).bind λc=>.ok {Ru.zero with kind:=2,name:=q,table:=b.1,cQ:=b.2,col:=j,fixed:=c}):=ci;have ci:=ey;show Calls prog 119 #[ak u,.agg #[bk,q,d,bm,U,O bn bo bp,O aQ aT aW,bq,br,bs,O bt bu bx,bz,bA,O aX m.length a3,O bB bC bD,O bE bH bJ,bK,bL,O bN bO bP,O bQ bR bS,O bT bU bW,bX,bY,b0,b3]] f _;have cg:=cD;have cD:=cg;have dj:=az.lt;have ez:=Z (Kp.refl [] f);have dk:=Z bb;have cE:=Z az;have dl:=Z cz;have eB:=Z cz;show Calls prog 119 #[ak u,.agg #[bk,q,d,bm,U,O bn bo bp,O aQ aT aW,bq,br,bs,O bt bu bx,bz,bA,O aX m.length a3,O bB bC bD,O bE bH bJ,bK,bL,O bN bO bP,O bQ bR bS,O bT bU bW,bX,bY,b0,b3]] f _;clear az bb cz;go_enter func119,ntmps119
 go_upto_region 1 with(fail)
 obtain⟨dm,s,dn,b,az⟩:=nb f 95 _;rw[s];clear s;have cF:=qk ez b;have dp:=Z (dk.same b);have eC:=Z (aK b dl);have dq:=qb b cE;have eD:=Z (cB.same b);have eE:=Z (bh.same b);have s:=cF.size;go_wp2_with (first|(refine iK rfl 95 (.tmp 3) rfl f.heap.size #[bk,q,d,bm,U,O bn bo bp,O aQ aT aW,bq,br,bs,O bt bu bx,bz,bA,O aX m.length a3,O bB bC bD,O bE bH bJ,bK,bL,O bN bO bP,O bQ bR bS,O bT bU bW,bX,bY,b0,b3] rfl 95 dn.out _ underlying95 rfl am ?_)|fail)
 refine dQ ci (cD dm dq dp eD) (fb cF) ?_;intro a b6 r dr ds aY i;obtain⟨eF,C⟩:=a;obtain⟨g,s,du⟩:=ew _ dr;have eG:eF=(g:Int):=s;clear s;subst eG;have cG:g<w.length:=by simpa using du
 obtain⟨⟨P,Q,R⟩,a4,dw,dx⟩:=aY;have eH:b6=.agg #[J 2,q,(g:Int),O P Q R,J 0,ab,J 0,J 0,ab,ab]:=a4;clear a4;subst eH;have dy:=Z (cF.trans i);have eI:=Z (dp.same (i.same));have dz:=Z (aK (i.same) eC);have eJ:=qo i dq;have dA:=qo i dn;have eK:=Z (eE.same i.same);have s:=dy.size;clear i;have eM:=Z (dx.low (lo':=f.heap.size) af);have s:dm.heap.size<=r.heap.size:=by have:=dA.out.lt;omega
 clear dx dr du;go_upto_region 2 with(first|(refine wpList_store_row rfl 64 (.tmp 4) (.tmp 11) rfl r.heap.size #[J 2,q,(g:Int),O P Q R,J 0,ab,J 0,J 0,ab,ab] rfl rfl 64 #[J 0,ai,J 0,ab,J 0,ab,J 0,J 0,ab,ab] (aa.new r 64 #[J 0,ai,J 0,ab,J 0,ab,J 0,J 0,ab,ab]) am rfl bw ?_;rw[World.setRow_alloc_new])|fail)
 have az:=Z (Kp.refl [] r);obtain⟨x,s,ck,b,-⟩:=nb r 64 #[J 2,q,(g:Int),O P Q R,J 0,ab,J 0,J 0,ab,ab];rw[s];clear s;have cI:=qk dy b;have s:=Z (eI.same b);have cK:=qb b eJ;have eN:=qb b dA;have eO:=Z (eK.same b);have eP:=qk az b;have az:=cI.size;have az:=aa.lt ck;obtain⟨B,W,dC,eQ,cL,cM,cP⟩:=nx s g cG;have b7:cj=some ⟨B,W,none⟩:=dC;have dD:=Z (show G=(cS d w[g].tb.attrs U).bind λj=>RO.ap (!C.any λc=>decide (c=j)) 1 d<|(fw w[g].tb.attrs d [] m).bind λc=>.ok ({Ru.zero with kind:=2,name:=q,table:=g,cQ:=C,col:=j,fixed:=c}:Ru) by rw[ds.out,nz w g cG]);clear ds;have cR:=Z (dk.2 _ (List.getElem_mem cG));have dE:=Z (λ(a:ax) (n:ah) (c:ag f n)=>o2 u w[g] a d n (aV dj c.size) ((c.cell (p:=(ac u 8)) dj).trans (aa.cell cE 8)) (cR.same c));obtain⟨eR,dF⟩:=av (w[g]);rw[<-dF]at cL cM cP dE dD cR;obtain⟨X,⟨H,D,S⟩,I,⟨Y,ad,al⟩,gf⟩:=eR;have dG:ae x (ac B (W+g*3)) X:=cL;have dH:ae x (ac B (W+g*3+1)) (O H D S):=cM;have dI:ae x (ac B (W+g*3+2)) (O Y ad al):=cP;have cT:Hid (∀(a:ax) (c:ah),ag f c->Calls prog 187 #[ak u,.agg #[X,O H D S,O Y ad al],a] c λe w'=>RP [] c (cS d (I.map RA.at_) a) hP e w'):=dE;have dJ:Hid (fp f ⟨H,D,S⟩ I):=cR.1;have eS:Hid (G=(cS d (I.map RA.at_) U).bind λj=>RO.ap (!C.any λc=>decide (c=j)) 1 d<|(fw (I.map RA.at_) d [] m).bind λc=>.ok ({Ru.zero with kind:=2,name:=q,table:=g,cQ:=C,col:=j,fixed:=c}:Ru)):=dD;clear cL cM cP dF dC;have s:=eQ;have s:(g:Int)<aP:=af
 have s:(0:Int)<=g:=af
 subst b7;have eT:=Z (dJ.same cI.same);have s:=ay cK;have w:=aa.lt cK;have w:=aZ ck;have az:=aa.lt ck;refine r7 11 s w dG dH dI λhS=>?_;refine dv ?_;refine tk 9 hS ?_;have dK:(λw':World=>ae w' (ac u 0) (O (some ⟨B,W,none⟩) aP bd)/\ae w' (ao r 2) g/\ae w' (ac B (W+g*3)) X/\ae w' (ac B (W+g*3+1)) (O H D S)/\ae w' (ac B (W+g*3+2)) (O Y ad al)) (x.drew.alloc (.cells #[ai,ab,ab] 81)):=⟨bj s,bj w,bj dG,bj dH,bj dI⟩;refine aM 10 (λK a5=>?_);go_simp;refine a5 _ _ (λ_=>dK) ?_;refine aw ?_;refine bZ ?_;refine dt 11 (λK a5=>?_);refine Eq.mpr (if_pos rfl) ?_;refine wJ 81 (.tmp 5) (.tmp 21) rfl x.drew _ _ 81 rfl rfl am rfl bw (a5 _ _ ?_);refine aw ?_;refine bM ?_;have an:=Z (show aa (x.drew.alloc (.cells #[X,O H D S,O Y ad al] 81)) x.heap.size 81 #[X,O H D S,O Y ad al]from aa.new x.drew 81 #[X,O H D S,O Y ad al]);have b:=Z (show ag x (x.drew.alloc (.cells #[X,O H D S,O Y ad al] 81))from((ag.refl x).drew).alloc _);obtain⟨eV,s⟩:=av (x.drew.alloc (.cells #[X,O H D S,O Y ad al] 81));rw[<-s]at an b⊢;clear s;have cU:=qk cI b;have eW:=qb b cK;have dL:=qb b eN;have eX:=qb b ck;have eY:=Z (eO.same b);have eZ:=Z (eT.same b);have e0:=qk eP b;have cl:=an;clear hS dK;go_upto_region 3 with(fail)
 have s:=bl dL;have s:=ay cl;have s:=aS cl;have s:=aZ cl;go_upto_region 3 with(fail)
 go_wp2_with fail
 refine dQ eS (cT U eV cU.same) (fb cU) ?_;intro a b6 dM e1 a0 aY i;have a4:b6=.int .i64 a:=aY;subst a4;have e2:=Z (cU.trans i);have e3:=qo i eW;have e4:=qo i dL;have cV:=qo i eX;have e5:=qo i cl;have s:=Z (eY.same i.same);have s:=Z (eZ.same i.same);have e6:=Z (e0.trans i);clear i;obtain⟨y,e7⟩:∃y:Int,y=a:=⟨a,rfl⟩;subst e7;clear aY e1;have s:=λc=>aa.frozen cV c;have s:=bl cV;go_upto_region 4 with(fail)
 have an:=Z (lX cV y);have s:=Z (Kp.aI (p:=(ao r 4)) (l:=[r.heap.size]) aj (Kp.refl [r.heap.size] dM) y);obtain⟨w,az⟩:=av (dM.setCell (ao r 4) y);rw[<-az]at an s⊢;clear az;have dN:=Z (s.old e6 (λB aB n=>absurd n (by rw[aC aB];omega)));have cW:=Z (s.old e2 (λB aB n=>absurd n (by rw[aC aB];omega)));have az:=qo s e3;have dO:=qo s e4;have dP:=qo s e5;have cm:=an;have s:=bi cm;have s:=bl cm;have dR:=b4 az;have cX:Hid (Calls prog 188 #[O P Q R,y] w λe w'=>e=.returned (.bool (C.any λn=>decide (n=y)))/\w=w'):=Z (qa ⟨P,Q,R⟩ C y w (dw.same dN.same));have s:=Z (show G=RO.ap (!C.any λn=>decide (n=y)) 1 d ((fw (I.map RA.at_) d [] m).bind λn=>.ok ({Ru.zero with kind:=2,name:=q,table:=g,cQ:=C,col:=y,fixed:=n}:Ru))from a0);clear a0;have a0:=s;generalize (C.any λn=>decide (n=y))=e8 at cX a0;cases e8
 case true=>
  go_wp2_with (first|(go_at_call 188;refine cX.out.mono ?_;rintro e w' ⟨rfl,rfl⟩)|fail)
  exact b1 cW a0 dR
 go_wp2_with (first|(go_at_call 188;refine cX.out.mono ?_;rintro e w' ⟨rfl,rfl⟩)|fail)
 refine bV cW a0 dR λs=>?_;clear a0;have w:=ox dO;obtain⟨aq,hF⟩:∃aq:List Fx->RO Ru,aq=λn=>.ok ({Ru.zero with kind:=2,name:=q,table:=g,cQ:=C,col:=y,fixed:=n}:Ru):=⟨_,rfl⟩;have e9:=Z (λn=>congrFun hF n);have dS:=Z (show G=(fw (I.map RA.at_) d [] m).bind aq by rw[hF];exact s.out);clear hF s;obtain⟨T,s⟩:=av (I.map RA.at_);have dT:=Z s;rw[<-s]at dS cT;clear s;go_wp2_with fail
 go_loopg [39] (m.length+1) (λt w wr=>∃(c:Nat) (n:List Fx) (o:aU) (s:Nat),w=.int .i64 c/\c<=m.length/\m.length-c<t/\n.length=c/\Hid (wr.ownsRow (x.heap.size+1) 68 4 (O o c s) c (n.flatMap Fx.cells))/\Hid (aa wr r.heap.size 64 #[J 2,q,(g:Int),O P Q R,y,O o c s,J 0,J 0,ab,ab])/\Hid (aa wr x.heap.size 81 #[X,O H D S,O Y ad al])/\Hid (aa wr f.heap.size 95 #[bk,q,d,bm,U,O bn bo bp,O aQ aT aW,bq,br,bs,O bt bu bx,bz,bA,O aX m.length a3,O bB bC bD,O bE bH bJ,bK,bL,O bN bO bP,O bQ bR bS,O bT bU bW,bX,bY,b0,b3])/\Hid (Kp [] f wr)/\Hid (Kp [] r wr)/\x.heap.size<wr.heap.size/\Hid (G=(fw T d n (m.drop c)).bind aq))
 case atStart=>exact⟨0,[],none,0,rfl,by omega,by omega,rfl,Z ⟨rfl,.inl ⟨rfl,rfl⟩⟩,cm,dP,dO,cW,dN,aa.lt dP.out,dS⟩
 obtain⟨c,n,E,L,rfl,gg,dU,dV,co,dW,fa,fc,a1,cY,gh,cp⟩:=hrel;have dX:=Z dU;have cZ:=Z dV;clear dU dV cm;have fd:=Z (Kp.refl [] wr);have fe:=Z (aK a1.same dl);have ff:=Z (bh.same a1.same);have fg:=Z (dJ.same a1.same);have dY:=qo a1 cE;have s:=a1.size;by_cases dZ:c<m.length
 case neg=>
  have s:¬(c:Int)<m.length:=af
  have o:=Z (show G=aq n by rw[cp.out,List.drop_of_length_le af];rfl);clear cp;have s:=Z (qJ u a9 ⟨2,q,g,⟨P,Q,R⟩,C,y,⟨E,c,L⟩,n,0,0,aL,[],aL,[]⟩ d (O (some ⟨B,W,none⟩) aP bd) aD aG aH aJ aN aO ar F j ce wr dY fe en df af ep);have t:Hid (Calls prog 194 #[ak u,.agg #[J 2,q,(g:Int),O P Q R,y,O E c L,J 0,J 0,ab,ab]] wr _):=s;go_wp2_with (first|(refine iK rfl 64 (.tmp 4) rfl r.heap.size #[J 2,q,(g:Int),O P Q R,y,O E c L,J 0,J 0,ab,ab] rfl 64 dW.out _ underlying64 rfl am ?_)|fail)
  refine t.mono ?_;rintro e s ⟨rfl,z⟩;go_wp2;first|go_end0|refine bodyPost_ret (results_none rfl _ _ _) rfl ?_
  rw[o.out,e9.out n];have FL:=cJ (h:=⟨E,c,L⟩) Fx.len cZ (by show c<=_;omega) co;have g:eU wr (Bw f.heap.size wr.heap.size) ⟨2,q,g,⟨P,Q,R⟩,C,y,⟨E,c,L⟩,n,0,0,aL,[],aL,[]⟩:=⟨dw.same cY.same,eM.mono (λB aB=>⟨aB.1,by have:=aB.2;have:=cY.out.size;omega⟩),FL,(λB g e=>by have h:=b2 co.out B (by show(Value.slice E c L).ownBlock=_;have g:E=some ⟨B,g,none⟩:=e;rw[g];rfl);exact⟨by omega,h.2⟩),aE.none_ wr 1 _,bc.none_ _ _ _,aE.none_ wr 12 _,bc.none_ _ _ _⟩;exact⟨rfl,iL.qK a1 eB df aB g z⟩
 have g:(c:Int)<m.length:=af
 obtain⟨b8,of,d0,g,a6⟩:=ff.2.2 c dZ;have b7:aX=some ⟨b8,of,none⟩:=d0;obtain⟨b9,c0⟩:=av (m[c]);rw[<-c0]at a6;have c1:=Z (show G=(cS d T b9.name).bind λj=>RO.ap (!n.any λg=>decide (g.col=j)) 9 d<|RO.ap b9.v.ok 2 d<|RO.ap (decide (b9.v.k=(cH T j).kind)) 10 d<|(fw T d (n++[⟨j,b9.v⟩]) (m.drop (c+1))).bind aq by
  rw[cp.out,List.drop_eq_getElem_cons dZ,Es,<-c0])
 clear c0 d0 cp;obtain⟨ca,⟨o,z,A⟩⟩:=b9;have g:ae wr (ac b8 (of+c*4)) ca:=by simpa using a6 0 _ rfl
 have fh:ae wr (ac b8 (of+c*4+1)) o:=a6 1 _ rfl;have g:ae wr (ac b8 (of+c*4+2)) z:=a6 2 _ rfl;have g:ae wr (ac b8 (of+c*4+3)) A:=a6 3 _ rfl;have g:IntKind.i64.wrap ((c:Int)+1)=(c:Int)+1:=IntWalk.i64_in _ af;clear a6;subst b7;have fi:Hid (G=(cS d T ca).bind λj=>RO.ap (!n.any λg=>decide (g.col=j)) 9 d<|RO.ap (V.ok ⟨o,z,A⟩) 2 d<|RO.ap (decide (o=(cH T j).kind)) 10 d<|(fw T d (n++[⟨j,⟨o,z,A⟩⟩]) (m.drop (c+1))).bind aq):=c1;have c1:=fi;go_upto_region 8 with(first|(refine wpList_store_row rfl 238 (.tmp 7) (.tmp 42) rfl wr.heap.size #[ca,o,z,A] rfl rfl 238 #[ai,J 0,J 0,ai] (aa.new wr 238 #[ai,J 0,J 0,ai]) am rfl bw ?_;rw[World.setRow_alloc_new])|fail)
 obtain⟨fj,g,an,b,-⟩:=nb wr 238 #[ca,o,z,A];rw[g];clear g;have c2:=qk a1 b;have fk:=qb b dY;have fl:=qb b fc;have fm:=qb b dW;have cq:=qb b fa;have fn:=Z (fg.same b);have fo:=qk cY b;have fq:=qk fd b;have d1:=an;have g:=ay cq;have g:=aS cq;have g:=aZ cq;have g:=ay d1;go_wp2_with fail
 refine dQ c1 (cT ca fj c2.same) (fb c2) ?_;intro a b6 c3 d2 a7 aY i;have a4:b6=.int .i64 a:=aY;subst a4;obtain⟨t,fr,c4⟩:=qH d2;subst fr;have d3:t<I.length:=by rw[dT.out]at c4;simpa using c4
 clear c4;have fs:=Z (c2.trans i);have ft:=qo i fk;have fu:=qo i fl;have fv:=qo i fm;have fx:=qo i cq;have fy:=qo i d1;have fz:=Z (fn.same i.same);have fA:=Z (fo.trans i);have fB:=Z (fq.trans i);clear i;clear aY d2;go_upto_region 9 with(fail)
 obtain⟨g,i,an,b,-⟩:=nb c3 3 #[(t:Int)];rw[i];clear i;have fC:=qk fs b;have fE:=qb b ft;have fF:=qb b fu;have d4:=qb b fv;have fG:=qb b fx;have fH:=qb b fy;have fI:=Z (fz.same b);have fJ:=qk fA b;have d5:=qk fB b;have c5:=an;have i:∀i f,(callFunc 197 i).run prog f=.ok (.enter 197 i) f:=enters_of func197 am rfl;have q:=ay c5;have s:=aa.lt c5;have j:=bF d4;have j:=Z (aK d5.same co);have j:=cJ (h:=⟨E,c,L⟩) Fx.len cZ (by show c<=_;omega) j;have d6:Hid (Calls prog 196 #[O E c L,.func (.func 197) #[] #[ak c3.heap.size]] g λe w'=>e=.returned (.bool (n.any λu=>decide (u.col=(t:Int))))/\ag g w'):=
  Z (DG 197 _ i ⟨E,c,L⟩ Fx.cells (λdg=>⟨_,_,_,_,rfl⟩) _ n g j (DI (c3.heap.size) (t:Int) g s q n))
 clear j i;obtain⟨d7,c6⟩:=av (n.any λg=>decide (g.col=(t:Int)));rw[<-c6]at d6;have fK:=Z (show G=RO.ap (!d7) 9 d (RO.ap (V.ok ⟨o,z,A⟩) 2 d<|RO.ap (decide (o=(cH T t).kind)) 10 d<|(fw T d (n++[⟨t,⟨o,z,A⟩⟩]) (m.drop (c+1))).bind aq) by rw[c6];exact a7.out);clear c6 a7;have a7:=fK;go_wp2_with fail
 refine d6.mono ?_;rintro e fL ⟨rfl,M⟩;have c7:=el fC M;have d8:=cN M fE;have fM:=cN M fF;have fN:=cN M d4;have fO:=cN M fG;have cr:=cN M fH;have fP:=cN M c5;have fQ:=Z (fI.same M);have fR:=el fJ M;have fS:=el d5 M;clear M;have d9:=b4 d8;cases d7
 case true=>
  go_wp2_with fail
  exact b1 c7 a7 d9
 go_wp2_with fail
 refine bV c7 a7 d9 λcs=>?_;have g:=aS cr;have g:=aZ cr;have g:=bi cr;clear a7;have ea:Hid (Rs 42 #[.agg #[o,z,A]] (.bool (V.ok ⟨o,z,A⟩))):=Z (λg=>p2 ⟨o,z,A⟩ g);obtain⟨fT,g⟩:=av (V.ok ⟨o,z,A⟩);rw[<-g]at ea cs;clear g;go_wp2_with fail
 refine(ea fL).mono ?_;rintro e eb ⟨rfl,N⟩;have cb:=el c7 N;have g:=cN N d8;have fU:=cN N fM;have fV:=cN N fN;have ec:=cN N fO;have ed:=cN N cr;have ee:=cN N fP;have ef:=Z (fQ.same N);have fW:=el fR N;have fX:=el fS N;clear N;have ct:=b4 g;cases fT
 case false=>
  go_wp2_with fail
  exact b1 cb cs ct
 go_wp2_with fail
 refine bV cb cs ct λa2=>?_;clear cs;obtain⟨ba,g,i,y,j,cu,q,s,u,w⟩:=iJ ef t d3;have b7:H=some ⟨ba,g,none⟩:=i;have g:(t:Int)<D:=by have:=ef.out.1.1;have g:I.length=D:=this;omega
 have g:(0:Int)<=t:=af
 obtain⟨cv,g⟩:=av (I[t].at_.kind);rw[<-g]at cu;have d:=Z (show G=RO.ap (decide (o=cv)) 10 d ((fw T d (n++[⟨t,⟨o,z,A⟩⟩]) (m.drop (c+1))).bind aq) by rw[a2.out,dT.out,ku I t d3,<-g]);clear a2 g j q s u w i;have a2:=d;subst b7;have eg:=aS ec;have eh:=aS ed;have ei:=ay ee;go_upto_region 11 with(fail)
 cases hk:decide (o=cv)with
 |false=>
  have d:(o==cv)=false:=by simpa using hk
  rw[hk]at a2;clear hk;refine lj 12 eg eh ei cu λhS=>?_;refine dv ?_;refine eA ?_;refine aM 11 (λK a5=>?_);go_simp;exact b1 cb.drew a2 ct
 |true=>
  have fY:(o==cv)=true:=by simpa using hk
  rw[hk]at a2;clear hk;refine lj 12 eg eh ei cu λhS=>?_;refine dv ?_;refine eA ?_;refine aM 11 (λK a5=>?_);go_simp;refine bV cb.drew a2 ct λfZ=>?_;try go_simp
  refine a5 _ _ (λ_=>hS) ?_;refine aw ?_;refine bZ ?_;refine bM ?_;have b:=Z ((ag.refl eb).drew);obtain⟨cw,d⟩:=av eb.drew;rw[<-d]at b⊢;clear d;have f0:=qk cb b;have f1:=qb b fU;have ej:=qb b fV;have f2:=qb b ec;have d:=qb b ed;have g:=qb b ee;have f3:=qk fW b;have b:=qk fX b;clear hS cu fY;have i:=bF ej;have g:=ay g;have g:=aS d;have g:=aZ d;have g:=bi d;have d:=aa.lt d;have b:=Z (aK b.same co);have dz:=Z (aK ((ag.refl cw).alloc (.cells #[(t:Int),o,z,A] 68)) b);have f4:=Z (cO cw #[(t:Int),o,z,A] 68 4 rfl);have cd:=b2 b;go_wp2_with (at_builtin;refine eL _ rfl (.tmp 73) (.tmp 78) 61 rfl (x.heap.size+1) 68 eq _ 4 40 underlying61 es et eu ev rfl au (O E c L) c (n.flatMap Fx.cells) rfl dz.out (cw.heap.size+1) (some ⟨cw.heap.size,0,none⟩) 1 1 (#[(t:Int),o,z,A]:Array Value).toList rfl f4.out bw cc af aF ?_;intro fh c9 c8 ek f5;obtain⟨db,dc,rfl,f6⟩:=bv c8;have em:=Z c8;have a8:=Z ek;clear c8 ek f5 f6;have cx:=Z (aa.grown (ej.out.alloc (.cells #[(t:Int),o,z,A] 68)) a8.out (λe=>by have:=(cd _ e.symm).1;omega));have b:ae c9 (ao r 5) (O E c L):=aa.cell cx.out 5;have b:=λc=>aa.frozen cx.out c)
  have c8:=Z (aa.grown (f2.alloc _) a8 (λe=>by have:=(cd _ e.symm).1;omega));have ek:=Z (aa.grown (f1.alloc _) a8 (λe=>by have:=(cd _ e.symm).1;omega));have f5:=Z ((f0.alloc _).grown a8 (λb d=>.inr (by have:=cd b d;omega)));have f6:=Z ((f3.alloc _).grown a8 (λb d=>.inr (by have:=cd b d;omega)));have f7:=aa.lt c8;go_roundg (m.length-c)
  case measure=>have:=dX.out;omega
  refine⟨c+1,n++[⟨(t:Int),⟨o,z,A⟩⟩],db,dc,by go_num,by omega,omg dX,by rw[List.length_append,cZ.out];rfl,Z ?_,Z (cx.out.aR 5 (O db (c+1) dc)),Z (c8.out.far (by show x.heap.size≠r.heap.size;omega) _),Z (ek.out.far (by show f.heap.size≠r.heap.size;omega) _),Z (f5.out.setCell (.inr (by show f.heap.size<=r.heap.size;omega)) _),Z (f6.out.setCell (.inr (Nat.le_refl _)) _),by simpa using f7,fZ⟩;rw[List.flatMap_append];exact bG em (Kp.aI (p:=(ao r 5)) (l:=[r.heap.size]) aj (Kp.refl _ c9) _) aF
end Go.Proofs.YteamkimbmdgdbaaGreatDoor

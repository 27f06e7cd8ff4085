import Derived.Test.YteamkimbmdgdbaaGreatDoorK12
import Derived.Test.YteamkimbmdgdbaaGreatDoorK13
set_option linter.unusedSimpArgs false
set_option linter.unusedVariables false
set_option maxHeartbeats 16000000
set_option maxRecDepth 100000
namespace Go.Proofs.YteamkimbmdgdbaaGreatDoor
open Go.Proofs.Tryz
open Go.RowKit
def D6 (c:Nat) (d:aE) (v:aA) (b:ah):Prop:=∃a:RI,a.it=d/\v=.agg a.cells.toArray/\cz b (Bw c b.heap.size) a
def PO.All {a:Type} (b:PO a) (c:a->Prop):Prop:=∀a d,b=.ok a d->c a
theorem PO.All.bind {c d:Type} {e:PO c} {f:c->List ao->PO d} {p:d->Prop} (h:∀a us,(f a us).All p):(e.bind f).All p:=by
 intro g us b;cases e with
 |bad b a=>cases b
 |ok a i=>exact h a i g us b
theorem PO.All.ok {α:Type} {a:α} {us:List ao} {p:α->Prop} (h:p a):(PO.ok a us).All p:=by
 intro c c b;injection b with e1 e2
 subst e1;exact h
theorem PO.All.ite {b:Type} {c:Prop} [Decidable c] {d e:PO b} {a:b->Prop} (h:d.All a) (b:e.All a):(if c then d else e).All a:=by split<;>assumption
theorem PO.All.wz {b f:Type} {c:PO b} {g:b->List ao->PO f} {i:b->Prop} {b:f->Prop} (k:c.All i) (h:∀a d,i a->(g a d).All b):(c.bind g).All b:=by
 intro l d e;cases c with
 |bad e a=>cases e
 |ok a j=>exact h a j (k a j rfl) l d e
theorem wB (b:Int) (a:aE) (c:List ao):(hU b a c).All (λb=>b.kind=a.kind):=
 .bind λ_ _=>.bind λ_ _=>.bind λ_ _=>.bind λ_ _=>.bind λ_ _=>.ok rfl
theorem jE (b:Int) (a:aE) (c:List ao):(el b a c).All (λd=>d.kind=a.kind):=by
 unfold el;refine .ite ?_ (.ite ?_ (.ite ?_ (.ite ?_ (.ite ?_ (.ite ?_ (.ite ?_ (.ite ?_ (.ite ?_ ?_))))))))
 ·exact .bind λ_ _=>.bind λ_ _=>.bind λ_ _=>.bind λ_ _=>.ok rfl
 ·exact .bind λ_ _=>.bind λ_ _=>.ok rfl
 ·exact .bind λ_ _=>.bind λ_ _=>.bind λ_ _=>.bind λ_ _=>.ite (.bind λ_ _=>.ok rfl) (.ite (.bind λ_ _=>.bind λ_ _=>.ok rfl) (.ok rfl))
 ·exact .bind λ_ _=>.bind λ_ _=>.bind λ_ _=>.bind λ_ _=>.bind λ_ _=>.bind λ_ _=>.ok rfl
 ·exact .bind λ_ _=>.bind λ_ _=>.bind λ_ _=>.ok rfl
 ·exact wB b a c
 ·exact PO.All.wz (wB b a c) λd a a=>.bind λ_ _=>.bind λ_ _=>.ite (.bind λ_ _=>.ok a) (.ok a)
 ·exact .bind λ_ _=>.bind λ_ _=>.bind λ_ _=>.ok rfl
 ·exact .bind λ_ _=>.bind λ_ _=>.ok rfl
 exact .bind λ_ _=>.bind λ_ _=>.ok rfl
theorem jF {f q:Type} {r:Nat} {l l2:List Nat} {c d:ah} {s:Int} {t:FuncId} {u:aQ} {k:Ending->World->Prop} {m:PO q} {g:PO f} {V:f->Value->World->Prop} {w:f->List ao->PO q} {p:f->Prop} (y:∀i∈l2,i∈l\/c.heap.size<=i) (q:Kp l c d) (j:m=g.bind w) (z:g.All p) (A:Calls prog t u d (λf b=>PL l2 s r d g V f b))
 (n:∀er a b,Hid (m=.bad er a)->Hid (Kp l c b)->k (.panicked [{v:=gT er a,recovered:=false}]) b)
 (B:∀a e v b,p a->Hid (m=w a e)->V a v b->Kp l2 d b->Hid (Kp l c b)->Hid (az b r s e)->c.heap.size<=b.heap.size->k (.returned v) b):Calls prog t u d k:=by
 refine A.mono ?_;rintro f b ⟨x,h⟩;have o:=x.old q (λi n c=>by rcases y i n with h|h;exact h;omega);cases hr:g with
 |bad er a=>rw[hr]at h j;subst h;exact n er a b (Z j) (Z o)
 |ok a e=>rw[hr]at h j;obtain⟨v,rfl,C,D⟩:=h;exact B a e v b (z a e hr) (Z j) C x (Z o) (Z D) o.size
theorem D7 (b:Int) (a:List ao) (l:bk):(dP b a l).All (λb=>1<=b/\b<=l.length):=by
 intro b b h;unfold dP at h;split at h
 ·rename_i c d
  injection h with h1 h2
  subst h1;have:=vx a l 1 c d;omega
 cases a<;>cases h
theorem D8 {e q:Type} {f:Nat} {l:List Nat} {g c:ah} {r:Int} {s:FuncId} {t:aQ} {k:Ending->World->Prop} {m:PO q} {i:PO e} {V:e->Value->World->Prop} {u:e->List ao->PO q} {p:e->Prop} (x:i.All p) (q:f∈l) (y:Kp l g c) (j:m=i.bind u) (z:Calls prog s t c (λe b=>PP r f c i V e b))
 (n:∀er a b,Hid (m=.bad er a)->Hid (Kp l g b)->k (.panicked [{v:=gT er a,recovered:=false}]) b)
 (A:∀a d v b,p a->Hid (m=u a d)->V a v b->Kp [f] c b->Hid (Kp l g b)->Hid (az b f r d)->g.heap.size<=b.heap.size->k (.returned v) b):Calls prog s t c k:=by
 refine z.mono ?_;rintro e b ⟨w,h⟩;have o:=y.trans (w.mono (λc n=>by rw[aB n];exact q));cases hr:i with
 |bad er a=>rw[hr]at h j;subst h;exact n er a b (Z j) (Z o)
 |ok a d=>rw[hr]at h j;obtain⟨v,rfl,B,C⟩:=h;exact A a d v b (x a d hr) (Z j) B w (Z o) (Z C) o.size
theorem D9 {e:Program} {g:Array Oper} {i:List Oper} {c:Oper} {d:Act} {j:ah} {k:Exit->Act->World->Prop} (n:c.guard=none) (f:aX) (a:Nat) (b:Operand) (o:c.op=.build f #[(a,b)])
 (v:aA) (p:d.eval b=v) (l:aQ) (m:e.built f [(a,v)]=some l) (h:wpList e g k i (d.put c.dst (.agg l)) j):wpList e g k (c::i) d j:=by
 have a:(#[(a,b)].map λ(a,b)=>(a,d.eval b)).toList=[(a,v)]:=by simp[p]
 refine wpList_build n f _ o (by rw[a,m];rfl) ?_;rw[a,m];exact h
theorem gX {P:Program} {i:Array Oper} {rest:List Oper} {d:Oper} {f:Act} {a:ah} {j:Exit->Act->World->Prop} (l:d.guard=none) (b:aX) (x:Operand) (m:d.op=.load b x)
 (e:Nat) (c:aQ) (n:f.eval x=.pointer (some ⟨e,0,none⟩)) (k:aX) (o:a.heap[e]?=some (.cells c k (0,0))) (g:TypeDesc) (p:P.underlying b=some g) (q:(match g with|.struct _|.array _ _=>true|_=>false)=true) (r:(P.info? b).map (·.size)=some c.size)
 (h:wpList P i j rest (f.put d.dst (.agg c)) a):wpList P i j (d::rest) f a:=by
 refine wpList_plain l λd d=>?_;have f:(Instr.loadAt b (ak e)).run P a=.ok (.agg c) a:=by
  simp only[Instr.loadAt,Instr.sureAddr,Sem.run_bind,Sem.run_pure,Result.andThen];exact run_loadVar_row a e k b c (0,0) g o p q r
 unfold Oper.wp execOp;simp only[m,n,Sem.run_bind,f,Result.andThen_ok];exact d _ _ h
theorem ih (w:ah) (a:Nat) (cs:aQ):w.grownBy (w.setRow a cs) (some a):=
 ⟨rfl,rfl,rfl,by simp[World.setRow],λb c c=>by
  have:b≠a:=λa=>c (by rw[a]);simp[World.setRow,Array.getElem?_modify,Ne.symm this]⟩
theorem jG {w:ah} {a:Nat} {b:aX} {c:aQ} (d:aa w a b c) (cs:aQ):aa (w.setRow a cs) a b cs:=by
 have c:w.heap[a]?=some (.cells c b (0,0)):=d;show(w.setRow a cs).heap[a]?=some (.cells cs b (0,0));simp[World.setRow,Array.getElem?_modify,c]
theorem Ea {a:Int} (b:1<=a) (b:a<=10):a=1\/a=2\/a=3\/a=4\/a=5\/a=6\/a=7\/a=8\/a=9\/a=10:=af
def im (P a:Nat):Array MapEntry:=(([89,90,91,92,93,94,95,96,97,98].take a).zipIdx.map λ(b,a)=>(⟨.int .i64 (a+1:Nat),.func (.func b) #[ak P] #[],a⟩:MapEntry)).toArray
theorem Eb (P:Nat) (a:ah):(Instr.mapUpdate 194 (.map (some a.heap.size)) (J 1) (.func (.func 89) #[ak P] #[])).run prog (a.alloc (.map #[] 0))=.ok () (a.alloc (.map (im P 1) 1)):=
 d2 (P:=prog) (T:=194) underlying194 underlying3 a #[] 0 _ _ rfl rfl
theorem Ec (P:Nat) {a:ah} {b:Nat} (h:a.heap[b]?=some (.map (im P 10) 10)):(Instr.lookup 194 (.map (some b)) (J 1) false).run prog a=.ok (.func (.func 89) #[ak P] #[]) a:=
 jr (P:=prog) (T:=194) underlying194 underlying3 h (key:=.int .i64 1) rfl rfl
theorem wC (b:Int) (nm:av) (a:Int) (c:List ao):el b {aE.zero with kind:=1,name:=nm,at_:=a} c=oE b (RI.start 1 nm a).it c:=rfl
theorem Ed (P:Nat) (a:ah):(Instr.mapUpdate 194 (.map (some a.heap.size)) (J 2) (.func (.func 90) #[ak P] #[])).run prog (a.alloc (.map (im P 1) 1))=.ok () (a.alloc (.map (im P 2) 2)):=
 d2 (P:=prog) (T:=194) underlying194 underlying3 a (im P 1) 1 _ _ rfl rfl
theorem Ee (P:Nat) {a:ah} {b:Nat} (h:a.heap[b]?=some (.map (im P 10) 10)):(Instr.lookup 194 (.map (some b)) (J 2) false).run prog a=.ok (.func (.func 90) #[ak P] #[]) a:=
 jr (P:=prog) (T:=194) underlying194 underlying3 h (key:=.int .i64 2) rfl rfl
theorem wD (b:Int) (nm:av) (a:Int) (c:List ao):el b {aE.zero with kind:=2,name:=nm,at_:=a} c=oF b (RI.start 2 nm a).it c:=rfl
theorem Ef (P:Nat) (a:ah):(Instr.mapUpdate 194 (.map (some a.heap.size)) (J 3) (.func (.func 91) #[ak P] #[])).run prog (a.alloc (.map (im P 2) 2))=.ok () (a.alloc (.map (im P 3) 3)):=
 d2 (P:=prog) (T:=194) underlying194 underlying3 a (im P 2) 2 _ _ rfl rfl
theorem Eg (P:Nat) {a:ah} {b:Nat} (h:a.heap[b]?=some (.map (im P 10) 10)):(Instr.lookup 194 (.map (some b)) (J 3) false).run prog a=.ok (.func (.func 91) #[ak P] #[]) a:=
 jr (P:=prog) (T:=194) underlying194 underlying3 h (key:=.int .i64 3) rfl rfl
theorem wE (b:Int) (nm:av) (a:Int) (c:List ao):el b {aE.zero with kind:=3,name:=nm,at_:=a} c=oG b (RI.start 3 nm a).it c:=rfl
theorem Eh (P:Nat) (a:ah):(Instr.mapUpdate 194 (.map (some a.heap.size)) (J 4) (.func (.func 92) #[ak P] #[])).run prog (a.alloc (.map (im P 3) 3))=.ok () (a.alloc (.map (im P 4) 4)):=
 d2 (P:=prog) (T:=194) underlying194 underlying3 a (im P 3) 3 _ _ rfl rfl
theorem Ei (P:Nat) {a:ah} {b:Nat} (h:a.heap[b]?=some (.map (im P 10) 10)):(Instr.lookup 194 (.map (some b)) (J 4) false).run prog a=.ok (.func (.func 92) #[ak P] #[]) a:=
 jr (P:=prog) (T:=194) underlying194 underlying3 h (key:=.int .i64 4) rfl rfl
theorem wF (b:Int) (nm:av) (a:Int) (c:List ao):el b {aE.zero with kind:=4,name:=nm,at_:=a} c=oH b (RI.start 4 nm a).it c:=rfl
theorem Ej (P:Nat) (a:ah):(Instr.mapUpdate 194 (.map (some a.heap.size)) (J 5) (.func (.func 93) #[ak P] #[])).run prog (a.alloc (.map (im P 4) 4))=.ok () (a.alloc (.map (im P 5) 5)):=
 d2 (P:=prog) (T:=194) underlying194 underlying3 a (im P 4) 4 _ _ rfl rfl
theorem Ek (P:Nat) {a:ah} {b:Nat} (h:a.heap[b]?=some (.map (im P 10) 10)):(Instr.lookup 194 (.map (some b)) (J 5) false).run prog a=.ok (.func (.func 93) #[ak P] #[]) a:=
 jr (P:=prog) (T:=194) underlying194 underlying3 h (key:=.int .i64 5) rfl rfl
theorem wG (b:Int) (nm:av) (a:Int) (c:List ao):el b {aE.zero with kind:=5,name:=nm,at_:=a} c=oI b (RI.start 5 nm a).it c:=rfl
theorem El (P:Nat) (a:ah):(Instr.mapUpdate 194 (.map (some a.heap.size)) (J 6) (.func (.func 94) #[ak P] #[])).run prog (a.alloc (.map (im P 5) 5))=.ok () (a.alloc (.map (im P 6) 6)):=
 d2 (P:=prog) (T:=194) underlying194 underlying3 a (im P 5) 5 _ _ rfl rfl
theorem Em (P:Nat) {a:ah} {b:Nat} (h:a.heap[b]?=some (.map (im P 10) 10)):(Instr.lookup 194 (.map (some b)) (J 6) false).run prog a=.ok (.func (.func 94) #[ak P] #[]) a:=
 jr (P:=prog) (T:=194) underlying194 underlying3 h (key:=.int .i64 6) rfl rfl
theorem wH (b:Int) (nm:av) (a:Int) (c:List ao):el b {aE.zero with kind:=6,name:=nm,at_:=a} c=hU b (RI.start 6 nm a).it c:=rfl
theorem En (P:Nat) (a:ah):(Instr.mapUpdate 194 (.map (some a.heap.size)) (J 7) (.func (.func 95) #[ak P] #[])).run prog (a.alloc (.map (im P 6) 6))=.ok () (a.alloc (.map (im P 7) 7)):=
 d2 (P:=prog) (T:=194) underlying194 underlying3 a (im P 6) 6 _ _ rfl rfl
theorem Eo (P:Nat) {a:ah} {b:Nat} (h:a.heap[b]?=some (.map (im P 10) 10)):(Instr.lookup 194 (.map (some b)) (J 7) false).run prog a=.ok (.func (.func 95) #[ak P] #[]) a:=
 jr (P:=prog) (T:=194) underlying194 underlying3 h (key:=.int .i64 7) rfl rfl
theorem wI (b:Int) (nm:av) (a:Int) (c:List ao):el b {aE.zero with kind:=7,name:=nm,at_:=a} c=oJ b (RI.start 7 nm a).it c:=rfl
theorem Ep (P:Nat) (a:ah):(Instr.mapUpdate 194 (.map (some a.heap.size)) (J 8) (.func (.func 96) #[ak P] #[])).run prog (a.alloc (.map (im P 7) 7))=.ok () (a.alloc (.map (im P 8) 8)):=
 d2 (P:=prog) (T:=194) underlying194 underlying3 a (im P 7) 7 _ _ rfl rfl
theorem Er (P:Nat) {a:ah} {b:Nat} (h:a.heap[b]?=some (.map (im P 10) 10)):(Instr.lookup 194 (.map (some b)) (J 8) false).run prog a=.ok (.func (.func 96) #[ak P] #[]) a:=
 jr (P:=prog) (T:=194) underlying194 underlying3 h (key:=.int .i64 8) rfl rfl
theorem wJ (b:Int) (nm:av) (a:Int) (c:List ao):el b {aE.zero with kind:=8,name:=nm,at_:=a} c=oK b (RI.start 8 nm a).it c:=rfl
theorem Es (P:Nat) (a:ah):(Instr.mapUpdate 194 (.map (some a.heap.size)) (J 9) (.func (.func 97) #[ak P] #[])).run prog (a.alloc (.map (im P 8) 8))=.ok () (a.alloc (.map (im P 9) 9)):=
 d2 (P:=prog) (T:=194) underlying194 underlying3 a (im P 8) 8 _ _ rfl rfl
theorem Et (P:Nat) {a:ah} {b:Nat} (h:a.heap[b]?=some (.map (im P 10) 10)):(Instr.lookup 194 (.map (some b)) (J 9) false).run prog a=.ok (.func (.func 97) #[ak P] #[]) a:=
 jr (P:=prog) (T:=194) underlying194 underlying3 h (key:=.int .i64 9) rfl rfl
theorem wK (b:Int) (nm:av) (a:Int) (c:List ao):el b {aE.zero with kind:=9,name:=nm,at_:=a} c=oL b (RI.start 9 nm a).it c:=rfl
theorem Eu (P:Nat) (a:ah):(Instr.mapUpdate 194 (.map (some a.heap.size)) (J 10) (.func (.func 98) #[ak P] #[])).run prog (a.alloc (.map (im P 9) 9))=.ok () (a.alloc (.map (im P 10) 10)):=
 d2 (P:=prog) (T:=194) underlying194 underlying3 a (im P 9) 9 _ _ rfl rfl
theorem Ev (P:Nat) {a:ah} {b:Nat} (h:a.heap[b]?=some (.map (im P 10) 10)):(Instr.lookup 194 (.map (some b)) (J 10) false).run prog a=.ok (.func (.func 98) #[ak P] #[]) a:=
 jr (P:=prog) (T:=194) underlying194 underlying3 h (key:=.int .i64 10) rfl rfl
theorem wL (b:Int) (nm:av) (a:Int) (c:List ao):el b {aE.zero with kind:=10,name:=nm,at_:=a} c=oM b (RI.start 10 nm a).it c:=rfl
theorem Ew (d:Int) (c:Nat) (e:ao) (l:List ao) (w:ah) (bx:az w c d (e::l)) (bP:bV w ⟨some ⟨0,0,none⟩,10,10⟩ fF) (bR:0<c):
 Calls prog 47 #[ak c] w λbR cc=>PP d c w (iC d (e::l)) (D6 w.heap.size) bR cc:=by
 have bR:=bx.lt;have cd:=Z bx;have ce:=Z (Kp.refl [c] w);have bQ:=Z bP;have aR:=Z (show bY e.at_ from wi bx);obtain⟨⟨bR,br,cc⟩,hb,bF⟩:=id bx;have cf:ae w (ac c 0) (O bR br cc):=aa.cell hb 0;have cc:0<br:=by have:=bF.lies.1;simp at this;omega
 obtain⟨b,cc,cg,df,dg,ch,ci,cj,ck⟩:=bF.first;have cl:bR=some ⟨b,cc,none⟩:=cg;subst cl;have bR:c≠w.heap.size:=af
 have bR:c≠w.heap.size+1:=af
 clear hb bF bP;clear bx;have bS:=Z (show iC d (e::l)=(dP d (e::l) fF).bind λg f=>(if g=5 then .ok e0 f else bN d f).bind λbr f=>(el d {aE.zero with kind:=g,name:=br,at_:=e.at_} f).bind λi f=>(aW d f (if g=4 then[⟨_⟩]else[⟨#[59]⟩])).bind λ_ f=>.ok i f from rfl);generalize iC d (e::l)=bs at bS⊢;have cm:(#[J 0,ai,e.at_,ai,ai,ab,ab,J 0,J 0,J 0,ab,ai,ai,ab,ab,ab,J 0,ai,ab,ab,ab,ai,ai,J 0,J 0]:Array Value).all (·.oneCell')=true:=bn
 have cn:prog.built 95 [(2,.int .i64 e.at_)]=some #[.int .i64 0,.string ⟨#[]⟩,.int .i64 e.at_,.string ⟨#[]⟩,.string ⟨#[]⟩,.slice none 0 0,.slice none 0 0,.int .i64 0,.int .i64 0,.int .i64 0,.slice none 0 0,.string ⟨#[]⟩,.string ⟨#[]⟩,.slice none 0 0,.slice none 0 0,.slice none 0 0,.int .i64 0,.string ⟨#[]⟩,.slice none 0 0,.slice none 0 0,.slice none 0 0,.string ⟨#[]⟩,.string ⟨#[]⟩,.int .i64 0,.int .i64 0]:=am
 have co:((w.alloc (.cells zaa 95)).alloc (.cells zaa 95)).heap[w.heap.size+1]?=some (.cells zaa 95 (0,0)):=by
  have h:=fP (w.alloc (.cells zaa 95)) (.cells zaa 95);exact wM
 have cp:((w.alloc (.cells zaa 95)).alloc (.cells zaa 95)).setRow (w.heap.size+1) #[J 0,ai,e.at_,ai,ai,ab,ab,J 0,J 0,J 0,ab,ai,ai,ab,ab,ab,J 0,ai,ab,ab,ab,ai,ai,J 0,J 0]=(w.alloc (.cells zaa 95)).alloc (.cells #[J 0,ai,e.at_,ai,ai,ab,ab,J 0,J 0,J 0,ab,ai,ai,ab,ab,ab,J 0,ai,ab,ab,ab,ai,ai,J 0,J 0] 95):=by
  have h:=World.setRow_alloc_new (w.alloc (.cells zaa 95)) zaa #[J 0,ai,e.at_,ai,ai,ab,ab,J 0,J 0,J 0,ab,ai,ai,ab,ab,ab,J 0,ai,ab,ab,ab,ai,ai,J 0,J 0] 95;exact wM
 go_enter func47,ntmps47
 go_upto_region 2 with(first|(refine D9 rfl 95 2 (.tmp 11) rfl e.at_ rfl #[J 0,ai,e.at_,ai,ai,ab,ab,J 0,J 0,J 0,ab,ai,ai,ab,ab,ab,J 0,ai,ab,ab,ab,ai,ai,J 0,J 0] cn ?_)|(refine wpList_store_row rfl 95 (.tmp 3) (.tmp 12) rfl (w.heap.size+1) #[J 0,ai,e.at_,ai,ai,ab,ab,J 0,J 0,J 0,ab,ai,ai,ab,ab,ab,J 0,ai,ab,ab,ab,ai,ai,J 0,J 0] rfl rfl 95 zaa co am rfl cm ?_;rw[cp]))
 have cq:=Z (aa.new w 95 zaa);have cr:=Z (show aa ((w.alloc (.cells zaa 95)).alloc (.cells #[J 0,ai,e.at_,ai,ai,ab,ab,J 0,J 0,J 0,ab,ai,ai,ab,ab,ab,J 0,ai,ab,ab,ab,ai,ai,J 0,J 0] 95)) (w.heap.size+1) 95 #[J 0,ai,e.at_,ai,ai,ab,ab,J 0,J 0,J 0,ab,ai,ai,ab,ab,ab,J 0,ai,ab,ab,ab,ai,ai,J 0,J 0] by simpa using aa.new (w.alloc (.cells zaa 95)) 95 #[J 0,ai,e.at_,ai,ai,ab,ab,J 0,J 0,J 0,ab,ai,ai,ab,ab,ab,J 0,ai,ab,ab,ab,ai,ai,J 0,J 0]);go_wp2_with fail
 refine D8 (D7 d (e::l) fF) aj ((ce.alloc _).alloc _) bS (vy d c (e::l) ⟨some ⟨0,0,none⟩,10,10⟩ fF _ ((cd.alloc _).alloc _) (bQ.same (((ag.refl w).alloc _).alloc _)) (λb f h=>by injection h with h;injection h with h;omega) ax) aN ?_;intro i bG bx bx cs bq hv m bH bI bx;have bz:=b5 m cq;have bA:=bl m cr;obtain⟨rfl,bT,bJ⟩:=hv;clear m;replace bJ:i<=10:=cs.2;have bU:1<=i/\i<=10:=⟨bT,bJ⟩;clear bT bJ cf ch ci cj ck bQ;obtain⟨aS,aT,aV,aX,aY,aZ,a0,a1,a2,a3,a4,a6,a7,a8,a9,ba,bc,bd,be,bf,bg,bh,bi,bj,bk⟩:=dZ bA;have aK:=λaH=>aa.frozen bA aH;obtain⟨ct,cu,cv,cw,cx,cy,cA,cB,cC,cD,cE,cF,cH,cI,cJ,cK,cL,cM,cN,cO,cP,cQ,cR,cS,cT⟩:=dZ bz;have cU:=λaH=>aa.frozen bz aH;go_upto_if 19 with(fail)
 go_cut [] (λwx=>∃(f:av) (g:List ao),aJ f/\Hid (aa wx (w.heap.size) 95 zaa/\aa wx (w.heap.size+1) 95 #[i,f,e.at_,ai,ai,ab,ab,J 0,J 0,J 0,ab,ai,ai,ab,ab,ab,J 0,ai,ab,ab,ab,ai,ai,J 0,J 0]/\Kp [c] w wx/\az wx c d g/\bs=(el d {aE.zero with kind:=i,name:=f,at_:=e.at_} g).bind λg f=>(aW d f (if i=4 then[⟨#[125]⟩]else[⟨#[59]⟩])).bind λ_ f=>.ok g f))
 case first=>
  by_cases f:i=5
  ·
   have g:(i==5)=true:=by simp[f]
   replace bq:Hid (bs=(el d {aE.zero with kind:=i,name:=e0,at_:=e.at_} bG).bind λj g=>(aW d g (if i=4 then[⟨#[125]⟩]else[⟨#[59]⟩])).bind λ_ g=>.ok j g):=Z (by rw[bq.out,if_pos f];rfl);clear f;go_wp2_with fail
   go_meet;exact⟨e0,_,b2 _ ax,Z ⟨(aa.far bz (p:=(ac (w.heap.size+1) 0)) aG i),(bA.aP 0 i),(Kp.set (p:=(ac (w.heap.size+1) 0)) aG bH i),(az.set aG bI _),bq⟩⟩
  have t:(i==5)=false:=by simp[f]
  replace bq:Hid (bs=(bN d bG).bind λbr g=>(el d {aE.zero with kind:=i,name:=br,at_:=e.at_} g).bind λj g=>(aW d g (if i=4 then[⟨#[125]⟩]else[⟨#[59]⟩])).bind λ_ g=>.ok j g):=Z (by rw[bq.out,if_neg f]);clear f;go_wp2_with fail
  refine aU aj (Kp.set aG bH i) bq (eM d c bG _ (az.set aG bI _)) aN ?_;intro g f f f k hv m n o f;have q:=Z (m.blk (aa.far bz aG i) bb);have j:=Z (m.blk (iA bA i) bb);obtain⟨rfl,s⟩:=hv;clear m;clear aS aT aV aX aY aZ a0 a1 a2 a3 a4 a6 a7 a8 a9 ba bc bd be bf bg bh bi bj bk aK;have aK:=λaH=>aa.frozen j aH;have f:=aa.cell j 1;go_wp2_with fail
  go_meet;exact⟨g,_,s,Z ⟨(aa.far q (p:=(ac (w.heap.size+1) 1)) aG g),(j.aP 1 g),(Kp.set (p:=(ac (w.heap.size+1) 1)) aG n g),(az.set aG o _),k⟩⟩
 obtain⟨j,f,bm,HX⟩:=hcut;obtain⟨bo,rfl⟩:=au wc;obtain⟨bW,bX,bZ,b0,bt⟩:=HX.out;have b1:=Z bt;clear bt HX;clear bz bA bH bI bq;try clear aS aT aV aX aY aZ a0 a1 a2 a3 a4 a6 a7 a8 a9 ba bc bd be bf bg bh bi bj bk aK
 try clear ct cu cv cw cx cy cA cB cC cD cE cF cH cI cJ cK cL cM cN cO cP cQ cR cS cT cU
 have cV:=@run_makeMap prog;have cW:=Eb c bo;have cX:=Ed c bo;have cY:=Ef c bo;have cZ:=Eh c bo;have c0:=Ej c bo;have c1:=El c bo;have c2:=En c bo;have c3:=Ep c bo;have c4:=Es c bo;have c5:=Eu c bo;go_upto_region 5 with(fail)
 go_cut [4] (λbo wx=>∃g:Nat,bo=.map (some g)/\Hid (aa wx (w.heap.size) 95 zaa/\aa wx (w.heap.size+1) 95 #[i,j,e.at_,ai,ai,ab,ab,J 0,J 0,J 0,ab,ai,ai,ab,ab,ab,J 0,ai,ab,ab,ab,ai,ai,J 0,J 0]/\Kp [c] w wx/\az wx c d f/\wx.heap[g]?=some (.map (im c 10) 10)))
 case first=>
  go_wp2_with fail
  go_meet;exact⟨_,rfl,Z ⟨bW.alloc _,bX.alloc _,bZ.alloc _,b0.alloc _,fP _ _⟩⟩
 obtain⟨dh,rfl,HX⟩:=hcut;obtain⟨di,rfl⟩:=au wc;obtain⟨sI,aD,aL,aM,aO⟩:=HX.out;have aQ:=b1;clear HX bW bX bZ b0 b1 cV cW cX cY cZ c0 c1 c2 c3 c4 c5;have b3:=aD.lt;have aI:∀b∈[c,w.heap.size+1],b∈[c]\/w.heap.size<=b:=by intro b hb;simp at hb;rcases hb with rfl|rfl;exact .inl aj;exact .inr af
 obtain⟨g,bo⟩:=au (w.heap.size+1);rw[<-bo]at aI b3 aD⊢;have bp:c<g:=af
 have bq:w.heap.size<g:=af
 clear bo;go_upto_region 6 with(fail)
 go_cut [] (λwx=>∃(r:RI) (k:List ao),r.kind=i/\Hid (aa wx (w.heap.size) 95 zaa/\aa wx g 95 r.cells.toArray/\mz (g+1) r wx/\Kp [c] w wx/\az wx c d k/\bs=(aW d k (if i=4 then[⟨#[125]⟩]else[⟨#[59]⟩])).bind λ_ k=>.ok r.it k))
 case first=>
  have o:=ay aD;rcases Ea bU.1 bU.2 with k|k|k|k|k|k|k|k|k|k
  ·subst k
   have o:=Ec c aO;have n:=Z (aQ.trans (congrArg (λr=>PO.bind r _) (wC d j e.at_ f)));go_wp2_with fail
   refine jF (l2:=[c,g]) aI aL n (by rw[<-wC];exact jE d _ f) (DX d c g f _ 1 j e.at_ aM aD bp ⟨by omega,by omega⟩ bm aR.out) aN ?_;exact kj
  ·subst k
   have o:=Ee c aO;have n:=Z (aQ.trans (congrArg (λr=>PO.bind r _) (wD d j e.at_ f)));go_wp2_with fail
   refine jF (l2:=[c,g]) aI aL n (by rw[<-wD];exact jE d _ f) (DU d c g f _ 2 j e.at_ aM aD bp ⟨by omega,by omega⟩ bm aR.out) aN ?_;exact kj
  ·subst k
   have o:=Eg c aO;have n:=Z (aQ.trans (congrArg (λr=>PO.bind r _) (wE d j e.at_ f)));go_wp2_with fail
   refine jF (l2:=[c,g]) aI aL n (by rw[<-wE];exact jE d _ f) (D0 d c g f _ 3 j e.at_ aM aD bp ⟨by omega,by omega⟩ bm aR.out) aN ?_;exact kj
  ·subst k
   have o:=Ei c aO;have n:=Z (aQ.trans (congrArg (λr=>PO.bind r _) (wF d j e.at_ f)));go_wp2_with fail
   refine jF (l2:=[c,g]) aI aL n (by rw[<-wF];exact jE d _ f) (D4 d c g f _ 4 j e.at_ aM aD bp ⟨by omega,by omega⟩ bm aR.out) aN ?_;exact kj
  ·subst k
   have o:=Ek c aO;have n:=Z (aQ.trans (congrArg (λr=>PO.bind r _) (wG d j e.at_ f)));go_wp2_with fail
   refine jF (l2:=[c,g]) aI aL n (by rw[<-wG];exact jE d _ f) (DV d c g f _ 5 j e.at_ aM aD bp ⟨by omega,by omega⟩ bm aR.out) aN ?_;exact kj
  ·subst k
   have o:=Em c aO;have n:=Z (aQ.trans (congrArg (λr=>PO.bind r _) (wH d j e.at_ f)));go_wp2_with fail
   refine jF (l2:=[c,g]) aI aL n (by rw[<-wH];exact jE d _ f) (ww d c g f _ 6 j e.at_ aM aD bp ⟨by omega,by omega⟩ bm aR.out) aN ?_;exact kj
  ·subst k
   have o:=Eo c aO;have n:=Z (aQ.trans (congrArg (λr=>PO.bind r _) (wI d j e.at_ f)));go_wp2_with fail
   refine jF (l2:=[c,g]) aI aL n (by rw[<-wI];exact jE d _ f) (D5 d c g f _ 7 j e.at_ aM aD bp ⟨by omega,by omega⟩ bm aR.out) aN ?_;exact kj
  ·subst k
   have o:=Er c aO;have n:=Z (aQ.trans (congrArg (λr=>PO.bind r _) (wJ d j e.at_ f)));go_wp2_with fail
   refine jF (l2:=[c,g]) aI aL n (by rw[<-wJ];exact jE d _ f) (DW d c g f _ 8 j e.at_ aM aD bp ⟨by omega,by omega⟩ bm aR.out) aN ?_;exact kj
  ·subst k
   have o:=Et c aO;have n:=Z (aQ.trans (congrArg (λr=>PO.bind r _) (wK d j e.at_ f)));go_wp2_with fail
   refine jF (l2:=[c,g]) aI aL n (by rw[<-wK];exact jE d _ f) (DY d c g f _ 9 j e.at_ aM aD bp ⟨by omega,by omega⟩ bm aR.out) aN ?_;exact kj
  subst k;have k:=Ev c aO;have n:=Z (aQ.trans (congrArg (λr=>PO.bind r _) (wL d j e.at_ f)));go_wp2_with fail
  refine jF (l2:=[c,g]) aI aL n (by rw[<-wL];exact jE d _ f) (DZ d c g f _ 10 j e.at_ aM aD bp ⟨by omega,by omega⟩ bm aR.out) aN ?_;intro a5 sJ v5 w5 hkd E5 hv k5 K5 Q5 z5;obtain⟨rfl,r,rfl,hb,hi⟩:=hv;go_wp2_with fail
  go_meet;exact⟨r,sJ,hkd,Z ⟨k5.blk sI aF,hb,hi.mono (λb h=>⟨by unfold Bw at h;omega,h.2⟩),K5.out,Q5.out,E5.out⟩⟩
 obtain⟨r,bC,hkd,HX⟩:=hcut;obtain⟨bB,rfl⟩:=au wc;obtain⟨b4,bK,hi,b6,b7,bt⟩:=HX.out;obtain⟨bD,bL⟩:=au r;rw[<-bL]at hi bt;obtain⟨k,n,o,q,s,⟨t,u,x⟩,dj,⟨y,z,A⟩,dk,B,C,D,⟨E,F,G⟩,dl,H,I,⟨K,L,M⟩,dm,⟨N,P,Q⟩,dn,⟨R,S,T⟩,dp,⟨U,V,⟨W,X,Y⟩,dq,⟨ad,al,an⟩,dr,⟨ap,aq,ar⟩,ds,aw,aA,aB,aC⟩⟩:=r;replace hkd:k=i:=hkd;subst hkd;have b8:=Z bL;have b9:=Z hi;have bu:Hid (aa bB g 95 #[k,n,o,q,s,O t u x,O y z A,B,C,D,O E F G,H,I,O K L M,O N P Q,O R S T,U,V,O W X Y,O ad al an,O ap aq ar,aw,aA,aB,aC]):=Z bK;have bv:=Z bt;have e:=bK.lt;clear bK hi bt HX bL sI aD aL aM aQ aO b3 aI;by_cases bw:k=4
 ·
  have e:(k==4)=true:=by simp[bw]
  replace bv:Hid (bs=(aW d bC [⟨#[125]⟩]).bind λ_ e=>.ok bD.it e):=Z (by rw[bv.out,if_pos bw]);clear bw;obtain⟨aS,aT,aV,aX,aY,aZ,a0,a1,a2,a3,a4,a6,a7,a8,a9,ba,bc,bd,be,bf,bg,bh,bi,bj,bk⟩:=dZ bu;have aK:=λaH=>aa.frozen bu aH;go_wp2_with fail
  refine aU aj (b6.alloc _) bv (c6 d c bC [⟨_⟩] _ bB _ (b7.alloc _) (cG [⟨_⟩] ax)) aN ?_;intro e e e ca c7 hv m c8 c9 e;have cb:=b5 m b4;have bM:=b5 m bu;have da:=Z (b9.kp (((Kp.refl [c] bB).alloc _).trans (m.mono aj)) bb);obtain rfl:=hv;clear m;clear aS aT aV aX aY aZ a0 a1 a2 a3 a4 a6 a7 a8 a9 ba bc bd be bf bg bh bi bj bk aK;obtain⟨aS,aT,aV,aX,aY,aZ,a0,a1,a2,a3,a4,a6,a7,a8,a9,ba,bc,bd,be,bf,bg,bh,bi,bj,bk⟩:=dZ bM;have aK:=λaH=>aa.frozen bM aH;clear aS aT aV aX aY aZ a0 a1 a2 a3 a4 a6 a7 a8 a9 ba bc bd be bf bg bh bi bj bk aK;have db:(#[k,n,o,q,s,O t u x,O y z A,B,C,D,O E F G,H,I,O K L M,O N P Q,O R S T,U,V,O W X Y,O ad al an,O ap aq ar,aw,aA,aB,aC]:Array Value).all (·.oneCell')=true:=by simp[Value.oneCell']
  go_wp2_with (first|(refine gX rfl 95 (.tmp 3) rfl g #[k,n,o,q,s,O t u x,O y z A,B,C,D,O E F G,H,I,O K L M,O N P Q,O R S T,U,V,O W X Y,O ad al an,O ap aq ar,aw,aA,aB,aC] rfl 95 bM.out _ underlying95 rfl am ?_)|(refine wpList_store_row rfl 95 (.tmp 2) (.tmp 59) rfl w.heap.size #[k,n,o,q,s,O t u x,O y z A,B,C,D,O E F G,H,I,O K L M,O N P Q,O R S T,U,V,O W X Y,O ad al an,O ap aq ar,aw,aA,aB,aC] rfl rfl 95 zaa cb.out am rfl db ?_))
  have bE:=ih ca w.heap.size #[k,n,o,q,s,O t u x,O y z A,B,C,D,O E F G,H,I,O K L M,O N P Q,O R S T,U,V,O W X Y,O ad al an,O ap aq ar,aw,aA,aB,aC];have dc:=jG cb #[k,n,o,q,s,O t u x,O y z A,B,C,D,O E F G,H,I,O K L M,O N P Q,O R S T,U,V,O W X Y,O ad al an,O ap aq ar,aw,aA,aB,aC];have dd:=Kp.grown c8 bE (λe bO=>by injection bO with bO;omega);have de:=az.grown c9 bE (λe bO=>by injection bO with bO;omega);have bO:=mz.kp da (Kp.grown (l:=[w.heap.size]) (Kp.refl _ ca) bE (λe bO=>by injection bO with bO;subst bO;simp)) aF;have e:=cz.mono (S':=Bw w.heap.size _) bO (λb h=>⟨by have:=h.1;omega,h.2⟩);clear bO bE;refine bodyPost_ret (v:=.agg #[k,n,o,q,s,O t u x,O y z A,B,C,D,O E F G,H,I,O K L M,O N P Q,O R S T,U,V,O W X Y,O ad al an,O ap aq ar,aw,aA,aB,aC]) (results_cell_row rfl _ _ w.heap.size 95 #[k,n,o,q,s,O t u x,O y z A,B,C,D,O E F G,H,I,O K L M,O N P Q,O R S T,U,V,O W X Y,O ad al an,O ap aq ar,aw,aA,aB,aC] (0,0) _ ?_ dc underlying95 rfl am) rfl ?_
  ·rfl
  rw[c7.out];exact⟨dd,_,rfl,⟨bD,rfl,by rw[b8.out];rfl,e⟩,de⟩
 have e:(k==4)=false:=by simp[bw]
 replace bv:Hid (bs=(aW d bC [⟨#[59]⟩]).bind λ_ e=>.ok bD.it e):=Z (by rw[bv.out,if_neg bw]);clear bw;obtain⟨aS,aT,aV,aX,aY,aZ,a0,a1,a2,a3,a4,a6,a7,a8,a9,ba,bc,bd,be,bf,bg,bh,bi,bj,bk⟩:=dZ bu;have aK:=λaH=>aa.frozen bu aH;go_wp2_with fail
 refine aU aj (b6.alloc _) bv (c6 d c bC [⟨#[59]⟩] _ bB _ (b7.alloc _) (cG [⟨#[59]⟩] ax)) aN ?_;intro d d d ca c7 hv m c8 c9 d;have cb:=b5 m b4;have bM:=b5 m bu;have da:=Z (b9.kp (((Kp.refl [c] bB).alloc _).trans (m.mono aj)) bb);obtain rfl:=hv;clear m;clear aS aT aV aX aY aZ a0 a1 a2 a3 a4 a6 a7 a8 a9 ba bc bd be bf bg bh bi bj bk aK;obtain⟨aS,aT,aV,aX,aY,aZ,a0,a1,a2,a3,a4,a6,a7,a8,a9,ba,bc,bd,be,bf,bg,bh,bi,bj,bk⟩:=dZ bM;have aK:=λaH=>aa.frozen bM aH;clear aS aT aV aX aY aZ a0 a1 a2 a3 a4 a6 a7 a8 a9 ba bc bd be bf bg bh bi bj bk aK;have db:(#[k,n,o,q,s,O t u x,O y z A,B,C,D,O E F G,H,I,O K L M,O N P Q,O R S T,U,V,O W X Y,O ad al an,O ap aq ar,aw,aA,aB,aC]:Array Value).all (·.oneCell')=true:=by simp[Value.oneCell']
 go_wp2_with (first|(refine gX rfl 95 (.tmp 3) rfl g #[k,n,o,q,s,O t u x,O y z A,B,C,D,O E F G,H,I,O K L M,O N P Q,O R S T,U,V,O W X Y,O ad al an,O ap aq ar,aw,aA,aB,aC] rfl 95 bM.out _ underlying95 rfl am ?_)|(refine wpList_store_row rfl 95 (.tmp 2) (.tmp 59) rfl w.heap.size #[k,n,o,q,s,O t u x,O y z A,B,C,D,O E F G,H,I,O K L M,O N P Q,O R S T,U,V,O W X Y,O ad al an,O ap aq ar,aw,aA,aB,aC] rfl rfl 95 zaa cb.out am rfl db ?_))
 have bE:=ih ca w.heap.size #[k,n,o,q,s,O t u x,O y z A,B,C,D,O E F G,H,I,O K L M,O N P Q,O R S T,U,V,O W X Y,O ad al an,O ap aq ar,aw,aA,aB,aC];have dc:=jG cb #[k,n,o,q,s,O t u x,O y z A,B,C,D,O E F G,H,I,O K L M,O N P Q,O R S T,U,V,O W X Y,O ad al an,O ap aq ar,aw,aA,aB,aC];have dd:=Kp.grown c8 bE (λc bO=>by injection bO with bO;omega);have de:=az.grown c9 bE (λc bO=>by injection bO with bO;omega);have bO:=mz.kp da (Kp.grown (l:=[w.heap.size]) (Kp.refl _ ca) bE (λc bO=>by injection bO with bO;subst bO;simp)) aF;have c:=cz.mono (S':=Bw w.heap.size _) bO (λb h=>⟨by have:=h.1;omega,h.2⟩);clear bO bE;refine bodyPost_ret (v:=.agg #[k,n,o,q,s,O t u x,O y z A,B,C,D,O E F G,H,I,O K L M,O N P Q,O R S T,U,V,O W X Y,O ad al an,O ap aq ar,aw,aA,aB,aC]) (results_cell_row rfl _ _ w.heap.size 95 #[k,n,o,q,s,O t u x,O y z A,B,C,D,O E F G,H,I,O K L M,O N P Q,O R S T,U,V,O W X Y,O ad al an,O ap aq ar,aw,aA,aB,aC] (0,0) _ ?_ dc underlying95 rfl am) rfl ?_
 ·rfl
 rw[c7.out];exact⟨dd,_,rfl,⟨bD,rfl,by rw[b8.out];rfl,c⟩,de⟩
theorem mA {w:ah} {a:Nat} {d:aX} {b:aQ} (e:Hid (aa w a d b)) (b:aQ):∃c,w.setRow a b=c/\Hid (aa c a d b)/\Hid (w.grownBy c (some a)):=⟨_,rfl,jG e.out b,ih w a b⟩
theorem cF.len (t:cF):t.cells.length=12:=rfl
structure eV (w:ah) (S:Nat->Prop) (r:cj):Prop where
 lc:cX w r.hc r.cH
 ic:aV S r.hc
 lf:aD w 4 r.hf Fx.cells r.fixed
 iF:aV S r.hf
 lb:cX w r.hb r.tables
 ib:aV S r.hb
 ls:aD w 12 r.hs cF.cells r.tests
 sK:aV S r.hs
theorem eV.mono {w:ah} {S S':Nat->Prop} {r:cj} (a:eV w S r) (b:∀c,S c->S' c):eV w S' r:=
 ⟨a.lc,a.ic.mono b,a.lf,a.iF.mono b,a.lb,a.ib.mono b,a.ls,a.sK.mono b⟩
theorem eV.keep {w d:ah} {S:Nat->Prop} {e:cj} (b:eV w S e) {l:List Nat} (k:Kp l w d) (c:∀a∈l,¬S a):eV d S e:=
 ⟨b.lc.kp k (λa d e f=>c a f (b.ic a d e)),b.ic,b.lf.kp k (λa d e f=>c a f (b.iF a d e)),b.iF,b.lb.kp k (λa d e f=>c a f (b.ib a d e)),b.ib,b.ls.kp k (λa d e f=>c a f (b.sK a d e)),b.sK⟩
def iS (e b:ah) (g k:Nat) (i:aT) (a j:Nat) (l:List cj) (m:Ru) (n:Value->Array Value):Prop:=
 ∃(f:cj) (c:aT) (d:Nat),f.ru=m/\aa b g 157 (n (O c (a+1) d))/\b.ownsRow k 64 10 (O c (a+1) d) (a+1) ((l++[f]).flatMap cj.cells)/\
  Kp (g::(Value.slice i a j).ownBlock.toList) e b/\((Value.slice c (a+1) d).ownBlock=(Value.slice i a j).ownBlock\/∃g,(Value.slice c (a+1) d).ownBlock=some g/\e.heap.size<=g)/\
  eV b (λg=>Bw e.heap.size b.heap.size g/\some g≠(Value.slice c (a+1) d).ownBlock) f
theorem jI {v:aA} {a:Nat} (h:a∈v.ownBlock.toList):v.ownBlock=some a:=by
 cases hv:v.ownBlock with
 |none=>rw[hv]at h;simp at h
 |some b=>rw[hv]at h;simp at h;rw[h]
theorem iS.qT {a e m:ah} {i c:Nat} {j:aT} {f k:Nat} {n:List cj} {g:cj} {s:bg} {o:Value->Array Value} (q:Kp [] a e) (t:a.ownsRow c 64 10 (O j f k) f s) (s:i<c) (s:c<=a.heap.size)
 (u:eV e (Bw a.heap.size e.heap.size) g) (p:fL e m i c 64 10 cj.cells j f k n g o):iS a m i c j f k n g.ru o:=by
 obtain⟨v,w,b,x,l,r⟩:=p;have hr:=b6 t;refine⟨g,v,w,rfl,b,x,(q.mono (λ_ h=>by cases h)).trans l,r.imp id (λ⟨a,h1,c⟩=>⟨a,h1,bL q.size c⟩),(u.keep l ?_).mono ?_⟩
 ·exact sL
 intro b hS;have h1:=hS.1;have a:=hS.2;have a:=l.size;refine⟨⟨h1,by omega⟩,λd=>?_⟩;rcases r with h|⟨y,h,z⟩
 ·rw[h]at d
  have:=(hr b d.symm).2;omega
 rw[h]at d;injection d with d
 omega
def cj.flat (a:Int) (b:av) (c d e f:Int):cj:=⟨a,b,c,aL,[],d,aL,[],e,f,aL,[],aL,[]⟩
theorem eV.flat (a:ah) (b:Nat->Prop) (c:Int) (d:av) (e f g i:Int):eV a b (cj.flat c d e f g i):=
 ⟨aD.none_ a 1 _,aV.none_ _ _ _,aD.none_ a 4 _,aV.none_ _ _ _,aD.none_ a 1 _,aV.none_ _ _ _,aD.none_ a 12 _,aV.none_ _ _ _⟩
def sM (d:List Tb) (a:aE):RO Ru:=
 (fu d a.at_ a.table a.attr).bind λb=>(fu d a.at_ a.other a.k4).bind λc=>RO.ap (decide (b.2.2=c.2.2)) 10 a.at_<|
  .ok {Ru.zero with kind:=3,name:=a.name,table:=b.1,col:=b.2.1,other:=c.1,mb:=c.2.1}
theorem Ez (d k:Nat) (j:RI) (h:Hd) (f:List RT) (u1 u2 u3 u4 u6 u7:aA) (p:aT) (g q:Nat) (r:List cj) (c:ah) (l:aa c d 157 #[h.val,u1,u2,u3,u4,O p g q,u6,u7,j.at_]) (I:bJ c h f) (w:c.ownsRow k 64 10 (O p g q) g (r.flatMap cj.cells)) (ae:r.length=g) (J:d<k) (ag:k<=c.heap.size) (ai:g<=1000):
 Calls prog 120 #[ak d,.agg j.cells.toArray] c λe w'=>jD c (sM (f.map RT.tb) j.it) (λx w'=>iS c w' d k p g q r x (λx=>#[h.val,u1,u2,u3,u4,x,u6,u7,j.at_])) e w':=by
 obtain⟨aj,x⟩:=au (sM (f.map RT.tb) j.it);rw[<-x];have L:=Z x;clear x;obtain⟨al,y,i,z,A,⟨am,an,ao⟩,bx,⟨aq,ar,av⟩,bz,aw,ax,az,⟨aB,aC,aD⟩,bA,B,C,⟨aE,aF,aG⟩,bB,⟨aH,aI,aJ⟩,bC,⟨aL,aM,s⟩,bD,⟨aN,aO,⟨aP,aQ,aR⟩,bE,⟨aU,aV,aW⟩,bF,⟨aX,aY,aZ⟩,bG,a0,a1,a2,a3⟩⟩:=j;have a4:=Z (show aj=(fu (f.map RT.tb) i z A).bind λb=>(fu (f.map RT.tb) i B C).bind λm=>RO.ap (decide (b.2.2=m.2.2)) 10 i<|.ok ({Ru.zero with kind:=3,name:=y,table:=b.1,col:=b.2.1,other:=m.1,mb:=m.2.1}:Ru)from L);clear L;have j:=l;clear l;have l:=j;clear j;have a5:=Z (Kp.refl [] c);have a6:=Z I;have a7:=Z l;have a8:=Z w;have a9:=Z w;show Calls prog 120 #[ak d,.agg #[al,y,i,z,A,O am an ao,O aq ar av,aw,ax,az,O aB aC aD,B,C,O aE aF aG,O aH aI aJ,O aL aM s,aN,aO,O aP aQ aR,O aU aV aW,O aX aY aZ,a0,a1,a2,a3]] c _;clear l I w;go_enter func120,ntmps120
 go_upto_region 1 with(fail)
 obtain⟨ba,j,D,c,l⟩:=nb c 95 _;rw[j];clear j;have M:=qk a5 c;have N:=Z (a6.same c);have bb:=Z (aK c a8);have t:=qb c a7;clear c;have P:=ay t;have Q:=b4 t;have bc:=aa.lt t;have bg:=bj D;have bh:=bo D;go_wp2_with fail
 refine dR a4 (qR d h f z A i ba bc P Q N) (fb M) ?_;intro a E bi bk bl m b;obtain⟨R,S,u⟩:=a;have F:E=.tuple #[R,S,u]:=m;subst F;have T:=Z (M.trans b);have bm:=Z (N.same (b.same));have bn:=Z (aK (b.same) bb);have v:=qo b t;have G:=qo b D;clear b;clear m bk P Q bg bh;go_upto_region 2 with(fail)
 have U:=ay v;have V:=b4 v;have bp:=aa.lt v;have bq:=oB G;have br:=qg G;go_wp2_with fail
 refine dR bl (qR d h f B C i bi bp U V bm) (fb T) ?_;intro a E bs bt W m b;obtain⟨X,s,qk⟩:=a;have F:E=.tuple #[X,s,qk]:=m;subst F;have H:=Z (T.trans b);have bu:=Z (aK (b.same) bn);have Y:=qo b v;have ab:=qo b G;clear b;clear m bt U V bq br;go_upto_region 3 with(fail)
 have ac:=b4 Y;have b:=aS ab;have b:=aa.lt ab;have n:=Z W.out;clear W;by_cases o:u=qk
 case neg=>
  have tk:(u==qk)=false:=by simp[o]
  rw[decide_eq_false o]at n;go_wp2_with fail
  exact b3 H n ac
 rw[decide_eq_true o]at n;have tk:(u==qk)=true:=by simp[o]
 go_wp2_with fail
 refine bX H n ac λbv=>?_;clear n tk o;have ad:=Z (qS d k (cj.flat 3 y R S X s) i h.val u1 u2 u3 u4 u6 u7 p g q r bs Y bu ae J af ai);go_wp2_with fail
 refine ad.mono ?_;rintro e b ⟨rfl,bw⟩;clear ad;go_wp2;first|go_end0|refine bodyPost_ret (results_none rfl _ _ _) rfl ?_
 rw[bv.out];exact⟨rfl,iS.qT H a9 J ag (eV.flat _ _ _ _ _ _ _ _) bw⟩
def iT (b:List Tb) (a:aE):RO (Int×List Int):=
 (df b a.at_ a.table).bind λc=>RO.ap (decide (0<a.names.length)) 1 a.at_<|(dc a.at_ (co b c).attrs [] a.names).bind λa=>.ok (c,a)
theorem wN (a:List Tb) (x:aE) (kind:Int):gB a x kind=(iT a x).bind λp=>.ok {Ru.zero with kind:=kind,name:=x.name,table:=p.1,cH:=p.2}:=by
 unfold gB iT;cases df a x.at_ x.table with
 |bad b c=>rfl
 |ok b=>
  unfold RO.bind RO.ap;dsimp only;split
  ·cases dc x.at_ (co a b).attrs [] x.names<;>rfl
  rfl
theorem wO {b:List Tb} {a:aE} {p:Int×List Int} (h:iT b a=.ok p):∃c:Nat,p.1=c/\c<b.length:=by
 unfold iT at h;cases hf:df b a.at_ a.table with
 |bad d e=>rw[hf]at h;cases h
 |ok d=>
  rw[hf]at h;unfold RO.bind RO.ap at h;dsimp only at h;split at h
  ·cases hc:dc a.at_ (co b d).attrs [] a.names with
   |bad e f=>rw[hc]at h;cases h
   |ok e=>rw[hc]at h;injection h with h;subst h;exact nE hf
  cases h
def sN (c:Int) (d:av) (e:Nat) (p:Int×List Int) (v:aA) (b:ah):Prop:=
 ∃a:Hd,v=.agg #[c,d,p.1,a.val,J 0,ab,J 0,J 0,ab,ab]/\cX b a p.2/\aV (Bw e b.heap.size) a
theorem wP (k:Nat) (g:RI) (h:Hd) (f:List RT) (q:Int) (u1 u2 u3 u4 u5 u6 u7:aA) (d:ah) (r:aa d k 157 #[h.val,u1,u2,u3,u4,u5,u6,u7,g.at_]) (M:bJ d h f) (N:bV d g.iP g.names) (aG:g.names.length<=5001):
 Calls prog 195 #[ak k,.agg g.cells.toArray,q] d λl w'=>RP [] d (iT (f.map RT.tb) g.it) (sN q g.name d.heap.size) l w':=by
 obtain⟨w,P⟩:=au (iT (f.map RT.tb) g.it);rw[<-P];have aH:=Z P;clear P;obtain⟨ba,x,e,Q,bb,⟨bg,bh,bi⟩,cx,⟨y,s,z⟩,m,bk,bl,bm,⟨bp,A,bq⟩,cy,br,bs,⟨bt,bu,bv⟩,cz,⟨bw,bx,bz⟩,cA,⟨bA,bB,bC⟩,cB,⟨bD,bE,⟨bF,bG,bH⟩,cC,⟨bK,bL,bM⟩,cD,⟨bN,bO,bP⟩,cE,bR,bS,bT,bU⟩⟩:=g;have aI:=Z (show w=(df (f.map RT.tb) e Q).bind λb=>RO.ap (decide (0<m.length)) 1 e<|(dc e (co (f.map RT.tb) b).attrs [] m).bind λc=>.ok (b,c)from aH);clear aH;obtain⟨aJ,o,R⟩:=h;have g:=r;clear r;have r:aa d k 157 #[O aJ o R,u1,u2,u3,u4,u5,u6,u7,e]:=g;clear g;have bW:=Z N;have bX:=aG;have bY:=N.1.1;have g:=M.1.1;clear N aG;have bZ:=Z (Kp.refl [] d);have b0:=Z M;have b2:=Z r;show Calls prog 195 #[ak k,.agg #[ba,x,e,Q,bb,O bg bh bi,O y s z,bk,bl,bm,O bp A bq,br,bs,O bt bu bv,O bw bx bz,O bA bB bC,bD,bE,O bF bG bH,O bK bL bM,O bN bO bP,bR,bS,bT,bU],q] d _;clear r M;go_enter func195,ntmps195
 go_upto_region 1 with(fail)
 obtain⟨P,r,M,g,N⟩:=nb d 95 _;rw[r];clear r;have P:=qk bZ g;have aG:=Z (b0.same g);have aH:=qb g b2;have ba:=Z (bW.same g);clear g;obtain⟨b3,r,b5,g,N⟩:=nc N 64 _;rw[r];clear r;have aK:=qk P g;have aL:=Z (aG.same g);have B:=qb g aH;have aN:=qb g M;have b6:=Z (ba.same g);clear g;have aO:=ay B;have aP:=b4 B;have b8:=aa.lt B;have b9:=bj aN;go_wp2_with fail
 refine dR aI (o5 k ⟨aJ,o,R⟩ f Q e b3 b8 aO aP aL) (fb aK) ?_;intro a S n aQ aT C c;obtain⟨b,rfl,aU⟩:=nE aQ;have D:S=.int .i64 (b:Int):=C;subst D;have T:b<f.length:=by simpa using aU
 have E:=Z (aK.trans c);have aV:=Z (aL.same (c.same));have t:=qo c B;have F:=qo c aN;have aW:=qo c b5;have ca:=Z (b6.same c.same);clear c;clear C aQ aU aO aP b9;go_upto_region 2 with(fail)
 have aX:=b4 t;have U:=aa.lt t;have V:=cc F;have g:=Z (show w=RO.ap (decide (0<m.length)) 1 e ((dc e f[b].tb.attrs [] m).bind λg=>.ok ((b:Int),g)) by rw[aT.out,nF f b T]);clear aT aI;have aY:=Z (show w=RO.ap (decide (0<s)) 1 e ((dc e f[b].tb.attrs [] m).bind λi=>.ok ((b:Int),i)) by rw[g.out,bY]);clear g;go_wp2_with fail
 refine fJ E aY aX ?av ?aC
 case av=>
  intro HX _;go_wp2;refine⟨rfl,?_⟩;rw[HX.out];exact⟨E,rfl⟩
 intro u _;clear aY V;obtain⟨i,p,cb,W,X,Y,ad⟩:=nD aV b T;have ai:=Z (λ(j:ah) (g:ag n j)=>wu k f[b] ⟨y,s,z⟩ m e j (aR U g.size) ((g.cell U).trans aX) ((aV.2 _ (List.getElem_mem T)).same g) (ca.same g) bX);obtain⟨tq,aZ⟩:=au (f[b]);rw[<-aZ]at X Y ad ai u;obtain⟨A,⟨al,an,ao⟩,a0,⟨ar,ax,az⟩,cF⟩:=tq;have a1:=X;have a2:ae n (ac i (p+b*3+1)) (O al an ao):=Y;have a3:ae n (ac i (p+b*3+2)) (O ar ax az):=ad;have cd:Hid (∀f,ag n f->Calls prog 113 #[ak k,.agg #[A,O al an ao,O ar ax az],O y s z] f λl w'=>RP [] f (dc e (a0.map RA.at_) [] m) (d3 f.heap.size 1 cu (λ_=>True)) l w'):=ai;have e:Hid (w=(dc e (a0.map RA.at_) [] m).bind λe=>.ok ((b:Int),e)):=u;clear X Y ad ai u aZ;have u:=e;clear e;subst cb;have e:(b:Int)<o:=af
 have e:(0:Int)<=b:=af
 have ce:=ay t;have U:=aa.lt t;have cf:=aS F;have V:=cc F;go_upto_region 3 with(fail)
 refine vM 18 ce cf V a1 a2 a3 λhS=>?_;refine dq ?_;refine eo ?_;refine sO ?_;refine tk 15 hS ?_;refine aM 16 (λK aD=>?_);go_simp;refine dR u (cd n.drew ((ag.refl n).drew)) (fb (E.drew)) ?_;intro a S a4 e cg C c;have c:=Z (((Kp.refl [] n).drew).trans c);obtain⟨⟨G,H,I⟩,D,L⟩:=C;have ch:S=.slice G H I:=D;clear D;subst ch;have a5:=(c.cell W aj).trans a1;have a6:=(c.cell W aj).trans a2;have a7:=(c.cell W aj).trans a3;have ci:=Z (E.trans c);have cj:=qo c t;have a8:=qo c F;have a9:=qo c aW;clear c;try go_simp
 have c:=ay cj;have e:=aS a8;have f:=cc a8;refine aD _ _ (λ_=>⟨c,e,f,a5,a6,a7⟩) ?_;refine aw ?_;have c:(λw':World=>ae w' (ac k 0) (O (some ⟨i,p,none⟩) o R)/\ae w' (aq d 1) x/\ae w' (aq d 6) (O y s z)/\ae w' (ac i (p+b*3)) A/\ae w' (ac i (p+b*3+1)) (O al an ao)/\ae w' (ac i (p+b*3+2)) (O ar ax az)) a4:=⟨c,e,f,a5,a6,a7⟩;refine tk 17 c ?_;refine b1 ?_;refine dF 18 (λK aD=>?_);refine Eq.mpr (if_pos rfl) ?_;refine wp_store_row 64 (.tmp 6) (.tmp 35) rfl ((d.heap.size+1)) _ rfl rfl 64 _ a9 am rfl bn (aD _ _ ?_);refine aw ?_;refine bQ ?_;obtain⟨e,c,j,aE⟩:=mA a9 #[q,x,(b:Int),O G H I,J 0,ab,J 0,J 0,ab,ab];rw[c];clear c;have ck:=Z (ci.grown aE (λc aF=>.inr (by injection aF with aF;omega)));have aF:=Z ((Kp.refl [(d.heap.size+1)] a4).grown aE (λc aF=>.inl (by injection aF with aF;simp[aF])));clear aE;have cl:=ay j;have cm:=aS j;have cn:=bc j;have cp:=bj j;have cq:=bo j;have cr:=bI j;have cs:=cc j;have ct:=b7 j;have cv:=b4 j;have cw:=jn j;go_wp2_with fail
 refine bodyPost_ret (v:=.agg #[q,x,(b:Int),O G H I,J 0,ab,J 0,J 0,ab,ab]) ?_ rfl ?_
 ·simp[results,results195,go_sem,cl,cm,cn,cp,cq,cr,cs,ct,cv,cw]
 rw[cg.out];have b:=aa.lt aW;have b:=aF.size;exact⟨ck,_,rfl,⟨G,H,I⟩,rfl,L.1.kp aF (λi b l o=>by have b:=(L.2.2.1 i b l).1;rw[eu]at b;have:=aB o;omega),λi b l=>⟨by have c:=(L.2.2.1 i b l).1;rw[eu]at c;omega,by have c:=(L.2.2.1 i b l).2;omega⟩⟩
theorem eV.cH {w:ah} {b:Nat->Prop} {a:Hd} {l:List Int} (c:Int) (d:av) (e f:Int) (g:cX w a l) (i:aV b a):eV w b ⟨c,d,e,a,l,f,aL,[],0,0,aL,[],aL,[]⟩:=
 ⟨g,i,aD.none_ w 4 _,aV.none_ _ _ _,aD.none_ w 1 _,aV.none_ _ _ _,aD.none_ w 12 _,aV.none_ _ _ _⟩
theorem EA (d m:Nat) (c:RI) (h:Hd) (f:List RT) (u1 u2 u3 u4 u6 u7:aA) (k:aT) (e l:Nat) (p:List cj) (b:ah) (g:aa b d 157 #[h.val,u1,u2,u3,u4,O k e l,u6,u7,c.at_]) (q:bJ b h f) (r:bV b c.iP c.names) (y:c.names.length<=5001) (z:b.ownsRow m 64 10 (O k e l) e (p.flatMap cj.cells)) (aV:p.length=e) (aG:d<m) (aW:m<=b.heap.size) (aX:e<=1000):
 Calls prog 118 #[ak d,.agg c.cells.toArray] b λs n=>jD b (gB (f.map RT.tb) c.it 1) (λt n=>iS b n d m k e l p t (λt=>#[h.val,u1,u2,u3,u4,t,u6,u7,c.at_])) s n:=by
 have A:=Z (λ(i:ah) (g:aa i d 157 _) (q:bJ i h f) (r:bV i c.iP c.names)=>wP d c h f 1 u1 u2 u3 u4 (O k e l) u6 u7 i g q r y);obtain⟨bi,t⟩:=au (gB (f.map RT.tb) c.it 1);rw[<-t];rw[wN]at t;have aH:=Z t;clear t;obtain⟨aI,t⟩:=au (iT (f.map RT.tb) c.it);have aY:=Z (λ(i:Int×List Int) (h:aI=.ok i)=>wO (show iT (f.map RT.tb) c.it=.ok i by rw[<-t];exact h));rw[<-t]at A aH;clear t;have u:=Z r;have t:=y;clear r y;obtain⟨B,i,o,C,D,⟨E,F,G⟩,bj,⟨v,w,x⟩,a0,H,I,L,⟨M,N,P⟩,bk,Q,R,⟨S,T,U⟩,bl,⟨V,W,X⟩,bm,⟨Y,ac,ad⟩,bn,⟨ae,ag,⟨ai,aj,al⟩,bo,⟨an,ao,ap⟩,bp,⟨aq,ar,av⟩,bq,aw,ax,ay,az⟩⟩:=c;have c:=g;clear g;have g:=c;clear c;have a1:Hid (∀(c:ah),aa c d 157 #[h.val,u1,u2,u3,u4,O k e l,u6,u7,o]->bJ c h f->bV c ⟨v,w,x⟩ a0->Calls prog 195 #[ak d,.agg #[B,i,o,C,D,O E F G,O v w x,H,I,L,O M N P,Q,R,O S T U,O V W X,O Y ac ad,ae,ag,O ai aj al,O an ao ap,O aq ar av,aw,ax,ay,az],J 1] c λs n=>RP [] c aI (sN 1 i c.heap.size) s n):=A;clear A;have c:=u;clear u;have u:=c;clear c;have c:=g.lt;have f:b.heap.size<=b.heap.size:=Nat.le_refl _;have a2:=Z (Kp.refl [] b);have a3:=Z q;have a4:=Z g;have a5:=Z z;have a6:=Z z;have c:=aZ c;show Calls prog 118 #[ak d,.agg #[B,i,o,C,D,O E F G,O v w x,H,I,L,O M N P,Q,R,O S T U,O V W X,O Y ac ad,ae,ag,O ai aj al,O an ao ap,O aq ar av,aw,ax,ay,az]] b _;clear g q z;go_enter func118,ntmps118
 go_upto_region 1 with(fail)
 obtain⟨a7,f,aJ,c,g⟩:=nb b 95 _;rw[f];clear f;have aB:=qk a2 c;have aM:=Z (a3.same c);have a8:=Z (aK c a5);have aN:=qb c a4;have aO:=Z (u.same c);have f:=aB.size;clear c;go_wp2_with (first|(refine gX rfl 95 (.tmp 3) rfl b.heap.size #[B,i,o,C,D,O E F G,O v w x,H,I,L,O M N P,Q,R,O S T U,O V W X,O Y ac ad,ae,ag,O ai aj al,O an ao ap,O aq ar av,aw,ax,ay,az] rfl 95 aJ.out _ underlying95 rfl am ?_)|fail)
 refine dR aH (a1 a7 aN aM aO) (fb aB) ?_;intro a a9 aP ba bb bc j;obtain⟨aC,bd⟩:=a;obtain⟨⟨aD,aE,aF⟩,aQ,be,aR⟩:=bc;have bf:a9=.agg #[J 1,i,aC,O aD aE aF,J 0,ab,J 0,J 0,ab,ab]:=aQ;clear aQ;subst bf;have aS:=Z (aB.trans j);have c:=Z (aM.same (j.same));have c:=Z (aK (j.same) a8);have f:=qo j aN;have g:=qo j aJ;have g:=Z (aO.same j.same);have g:=aS.size;clear j;have bg:=Z (aR.low (lo':=b.heap.size) af);clear aR ba aY;have b:=Z (qS d m ⟨1,i,aC,⟨aD,aE,aF⟩,bd,0,aL,[],0,0,aL,[],aL,[]⟩ o h.val u1 u2 u3 u4 u6 u7 k e l p aP f c aV aG af aX);have aU:Hid (Calls prog 194 #[ak d,.agg #[J 1,i,aC,O aD aE aF,J 0,ab,J 0,J 0,ab,ab]] aP _):=b;clear b;go_wp2_with fail
 refine aU.mono ?_;rintro s b ⟨rfl,bh⟩;clear aU;go_wp2;first|go_end0|refine bodyPost_ret (results_none rfl _ _ _) rfl ?_
 rw[bb.out];exact⟨rfl,iS.qT aS a6 aG aW (eV.cH _ _ _ _ be bg) bh⟩
theorem wQ {k:Program} {f:Oper} {c:Act} {m:Exit->Act->World->Prop} {l:Act->World->Prop} (g:aX) (i j:Operand) (n:f.op=.store g i j) (b:ah) (a d:aQ) (e:aX)
 (o:c.eval i=.pointer (some ⟨b.heap.size,0,none⟩)) (p:c.eval j=.agg a) (q:(k.info? g).map (·.size)=some a.size) (r:d.size=a.size) (s:a.all (·.oneCell')=true)
 (t:l (c.put f.dst undef) (b.alloc (.cells a e))):f.wp k c (b.alloc (.cells d e)) l m:=by
 refine wp_store_row g i j n b.heap.size a o p e d (aa.new b e d) q r s ?_;rw[World.setRow_alloc_new];exact t
theorem RO.bind_assoc {b c d:Type} (a:RO b) (f:b->RO c) (g:c->RO d):(a.bind f).bind g=a.bind λb=>(f b).bind g:=by cases a<;>rfl
theorem RO.gY {b g:Type} (a:Bool) (c d:Int) (e:RO b) (f:b->RO g):(RO.ap a c d e).bind f=RO.ap a c d (e.bind f):=by cases a<;>rfl
def pi (c:List Tb) (a:aE):RO Ru:=
 (gB c a 2).bind λb=>(cC a.at_ (co c b.table).attrs a.attr).bind λd=>RO.ap (!b.cH.any λe=>decide (e=d)) 1 a.at_<|
  (eS (co c b.table).attrs a.at_ [] a.fixed).bind λa=>.ok {b with col:=d,fixed:=a}
theorem EB (a:List Tb) (x:aE):pi a x=(iT a x).bind λp=>(cC x.at_ (co a p.1).attrs x.attr).bind λc=>RO.ap (!p.2.any λb=>decide (b=c)) 1 x.at_<|
 (eS (co a p.1).attrs x.at_ [] x.fixed).bind λl=>.ok {Ru.zero with kind:=2,name:=x.name,table:=p.1,cH:=p.2,col:=c,fixed:=l}:=by
 unfold pi;rw[wN,RO.bind_assoc];rfl
theorem EC {g:Type} (c:List At) (a:Int) (l:List Fx) (b:du) (f:List du) (d:List Fx->RO g):(eS c a l (b::f)).bind d=
 (cC a c b.name).bind λe=>RO.ap (!l.any λg=>decide (g.col=e)) 9 a<|RO.ap b.v.ok 2 a<|RO.ap (decide (b.v.k=(cE c e).kind)) 10 a<|(eS c a (l++[⟨e,b.v⟩]) f).bind d:=by
 show((cC a c b.name).bind _).bind d=_;rw[RO.bind_assoc];simp only[RO.gY]
theorem Tryz.ED:(prog.info? 68).map (λa=>(a.zero,a.size,a.bytes))=some (some (.agg #[J 0,J 0,J 0,ai]),4,40):=am
theorem Fx.len (f:Fx):f.cells.length=4:=rfl
theorem EE (u a9:Nat) (s:RI) (h:Hd) (w:List RT) (aE aG aI aJ aN aO:aA) (ar:aT) (F j:Nat) (ce:List cj) (f:ah) (az:aa f u 157 #[h.val,aE,aG,aI,aJ,O ar F j,aN,aO,s.at_]) (bb:bJ f h w) (cf:bV f s.iP s.names) (cz:s.names.length<=5001) (dd:aD f 4 s.pg du.cells s.fixed) (de:s.fixed.length<=5001) (cA:f.ownsRow a9 64 10 (O ar F j) F (ce.flatMap cj.cells)) (em:ce.length=F) (df:u<a9) (aC:a9<=f.heap.size) (ep:F<=1000):
 Calls prog 119 #[ak u,.agg s.cells.toArray] f λe w'=>jD f (pi (w.map RT.tb) s.it) (λdg w'=>iS f w' u a9 ar F j ce dg (λch=>#[h.val,aE,aG,aI,aJ,ch,aN,aO,s.at_])) e w':=by
 obtain⟨eq,es,et,ew,ex⟩:=info_parts Tryz.ED;have cg:=Z (λ(b:ah) (az:aa b u 157 #[h.val,aE,aG,aI,aJ,O ar F j,aN,aO,s.at_]) (bb:bJ b h w) (cf:bV b s.iP s.names)=>wP u s h w 2 aE aG aI aJ (O ar F j) aN aO b az bb cf cz);obtain⟨G,ch⟩:=au (pi (w.map RT.tb) s.it);rw[<-ch];rw[EB]at ch;have ci:=Z ch;clear ch;obtain⟨cB,ch⟩:=au (iT (w.map RT.tb) s.it);have ey:=Z (λ(b:Int×List Int) (h:cB=.ok b)=>wO (show iT (w.map RT.tb) s.it=.ok b by rw[<-ch];exact h));rw[<-ch]at cg ci;clear ch;obtain⟨ck,aQ,bg⟩:=h;have ch:w.length=aQ:=bb.1.1;have cD:=Z cf;have ch:=cz;have bh:=Z dd;have dh:=de;clear cf cz dd de;obtain⟨bk,q,d,bl,U,⟨bm,bp,bq⟩,f8,⟨aU,aW,aX⟩,di,br,bs,bt,⟨bv,bw,bx⟩,f9,bz,bA,⟨aY,cF,a3⟩,m,⟨bB,bC,bE⟩,ga,⟨bF,bG,bH⟩,gb,⟨bK,bL,⟨bM,bN,bO⟩,gc,⟨bP,bR,bS⟩,gd,⟨bT,bU,bW⟩,ge,bY,bZ,b0,b2⟩⟩:=s;have s:=az;clear az;have az:aa f u 157 #[O ck aQ bg,aE,aG,aI,aJ,O ar F j,aN,aO,d]:=s;clear s;have cG:Hid (∀(b:ah),aa b u 157 #[O ck aQ bg,aE,aG,aI,aJ,O ar F j,aN,aO,d]->bJ b ⟨ck,aQ,bg⟩ w->bV b ⟨aU,aW,aX⟩ di->Calls prog 195 #[ak u,.agg #[bk,q,d,bl,U,O bm bp bq,O aU aW aX,br,bs,bt,O bv bw bx,bz,bA,O aY cF a3,O bB bC bE,O bF bG bH,bK,bL,O bM bN bO,O bP bR bS,O bT bU bW,bY,bZ,b0,b2],J 2] b λe w'=>RP [] b cB (sN 2 q b.heap.size) e w'):=cg;have s:Hid (bV f ⟨aU,aW,aX⟩ di):=cD;have cD:=s;have s:Hid (aD f 4 ⟨aY,cF,a3⟩ du.cells m):=bh;have bh:=s;have s:m.length<=5001:=dh;clear dh;have ez:m.length=cF:=bh.1;subst ez;have eA:Hid (G=cB.bind λb=>(cC d (co (w.map RT.tb) b.1).attrs U).bind λj=>RO.ap (!b.2.any λc=>decide (c=j)) 1 d<|(eS (co (w.map RT.tb) b.1).attrs d [] m).bind λc=>.ok {Ru.zero with kind:=2,name:=q,table:=b.1,cH:=b.2,col:=j,fixed:=c}):=ci;have ci:=eA;show Calls prog 119 #[ak u,.agg #[bk,q,d,bl,U,O bm bp bq,O aU aW aX,br,bs,bt,O bv bw bx,bz,bA,O aY m.length a3,O bB bC bE,O bF bG bH,bK,bL,O bM bN bO,O bP bR bS,O bT bU bW,bY,bZ,b0,b2]] f _;have cg:=cG;have cG:=cg;have dj:=az.lt;have eB:=Z (Kp.refl [] f);have dk:=Z bb;have cK:=Z az;have dl:=Z cA;have eC:=Z cA;show Calls prog 119 #[ak u,.agg #[bk,q,d,bl,U,O bm bp bq,O aU aW aX,br,bs,bt,O bv bw bx,bz,bA,O aY m.length a3,O bB bC bE,O bF bG bH,bK,bL,O bM bN bO,O bP bR bS,O bT bU bW,bY,bZ,b0,b2]] f _;clear az bb cA;go_enter func119,ntmps119
 go_upto_region 1 with(fail)
 obtain⟨dm,s,dn,b,az⟩:=nb f 95 _;rw[s];clear s;have cL:=qk eB b;have dp:=Z (dk.same b);have eD:=Z (aK b dl);have dr:=qb b cK;have eE:=Z (cD.same b);have eF:=Z (bh.same b);have s:=cL.size;go_wp2_with (first|(refine gX rfl 95 (.tmp 3) rfl f.heap.size #[bk,q,d,bl,U,O bm bp bq,O aU aW aX,br,bs,bt,O bv bw bx,bz,bA,O aY m.length a3,O bB bC bE,O bF bG bH,bK,bL,O bM bN bO,O bP bR bS,O bT bU bW,bY,bZ,b0,b2] rfl 95 dn.out _ underlying95 rfl am ?_)|fail)
 refine dR ci (cG dm dr dp eE) (fb cL) ?_;intro a b5 r ds dt aZ i;obtain⟨eG,C⟩:=a;obtain⟨g,s,dv⟩:=ey _ ds;have eH:eG=(g:Int):=s;clear s;subst eH;have cM:g<w.length:=by simpa using dv
 obtain⟨⟨P,Q,R⟩,a4,dw,dx⟩:=aZ;have eI:b5=.agg #[J 2,q,(g:Int),O P Q R,J 0,ab,J 0,J 0,ab,ab]:=a4;clear a4;subst eI;have dy:=Z (cL.trans i);have eJ:=Z (dp.same (i.same));have dz:=Z (aK (i.same) eD);have eK:=qo i dr;have dA:=qo i dn;have eL:=Z (eF.same i.same);have s:=dy.size;clear i;have eM:=Z (dx.low (lo':=f.heap.size) af);have s:dm.heap.size<=r.heap.size:=by have:=dA.out.lt;omega
 clear dx ds dv;go_upto_region 2 with(first|(refine wpList_store_row rfl 64 (.tmp 4) (.tmp 11) rfl r.heap.size #[J 2,q,(g:Int),O P Q R,J 0,ab,J 0,J 0,ab,ab] rfl rfl 64 #[J 0,ai,J 0,ab,J 0,ab,J 0,J 0,ab,ab] (aa.new r 64 #[J 0,ai,J 0,ab,J 0,ab,J 0,J 0,ab,ab]) am rfl bn ?_;rw[World.setRow_alloc_new])|fail)
 have az:=Z (Kp.refl [] r);obtain⟨x,s,cl,b,-⟩:=nb r 64 #[J 2,q,(g:Int),O P Q R,J 0,ab,J 0,J 0,ab,ab];rw[s];clear s;have cN:=qk dy b;have s:=Z (eJ.same b);have cP:=qb b eK;have eN:=qb b dA;have eO:=Z (eL.same b);have eP:=qk az b;have az:=cN.size;have az:=aa.lt cl;obtain⟨B,W,dB,eQ,cQ,cR,cS⟩:=nD s g cM;have b7:ck=some ⟨B,W,none⟩:=dB;have dC:=Z (show G=(cC d w[g].tb.attrs U).bind λj=>RO.ap (!C.any λc=>decide (c=j)) 1 d<|(eS w[g].tb.attrs d [] m).bind λc=>.ok ({Ru.zero with kind:=2,name:=q,table:=g,cH:=C,col:=j,fixed:=c}:Ru) by rw[dt.out,nF w g cM]);clear dt;have cT:=Z (dk.2 _ (List.getElem_mem cM));have dD:=Z (λ(a:av) (n:ah) (c:ag f n)=>o6 u w[g] a d n (aR dj c.size) ((c.cell (p:=(ac u 8)) dj).trans (aa.cell cK 8)) (cT.same c));obtain⟨eR,dE⟩:=au (w[g]);rw[<-dE]at cQ cR cS dD dC cT;obtain⟨X,⟨H,D,S⟩,I,⟨Y,ad,al⟩,gf⟩:=eR;have dG:ae x (ac B (W+g*3)) X:=cQ;have dH:ae x (ac B (W+g*3+1)) (O H D S):=cR;have dI:ae x (ac B (W+g*3+2)) (O Y ad al):=cS;have cU:Hid (∀(a:av) (c:ah),ag f c->Calls prog 187 #[ak u,.agg #[X,O H D S,O Y ad al],a] c λe w'=>RP [] c (cC d (I.map RA.at_) a) h8 e w'):=dD;have dJ:Hid (fq f ⟨H,D,S⟩ I):=cT.1;have eT:Hid (G=(cC d (I.map RA.at_) U).bind λj=>RO.ap (!C.any λc=>decide (c=j)) 1 d<|(eS (I.map RA.at_) d [] m).bind λc=>.ok ({Ru.zero with kind:=2,name:=q,table:=g,cH:=C,col:=j,fixed:=c}:Ru)):=dC;clear cQ cR cS dE dB;have s:=eQ;have s:(g:Int)<aQ:=af
 have s:(0:Int)<=g:=af
 subst b7;have eU:=Z (dJ.same cN.same);have s:=ay cP;have w:=aa.lt cP;have w:=bc cl;have az:=aa.lt cl;refine si 11 s w dG dH dI λhS=>?_;refine dq ?_;refine tk 9 hS ?_;have dK:(λw':World=>ae w' (ac u 0) (O (some ⟨B,W,none⟩) aQ bg)/\ae w' (aq r 2) g/\ae w' (ac B (W+g*3)) X/\ae w' (ac B (W+g*3+1)) (O H D S)/\ae w' (ac B (W+g*3+2)) (O Y ad al)) (x.drew.alloc (.cells #[ai,ab,ab] 81)):=⟨bi s,bi w,bi dG,bi dH,bi dI⟩;refine aM 10 (λK a5=>?_);go_simp;refine a5 _ _ (λ_=>dK) ?_;refine aw ?_;refine b1 ?_;refine dF 11 (λK a5=>?_);refine Eq.mpr (if_pos rfl) ?_;refine wQ 81 (.tmp 5) (.tmp 21) rfl x.drew _ _ 81 rfl rfl am rfl bn (a5 _ _ ?_);refine aw ?_;refine bQ ?_;have an:=Z (show aa (x.drew.alloc (.cells #[X,O H D S,O Y ad al] 81)) x.heap.size 81 #[X,O H D S,O Y ad al]from aa.new x.drew 81 #[X,O H D S,O Y ad al]);have b:=Z (show ag x (x.drew.alloc (.cells #[X,O H D S,O Y ad al] 81))from((ag.refl x).drew).alloc _);obtain⟨eW,s⟩:=au (x.drew.alloc (.cells #[X,O H D S,O Y ad al] 81));rw[<-s]at an b⊢;clear s;have cV:=qk cN b;have eX:=qb b cP;have dL:=qb b eN;have eY:=qb b cl;have eZ:=Z (eO.same b);have e0:=Z (eU.same b);have e1:=qk eP b;have cm:=an;clear hS dK;go_upto_region 3 with(fail)
 have s:=bo dL;have s:=ay cm;have s:=aS cm;have s:=bc cm;go_upto_region 3 with(fail)
 go_wp2_with fail
 refine dR eT (cU U eW cV.same) (fb cV) ?_;intro a b5 dM e2 a0 aZ i;have a4:b5=.int .i64 a:=aZ;subst a4;have e3:=Z (cV.trans i);have e4:=qo i eX;have e5:=qo i dL;have cW:=qo i eY;have e6:=qo i cm;have s:=Z (eZ.same i.same);have s:=Z (e0.same i.same);have e7:=Z (e1.trans i);clear i;obtain⟨y,e8⟩:∃y:Int,y=a:=⟨a,rfl⟩;subst e8;clear aZ e2;have s:=λc=>aa.frozen cW c;have s:=bo cW;go_upto_region 4 with(fail)
 have an:=Z (l7 cW y);have s:=Z (Kp.aH (p:=(aq r 4)) (l:=[r.heap.size]) aj (Kp.refl [r.heap.size] dM) y);obtain⟨w,az⟩:=au (dM.setCell (aq r 4) y);rw[<-az]at an s⊢;clear az;have dN:=Z (s.old e7 (λB aC n=>absurd n (by rw[aB aC];omega)));have cX:=Z (s.old e3 (λB aC n=>absurd n (by rw[aB aC];omega)));have az:=qo s e4;have dO:=qo s e5;have dP:=qo s e6;have cn:=an;have s:=bj cn;have s:=bo cn;have dQ:=b4 az;have cY:Hid (Calls prog 188 #[O P Q R,y] w λe w'=>e=.returned (.bool (C.any λn=>decide (n=y)))/\w=w'):=Z (qi ⟨P,Q,R⟩ C y w (dw.same dN.same));have s:=Z (show G=RO.ap (!C.any λn=>decide (n=y)) 1 d ((eS (I.map RA.at_) d [] m).bind λn=>.ok ({Ru.zero with kind:=2,name:=q,table:=g,cH:=C,col:=y,fixed:=n}:Ru))from a0);clear a0;have a0:=s;generalize (C.any λn=>decide (n=y))=e9 at cY a0;cases e9
 case true=>
  go_wp2_with (first|(go_at_call 188;refine cY.out.mono ?_;rintro e w' ⟨rfl,rfl⟩)|fail)
  exact b3 cX a0 dQ
 go_wp2_with (first|(go_at_call 188;refine cY.out.mono ?_;rintro e w' ⟨rfl,rfl⟩)|fail)
 refine bX cX a0 dQ λs=>?_;clear a0;have w:=oC dO;obtain⟨ao,hF⟩:∃ao:List Fx->RO Ru,ao=λn=>.ok ({Ru.zero with kind:=2,name:=q,table:=g,cH:=C,col:=y,fixed:=n}:Ru):=⟨_,rfl⟩;have fa:=Z (λn=>congrFun hF n);have dS:=Z (show G=(eS (I.map RA.at_) d [] m).bind ao by rw[hF];exact s.out);clear hF s;obtain⟨T,s⟩:=au (I.map RA.at_);have dT:=Z s;rw[<-s]at dS cU;clear s;go_wp2_with fail
 go_loopg [39] (m.length+1) (λt w wr=>∃(c:Nat) (n:List Fx) (o:aT) (s:Nat),w=.int .i64 c/\c<=m.length/\m.length-c<t/\n.length=c/\Hid (wr.ownsRow (x.heap.size+1) 68 4 (O o c s) c (n.flatMap Fx.cells))/\Hid (aa wr r.heap.size 64 #[J 2,q,(g:Int),O P Q R,y,O o c s,J 0,J 0,ab,ab])/\Hid (aa wr x.heap.size 81 #[X,O H D S,O Y ad al])/\Hid (aa wr f.heap.size 95 #[bk,q,d,bl,U,O bm bp bq,O aU aW aX,br,bs,bt,O bv bw bx,bz,bA,O aY m.length a3,O bB bC bE,O bF bG bH,bK,bL,O bM bN bO,O bP bR bS,O bT bU bW,bY,bZ,b0,b2])/\Hid (Kp [] f wr)/\Hid (Kp [] r wr)/\x.heap.size<wr.heap.size/\Hid (G=(eS T d n (m.drop c)).bind ao))
 case atStart=>exact⟨0,[],none,0,rfl,by omega,by omega,rfl,Z ⟨rfl,.inl ⟨rfl,rfl⟩⟩,cn,dP,dO,cX,dN,aa.lt dP.out,dS⟩
 obtain⟨c,n,E,L,rfl,gg,dU,dV,cp,dW,fc,fd,a1,cZ,gh,cq⟩:=hrel;have dX:=Z dU;have c0:=Z dV;clear dU dV cn;have fe:=Z (Kp.refl [] wr);have ff:=Z (aK a1.same dl);have fg:=Z (bh.same a1.same);have fh:=Z (dJ.same a1.same);have dY:=qo a1 cK;have s:=a1.size;by_cases dZ:c<m.length
 case neg=>
  have s:¬(c:Int)<m.length:=af
  have o:=Z (show G=ao n by rw[cq.out,List.drop_of_length_le af];rfl);clear cq;have s:=Z (qS u a9 ⟨2,q,g,⟨P,Q,R⟩,C,y,⟨E,c,L⟩,n,0,0,aL,[],aL,[]⟩ d (O (some ⟨B,W,none⟩) aQ bg) aE aG aI aJ aN aO ar F j ce wr dY ff em df af ep);have t:Hid (Calls prog 194 #[ak u,.agg #[J 2,q,(g:Int),O P Q R,y,O E c L,J 0,J 0,ab,ab]] wr _):=s;go_wp2_with (first|(refine gX rfl 64 (.tmp 4) rfl r.heap.size #[J 2,q,(g:Int),O P Q R,y,O E c L,J 0,J 0,ab,ab] rfl 64 dW.out _ underlying64 rfl am ?_)|fail)
  refine t.mono ?_;rintro e s ⟨rfl,z⟩;go_wp2;first|go_end0|refine bodyPost_ret (results_none rfl _ _ _) rfl ?_
  rw[o.out,fa.out n];have FL:=cI (h:=⟨E,c,L⟩) Fx.len c0 (by show c<=_;omega) cp;have g:eV wr (Bw f.heap.size wr.heap.size) ⟨2,q,g,⟨P,Q,R⟩,C,y,⟨E,c,L⟩,n,0,0,aL,[],aL,[]⟩:=⟨dw.same cZ.same,eM.mono (λB aC=>⟨aC.1,by have:=aC.2;have:=cZ.out.size;omega⟩),FL,(λB g e=>by have h:=b6 cp.out B (by show(Value.slice E c L).ownBlock=_;have g:E=some ⟨B,g,none⟩:=e;rw[g];rfl);exact⟨by omega,h.2⟩),aD.none_ wr 1 _,aV.none_ _ _ _,aD.none_ wr 12 _,aV.none_ _ _ _⟩;exact⟨rfl,iS.qT a1 eC df aC g z⟩
 have g:(c:Int)<m.length:=af
 obtain⟨b8,of,d0,g,a6⟩:=fg.2.2 c dZ;have b7:aY=some ⟨b8,of,none⟩:=d0;obtain⟨ca,c1⟩:=au (m[c]);rw[<-c1]at a6;have c2:=Z (show G=(cC d T ca.name).bind λj=>RO.ap (!n.any λg=>decide (g.col=j)) 9 d<|RO.ap ca.v.ok 2 d<|RO.ap (decide (ca.v.k=(cE T j).kind)) 10 d<|(eS T d (n++[⟨j,ca.v⟩]) (m.drop (c+1))).bind ao by
  rw[cq.out,List.drop_eq_getElem_cons dZ,EC,<-c1])
 clear c1 d0 cq;obtain⟨cb,⟨o,z,A⟩⟩:=ca;have g:ae wr (ac b8 (of+c*4)) cb:=by simpa using a6 0 _ rfl
 have fi:ae wr (ac b8 (of+c*4+1)) o:=a6 1 _ rfl;have g:ae wr (ac b8 (of+c*4+2)) z:=a6 2 _ rfl;have g:ae wr (ac b8 (of+c*4+3)) A:=a6 3 _ rfl;have g:IntKind.i64.wrap ((c:Int)+1)=(c:Int)+1:=IntWalk.i64_in _ af;clear a6;subst b7;have fj:Hid (G=(cC d T cb).bind λj=>RO.ap (!n.any λg=>decide (g.col=j)) 9 d<|RO.ap (V.ok ⟨o,z,A⟩) 2 d<|RO.ap (decide (o=(cE T j).kind)) 10 d<|(eS T d (n++[⟨j,⟨o,z,A⟩⟩]) (m.drop (c+1))).bind ao):=c2;have c2:=fj;go_upto_region 8 with(first|(refine wpList_store_row rfl 238 (.tmp 7) (.tmp 42) rfl wr.heap.size #[cb,o,z,A] rfl rfl 238 #[ai,J 0,J 0,ai] (aa.new wr 238 #[ai,J 0,J 0,ai]) am rfl bn ?_;rw[World.setRow_alloc_new])|fail)
 obtain⟨fk,g,an,b,-⟩:=nb wr 238 #[cb,o,z,A];rw[g];clear g;have c3:=qk a1 b;have fl:=qb b dY;have fm:=qb b fd;have fn:=qb b dW;have cr:=qb b fc;have fo:=Z (fh.same b);have fp:=qk cZ b;have fr:=qk fe b;have d1:=an;have g:=ay cr;have g:=aS cr;have g:=bc cr;have g:=ay d1;go_wp2_with fail
 refine dR c2 (cU cb fk c3.same) (fb c3) ?_;intro a b5 c4 d2 a7 aZ i;have a4:b5=.int .i64 a:=aZ;subst a4;obtain⟨t,fs,c5⟩:=qQ d2;subst fs;have d3:t<I.length:=by rw[dT.out]at c5;simpa using c5
 clear c5;have ft:=Z (c3.trans i);have fu:=qo i fl;have fv:=qo i fm;have fw:=qo i fn;have fx:=qo i cr;have fy:=qo i d1;have fz:=Z (fo.same i.same);have fA:=Z (fp.trans i);have fB:=Z (fr.trans i);clear i;clear aZ d2;go_upto_region 9 with(fail)
 obtain⟨g,i,an,b,-⟩:=nb c4 3 #[(t:Int)];rw[i];clear i;have fD:=qk ft b;have fE:=qb b fu;have fF:=qb b fv;have d4:=qb b fw;have fG:=qb b fx;have fH:=qb b fy;have fI:=Z (fz.same b);have fJ:=qk fA b;have d5:=qk fB b;have c6:=an;have i:∀i f,(callFunc 197 i).run prog f=.ok (.enter 197 i) f:=enters_of func197 am rfl;have q:=ay c6;have s:=aa.lt c6;have j:=bI d4;have j:=Z (aK d5.same cp);have j:=cI (h:=⟨E,c,L⟩) Fx.len c0 (by show c<=_;omega) j;have d6:Hid (Calls prog 196 #[O E c L,.func (.func 197) #[] #[ak c4.heap.size]] g λe w'=>e=.returned (.bool (n.any λu=>decide (u.col=(t:Int))))/\ag g w'):=
  Z (DP 197 _ i ⟨E,c,L⟩ Fx.cells (λdg=>⟨_,_,_,_,rfl⟩) _ n g j (DR (c4.heap.size) (t:Int) g s q n))
 clear j i;obtain⟨d7,c7⟩:=au (n.any λg=>decide (g.col=(t:Int)));rw[<-c7]at d6;have fK:=Z (show G=RO.ap (!d7) 9 d (RO.ap (V.ok ⟨o,z,A⟩) 2 d<|RO.ap (decide (o=(cE T t).kind)) 10 d<|(eS T d (n++[⟨t,⟨o,z,A⟩⟩]) (m.drop (c+1))).bind ao) by rw[c7];exact a7.out);clear c7 a7;have a7:=fK;go_wp2_with fail
 refine d6.mono ?_;rintro e fL ⟨rfl,M⟩;have c8:=en fD M;have d8:=cO M fE;have fM:=cO M fF;have fN:=cO M d4;have fO:=cO M fG;have cs:=cO M fH;have fP:=cO M c6;have fQ:=Z (fI.same M);have fR:=en fJ M;have fS:=en d5 M;clear M;have d9:=b4 d8;cases d7
 case true=>
  go_wp2_with fail
  exact b3 c8 a7 d9
 go_wp2_with fail
 refine bX c8 a7 d9 λct=>?_;have g:=aS cs;have g:=bc cs;have g:=bj cs;clear a7;have ea:Hid (Rs 42 #[.agg #[o,z,A]] (.bool (V.ok ⟨o,z,A⟩))):=Z (λg=>p9 ⟨o,z,A⟩ g);obtain⟨fT,g⟩:=au (V.ok ⟨o,z,A⟩);rw[<-g]at ea ct;clear g;go_wp2_with fail
 refine(ea fL).mono ?_;rintro e eb ⟨rfl,N⟩;have cc:=en c8 N;have g:=cO N d8;have fU:=cO N fM;have fV:=cO N fN;have ec:=cO N fO;have ed:=cO N cs;have ee:=cO N fP;have ef:=Z (fQ.same N);have fW:=en fR N;have fX:=en fS N;clear N;have cu:=b4 g;cases fT
 case false=>
  go_wp2_with fail
  exact b3 cc ct cu
 go_wp2_with fail
 refine bX cc ct cu λa2=>?_;clear ct;obtain⟨ba,g,i,y,j,cv,q,s,u,w⟩:=iR ef t d3;have b7:H=some ⟨ba,g,none⟩:=i;have g:(t:Int)<D:=by have:=ef.out.1.1;have g:I.length=D:=this;omega
 have g:(0:Int)<=t:=af
 obtain⟨cw,g⟩:=au (I[t].at_.kind);rw[<-g]at cv;have d:=Z (show G=RO.ap (decide (o=cw)) 10 d ((eS T d (n++[⟨t,⟨o,z,A⟩⟩]) (m.drop (c+1))).bind ao) by rw[a2.out,dT.out,ki I t d3,<-g]);clear a2 g j q s u w i;have a2:=d;subst b7;have eg:=aS ec;have eh:=aS ed;have ei:=ay ee;go_upto_region 11 with(fail)
 cases hk:decide (o=cw)with
 |false=>
  have d:(o==cw)=false:=by simpa using hk
  rw[hk]at a2;clear hk;refine lm 12 eg eh ei cv λhS=>?_;refine dq ?_;refine eo ?_;refine aM 11 (λK a5=>?_);go_simp;exact b3 cc.drew a2 cu
 |true=>
  have fY:(o==cw)=true:=by simpa using hk
  rw[hk]at a2;clear hk;refine lm 12 eg eh ei cv λhS=>?_;refine dq ?_;refine eo ?_;refine aM 11 (λK a5=>?_);go_simp;refine bX cc.drew a2 cu λfZ=>?_;try go_simp
  refine a5 _ _ (λ_=>hS) ?_;refine aw ?_;refine b1 ?_;refine bQ ?_;have b:=Z ((ag.refl eb).drew);obtain⟨cx,d⟩:=au eb.drew;rw[<-d]at b⊢;clear d;have f0:=qk cc b;have f1:=qb b fU;have ej:=qb b fV;have f2:=qb b ec;have d:=qb b ed;have g:=qb b ee;have f3:=qk fW b;have b:=qk fX b;clear hS cv fY;have i:=bI ej;have g:=ay g;have g:=aS d;have g:=bc d;have g:=bj d;have d:=aa.lt d;have b:=Z (aK b.same cp);have dz:=Z (aK ((ag.refl cx).alloc (.cells #[(t:Int),o,z,A] 68)) b);have f4:=Z (cJ cx #[(t:Int),o,z,A] 68 4 rfl);have cd:=b6 b;go_wp2_with (at_builtin;refine ev _ rfl (.tmp 73) (.tmp 78) 61 rfl (x.heap.size+1) 68 eq _ 4 40 underlying61 es et ew ex rfl ax (O E c L) c (n.flatMap Fx.cells) rfl dz.out (cx.heap.size+1) (some ⟨cx.heap.size,0,none⟩) 1 1 (#[(t:Int),o,z,A]:Array Value).toList rfl f4.out bn b9 af aF ?_;intro fi da c9 ek f5;obtain⟨db,dc,rfl,f6⟩:=bu c9;have el:=Z c9;have a8:=Z ek;clear c9 ek f5 f6;have cy:=Z (aa.grown (ej.out.alloc (.cells #[(t:Int),o,z,A] 68)) a8.out (λe=>by have:=(cd _ e.symm).1;omega));have b:ae da (aq r 5) (O E c L):=aa.cell cy.out 5;have b:=λc=>aa.frozen cy.out c)
  have c9:=Z (aa.grown (f2.alloc _) a8 (λe=>by have:=(cd _ e.symm).1;omega));have ek:=Z (aa.grown (f1.alloc _) a8 (λe=>by have:=(cd _ e.symm).1;omega));have f5:=Z ((f0.alloc _).grown a8 (λb d=>.inr (by have:=cd b d;omega)));have f6:=Z ((f3.alloc _).grown a8 (λb d=>.inr (by have:=cd b d;omega)));have f7:=aa.lt c9;go_roundg (m.length-c)
  case measure=>have:=dX.out;omega
  refine⟨c+1,n++[⟨(t:Int),⟨o,z,A⟩⟩],db,dc,by go_num,by omega,omg dX,by rw[List.length_append,c0.out];rfl,Z ?_,Z (cy.out.aP 5 (O db (c+1) dc)),Z (c9.out.far (by show x.heap.size≠r.heap.size;omega) _),Z (ek.out.far (by show f.heap.size≠r.heap.size;omega) _),Z (f5.out.setCell (.inr (by show f.heap.size<=r.heap.size;omega)) _),Z (f6.out.setCell (.inr (Nat.le_refl _)) _),by simpa using f7,fZ⟩;rw[List.flatMap_append];exact bD el (Kp.aH (p:=(aq r 5)) (l:=[r.heap.size]) aj (Kp.refl _ da) _) aF
end Go.Proofs.YteamkimbmdgdbaaGreatDoor

import Derived.Test.YteamkimbmdgdbaaGreatDoorK14
set_option linter.unusedSimpArgs false
set_option linter.unusedVariables false
set_option maxHeartbeats 16000000
set_option maxRecDepth 100000
namespace Go.Proofs.YteamkimbmdgdbaaGreatDoor
open Go.Proofs.Tryz
open Go.RowKit
def mB (p:Sd×Int) (v:aA) (_:ah):Prop:=v=.tuple #[.agg p.1.cells.toArray,p.2]
theorem EG {g:Type} {e:List Nat} {c:ah} {i:FuncId} {j:aQ} {f:Ending->World->Prop} {d:RO g} {V:g->Value->World->Prop} (l:Calls prog i j c (λg b=>RP e c d V g b))
 (m:∀er a b,d=.bad er a->Hid (Kp e c b)->f (.panicked [{v:=fC er a,recovered:=false}]) b)
 (n:∀a v b,d=.ok a->V a v b->Hid (Kp e c b)->f (.returned v) b):Calls prog i j c f:=by
 refine l.mono ?_;rintro g b ⟨k,h⟩;cases hr:d with
 |bad er a=>rw[hr]at h;subst h;exact m er a b hr (Z k)
 |ok a=>rw[hr]at h;obtain⟨v,rfl,o⟩:=h;exact n a v b hr o (Z k)
theorem mC {a:ah} {c:Nat} {d:aQ} {b:Addr} (f:b.block<a.heap.size) (g:b.block≠c):(a.setRow c d).cell? b=a.cell? b:=
 World.cell?_of_block ((ih a c d).block _ f (λe=>g (by injection e with e)))
def pj (c:FuncId) (d:aQ) (e:ah) (f:dl->RO (Sd×Int)) (b:dl):Prop:=
 ∀a,ag e a->Calls prog c (#[.agg b.cells.toArray]++d) a λc d=>RP [] a (f b) mB c d
theorem EH (z r Bw:Nat) (j:FuncId) (A:aQ) (l:∀l a,(callFunc j l).run prog a=.ok (.enter j l) a) (l:dl->RO (Sd×Int)) (d:dl) (at_:Int) (a:ah) (aC:r<a.heap.size) (P:Bw<a.heap.size) (aD:z<a.heap.size)
 (Q:ae a (ac r 0) (.func (.func j) #[] A)) (R:ae a (ac Bw 0) (ak z)) (S:ae a (ac z 8) at_) (z:pj j A a l d):
 Calls prog 270 #[.agg d.cells.toArray,ak r,ak Bw] a λe w'=>RP [] a (hW at_ l d) mB e w':=by
 have s:Hid (hW at_ l d=if d.c then RO.ap d.v.ok 2 at_ (.ok (⟨-1,0,d.v⟩,d.v.k))else l d):=Z rfl;obtain⟨t,T⟩:=au (hW at_ l d);rw[<-T]at s⊢;clear T;obtain⟨U,l⟩:=au (l d);have u:=Z z;unfold pj at u;rw[<-l]at u s;clear l z;obtain⟨W,X,B,⟨b,f,g⟩⟩:=d;have Y:Hid (∀d,ag a d->Calls prog j (#[.agg #[W,X,B,b,f,g]]++A) d λe w'=>RP [] d U mB e w'):=u;have w:=s;clear u s;have aE:=Z (Kp.refl [] a);have aF:=Z Q;have ab:=Z R;have aG:=Z S;clear Q R S;show Calls prog 270 #[.agg #[W,X,B,b,f,g],ak r,ak Bw] a _;go_enter func270,ntmps270
 go_upto_region 1 with(fail)
 obtain⟨u,l,s,d,r⟩:=nb a 284 _;rw[l];clear l;have u:=qk aE d;clear d;obtain⟨C,l,ad,d,z⟩:=nc r 71 _;rw[l];clear l;have m:=qk u d;have i:=qb d s;clear d;have af:=ay i;have al:=aS i;have an:=bc i;have D:=bj i;have E:=bo i;have F:=bI i;have ao:=(m.cell aC aj).trans aF;have G:=(m.cell P aj).trans ab;clear r z;cases B
 case false=>
  have H:Hid (t=U):=w;clear w;go_wp2_with fail
  refine EG (Y C m.same) ?av ?aA
  case av=>
   intro l n d d o;have HX:=Z (show t=.bad l n by rw[H.out,d]);clear d;go_wp2;refine⟨rfl,?_⟩;rw[HX.out];exact⟨m.trans o,rfl⟩
  intro L ax d d M o;have az:=Z (show t=.ok L by rw[H.out,d]);clear d H;obtain⟨⟨p,q,⟨sk,x,y⟩⟩,N⟩:=L;have aB:ax=.tuple #[.agg #[p,q,sk,x,y],N]:=M;clear M;subst aB;have aH:=Z (m.trans o);have aI:=qo o i;have O:=qo o ad;clear o ao G af al an D E F;go_wp2_with (first|(refine wpList_store_row rfl 71 (.tmp 4) (.tmp 12) rfl (a.heap.size+1) #[p,q,sk,x,y] rfl rfl 71 #[J 0,J 0,J 0,J 0,ai] O.out am rfl bn ?_)|fail)
  obtain⟨l,d,n,I⟩:=mA O #[p,q,sk,x,y];rw[d];clear d;have ar:=Z (aH.grown I (λj ar=>.inr (by injection ar with ar;omega)));have aP:=Z (aa.grown aI I (λe=>by injection e with e;omega));clear I;have aJ:=ay n;have aK:=aS n;have aL:=bc n;have aN:=bj n;have aO:=bo n;refine bodyPost_ret (v:=.tuple #[.agg #[p,q,sk,x,y],N]) ?_ rfl ?_
  ·simp[results,results270,go_sem,aJ,aK,aL,aN,aO]
  rw[az.out];exact⟨ar,_,rfl,rfl⟩
 have H:Hid (t=RO.ap (V.ok ⟨b,f,g⟩) 2 at_ (.ok (⟨-1,0,⟨b,f,g⟩⟩,b))):=w;clear w Y;have I:Hid (Rs 42 #[.agg #[b,f,g]] (.bool (V.ok ⟨b,f,g⟩))):=Z (λd=>p9 ⟨b,f,g⟩ d);obtain⟨aH,d⟩:=au (V.ok ⟨b,f,g⟩);rw[<-d]at I H;clear d;go_upto_region 3 with(fail)
 refine lm 5 G D E F λhS=>?_;refine cR ?_;refine aM 3 (λK n=>?_);go_simp;refine(I C.drew).mono ?_;rintro e ar ⟨rfl,o⟩;have o:=Z (((ag.refl C).drew).trans o);have p:=qk m o;have x:=qb o i;have aI:=qb o ad;clear o I;have ax:=(p.cell P aj).trans ab;have L:=(p.cell aD aj).trans aG;have M:=bj x;have N:=bo x;have O:=bI x;try go_simp
 refine o1 n ⟨ax,M,N,O⟩ λy=>?_;refine aw ?_;cases aH
 case false=>
  have hS:=y;clear y;refine aM 4 (λK n=>?_);go_simp;exact b3 p H L
 have hS:=y;clear y;refine aM 4 (λK n=>?_);go_simp;refine bX p H L λaJ=>?_;try go_simp
 refine n _ _ (λ_=>hS) ?_;refine aw ?_;refine b1 ?_;refine bQ ?_;clear hS ao G af al an D E F ax L;go_upto_region 4 with(fail)
 have d:=Z ((ag.refl ar).drew);refine gD 8 M N O λhS=>?_;refine cR ?_;refine gl ?_;refine tk 5 hS ?_;obtain⟨m,i⟩:=au ar.drew;rw[<-i]at d hS⊢;clear i;have o:=qk p d;have i:=qb d x;have l:=qb d aI;clear M N O;have d:=bj i;have p:=bo i;have r:=bI i;have i:=aa.lt i;have d:(λw':World=>ae w' (aq a 3) b/\ae w' (aq a 4) f/\ae w' (aq a 5) g) (m.setRow ((a.heap.size+1)) #[J (-1),J 0,b,f,g]):=⟨(mC (by show a.heap.size<_;omega) (by show a.heap.size≠_;omega)).trans d,(mC (by show a.heap.size<_;omega) (by show a.heap.size≠_;omega)).trans p,(mC (by show a.heap.size<_;omega) (by show a.heap.size≠_;omega)).trans r⟩;refine aM 6 (λK n=>?_);refine wp_store_row 71 (.tmp 4) (.tmp 21) rfl ((a.heap.size+1)) _ rfl rfl 71 _ l am rfl bn (n _ _ (λ_=>d) ?_);refine aw ?_;refine tk 7 d ?_;refine gS am ?_ _;clear d;obtain⟨d,a,q,az⟩:=mA l #[J (-1),J 0,b,f,g];rw[a];clear a;have aB:=Z (o.grown az (λj aB=>.inr (by injection aB with aB;omega)));clear az;clear hS;have aK:=ay q;have aL:=aS q;have aN:=bc q;have aO:=bj q;have aP:=bo q;go_wp2_with fail
 refine bodyPost_ret (v:=.tuple #[.agg #[J (-1),J 0,b,f,g],b]) ?_ rfl ?_
 ·simp[results,results270,go_sem,aK,aL,aN,aO,aP]
 rw[aJ.out];exact⟨aB,_,rfl,rfl⟩
def sP (a:cF) (b:aA) (_:ah):Prop:=b=.agg a.cells.toArray
theorem wR (f:Nat) (g:FuncId) (i:aQ) (aA:∀t w,(callFunc g t).run prog w=.ok (.enter g t) w) (k:dl->RO (Sd×Int)) (s:bv) (at_:Int) (w:ah) (u:f<w.heap.size)
 (T:ae w (ac f 8) at_) (aB:pj g i w k s.l) (aC:pj g i w k s.r):
 Calls prog 198 #[ak f,.agg s.cells.toArray,.func (.func g) #[] i] w λe w'=>RP [] w (hY at_ k s) sP e w':=by
 have t:∀t w,(callFunc 270 t).run prog w=.ok (.enter 270 t) w:=enters_of func270 am rfl;have aV:=Z aB;have aW:=Z aC;have U:=Z T;have aD:=Z (λ(j:dl) (b:ah) (c:ag w b) (d Bw:Nat) (m:d<b.heap.size) (n:Bw<b.heap.size) (o:ae b (ac d 0) (.func (.func g) #[] i)) (q:ae b (ac Bw 0) (ak f)) (t:pj g i w k j)=>
  EH f d Bw g i aA k j at_ b m n (aR u c.size) o q ((c.cell (p:=(ac f 8)) u).trans T) (λb d=>t b (c.trans d)))
 obtain⟨R,t⟩:=au (hY at_ k s);rw[<-t];have aX:=Z t;clear t aB aC T;obtain⟨⟨y,z,m,⟨A,B,C⟩⟩,op,⟨D,E,n,⟨F,G,H⟩⟩,ad⟩:=s;obtain⟨aE,V⟩:=au (hW at_ k ⟨y,z,m,⟨A,B,C⟩⟩);obtain⟨aF,W⟩:=au (hW at_ k ⟨D,E,n,⟨F,G,H⟩⟩);have I:=Z (show R=RO.ap (aY op 1 4) 1 at_ (aE.bind λb=>aF.bind λc=>RO.ap (aY ad (-1000000000) 1000000000) 2 at_<|RO.ap (!(m&&n)&&(decide (b.2=c.2)&&(!decide (b.2=0)&&(decide (ad=0)||(decide (b.2=2)||decide (b.2=3)))))) 10 at_<|.ok (⟨b.1,op,c.1,ad⟩:cF)) by rw[V,W];exact aX.out);have k:=Z (λ(b:ah) (c:ag w b) (d Bw:Nat) j k o q=>aD ⟨y,z,m,⟨A,B,C⟩⟩ b c d Bw j k o q aV);have s:=Z (λ(b:ah) (c:ag w b) (d Bw:Nat) j o q s=>aD ⟨D,E,n,⟨F,G,H⟩⟩ b c d Bw j o q s aW);rw[<-V]at k;rw[<-W]at s;have aZ:Hid (∀(b:ah),ag w b->∀c Bw,c<b.heap.size->Bw<b.heap.size->ae b (ac c 0) (.func (.func g) #[] i)->ae b (ac Bw 0) (ak f)->Calls prog 270 #[.agg #[y,z,m,A,B,C],ak c,ak Bw] b λe w'=>RP [] b aE mB e w'):=k;have a0:Hid (∀(b:ah),ag w b->∀c Bw,c<b.heap.size->Bw<b.heap.size->ae b (ac c 0) (.func (.func g) #[] i)->ae b (ac Bw 0) (ak f)->Calls prog 270 #[.agg #[D,E,n,F,G,H],ak c,ak Bw] b λe w'=>RP [] b aF mB e w'):=s;clear V W aA;have aG:=Z (λb=>fI op 1 4 b);have aH:=Z (λb=>fI ad (-1000000000) 1000000000 b);generalize aY op 1 4=a1 at aG I;generalize aY ad (-1000000000) 1000000000=aI at aH I;have a2:=Z (Kp.refl [] w);show Calls prog 198 #[ak f,.agg #[y,z,m,A,B,C,op,D,E,n,F,G,H,ad],.func (.func g) #[] i] w _;go_enter func198,ntmps198
 go_upto_region 1 with(fail)
 obtain⟨y,k,s,b,t⟩:=nb w 154 _;rw[k];clear k;have y:=qk a2 b;obtain⟨A,k,t,b,z⟩:=nc t 286 _;rw[k];clear k;have y:=qk y b;have s:=qb b s;obtain⟨B,k,z,b,A⟩:=nc z 288 _;rw[k];clear k;have y:=qk y b;have s:=qb b s;have t:=qb b t;obtain⟨X,k,a3,b,A⟩:=nc A 73 _;rw[k];clear k;have L:=qk y b;have aJ:=qb b s;have aK:=qb b t;have a4:=qb b z;go_upto_region 1 with(fail)
 have k:=ay aJ;have s:=cc aK;have Y:=(L.cell (p:=(ac f 8)) u aj).trans U;refine dQ 5 k s λhS=>?_;refine cR ?_;refine aM 3 (λK j=>?_);go_simp;refine(aG X.drew).mono ?_;rintro e w' ⟨rfl,rfl⟩;try go_simp
 refine j _ _ (λ_=>hS) ?_;refine aw ?_;cases a1
 case false=>
  refine aM 4 (λK j=>?_);go_simp;exact b3 L.drew I Y
 refine aM 4 (λK j=>?_);go_simp;refine bX L.drew I Y λa5=>?_;try go_simp
 refine j _ _ (λ_=>hS) ?_;refine aw ?_;refine b1 ?_;refine bQ ?_;clear hS Y;have b:=Z ((ag.refl X).drew);obtain⟨aL,k⟩:=au X.drew;rw[<-k]at b⊢;clear k;have ab:=qk L b;have af:=qb b aJ;have o:=qb b aK;have al:=qb b a4;have a6:=qb b a3;have a7:=ay af;have a8:=aa.lt af;have a9:ae aL (ac (w.heap.size+2) 0) (.func (.func g) #[] i):=aa.cell al 0;have ba:=aa.lt al;have k:=ay o;have k:=aS o;have k:=bc o;have k:=bj o;have k:=bo o;have k:=bI o;go_wp2_with fail
 refine dR a5 (aZ aL ab.same (w.heap.size+2) w.heap.size ba a8 a9 a7) (fb ab) ?_;intro a v an bb bg x d;obtain⟨⟨xv,xc,⟨xk,xn,xs⟩⟩,c⟩:=a;have ao:v=.tuple #[.agg #[xv,xc,xk,xn,xs],c]:=x;clear x;subst ao;have bh:=Z (ab.trans d);have bi:=qo d af;have bk:=qo d o;have bl:=qo d al;have bm:=qo d a6;clear d;clear bb;go_upto_region 4 with(first|(refine wpList_store_row rfl 71 (.tmp 8) (.tmp 23) rfl an.heap.size #[xv,xc,xk,xn,xs] rfl rfl 71 #[J 0,J 0,J 0,J 0,ai] (aa.new an 71 #[J 0,J 0,J 0,J 0,ai]) am rfl bn ?_;rw[World.setRow_alloc_new])|fail)
 obtain⟨aN,k,bp,b,-⟩:=nb an 71 #[xv,xc,xk,xn,xs];rw[k];clear k;have aq:=qk bh b;have ar:=qb b bi;have q:=qb b bk;have k:=qb b bl;have bq:=qb b bm;have br:=ay ar;have bs:=aa.lt ar;have bt:ae aN (ac (w.heap.size+2) 0) (.func (.func g) #[] i):=aa.cell k 0;have bu:=aa.lt k;have i:=b7 q;have i:=b4 q;have i:=jn q;have i:=nj q;have i:=oB q;have i:=qg q;go_wp2_with fail
 refine dR bg (a0 aN aq.same (w.heap.size+2) w.heap.size bu bs bt br) (fb aq) ?_;intro a v av bw aO x d;obtain⟨⟨yv,yc,⟨yk,yn,ys⟩⟩,M⟩:=a;have ao:v=.tuple #[.agg #[yv,yc,yk,yn,ys],M]:=x;clear x;subst ao;have bx:=Z (aq.trans d);have bz:=qo d ar;have bA:=qo d q;have bB:=qo d bq;have bC:=qo d bp;clear d;clear bw;go_upto_region 5 with(first|(refine wpList_store_row rfl 71 (.tmp 10) (.tmp 30) rfl av.heap.size #[yv,yc,yk,yn,ys] rfl rfl 71 #[J 0,J 0,J 0,J 0,ai] (aa.new av 71 #[J 0,J 0,J 0,J 0,ai]) am rfl bn ?_;rw[World.setRow_alloc_new])|fail)
 obtain⟨ax,d,bD,b,-⟩:=nb av 71 #[yv,yc,yk,yn,ys];rw[d];clear d;have N:=qk bx b;have aP:=qb b bz;have aT:=qb b bA;have bE:=qb b bB;have bF:=qb b bC;have aU:=Z (show R=RO.ap aI 2 at_ (RO.ap (!(m&&n)&&(decide (c=M)&&(!decide (c=0)&&(decide (ad=0)||(decide (c=2)||decide (c=3)))))) 10 at_ (.ok (⟨⟨xv,xc,⟨xk,xn,xs⟩⟩,op,⟨yv,yc,⟨yk,yn,ys⟩⟩,ad⟩:cF)))from aO);clear aO;go_upto_region 5 with(fail)
 have d:=ay aP;have i:=oC aT;have az:=(N.cell (p:=(ac f 8)) u aj).trans U;refine dQ 5 d i λhS=>?_;refine cR ?_;refine aM 3 (λK j=>?_);go_simp;refine(aH ax.drew).mono ?_;rintro e w' ⟨rfl,rfl⟩;try go_simp
 refine j _ _ (λ_=>hS) ?_;refine aw ?_;cases aI
 case false=>
  refine aM 4 (λK j=>?_);go_simp;exact b3 N.drew aU az
 refine aM 4 (λK j=>?_);go_simp;refine bX N.drew aU az λE5=>?_;try go_simp
 refine j _ _ (λ_=>hS) ?_;refine aw ?_;refine b1 ?_;refine bQ ?_;clear hS az;have b:=Z ((ag.refl ax).drew);obtain⟨i,d⟩:=au ax.drew;rw[<-d]at b⊢;clear d;have nI:=qk N b;have k:=qb b aP;have d:=qb b aT;have wS:=qb b bE;have i:=qb b bF;have b:=qb b bD;obtain⟨RS,j⟩:∃RS:RO cF,RS=.ok (⟨⟨xv,xc,⟨xk,xn,xs⟩⟩,op,⟨yv,yc,⟨yk,yn,ys⟩⟩,ad⟩:cF):=⟨_,rfl⟩;have EI:=Z j;rw[<-j]at E5;clear j;have j:=ay k;have j:=bc d;have j:=cc d;have pk:=b4 d;have j:=jn d;have d:=oC d;have pk:=(nI.cell (p:=(ac f 8)) u aj).trans U;have d:=ay i;have d:=aS i;have d:=bc i;have d:=bj i;have d:=bo i;have d:=ay b;have d:=aS b;have d:=bc b;have d:=bj b;have b:=bo b;cases m
 case true=>
  cases n
  case true=>
   exact pm
  by_cases bG:c=M
  case neg=>
   exact pm
  subst bG;have b:(c==c)=true:=aj
  by_cases O:c=0
  case pos=>
   have b:(c !=0)=false:=by simp[O]
   have b:decide (c=0)=true:=by simp[O]
   clear O;exact pm
  have b:(c !=0)=true:=by simp[O]
  by_cases P:ad=0
  case pos=>
   have b:(ad==0)=true:=by simp[P]
   have b:decide (ad=0)=true:=by simp[P]
   clear P;exact nJ
  have b:(ad==0)=false:=by simp[P]
  by_cases Q:c=2
  case pos=>
   have b:(c==2)=true:=by simp[Q]
   have b:decide (c=2)=true:=by simp[Q]
   clear Q;exact nJ
  have b:(c==2)=false:=by simp[Q]
  by_cases S:c=3
  case pos=>
   have b:(c==3)=true:=by simp[S]
   have b:decide (c=3)=true:=by simp[S]
   clear S;exact nJ
  have b:(c==3)=false:=by simp[S]
  have E6:=Z (show R=RO.ap false 10 at_ RS by rw[E5.out];simp[*]);clear E5;go_wp2_with fail
  exact b3 nI E6 pk
 by_cases bG:c=M
 case neg=>
  exact pm
 subst bG;have b:(c==c)=true:=aj
 by_cases O:c=0
 case pos=>
  have b:(c !=0)=false:=by simp[O]
  have b:decide (c=0)=true:=by simp[O]
  clear O;exact pm
 have b:(c !=0)=true:=by simp[O]
 by_cases P:ad=0
 case pos=>
  have b:(ad==0)=true:=by simp[P]
  have b:decide (ad=0)=true:=by simp[P]
  clear P;exact nJ
 have b:(ad==0)=false:=by simp[P]
 by_cases Q:c=2
 case pos=>
  have b:(c==2)=true:=by simp[Q]
  have b:decide (c=2)=true:=by simp[Q]
  clear Q;exact nJ
 have b:(c==2)=false:=by simp[Q]
 by_cases S:c=3
 case pos=>
  have b:(c==3)=true:=by simp[S]
  have b:decide (c=3)=true:=by simp[S]
  clear S;exact nJ
 have b:(c==3)=false:=by simp[S]
 have E6:=Z (show R=RO.ap false 10 at_ RS by rw[E5.out];simp[*]);clear E5;go_wp2_with fail
 exact b3 nI E6 pk
def iU (a:List (ByteArray×Int)):List (Value×Value):=a.zipIdx.map λa=>(.string a.1.1,.int .i64 (a.2:Int))
theorem wT (c:List (ByteArray×Int)) (a:Nat) (d:Value×Value) (h:(iU c)[a]?=some d):∃b,c[a]?=some b/\d=(.string b.1,.int .i64 (a:Int)):=by
 unfold iU at h;rw[List.getElem?_map,List.getElem?_zipIdx]at h;cases hv:c[a]? with
 |none=>rw[hv]at h;simp at h
 |some b=>rw[hv]at h;simp at h;exact⟨b,rfl,h.symm⟩
theorem wU {f:ah} {g:Nat} {a:List (ByteArray×Int)} (h:cQ .string f g (iU a)) (k:(a.map (·.1)).Nodup) (c:av):
 ((a.any λd=>decide (d.1=c))=false/\(Instr.lookup 281 (.map (some g)) c true).run prog f=.ok (.tuple #[J 0,.bool false]) f)\/
 ∃e:Nat,e<a.length/\(a.any λd=>decide (d.1=c))=true/\ce (λd:ByteArray×Int=>decide (d.1=c)) a=(e:Int)/\(Instr.lookup 281 (.map (some g)) c true).run prog f=.ok (.tuple #[(e:Int),.bool true]) f:=by
 rcases h.look (P:=prog) (T:=281) underlying281 underlying9 (J 0) zeroValue3 c trivial with⟨i,j⟩|⟨b,n,i,j⟩
 ·refine .inl ⟨?_,j true⟩
  rw[List.any_eq_false];intro d l;obtain⟨b,m,rfl⟩:=List.mem_iff_getElem.1 l;have:=i (.string a[b].1,.int .i64 (b:Int)) (List.mem_map.2 ⟨(a[b],b),by rw[List.mem_zipIdx_iff_getElem?];simp[m],rfl⟩);simp at this;simpa using this
 obtain⟨d,l,m⟩:=wT a b _ i;injection m with e1 e2
 injection e1 with e1
 subst e2;obtain⟨d,f⟩:=List.getElem?_eq_some_iff.1 l;have f:a[b].1=c:=by rw[f,e1]
 refine .inr ⟨b,d,?_,?_,j true⟩
 ·rw[List.any_eq_true]
  exact⟨_,List.getElem_mem d,by simpa using f⟩
 refine qc b d (by simpa using f) (λe d=>?_);have c:a[e].1≠c:=by
  intro g;have i:e<(a.map (·.1)).length:=aF
  have a:b<(a.map (·.1)).length:=aF
  exact(List.pairwise_iff_getElem.1 k e b i a d) (by simp;rw[g,f])
 simpa using c
structure pn (w:ah) (X Bv Bw Br M:Nat) (h hb:Hd) (ts:List RT) (vs:List (ByteArray×Int)) (at_:Int):Prop where
 hX:X<w.heap.size
 c0:ae w (ac X 0) h.val
 c8:ae w (ac X 8) at_
 hv:Bv<w.heap.size
 cv:ae w (ac Bv 0) (.map (some M))
 m:cQ .string w M (iU vs)
 nd:(vs.map (·.1)).Nodup
 hw:Bw<w.heap.size
 cw:ae w (ac Bw 0) (ak X)
 hr:Br<w.heap.size
 cr:ae w (ac Br 8) hb.val
 lb:cX w hb (vs.map (·.2))
 ix:∀p∈vs,∃q:Nat,p.2=q/\q<ts.length
 ta:bJ w h ts
theorem pn.same {w d:ah} {X b Bw c e:Nat} {h f:Hd} {ts:List RT} {g:List (ByteArray×Int)} {at_:Int} (a:pn w X b Bw c e h f ts g at_) (s:ag w d):pn d X b Bw c e h f ts g at_:=
 ⟨aR a.hX s.size,(s.cell (p:=(ac X 0)) a.hX).trans a.c0,(s.cell (p:=(ac X 8)) a.hX).trans a.c8,aR a.hv s.size,(s.cell (p:=(ac b 0)) a.hv).trans a.cv,a.m.kp (Kp.of_same (l:=[]) s) aj,a.nd,
  aR a.hw s.size,(s.cell (p:=(ac Bw 0)) a.hw).trans a.cw,aR a.hr s.size,(s.cell (p:=(ac c 8)) a.hr).trans a.cr,a.lb.same s,a.ix,a.ta.same s⟩
theorem EJ (w R Bw y W:Nat) (h F:Hd) (q:List RT) (A:List (ByteArray×Int)) (G:dl) (at_:Int) (i:ah) (a:pn i w R Bw y W h F q A at_):
 Calls prog 199 #[.agg G.cells.toArray,ak R,ak Bw,ak y] i λe w'=>RP [] i (gC (q.map RT.tb) at_ A G) mB e w':=by
 obtain⟨aN,S,H⟩:=h;obtain⟨aO,T,aP⟩:=F;have U:=Z a;have aQ:=Z a.ta;have W:=a.ta.1.1;have aT:=a.lb.1;have W:=a.lb.2.1;have bm:=a.hX;have W:=a.hw;have W:=a.hr;clear a;obtain⟨I,W⟩:=au (gC (q.map RT.tb) at_ A G);rw[<-W];have L:=Z W;clear W;obtain⟨aU,M,bp,⟨bq,br,bs⟩⟩:=G;have bt:=Z (Kp.refl [] i);show Calls prog 199 #[.agg #[aU,M,bp,bq,br,bs],ak R,ak Bw,ak y] i _;go_enter func199,ntmps199
 go_upto_region 1 with(fail)
 obtain⟨bp,G,W,c,R⟩:=nb i 284 _;rw[G];clear G;have bp:=qk bt c;have bq:=Z (aQ.same c);have br:=Z (U.same c);clear c;obtain⟨b,G,bu,c,bs⟩:=nc R 71 _;rw[G];clear G;have N:=qk bp c;have bv:=Z (bq.same c);have aV:=qb c W;have o:=Z (br.same c);clear c;have G:i.heap.size+1<b.heap.size:=af
 clear R bs;have bw:=ay aV;have bx:=o.cv;have X:=o.cw;have Y:=o.c8;rcases wU o.out.m o.out.nd aU with⟨B,ad⟩|⟨f,al,B,aW,ad⟩
 case inl=>
  have d:=Z (show I=RO.ap false 8 at_ _ by rw[L.out];unfold gC;rw[B]);clear B L;go_wp2_with fail
  exact b3 N d Y
 obtain⟨d,an,ao⟩:=U.ix _ (List.getElem_mem al);have aX:=Z (show I=RO.ap true 8 at_ ((cC at_ q[d].tb.attrs M).bind λg=>.ok ((⟨(f:Int),g,V.zero⟩:Sd),(cE q[d].tb.attrs g).kind)) by
  rw[L.out];unfold gC;rw[B,aW];have g:(A[(f:Int).toNat]?).getD (e0,0)=A[f]:=by rw[Int.toNat_natCast,List.getElem?_eq_getElem al];rfl
  dsimp only;rw[g,an,nF q d ao])
 have bz:=Z (show ae b (ac y 8) (O aO T aP)from o.cr);have bA:∃g j,aO=some ⟨g,j,none⟩/\g<b.heap.size/\ae b (ac g (j+f)) (d:Int):=by
  obtain⟨g,j,aN,F,H⟩:=o.lb.one f (by simpa using al) (v:=.int .i64 (d:Int)) (by simp[cu,an]);exact⟨g,j,aN,F,H⟩
 obtain⟨aY,aZ,bB,b5,ar⟩:=bA;subst bB;have A:(f:Int)<T:=by have:=aT;simp at this;omega
 have A:(0:Int)<=f:=af
 clear B aW L an aT;go_wp2_with fail
 refine bX N aX Y λax=>?_;clear aX ad;obtain⟨g,j,az,A,aA,aB,aC⟩:=nD bv d ao;have P:=Z (aQ.2 _ (List.getElem_mem ao));have aD:=Z (λ(a:av) (l:ah) (k:ag i l)=>o6 w q[d] a at_ l (aR bm k.size) (U.same k).c8 (P.same k));obtain⟨tq,a0⟩:=au (q[d]);rw[<-a0]at aA aB aC aD ax P;obtain⟨x,⟨p,k,n⟩,r,⟨s,t,u⟩,b6⟩:=tq;have aE:=aA;have aF:ae b (ac g (j+d*3+1)) (O p k n):=aB;have aG:ae b (ac g (j+d*3+2)) (O s t u):=aC;have a1:Hid (∀(a:av) (l:ah),ag i l->Calls prog 187 #[ak w,.agg #[x,O p k n,O s t u],a] l λe w'=>RP [] l (cC at_ (r.map RA.at_) a) h8 e w'):=aD;have a2:Hid (fq i ⟨p,k,n⟩ r):=P.1;have a3:Hid (I=(cC at_ (r.map RA.at_) M).bind λl=>.ok ((⟨(f:Int),l,V.zero⟩:Sd),(cE (r.map RA.at_) l).kind)):=ax;clear aA aB aC aD ax a0 P;have q:(d:Int)<S:=af
 have q:(0:Int)<=d:=af
 subst az;have bC:=Z (a2.same N.same);have aH:ae b (ac w 0) (O (some ⟨g,j,none⟩) S H):=o.c0;have aI:=bz.out;have q:w<b.heap.size:=af
 have q:Bw<b.heap.size:=af
 have q:y<b.heap.size:=af
 go_upto_region 3 with(fail)
 refine o2 14 X aH aI ar aE aF aG λhS=>?_;refine dq ?_;refine eo ?_;refine tk 11 hS ?_;refine tk 12 hS ?_;have a4:(λw':World=>ae w' (ac Bw 0) (ak w)/\ae w' (ac w 0) (O (some ⟨g,j,none⟩) S H)/\ae w' (ac y 8) (O (some ⟨aY,aZ,none⟩) T aP)/\ae w' (ac aY (aZ+f)) (d:Int)/\ae w' (ac g (j+d*3)) x/\ae w' (ac g (j+d*3+1)) (O p k n)/\ae w' (ac g (j+d*3+2)) (O s t u)) (b.drew.alloc (.cells #[ai,ab,ab] 81)):=⟨(World.cell?_alloc_lt _ _ _ cK).trans X,(World.cell?_alloc_lt _ _ _ cK).trans aH,(World.cell?_alloc_lt _ _ _ cK).trans aI,(World.cell?_alloc_lt _ _ _ cK).trans ar,(World.cell?_alloc_lt _ _ _ cK).trans aE,(World.cell?_alloc_lt _ _ _ cK).trans aF,(World.cell?_alloc_lt _ _ _ cK).trans aG⟩;refine aM 13 (λK C=>?_);go_simp;refine C _ _ (λ_=>a4) ?_;refine aw ?_;refine b1 ?_;refine dF 14 (λK C=>?_);refine Eq.mpr (if_pos rfl) ?_;refine wQ 81 (.tmp 9) (.tmp 33) rfl b.drew _ _ 81 rfl rfl am rfl bn (C _ _ ?_);refine aw ?_;refine bQ ?_;have d:=Z (show aa (b.drew.alloc (.cells #[x,O p k n,O s t u] 81)) b.heap.size 81 #[x,O p k n,O s t u]from aa.new b.drew 81 #[x,O p k n,O s t u]);have c:=Z (show ag b (b.drew.alloc (.cells #[x,O p k n,O s t u] 81))from((ag.refl b).drew).alloc _);obtain⟨bD,g⟩:=au (b.drew.alloc (.cells #[x,O p k n,O s t u] 81));rw[<-g]at d c⊢;clear g;have aJ:=qk N c;have bE:=qb c aV;have bF:=qb c bu;have g:=Z (o.same c);have bG:=Z (bC.same c);have Q:=d;clear d c;clear aE aF aG aH aI ar X Y bx hS a4 bw;have bH:=g.cw;go_upto_region 4 with(fail)
 have bI:=ay Q;have bJ:=aS Q;have bK:=bc Q;have bL:=aS bE;go_wp2_with fail
 refine dR a3 (a1 M bD aJ.same) (fb aJ) ?_;intro a c a5 a6 a7 a8 D;have bM:c=.int .i64 a:=a8;subst bM;obtain⟨l,bN,a9⟩:=qQ a6;subst bN;have d:l<r.length:=by simpa using a9
 clear a9 a8 a6;have aK:=Z (aJ.trans D);have bO:=qo D bF;have bb:=qo D Q;have j:=Z (bG.same D.same);have o:=aK.size;clear D;clear bI bJ bK bL bH a1;obtain⟨ba,bg,az,g,p,c,q,s,t,u⟩:=iR a2 l d;have bh:=(aK.cell g aj).trans c;clear c;have c:(l:Int)<k:=by have:=j.out.1.1;have ad:r.length=k:=this;omega
 have c:(0:Int)<=l:=af
 obtain⟨aL,c⟩:=au (r[l].at_.kind);rw[<-c]at bh;have bP:=Z (show I=.ok ((⟨(f:Int),(l:Int),V.zero⟩:Sd),aL) by rw[a7.out,ki r l d,<-c]);clear a3 a7 c p q s t u;have bR:=aR g o;subst az;go_upto_region 5 with(fail)
 have c:=aS bb;have z:=Z ((ag.refl a5).drew);refine dQ 11 c bh λhS=>?_;refine dq ?_;obtain⟨bS,c⟩:=au a5.drew;rw[<-c]at z hS⊢;clear c;have bT:=qk aK z;have bi:=qb z bO;have bU:=qb z bb;obtain⟨bV,bW⟩:=hS;have c:=aR bR z.size;have c:=aa.lt bU;clear z;have b:(λw':World=>ae w' (aq b 1) (O (some ⟨ba,bg,none⟩) k n)/\ae w' (ac ba (bg+l*6+1)) aL) (bS.setRow ((i.heap.size+1)) #[(f:Int),(l:Int),J 0,J 0,ai]):=⟨(mC (by show b.heap.size<_;omega) (by show b.heap.size≠_;omega)).trans bV,(mC (by show ba<_;omega) (by show ba≠_;omega)).trans bW⟩;refine aM 9 (λK C=>?_);refine wp_store_row 71 (.tmp 5) (.tmp 41) rfl ((i.heap.size+1)) _ rfl rfl 71 _ bi am rfl bn (C _ _ (λ_=>b) ?_);refine aw ?_;refine tk 10 b ?_;refine gS am ?_ _;clear b;obtain⟨c,b,E,bk⟩:=mA bi #[(f:Int),(l:Int),J 0,J 0,ai];rw[b];clear b;have bl:=Z (bT.grown bk (λb bl=>.inr (by injection bl with bl;omega)));clear bk;have bY:=ay E;have bZ:=aS E;have b0:=bc E;have b2:=bj E;have b4:=bo E;go_wp2_with fail
 refine bodyPost_ret (v:=.tuple #[.agg #[(f:Int),(l:Int),J 0,J 0,ai],aL]) ?_ rfl ?_
 ·simp[results,results199,go_sem,bY,bZ,b0,b2,b4]
 rw[bP.out];exact⟨bl,_,rfl,rfl⟩
def sQ (b:List Tb) (a:aE):RO Ru:=
 RO.ap (aY a.vars.length 1 3&&aY a.conds.length 1 12) 3 a.at_<|(fG b a.at_ [] a.vars).bind λc=>
  (eL a.at_ (gC b a.at_ c) [] a.conds).bind λb=>.ok {Ru.zero with kind:=4,name:=a.name,tables:=c.map (·.2),tests:=b}
theorem EK {f:Type} (c:List Tb) (a:Int) (l:List (ByteArray×Int)) (b:Vr) (e:List Vr) (d:List (ByteArray×Int)->RO f):(fG c a l (b::e)).bind d=
 RO.ap (!l.any λf=>decide (f.1=b.name)) 9 a ((df c a b.table).bind λf=>(fG c a (l++[(b.name,f)]) e).bind d):=by
 show(RO.ap _ 9 a (RO.bind _ _)).bind d=_;simp only[RO.bind_assoc,RO.gY]
theorem wV {f:Type} (a:Int) (b:dl->RO (Sd×Int)) (l:List cF) (d:bv) (e:List bv) (c:List cF->RO f):(eL a b l (d::e)).bind c=
 (hY a b d).bind λd=>(eL a b (l++[d]) e).bind c:=by
 show(RO.bind _ _).bind c=_;rw[RO.bind_assoc]
theorem wW (l:List (ByteArray×Int)) (a:ByteArray×Int):iU (l++[a])=iU l++[(.string a.1,.int .i64 (l.length:Int))]:=by
 unfold iU;rw[List.zipIdx_append,List.map_append];simp
theorem EL {l:List (ByteArray×Int)} {c:av} (h:(l.any λa=>decide (a.1=c))=false):∀a∈iU l,a.1≠.string c:=by
 intro a d b;obtain⟨e,f,rfl⟩:=List.mem_iff_getElem.1 d;obtain⟨g,i,a⟩:=wT l e _ (List.getElem?_eq_getElem f);rw[a]at b;injection b with b
 rw[List.any_eq_false]at h;exact h g (List.mem_of_getElem? i) (by simp[b])
theorem Tryz.wX:(prog.info? 73).map (λa=>(a.zero,a.size,a.bytes))=some (some (.agg #[J 0,J 0,J 0,J 0,ai,J 0,J 0,J 0,J 0,J 0,ai,J 0]),12,112):=am
theorem cF.eW (a:cF):a.cells.length=12:=rfl
theorem EM (k bi:Nat) (ar:RI) (h:Hd) (t:List RT) (bs bt bw bx bz bA:aA) (bj:aT) (aE bk:Nat) (bB:List cj) (c:ah) (a6:aa c k 157 #[h.val,bs,bt,bw,bx,O bj aE bk,bz,bA,ar.at_]) (ds:bJ c h t) (X:aD c 2 ar.hvars Vr.cells ar.vars) (bC:aD c 14 ar.hconds bv.cells ar.conds) (bU:c.ownsRow bi 64 10 (O bj aE bk) aE (bB.flatMap cj.cells)) (d2:bB.length=aE) (dt:k<bi) (an:bi<=c.heap.size) (d3:aE<=1000):
 Calls prog 121 #[ak k,.agg ar.cells.toArray] c λe w'=>jD c (sQ (t.map RT.tb) ar.it) (λd4 w'=>iS c w' k bi bj aE bk bB d4 (λd4=>#[h.val,bs,bt,bw,bx,d4,bz,bA,ar.at_])) e w':=by
 obtain⟨d5,d6,d7,d8,d9⟩:=info_parts Tryz.sG;obtain⟨ea,eb,ec,ed,ee⟩:=info_parts Tryz.wX;have d4:=@run_makeMap prog;have eg:=Z (show∀b c,(callFunc 199 b).run prog c=.ok (.enter 199 b) c from enters_of func199 am rfl);obtain⟨a7,al,a8⟩:=h;have bE:=Z X;have bl:=Z bC;have du:=X.1;have dv:=X.2.1;have dw:=bC.1;have dx:=bC.2.1;clear X bC;obtain⟨ao,bC⟩:=au (sQ (t.map RT.tb) ar.it);rw[<-bC];have eh:=Z bC;clear bC;obtain⟨bV,G,g,bW,bY,⟨bZ,b0,b2⟩,fj,⟨b5,b7,b8⟩,fk,ca,cb,cc,⟨cd,ce,cf⟩,H,cg,ch,⟨ci,ck,cl⟩,fl,⟨bm,cm,bF⟩,q,⟨bo,cn,bG⟩,s,⟨co,cp,⟨cq,u,v⟩,C,⟨cr,cs,ct⟩,fm,⟨cv,w,x⟩,fn,cw,cx,cy,cz⟩⟩:=ar;have a9:=Z (show ao=RO.ap (aY q.length 1 3&&aY s.length 1 12) 3 g ((fG (t.map RT.tb) g [] q).bind λb=>(eL g (gC (t.map RT.tb) g b) [] s).bind λd=>.ok ({Ru.zero with kind:=4,name:=G,tables:=b.map (·.2),tests:=d}:Ru))from eh);have ar:Hid (aD c 2 ⟨bm,cm,bF⟩ Vr.cells q):=bE;have bC:Hid (aD c 14 ⟨bo,cn,bG⟩ bv.cells s):=bl;have ei:q.length=cm:=du;have cm:cm<=9223372036854775807:=dv;have bH:s.length=cn:=dw;have cm:cn<=9223372036854775807:=dx;clear du dv dw dx;have bE:=ar;have bl:=bC;subst ei bH;obtain⟨a3,ar⟩:∃a3:List (ByteArray×Int)->RO Ru,a3=λar=>(eL g (gC (t.map RT.tb) g ar) [] s).bind λi=>.ok ({Ru.zero with kind:=4,name:=G,tables:=ar.map (·.2),tests:=i}:Ru):=⟨_,rfl⟩;have ej:=Z (λi=>congrFun ar i);rw[<-ar]at a9;clear ar;have ar:=a6;clear a6;have a6:aa c k 157 #[O a7 al a8,bs,bt,bw,bx,O bj aE bk,bz,bA,g]:=ar;clear ar;have ar:=a6.lt;have ek:=Z (Kp.refl [] c);have cA:=Z ds;have cB:=Z a6;have cC:=Z bU;have el:=Z bU;show Calls prog 121 #[ak k,.agg #[bV,G,g,bW,bY,O bZ b0 b2,O b5 b7 b8,ca,cb,cc,O cd ce cf,cg,ch,O ci ck cl,O bm q.length bF,O bo s.length bG,co,cp,O cq u v,O cr cs ct,O cv w x,cw,cx,cy,cz]] c _;clear a6 ds bU;go_enter func121,ntmps121
 go_upto_region 1 with(fail)
 obtain⟨bU,ar,bC,b,a6⟩:=nb c 154 _;rw[ar];clear ar;have bU:=qk ek b;have cm:=Z (aK b cC);have cn:=qb b cB;have ds:=Z (bE.same b);have du:=Z (bl.same b);obtain⟨a4,ar,cD,b,dv⟩:=nc a6 95 _;rw[ar];clear ar;have bI:=qk bU b;have bK:=Z (aK b cm);have ar:=qb b cn;have dy:=qb b bC;have em:=Z (ds.same b);have en:=Z (du.same b);clear a6 dv;have cE:=ay dy;have cG:=uV cD;have cH:=uW cD;have cK:=b4 ar;have bL:=Z (λd=>fI (q.length:Int) 1 3 d);have cL:=Z (λd=>fI (s.length:Int) 1 12 d);obtain⟨eo,ar⟩:=au (aY (q.length:Int) 1 3);obtain⟨ep,a6⟩:=au (aY (s.length:Int) 1 12);rw[<-ar]at bL a9;rw[<-a6]at cL a9;have eq:=Z ar;have es:=Z a6;clear ar a6;cases eo
 case false=>
  refine gD 12 cE cG cH λhS=>?_;refine cR ?_;refine tk 3 hS ?_;refine ef 4 (λK d=>?_);go_simp;refine(bL a4.drew).mono ?_;rintro e w' ⟨rfl,rfl⟩;try go_simp
  refine d _ _ (λ_=>hS) ?_;refine aw ?_;refine tk 5 hS ?_;refine sR ?_;refine aM 11 (λK d=>?_);go_simp;exact b3 bI.drew a9 cK
 cases ep
 case false=>
  refine gD 12 cE cG cH λhS=>?_;refine cR ?_;refine tk 3 hS ?_;refine ef 4 (λK d=>?_);go_simp;refine(bL a4.drew).mono ?_;rintro e w' ⟨rfl,rfl⟩;try go_simp
  refine d _ _ (λ_=>hS) ?_;refine aw ?_;refine sS ?_;refine ef 9 (λK d=>?_);go_simp;refine(cL a4.drew).mono ?_;rintro e w' ⟨rfl,rfl⟩;try go_simp
  refine d _ _ (λ_=>hS) ?_;refine aw ?_;refine tk 10 hS ?_;refine aM 11 (λK d=>?_);go_simp;exact b3 bI.drew a9 cK
 refine gD 12 cE cG cH λhS=>?_;refine cR ?_;refine tk 3 hS ?_;refine ef 4 (λK o=>?_);go_simp;refine(bL a4.drew).mono ?_;rintro e w' ⟨rfl,rfl⟩;try go_simp
 refine o _ _ (λ_=>hS) ?_;refine aw ?_;refine sS ?_;refine ef 9 (λK o=>?_);go_simp;refine(cL a4.drew).mono ?_;rintro e w' ⟨rfl,rfl⟩;try go_simp
 refine o _ _ (λ_=>hS) ?_;refine aw ?_;refine tk 10 hS ?_;refine aM 11 (λK o=>?_);go_simp;refine bX bI.drew a9 cK λdz=>?_;try go_simp
 refine o _ _ (λ_=>hS) ?_;refine aw ?_;refine b1 ?_;refine bQ ?_;have ar:q.length<=3:=by have h:=eq.out.symm;unfold aY at h;simp at h;omega
 have ar:s.length<=12:=by have h:=es.out.symm;unfold aY at h;simp at h;omega
 clear hS;have b:=Z ((ag.refl a4).drew);obtain⟨m,ar⟩:=au a4.drew;rw[<-ar]at b⊢;clear ar;have et:=qk bI b;have eu:=qb b dy;have cM:=qb b cD;have ev:=Z (em.same b);have ew:=Z (en.same b);have ar:=aS cM;have ar:=aa.lt cM;go_upto_region 2 with(fail)
 go_upto_region 3 with(first|(refine wpList_store_row rfl 64 (.tmp 4) (.tmp 26) rfl m.heap.size #[J 4,G,J 0,ab,J 0,ab,J 0,J 0,ab,ab] rfl rfl 64 #[J 0,ai,J 0,ab,J 0,ab,J 0,J 0,ab,ab] (aa.new m 64 #[J 0,ai,J 0,ab,J 0,ab,J 0,J 0,ab,ab]) am rfl bn ?_;rw[World.setRow_alloc_new])|fail)
 obtain⟨j,ar,dA,b,-⟩:=nb m 64 #[J 4,G,J 0,ab,J 0,ab,J 0,J 0,ab,ab];rw[ar];clear ar;have dB:=qk et b;have ex:=qb b eu;have ey:=qb b cM;have ez:=Z (ev.same b);have eA:=Z (ew.same b);have ar:=dB.size;have ar:=aa.lt dA;go_upto_region 4 with(fail)
 have a6:=Z (cQ.made .string j);have b:=Z (show ag j (j.alloc (.map #[] 0))from(ag.refl j).alloc _);obtain⟨ar,a4⟩:=au (j.alloc (.map #[] 0));have a9:ar.heap.size=j.heap.size+1:=by rw[a4];simp
 rw[<-a4]at a6 b⊢;clear a4;have bC:=qk dB b;have bI:=qb b ex;have bL:=qb b ey;have bU:=qb b dA;have a4:=Z (ez.same b);have a4:=Z (eA.same b);have av:=Z (show aa (ar.alloc (.cells #[.map (some j.heap.size)] 281)) (j.heap.size+1) 281 #[.map (some j.heap.size)] by have h:=aa.new ar 281 #[.map (some j.heap.size)];rw[a9]at h;exact h);have b:=Z (show ag ar (ar.alloc (.cells #[.map (some j.heap.size)] 281))from(ag.refl ar).alloc _);have dC:=Z (a6.kp (Kp.of_same (l:=[]) b) aj);have a4:(ar.alloc (.cells #[.map (some j.heap.size)] 281)).heap.size=ar.heap.size+1:=aj
 obtain⟨ba,ar⟩:=au (ar.alloc (.cells #[.map (some j.heap.size)] 281));rw[<-ar]at av b dC a4⊢;clear ar;have eB:=qk bC b;have eC:=qb b bI;have cN:=qb b bL;have eD:=qb b bU;have dD:=av;have ar:j.heap.size+1<ba.heap.size:=af
 clear a9 a4;have ar:=uV cN;have ar:=aa.lt cN;go_wp2_with fail
 go_loopg [31] (q.length+1) (λp y wr=>∃(d:Nat) (i:List (ByteArray×Int)) (f:aT) (n:Nat),y=.int .i64 d/\d<=q.length/\q.length-d<p/\i.length=d/\Hid (wr.ownsRow ba.heap.size 3 1 (O f d n) d ((i.map (·.2)).flatMap cu))/\Hid (aa wr m.heap.size 64 #[J 4,G,J 0,ab,J 0,ab,J 0,J 0,O f d n,ab])/\Hid (aa wr c.heap.size 154 #[ak k])/\Hid (aa wr (c.heap.size+1) 95 #[bV,G,g,bW,bY,O bZ b0 b2,O b5 b7 b8,ca,cb,cc,O cd ce cf,cg,ch,O ci ck cl,O bm q.length bF,O bo s.length bG,co,cp,O cq u v,O cr cs ct,O cv w x,cw,cx,cy,cz])/\Hid (aa wr (j.heap.size+1) 281 #[.map (some j.heap.size)])/\Hid (cQ .string wr j.heap.size (iU i))/\Hid ((i.map (·.1)).Nodup)/\Hid (∀n∈i,∃f:Nat,n.2=f/\f<t.length)/\Hid (Kp [] c wr)/\ba.heap.size<=wr.heap.size/\Hid (ao=(fG (t.map RT.tb) g i (q.drop d)).bind a3))
 case atStart=>exact⟨0,[],none,0,rfl,by omega,by omega,rfl,Z ⟨rfl,.inl ⟨rfl,rfl⟩⟩,eD,eC,cN,dD,dC,Z List.nodup_nil,Z (λf d=>by cases d),eB,Nat.le_refl _,dz⟩
 obtain⟨f,i,z,A,rfl,fo,dE,dG,bM,cO,cS,bp,cT,dH,cU,dI,aC,fp,bN⟩:=hrel;have dJ:=Z dE;have cW:=Z dG;clear dE dG dD dz;have ar:=Z (cA.same aC.same);have ar:=Z (aK aC.same cC);have eE:=Z (bE.same aC.same);have ar:=Z (bl.same aC.same);have eF:=qo aC cB;have ar:=aC.size;by_cases aG:f<q.length
 case neg=>
  have ar:¬(f:Int)<q.length:=af
  have cY:=Z (show ao=a3 i by rw[bN.out,List.drop_of_length_le af];rfl);clear bN;obtain⟨aH,eH⟩:=au wr;subst eH;obtain⟨bb,ar⟩:=au (gC (t.map RT.tb) g i);have dK:=Z ar;obtain⟨bc,a4⟩:∃bc:List cF->RO Ru,bc=λH=>.ok ({Ru.zero with kind:=4,name:=G,tables:=i.map (·.2),tests:=H}:Ru):=⟨_,rfl⟩;have eI:=Z (λi=>congrFun a4 i);have eJ:=Z (show ao=(eL g bb [] s).bind bc by rw[cY.out,ej.out i,ar,a4]);clear ar a4;have dL:Hid (cX aH ⟨z,f,A⟩ (i.map (·.2))):=Z (cI (h:=⟨z,f,A⟩) cu.len (by show(i.map (·.2)).length=f;rw[List.length_map];exact cW.out) (by show f<=_;omega) bM);have cZ:Hid (∀d n,z=some ⟨d,n,none⟩->ba.heap.size<=d/\d<aH.heap.size):=Z (λd n e=>b6 bM d (by show(Value.slice z f A).ownBlock=_;rw[e];rfl));have ar:m.heap.size<aH.heap.size:=by omega
  have ar:=uW bp;have ar:=aa.lt bp;go_wp2_with fail
  go_loopg [64] (s.length+1) (λy B wr=>∃(d:Nat) (H:List cF) (n:aT) (p:Nat),B=.int .i64 d/\d<=s.length/\s.length-d<y/\H.length=d/\Hid (wr.ownsRow aH.heap.size 73 12 (O n d p) d (H.flatMap cF.cells))/\Hid (aa wr m.heap.size 64 #[J 4,G,J 0,ab,J 0,ab,J 0,J 0,O z f A,O n d p])/\Hid (aa wr c.heap.size 154 #[ak k])/\Hid (aa wr (c.heap.size+1) 95 #[bV,G,g,bW,bY,O bZ b0 b2,O b5 b7 b8,ca,cb,cc,O cd ce cf,cg,ch,O ci ck cl,O bm q.length bF,O bo s.length bG,co,cp,O cq u v,O cr cs ct,O cv w x,cw,cx,cy,cz])/\Hid (aa wr (j.heap.size+1) 281 #[.map (some j.heap.size)])/\Hid (Kp [] c wr)/\Hid (Kp [m.heap.size] aH wr)/\Hid (ao=(eL g bb H (s.drop d)).bind bc))
  case atStart=>exact⟨0,[],none,0,rfl,by omega,by omega,rfl,Z ⟨rfl,.inl ⟨rfl,rfl⟩⟩,cO,cS,bp,cT,aC,Z (Kp.refl _ aH),eJ⟩
  obtain⟨d,H,I,Y,rfl,fq,dM,dN,bO,bP,bR,eK,c0,a5,bq,bS⟩:=hrel;have dO:=Z dM;have dP:=Z dN;clear dM dN cO cS bp cT aC;have eM:=Z (cA.same a5.same);have eN:=Z (aK a5.same cC);have eO:=Z (bl.same a5.same);have br:=qo a5 cB;have ar:=a5.size;have ar:=bq.size;by_cases dQ:d<s.length
  case neg=>
   have n:¬(d:Int)<s.length:=af
   have cY:=Z (show ao=bc H by rw[bS.out,List.drop_of_length_le af];rfl);clear bS;have n:=Z (qS k bi ⟨4,G,0,aL,[],0,aL,[],0,0,⟨z,f,A⟩,i.map (·.2),⟨I,d,Y⟩,H⟩ g (O a7 al a8) bs bt bw bx bz bA bj aE bk bB wr br eN d2 dt af d3);have p:Hid (Calls prog 194 #[ak k,.agg #[J 4,G,J 0,ab,J 0,ab,J 0,J 0,O z f A,O I d Y]] wr _):=n;have n:=ay bR;go_wp2_with (first|(refine gX rfl 64 (.tmp 4) rfl m.heap.size #[J 4,G,J 0,ab,J 0,ab,J 0,J 0,O z f A,O I d Y] rfl 64 bP.out _ underlying64 rfl am ?_)|fail)
   refine p.mono ?_;rintro e n ⟨rfl,y⟩;go_wp2;first|go_end0|refine bodyPost_ret (results_none rfl _ _ _) rfl ?_
   rw[cY.out,eI.out H];have FL:=cI (h:=⟨I,d,Y⟩) cF.eW dP (by show d<=_;omega) bO;have n:eV wr (Bw c.heap.size wr.heap.size) ⟨4,G,0,aL,[],0,aL,[],0,0,⟨z,f,A⟩,i.map (·.2),⟨I,d,Y⟩,H⟩:=⟨aD.none_ wr 1 _,aV.none_ _ _ _,aD.none_ wr 4 _,aV.none_ _ _ _,dL.kp bq (λn p e al=>by have h:=cZ.out n p e;have:=aB al;omega),(λn p e=>by have h:=cZ.out n p e;exact⟨by omega,by omega⟩),FL,(λn p e=>by have h:=b6 bO.out n (by show(Value.slice I d Y).ownBlock=_;have n:I=some ⟨n,p,none⟩:=e;rw[n];rfl);exact⟨by omega,h.2⟩)⟩;exact⟨rfl,iS.qT a5 el dt an n y⟩
  have G:(d:Int)<s.length:=af
  obtain⟨D,of,ar,G,B⟩:=eO.2.2 d dQ;have eP:bo=some ⟨D,of,none⟩:=ar;obtain⟨bg,G⟩:=au (s[d]);rw[<-G]at B;have dS:=Z (show ao=(hY g bb bg).bind λn=>(eL g bb (H++[n]) (s.drop (d+1))).bind bc by rw[bS.out,List.drop_eq_getElem_cons dQ,wV,<-G]);clear G ar bS;have G:Hid (pn wr k (j.heap.size+1) c.heap.size m.heap.size j.heap.size ⟨a7,al,a8⟩ ⟨z,f,A⟩ t i g):=Z ⟨aa.lt br,aa.cell br 0,aa.cell br 8,aa.lt c0,aa.cell c0 0,dH.kp bq aF,cU,aa.lt bR,aa.cell bR 0,aa.lt bP,aa.cell bP 8,dL.kp bq (λn p e al=>by have h:=cZ.out n p e;have:=aB al;omega),dI.out,eM.out⟩;have ar:=Z (λ(p:dl) (n:ah) (y:ag wr n)=>EJ k (j.heap.size+1) c.heap.size m.heap.size j.heap.size ⟨a7,al,a8⟩ ⟨z,f,A⟩ t i p g n (G.same y));have dT:=Z (λ(p:ah) (n:ag wr p)=>wR k 199 #[ak (j.heap.size+1),ak c.heap.size,ak m.heap.size] eg.out bb bg g p (aR (aa.lt br.out) n.size) ((G.out.same n).c8) (λp y=>by rw[dK.out];exact ar.out bg.l p (n.trans y)) (λp y=>by rw[dK.out];exact ar.out bg.r p (n.trans y)));obtain⟨c1,G⟩:∃c1,c1=hY g bb bg:=⟨_,rfl⟩;rw[<-G]at dS dT;clear G;obtain⟨⟨X,aI,aJ,⟨aN,aO,aP⟩⟩,aQ,⟨aU,aW,aX,⟨aZ,a0,a1⟩⟩,a2⟩:=bg;have eQ:Hid (∀(n:ah),ag wr n->Calls prog 198 #[ak k,.agg #[X,aI,aJ,aN,aO,aP,aQ,aU,aW,aX,aZ,a0,a1,a2],.func (.func 199) #[] #[ak (j.heap.size+1),ak c.heap.size,ak m.heap.size]] n λe w'=>RP [] n c1 sP e w'):=dT;have G:ae wr (ac D (of+d*14)) X:=by simpa using B 0 _ rfl
  have G:ae wr (ac D (of+d*14+1)) aI:=B 1 _ rfl;have G:ae wr (ac D (of+d*14+2)) aJ:=B 2 _ rfl;have G:ae wr (ac D (of+d*14+3)) aN:=B 3 _ rfl;have G:ae wr (ac D (of+d*14+4)) aO:=B 4 _ rfl;have G:ae wr (ac D (of+d*14+5)) aP:=B 5 _ rfl;have G:ae wr (ac D (of+d*14+6)) aQ:=B 6 _ rfl;have G:ae wr (ac D (of+d*14+7)) aU:=B 7 _ rfl;have G:ae wr (ac D (of+d*14+8)) aW:=B 8 _ rfl;have eR:ae wr (ac D (of+d*14+9)) aX:=B 9 _ rfl;have G:ae wr (ac D (of+d*14+10)) aZ:=B 10 _ rfl;have G:ae wr (ac D (of+d*14+11)) a0:=B 11 _ rfl;have G:ae wr (ac D (of+d*14+12)) a1:=B 12 _ rfl;have D:ae wr (ac D (of+d*14+13)) a2:=B 13 _ rfl;have D:IntKind.i64.wrap ((d:Int)+1)=(d:Int)+1:=IntWalk.i64_in _ af;clear B;subst eP;have eS:=Z (Kp.refl [] wr);go_upto_region 15 with(first|(refine wpList_store_row rfl 286 (.tmp 11) (.tmp 67) rfl wr.heap.size #[X,aI,aJ,aN,aO,aP,aQ,aU,aW,aX,aZ,a0,a1,a2] rfl rfl 286 #[ai,ai,.bool false,J 0,J 0,ai,J 0,ai,ai,.bool false,J 0,J 0,ai,J 0] (aa.new wr 286 #[ai,ai,.bool false,J 0,J 0,ai,J 0,ai,ai,.bool false,J 0,J 0,ai,J 0]) am rfl bn ?_;rw[World.setRow_alloc_new])|fail)
  obtain⟨y,B,av,b,-⟩:=nb wr 286 #[X,aI,aJ,aN,aO,aP,aQ,aU,aW,aX,aZ,a0,a1,a2];rw[B];clear B;have dU:=qk a5 b;have dV:=qb b bR;have eT:=qb b eK;have dW:=qb b bP;have eU:=qb b c0;have dX:=qk eS b;have eX:=qk bq b;have E:=av;have B:ae y (aq m 9) (O I d Y):=aa.cell dW.out 9;have D:ae y (aq c 0) (ak k):=aa.cell dV.out 0;have G:ae y (aq wr 0) X:=aa.cell E.out 0;have ar:ae y (aq wr 1) aI:=aa.cell E.out 1;have aE:ae y (aq wr 2) aJ:=aa.cell E.out 2;have a4:ae y (aq wr 3) aN:=aa.cell E.out 3;have a5:ae y (aq wr 4) aO:=aa.cell E.out 4;have a6:ae y (aq wr 5) aP:=aa.cell E.out 5;have a9:ae y (aq wr 6) aQ:=aa.cell E.out 6;have bb:ae y (aq wr 7) aU:=aa.cell E.out 7;have bc:ae y (aq wr 8) aW:=aa.cell E.out 8;have bg:ae y (aq wr 9) aX:=aa.cell E.out 9;have bi:ae y (aq wr 10) aZ:=aa.cell E.out 10;have bj:ae y (aq wr 11) a0:=aa.cell E.out 11;have bk:ae y (aq wr 12) a1:=aa.cell E.out 12;have bl:ae y (aq wr 13) a2:=aa.cell E.out 13;refine eG 8 (S:=(λw'=>ae w' (aq m 9) (O I d Y)/\ae w' (aq c 0) (ak k)/\ae w' (aq wr 0) X/\ae w' (aq wr 1) aI/\ae w' (aq wr 2) aJ/\ae w' (aq wr 3) aN/\ae w' (aq wr 4) aO/\ae w' (aq wr 5) aP/\ae w' (aq wr 6) aQ/\ae w' (aq wr 7) aU/\ae w' (aq wr 8) aW/\ae w' (aq wr 9) aX/\ae w' (aq wr 10) aZ/\ae w' (aq wr 11) a0/\ae w' (aq wr 12) a1/\ae w' (aq wr 13) a2)) ⟨B,D,G,ar,aE,a4,a5,a6,a9,bb,bc,bg,bi,bj,bk,bl⟩ (λhS=>?_);refine cR ?_;refine gl ?_;refine aM 5 (λK o=>?_);go_simp;refine dR dS.out (eQ.out y.drew dX.out.drew.same) (fb (dU.out.drew)) ?_;intro a eY n eZ e0 dY az;have az:=Z (((Kp.refl [] y).drew).trans az.out);have y:=Z (rfl:a=a);obtain⟨⟨L,x,⟨M,w,N⟩⟩,Q,⟨R,v,⟨C,u,U⟩⟩,V⟩:=a;have e1:eY=.agg #[L,x,M,w,N,Q,R,v,C,u,U,V]:=dY;clear dY eZ;subst e1;have e2:=Z (dU.out.trans (az.out));have c2:=qo az dV;have e3:=qo az eT;have bT:=qo az dW;have e4:=qo az eU;have F:=qo az E;have e5:=Z (dX.out.trans (az.out));have e6:=qm eX az;try go_simp
  have c3:ae n (aq m 9) (O I d Y):=aa.cell bT.out 9;have y:=aa.lt bT.out;have c4:ae n (aq c 0) (ak k):=aa.cell c2.out 0;have y:=aa.lt c2.out;have c5:ae n (aq wr 0) X:=aa.cell F.out 0;have c6:ae n (aq wr 1) aI:=aa.cell F.out 1;have c7:ae n (aq wr 2) aJ:=aa.cell F.out 2;have c9:ae n (aq wr 3) aN:=aa.cell F.out 3;have da:ae n (aq wr 4) aO:=aa.cell F.out 4;have db:ae n (aq wr 5) aP:=aa.cell F.out 5;have dc:ae n (aq wr 6) aQ:=aa.cell F.out 6;have dd:ae n (aq wr 7) aU:=aa.cell F.out 7;have dg:ae n (aq wr 8) aW:=aa.cell F.out 8;have dh:ae n (aq wr 9) aX:=aa.cell F.out 9;have di:ae n (aq wr 10) aZ:=aa.cell F.out 10;have dk:ae n (aq wr 11) a0:=aa.cell F.out 11;have dm:ae n (aq wr 12) a1:=aa.cell F.out 12;have dn:ae n (aq wr 13) a2:=aa.cell F.out 13;have y:=aa.lt F.out;have dp:=Z (aK e5.out.same bO.out);refine o1 o ⟨c3,c4,c5,c6,c7,c9,da,db,dc,dd,dg,dh,di,dk,dm,dn⟩ λy=>?_;refine aw ?_;clear hS;clear y;have dZ:(λw':World=>ae w' (aq m 9) (O I d Y)/\ae w' (aq c 0) (ak k)/\ae w' (aq wr 0) X/\ae w' (aq wr 1) aI/\ae w' (aq wr 2) aJ/\ae w' (aq wr 3) aN/\ae w' (aq wr 4) aO/\ae w' (aq wr 5) aP/\ae w' (aq wr 6) aQ/\ae w' (aq wr 7) aU/\ae w' (aq wr 8) aW/\ae w' (aq wr 9) aX/\ae w' (aq wr 10) aZ/\ae w' (aq wr 11) a0/\ae w' (aq wr 12) a1/\ae w' (aq wr 13) a2) (n.alloc (.cells #[L,x,M,w,N,Q,R,v,C,u,U,V] 73)):=⟨(World.cell?_alloc_lt _ _ _ (by show m.heap.size<_;omega)).trans c3,(World.cell?_alloc_lt _ _ _ (by show c.heap.size<_;omega)).trans c4,(World.cell?_alloc_lt _ _ _ dj).trans c5,(World.cell?_alloc_lt _ _ _ dj).trans c6,(World.cell?_alloc_lt _ _ _ dj).trans c7,(World.cell?_alloc_lt _ _ _ dj).trans c9,(World.cell?_alloc_lt _ _ _ dj).trans da,(World.cell?_alloc_lt _ _ _ dj).trans db,(World.cell?_alloc_lt _ _ _ dj).trans dc,(World.cell?_alloc_lt _ _ _ dj).trans dd,(World.cell?_alloc_lt _ _ _ dj).trans dg,(World.cell?_alloc_lt _ _ _ dj).trans dh,(World.cell?_alloc_lt _ _ _ dj).trans di,(World.cell?_alloc_lt _ _ _ dj).trans dk,(World.cell?_alloc_lt _ _ _ dj).trans dm,(World.cell?_alloc_lt _ _ _ dj).trans dn⟩;refine aM 6 (λK o=>?_);go_simp;refine o.out _ _ (λ_=>dZ) ?_;refine aw ?_;have bK:=Z (aK ((ag.refl n).alloc (.cells #[L,x,M,w,N,Q,R,v,C,u,U,V] 73)) dp.out);have y:=Z (cJ n #[L,x,M,w,N,Q,R,v,C,u,U,V] 73 12 rfl);have p:∀W,(Value.slice I d Y).ownBlock=some W->aH.heap.size<=W/\W<n.heap.size/\W<wr.heap.size:=λW ad=>⟨(b6 dp.out W ad).1,(b6 dp.out W ad).2,(λW ad=>(b6 bO.out W ad).2) W ad⟩;have B:=aa.lt bT.out;refine aM 7 (λK o=>?_);refine de (n.alloc (.cells #[L,x,M,w,N,Q,R,v,C,u,U,V] 73)) (.tmp 69) (.tmp 74) 62 rfl (aH.heap.size) 73 ea _ 12 112 underlying62 eb ec ed ee rfl ax (O I d Y) d (H.flatMap cF.cells) rfl bK.out (n.heap.size+1) (some ⟨n.heap.size,0,none⟩) 1 1 ((#[L,x,M,w,N,Q,R,v,C,u,U,V]:Array Value).toList) rfl y.out bn b9 af aF ?_;intro eR e7 dq ad e8;obtain⟨d0,d1,rfl,e9⟩:=bu dq;have fa:=Z dq;have bh:=Z ad;have n:=Z (fK ((Kp.refl [] n).alloc (.cells #[L,x,M,w,N,Q,R,v,C,u,U,V] 73)) ad);clear dq ad e8 e9;have dr:=Z (aa.grown (bT.out.alloc (.cells #[L,x,M,w,N,Q,R,v,C,u,U,V] 73)) bh.out (λe=>by have:=p _ e.symm;omega));have y:ae e7 (aq m 9) (O I d Y):=aa.cell dr.out 9;have y:=λf=>aa.frozen dr.out f;refine o.out _ _ (λ_=>⟨cV n.out (by show m.heap.size<_;omega) (λe=>by have h:=p _ e.symm;dsimp only at h;omega) c3,cV n.out (by show c.heap.size<_;omega) (λe=>by have h:=p _ e.symm;dsimp only at h;omega) c4,cV n.out dj (λe=>by have h:=p _ e.symm;dsimp only at h;omega) c5,cV n.out dj (λe=>by have h:=p _ e.symm;dsimp only at h;omega) c6,cV n.out dj (λe=>by have h:=p _ e.symm;dsimp only at h;omega) c7,cV n.out dj (λe=>by have h:=p _ e.symm;dsimp only at h;omega) c9,cV n.out dj (λe=>by have h:=p _ e.symm;dsimp only at h;omega) da,cV n.out dj (λe=>by have h:=p _ e.symm;dsimp only at h;omega) db,cV n.out dj (λe=>by have h:=p _ e.symm;dsimp only at h;omega) dc,cV n.out dj (λe=>by have h:=p _ e.symm;dsimp only at h;omega) dd,cV n.out dj (λe=>by have h:=p _ e.symm;dsimp only at h;omega) dg,cV n.out dj (λe=>by have h:=p _ e.symm;dsimp only at h;omega) dh,cV n.out dj (λe=>by have h:=p _ e.symm;dsimp only at h;omega) di,cV n.out dj (λe=>by have h:=p _ e.symm;dsimp only at h;omega) dk,cV n.out dj (λe=>by have h:=p _ e.symm;dsimp only at h;omega) dm,cV n.out dj (λe=>by have h:=p _ e.symm;dsimp only at h;omega) dn⟩) ?_;clear o K dZ;refine aw ?_;refine b1 ?_;refine tq 8 ?_;refine dF 9 (λK o=>?_);go_simp;refine o _ _ ?_;refine aw ?_;refine bQ ?_;have y:=Z (aa.grown (c2.out.alloc (.cells #[L,x,M,w,N,Q,R,v,C,u,U,V] 73)) bh.out (λe=>by have:=p _ e.symm;omega));have B:=Z (aa.grown (e3.out.alloc (.cells #[L,x,M,w,N,Q,R,v,C,u,U,V] 73)) bh.out (λe=>by have:=p _ e.symm;omega));have D:=Z (aa.grown (e4.out.alloc (.cells #[L,x,M,w,N,Q,R,v,C,u,U,V] 73)) bh.out (λe=>by have:=p _ e.symm;omega));have E:=Z ((e2.out.alloc (.cells #[L,x,M,w,N,Q,R,v,C,u,U,V] 73)).grown bh.out (λW ad=>.inr (by have:=p W ad;omega)));have F:=Z ((e6.out.alloc (.cells #[L,x,M,w,N,Q,R,v,C,u,U,V] 73)).grown bh.out (λW ad=>.inr (by have:=p W ad;omega)));clear p;obtain⟨G,p,av,n⟩:=Cb dr (O d0 (d+1) d1);rw[p];clear p;have fc:=Z (F.out.trans n.out);have fd:=Z (n.out.old E.out (λp an aG=>absurd aG (by rw[aB an];omega)));have fe:=qo n y;have ff:=qo n B;have fg:=qo n D;have fh:=n;have fi:=av;go_wp2_with fail
  go_roundg (s.length-d)
  case measure=>have:=dO.out;omega
  refine⟨d+1,H++[⟨⟨L,x,⟨M,w,N⟩⟩,Q,⟨R,v,⟨C,u,U⟩⟩,V⟩],d0,d1,by go_num,by omega,omg dO,by rw[List.length_append,dP.out];rfl,Z ?_,fi,fe,ff,fg,fd,fc,e0⟩;rw[List.flatMap_append];exact bD fa.out fh.out aF
 have s:(f:Int)<q.length:=af
 obtain⟨az,of,u,s,V⟩:=eE.out.2.2 f aG;have cZ:bm=some ⟨az,of,none⟩:=u;obtain⟨Q,s⟩:∃Q,Q=q[f]:=⟨_,rfl⟩;rw[<-s]at V;have W:=Z (show ao=RO.ap (!i.any λd=>decide (d.1=Q.name)) 9 g ((df (t.map RT.tb) g Q.table).bind λd=>(fG (t.map RT.tb) g (i++[(Q.name,d)]) (q.drop (f+1))).bind a3) by rw[bN.out,List.drop_eq_getElem_cons aG,EK,<-s]);clear s u bN;obtain⟨n,F⟩:=Q;have s:ae wr (ac az (of+f*2)) n:=by simpa using V 0 _ rfl
 have s:ae wr (ac az (of+f*2+1)) F:=V 1 _ rfl;have s:IntKind.i64.wrap ((f:Int)+1)=(f:Int)+1:=IntWalk.i64_in _ af;have s:Hid (ao=RO.ap (!i.any λd=>decide (d.1=n)) 9 g ((df (t.map RT.tb) g F).bind λd=>(fG (t.map RT.tb) g (i++[(n,d)]) (q.drop (f+1))).bind a3)):=W;clear V;have W:=s;subst cZ;go_upto_region 7 with(first|(refine wpList_store_row rfl 133 (.tmp 7) (.tmp 35) rfl wr.heap.size #[n,F] rfl rfl 133 #[ai,ai] (aa.new wr 133 #[ai,ai]) am rfl bn ?_;rw[World.setRow_alloc_new])|fail)
 have u:=Z (Kp.refl [] wr);obtain⟨N,s,av,b,-⟩:=nb wr 133 #[n,F];rw[s];clear s;have aH:=qk aC b;have aI:=qb b eF;have aJ:=qb b cS;have c0:=qb b bp;have c1:=qb b cO;have a1:=qb b cT;have b:=qk u b;have a2:=av;have b:=Z (show ag wr N from b.out.same);have s:ae N (ac (j.heap.size+1) 0) (.map (some j.heap.size)):=aa.cell a1.out 0;have s:ae N (aq wr 0) n:=aa.cell a2.out 0;have a5:=Z (dH.out.kp (Kp.of_same (l:=[]) b.out) aj);have c2:=Z (aK b.out bM.out);have c3:=Z (show MapKept.IsKey .string n from trivial);rcases wU a5.out cU.out n with⟨M,bb⟩|⟨eH,c4,M,c5,bb⟩
 case inr=>
  have d:=Z (show ao=RO.ap false 9 g _ by rw[W.out,M];rfl);clear M c5 c4;have b:ae N (aq c 0) (ak k):=aa.cell aJ.out 0;have p:ae N (ac k 8) g:=aa.cell aI.out 8;go_wp2_with fail
  exact b3 aH.out d.out p
 have b:ae N (aq c 0) (ak k):=aa.cell aJ.out 0;have c6:ae N (ac k 8) g:=aa.cell aI.out 8;have c7:=Z (show ao=RO.ap true 9 g ((df (t.map RT.tb) g F).bind λb=>(fG (t.map RT.tb) g (i++[(n,b)]) (q.drop (f+1))).bind a3) by rw[W.out,M];rfl);have c9:=Z (EL M);have da:=Z (show(((i++[(n,(0:Int))]).map (·.1)).Nodup) by
  rw[List.map_append];refine List.nodup_append.2 ⟨cU.out,by simp,?_⟩;intro a p b d e;simp only[List.map_cons,List.map_nil,List.mem_singleton]at d;subst d;obtain⟨y,B,rfl⟩:=List.mem_map.1 p;rw[List.any_eq_false]at M;exact M y B (by simpa using e))
 clear M;go_wp2_with fail
 refine bX aH.out c7.out c6 λdb=>?_;clear bb;obtain⟨D,dc,b,I⟩:=cQ.push (P:=prog) (T:=281) a5.out underlying281 underlying9 n (f:Int) c3.out c9.out;have dd:=Z (show cQ .string D j.heap.size (iU (i++[(n,(0:Int))])) by rw[wW,cW.out];exact b);clear b;go_upto_region 10 with(fail)
 clear dc;have aN:=Z (I.old aH.out (λb an aG=>absurd aG (by rw[aB an];omega)));have dg:=Z (cA.out.same aN.out.same);have b:=qo I aI;have bc:=qo I aJ;have dh:=qo I c0;have bg:=qo I c1;have di:=qo I a1;have bh:=qo I a2;have dk:=Z (bD c2.out I (λd an=>by rw[aB an];omega));clear I;have dm:=Z (Kp.refl [m.heap.size] D);have s:ae D (aq m 8) (O z f A):=aa.cell bg.out 8;have u:ae D (aq c 0) (ak k):=aa.cell bc.out 0;have v:ae D (aq wr 1) F:=aa.cell bh.out 1;have dn:ae D (ac k 0) (O a7 al a8):=aa.cell b.out 0;have dp:ae D (ac k 8) g:=aa.cell b.out 8;have dq:=aa.lt b.out;refine gD 8 s u v λhS=>?_;refine cR ?_;refine gl ?_;refine aM 5 (λK o=>?_);go_simp;refine dR db.out (o5 k ⟨a7,al,a8⟩ t F g D.drew dq dn dp (dg.out.same ((ag.refl D).drew))) (fb (aN.out.drew)) ?_;intro a dr p bq dK br L;have L:=Z (((Kp.refl [] D).drew).trans L.out);obtain⟨d,rfl,bH⟩:=nE bq;have dL:dr=.int .i64 (d:Int):=br;subst dL;have dM:d<t.length:=by simpa using bH
 have dN:=Z (aN.out.trans (L.out));have aO:=qo L bc;have dO:=qo L dh;have Y:=qo L bg;have dP:=qo L di;have bO:=qo L bh;have bP:=qm dm L;try go_simp
 clear br bq bH;have aP:ae p (aq m 8) (O z f A):=aa.cell Y.out 8;have b:=aa.lt Y.out;have aQ:ae p (aq c 0) (ak k):=aa.cell aO.out 0;have b:=aa.lt aO.out;have aU:ae p (aq wr 1) F:=aa.cell bO.out 1;have b:=aa.lt bO.out;have aW:=Z (bD dk.out bP.out (λb an=>by rw[aB an];omega));refine o1 o ⟨aP,aQ,aU⟩ λb=>?_;refine aw ?_;clear hS;clear b;have dQ:=Z (dd.out.kp bP.out aF);have bR:(λw':World=>ae w' (aq m 8) (O z f A)/\ae w' (aq c 0) (ak k)/\ae w' (aq wr 1) F) (p.alloc (.cells #[(d:Int)] 3)):=⟨(World.cell?_alloc_lt _ _ _ (by show m.heap.size<_;omega)).trans aP,(World.cell?_alloc_lt _ _ _ (by show c.heap.size<_;omega)).trans aQ,(World.cell?_alloc_lt _ _ _ dj).trans aU⟩;refine aM 6 (λK o=>?_);go_simp;refine o.out _ _ (λ_=>bR) ?_;refine aw ?_;have bK:=Z (aK ((ag.refl p).alloc (.cells #[(d:Int)] 3)) aW.out);have b:=Z (cJ p #[(d:Int)] 3 1 rfl);have E:∀y,(Value.slice z f A).ownBlock=some y->ba.heap.size<=y/\y<p.heap.size/\y<wr.heap.size:=λy B=>⟨(b6 aW.out y B).1,(b6 aW.out y B).2,(λy B=>(b6 bM.out y B).2) y B⟩;have g:=aa.lt Y.out;refine aM 7 (λK o=>?_);refine de (p.alloc (.cells #[(d:Int)] 3)) (.tmp 52) (.tmp 57) 60 rfl (ba.heap.size) 3 d5 _ 1 8 underlying60 d6 d7 d8 d9 rfl ax (O z f A) f ((i.map (·.2)).flatMap cu) rfl bK.out (p.heap.size+1) (some ⟨p.heap.size,0,none⟩) 1 1 ((#[(d:Int)]:Array Value).toList) rfl b.out bn b9 af aF ?_;intro b bS aX B dS;obtain⟨bT,cY,rfl,dT⟩:=bu aX;have dU:=Z aX;have R:=Z B;have ad:=Z (fK ((Kp.refl [] p).alloc (.cells #[(d:Int)] 3)) B);clear aX B dS dT;have aZ:=Z (aa.grown (Y.out.alloc (.cells #[(d:Int)] 3)) R.out (λe=>by have:=E _ e.symm;omega));have b:ae bS (aq m 8) (O z f A):=aa.cell aZ.out 8;have b:=λf=>aa.frozen aZ.out f;refine o.out _ _ (λ_=>⟨cV ad.out (by show m.heap.size<_;omega) (λe=>by have h:=E _ e.symm;dsimp only at h;omega) aP,cV ad.out (by show c.heap.size<_;omega) (λe=>by have h:=E _ e.symm;dsimp only at h;omega) aQ,cV ad.out dj (λe=>by have h:=E _ e.symm;dsimp only at h;omega) aU⟩) ?_;clear o K bR;refine aw ?_;refine b1 ?_;refine tq 8 ?_;refine dF 9 (λK o=>?_);go_simp;refine o _ _ ?_;refine aw ?_;refine bQ ?_;have g:=Z (aa.grown (aO.out.alloc (.cells #[(d:Int)] 3)) R.out (λe=>by have:=E _ e.symm;omega));have k:=Z (aa.grown (dO.out.alloc (.cells #[(d:Int)] 3)) R.out (λe=>by have:=E _ e.symm;omega));have m:=Z (aa.grown (dP.out.alloc (.cells #[(d:Int)] 3)) R.out (λe=>by have:=E _ e.symm;omega));have o:=Z ((dN.out.alloc (.cells #[(d:Int)] 3)).grown R.out (λy B=>.inr (by have:=E y B;omega)));have b:p.heap.size<=bS.heap.size:=by have:=R.out.size;simp at this;omega
 have p:=Z (dQ.out.kp ad.out (λal=>by have h:=E _ (jI al);omega));clear E;obtain⟨s,c,av,b⟩:=Ca aZ (O bT (f+1) cY);rw[c];clear c;have dV:=Z (b.old o.out (λc an aG=>absurd aG (by rw[aB an];omega)));have dW:=qo b g;have dX:=qo b k;have dY:=qo b m;have a0:=b;have dZ:=av;have b:=a0.out.size;have d0:=Z (show cQ .string s j.heap.size (iU (i++[(n,(d:Int))])) by
  have h:=p.out.kp a0.out aF;rw[wW]at h⊢;exact h)
 go_wp2_with fail
 go_roundg (q.length-f)
 case measure=>have:=dJ.out;omega
 refine⟨f+1,i++[(n,(d:Int))],bT,cY,by go_num,by omega,omg dJ,by rw[List.length_append,cW.out];rfl,Z ?_,dZ,dW,dX,dY,d0,Z (by have h:=da.out;rw[List.map_append]at h⊢;exact h),Z ?_,dV,by omega,dK⟩
 ·rw[List.map_append,List.flatMap_append]
  exact bD dU.out a0.out aF
 intro d1 U;rcases cP U with U|U
 ·exact dI.out d1 U
 rw[aB U];exact⟨d,rfl,dM⟩
end Go.Proofs.YteamkimbmdgdbaaGreatDoor

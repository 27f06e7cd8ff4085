import Derived.Test.YteamkimbmdgdbaaGreatDoorK14
set_option linter.unusedSimpArgs false
set_option linter.unusedVariables false
set_option maxHeartbeats 16000000
set_option maxRecDepth 100000
namespace Go.Proofs.YteamkimbmdgdbaaGreatDoor
open Go.Proofs.Tryz
open Go.RowKit
def mv (p:Sd×Int) (v:aA) (_:ah):Prop:=v=.tuple #[.agg p.1.cells.toArray,p.2]
theorem Ev {g:Type} {e:List Nat} {c:ah} {i:FuncId} {j:aQ} {f:Ending->World->Prop} {d:RO g} {V:g->Value->World->Prop} (l:Calls prog i j c (λg b=>RP e c d V g b))
 (m:∀er a b,d=.bad er a->Hid (Kp e c b)->f (.panicked [{v:=fD er a,recovered:=false}]) b)
 (n:∀a v b,d=.ok a->V a v b->Hid (Kp e c b)->f (.returned v) b):Calls prog i j c f:=by
 refine l.mono ?_;rintro g b ⟨k,h⟩;cases hr:d with
 |bad er a=>rw[hr]at h;subst h;exact m er a b hr (Z k)
 |ok a=>rw[hr]at h;obtain⟨v,rfl,o⟩:=h;exact n a v b hr o (Z k)
theorem mw {a:ah} {c:Nat} {d:aQ} {b:Addr} (f:b.block<a.heap.size) (g:b.block≠c):(a.setRow c d).cell? b=a.cell? b:=
 World.cell?_of_block ((kv a c d).block _ f (λe=>g (by injection e with e)))
def pd (c:FuncId) (d:aQ) (e:ah) (f:cF->RO (Sd×Int)) (b:cF):Prop:=
 ∀a,ag e a->Calls prog c (#[.agg b.cells.toArray]++d) a λc d=>RP [] a (f b) mv c d
theorem Ew (z r Bw:Nat) (j:FuncId) (A:aQ) (l:∀l a,(callFunc j l).run prog a=.ok (.enter j l) a) (l:cF->RO (Sd×Int)) (d:cF) (at_:Int) (a:ah) (aC:r<a.heap.size) (P:Bw<a.heap.size) (aD:z<a.heap.size)
 (Q:ae a (ac r 0) (.func (.func j) #[] A)) (R:ae a (ac Bw 0) (ak z)) (S:ae a (ac z 8) at_) (z:pd j A a l d):
 Calls prog 270 #[.agg d.cells.toArray,ak r,ak Bw] a λe w'=>RP [] a (jl at_ l d) mv e w':=by
 have s:Hid (jl at_ l d=if d.c then RO.ap d.v.ok 2 at_ (.ok (⟨-1,0,d.v⟩,d.v.k))else l d):=Z rfl;obtain⟨t,T⟩:=av (jl at_ l d);rw[<-T]at s⊢;clear T;obtain⟨U,l⟩:=av (l d);have u:=Z z;unfold pd at u;rw[<-l]at u s;clear l z;obtain⟨W,X,B,⟨b,f,g⟩⟩:=d;have Y:Hid (∀d,ag a d->Calls prog j (#[.agg #[W,X,B,b,f,g]]++A) d λe w'=>RP [] d U mv e w'):=u;have w:=s;clear u s;have aE:=Z (Kp.refl [] a);have aF:=Z Q;have ab:=Z R;have aG:=Z S;clear Q R S;show Calls prog 270 #[.agg #[W,X,B,b,f,g],ak r,ak Bw] a _;go_enter func270,ntmps270
 go_upto_region 1 with(fail)
 obtain⟨u,l,s,d,r⟩:=nb a 284 _;rw[l];clear l;have u:=qk aE d;clear d;obtain⟨C,l,ad,d,z⟩:=nc r 71 _;rw[l];clear l;have m:=qk u d;have i:=qb d s;clear d;have af:=ay i;have al:=aS i;have an:=aZ i;have D:=bi i;have E:=bl i;have F:=bF i;have aq:=(m.cell aC aj).trans aF;have G:=(m.cell P aj).trans ab;clear r z;cases B
 case false=>
  have H:Hid (t=U):=w;clear w;go_wp2_with fail
  refine Ev (Y C m.same) ?au ?aA
  case au=>
   intro l n d d o;have HX:=Z (show t=.bad l n by rw[H.out,d]);clear d;go_wp2;refine⟨rfl,?_⟩;rw[HX.out];exact⟨m.trans o,rfl⟩
  intro L ax d d M o;have az:=Z (show t=.ok L by rw[H.out,d]);clear d H;obtain⟨⟨p,q,⟨sk,x,y⟩⟩,N⟩:=L;have aB:ax=.tuple #[.agg #[p,q,sk,x,y],N]:=M;clear M;subst aB;have aH:=Z (m.trans o);have aI:=qo o i;have O:=qo o ad;clear o aq G af al an D E F;go_wp2_with (first|(refine wpList_store_row rfl 71 (.tmp 4) (.tmp 12) rfl (a.heap.size+1) #[p,q,sk,x,y] rfl rfl 71 #[J 0,J 0,J 0,J 0,ai] O.out am rfl bw ?_)|fail)
  obtain⟨l,d,n,I⟩:=mu O #[p,q,sk,x,y];rw[d];clear d;have ar:=Z (aH.grown I (λj ar=>.inr (by injection ar with ar;omega)));have aP:=Z (aa.grown aI I (λe=>by injection e with e;omega));clear I;have aJ:=ay n;have aK:=aS n;have aL:=aZ n;have aN:=bi n;have aO:=bl n;refine bodyPost_ret (v:=.tuple #[.agg #[p,q,sk,x,y],N]) ?_ rfl ?_
  ·simp[results,results270,go_sem,aJ,aK,aL,aN,aO]
  rw[az.out];exact⟨ar,_,rfl,rfl⟩
 have H:Hid (t=RO.ap (V.ok ⟨b,f,g⟩) 2 at_ (.ok (⟨-1,0,⟨b,f,g⟩⟩,b))):=w;clear w Y;have I:Hid (Rs 42 #[.agg #[b,f,g]] (.bool (V.ok ⟨b,f,g⟩))):=Z (λd=>p2 ⟨b,f,g⟩ d);obtain⟨aH,d⟩:=av (V.ok ⟨b,f,g⟩);rw[<-d]at I H;clear d;go_upto_region 3 with(fail)
 refine lj 5 G D E F λhS=>?_;refine hT ?_;refine aM 3 (λK n=>?_);go_simp;refine(I C.drew).mono ?_;rintro e ar ⟨rfl,o⟩;have o:=Z (((ag.refl C).drew).trans o);have p:=qk m o;have x:=qb o i;have aI:=qb o ad;clear o I;have ax:=(p.cell P aj).trans ab;have L:=(p.cell aD aj).trans aG;have M:=bi x;have N:=bl x;have O:=bF x;try go_simp
 refine oW n ⟨ax,M,N,O⟩ λy=>?_;refine aw ?_;cases aH
 case false=>
  have hS:=y;clear y;refine aM 4 (λK n=>?_);go_simp;exact b1 p H L
 have hS:=y;clear y;refine aM 4 (λK n=>?_);go_simp;refine bV p H L λaJ=>?_;try go_simp
 refine n _ _ (λ_=>hS) ?_;refine aw ?_;refine bZ ?_;refine bM ?_;clear hS aq G af al an D E F ax L;go_upto_region 4 with(fail)
 have d:=Z ((ag.refl ar).drew);refine gH 8 M N O λhS=>?_;refine dX ?_;refine mo ?_;obtain⟨m,i⟩:=av ar.drew;rw[<-i]at d hS⊢;clear i;have o:=qk p d;have i:=qb d x;have l:=qb d aI;clear M N O;have d:=bi i;have p:=bl i;have r:=bF i;have i:=aa.lt i;have d:(λw':World=>ae w' (ao a 3) b/\ae w' (ao a 4) f/\ae w' (ao a 5) g) (m.setRow ((a.heap.size+1)) #[J (-1),J 0,b,f,g]):=⟨(mw (by show a.heap.size<_;omega) (by show a.heap.size≠_;omega)).trans d,(mw (by show a.heap.size<_;omega) (by show a.heap.size≠_;omega)).trans p,(mw (by show a.heap.size<_;omega) (by show a.heap.size≠_;omega)).trans r⟩;refine aM 6 (λK n=>?_);refine wp_store_row 71 (.tmp 4) (.tmp 21) rfl ((a.heap.size+1)) _ rfl rfl 71 _ l am rfl bw (n _ _ (λ_=>d) ?_);refine aw ?_;refine tk 7 d ?_;refine gS am ?_ _;clear d;obtain⟨d,a,q,az⟩:=mu l #[J (-1),J 0,b,f,g];rw[a];clear a;have aB:=Z (o.grown az (λj aB=>.inr (by injection aB with aB;omega)));clear az;clear hS;have aK:=ay q;have aL:=aS q;have aN:=aZ q;have aO:=bi q;have aP:=bl q;go_wp2_with fail
 refine bodyPost_ret (v:=.tuple #[.agg #[J (-1),J 0,b,f,g],b]) ?_ rfl ?_
 ·simp[results,results270,go_sem,aK,aL,aN,aO,aP]
 rw[aJ.out];exact⟨aB,_,rfl,rfl⟩
def sE (a:cG) (b:aA) (_:ah):Prop:=b=.agg a.cells.toArray
theorem wK (f:Nat) (g:FuncId) (i:aQ) (aA:∀t w,(callFunc g t).run prog w=.ok (.enter g t) w) (k:cF->RO (Sd×Int)) (s:bm) (at_:Int) (w:ah) (u:f<w.heap.size)
 (T:ae w (ac f 8) at_) (aB:pd g i w k s.l) (aC:pd g i w k s.r):
 Calls prog 198 #[ak f,.agg s.cells.toArray,.func (.func g) #[] i] w λe w'=>RP [] w (jm at_ k s) sE e w':=by
 have t:∀t w,(callFunc 270 t).run prog w=.ok (.enter 270 t) w:=enters_of func270 am rfl;have aU:=Z aB;have aW:=Z aC;have U:=Z T;have aD:=Z (λ(j:cF) (b:ah) (c:ag w b) (d Bw:Nat) (m:d<b.heap.size) (n:Bw<b.heap.size) (o:ae b (ac d 0) (.func (.func g) #[] i)) (q:ae b (ac Bw 0) (ak f)) (t:pd g i w k j)=>
  Ew f d Bw g i aA k j at_ b m n (aV u c.size) o q ((c.cell (p:=(ac f 8)) u).trans T) (λb d=>t b (c.trans d)))
 obtain⟨R,t⟩:=av (jm at_ k s);rw[<-t];have aX:=Z t;clear t aB aC T;obtain⟨⟨y,z,m,⟨A,B,C⟩⟩,op,⟨D,E,n,⟨F,G,H⟩⟩,ad⟩:=s;obtain⟨aE,V⟩:=av (jl at_ k ⟨y,z,m,⟨A,B,C⟩⟩);obtain⟨aF,W⟩:=av (jl at_ k ⟨D,E,n,⟨F,G,H⟩⟩);have I:=Z (show R=RO.ap (aY op 1 4) 1 at_ (aE.bind λb=>aF.bind λc=>RO.ap (aY ad (-1000000000) 1000000000) 2 at_<|RO.ap (!(m&&n)&&(decide (b.2=c.2)&&(!decide (b.2=0)&&(decide (ad=0)||(decide (b.2=2)||decide (b.2=3)))))) 10 at_<|.ok (⟨b.1,op,c.1,ad⟩:cG)) by rw[V,W];exact aX.out);have k:=Z (λ(b:ah) (c:ag w b) (d Bw:Nat) j k o q=>aD ⟨y,z,m,⟨A,B,C⟩⟩ b c d Bw j k o q aU);have s:=Z (λ(b:ah) (c:ag w b) (d Bw:Nat) j o q s=>aD ⟨D,E,n,⟨F,G,H⟩⟩ b c d Bw j o q s aW);rw[<-V]at k;rw[<-W]at s;have a0:Hid (∀(b:ah),ag w b->∀c Bw,c<b.heap.size->Bw<b.heap.size->ae b (ac c 0) (.func (.func g) #[] i)->ae b (ac Bw 0) (ak f)->Calls prog 270 #[.agg #[y,z,m,A,B,C],ak c,ak Bw] b λe w'=>RP [] b aE mv e w'):=k;have a1:Hid (∀(b:ah),ag w b->∀c Bw,c<b.heap.size->Bw<b.heap.size->ae b (ac c 0) (.func (.func g) #[] i)->ae b (ac Bw 0) (ak f)->Calls prog 270 #[.agg #[D,E,n,F,G,H],ak c,ak Bw] b λe w'=>RP [] b aF mv e w'):=s;clear V W aA;have aG:=Z (λb=>fM op 1 4 b);have aH:=Z (λb=>fM ad (-1000000000) 1000000000 b);generalize aY op 1 4=a2 at aG I;generalize aY ad (-1000000000) 1000000000=aI at aH I;have a3:=Z (Kp.refl [] w);show Calls prog 198 #[ak f,.agg #[y,z,m,A,B,C,op,D,E,n,F,G,H,ad],.func (.func g) #[] i] w _;go_enter func198,ntmps198
 go_upto_region 1 with(fail)
 obtain⟨y,k,s,b,t⟩:=nb w 154 _;rw[k];clear k;have y:=qk a3 b;obtain⟨A,k,t,b,z⟩:=nc t 286 _;rw[k];clear k;have y:=qk y b;have s:=qb b s;obtain⟨B,k,z,b,A⟩:=nc z 288 _;rw[k];clear k;have y:=qk y b;have s:=qb b s;have t:=qb b t;obtain⟨X,k,a4,b,A⟩:=nc A 73 _;rw[k];clear k;have L:=qk y b;have aJ:=qb b s;have aK:=qb b t;have a5:=qb b z;go_upto_region 1 with(fail)
 have k:=ay aJ;have s:=b3 aK;have Y:=(L.cell (p:=(ac f 8)) u aj).trans U;refine dP 5 k s λhS=>?_;refine hT ?_;refine aM 3 (λK j=>?_);go_simp;refine(aG X.drew).mono ?_;rintro e w' ⟨rfl,rfl⟩;try go_simp
 refine j _ _ (λ_=>hS) ?_;refine aw ?_;cases a2
 case false=>
  refine aM 4 (λK j=>?_);go_simp;exact b1 L.drew I Y
 refine aM 4 (λK j=>?_);go_simp;refine bV L.drew I Y λa6=>?_;try go_simp
 refine j _ _ (λ_=>hS) ?_;refine aw ?_;refine bZ ?_;refine bM ?_;clear hS Y;have b:=Z ((ag.refl X).drew);obtain⟨aL,k⟩:=av X.drew;rw[<-k]at b⊢;clear k;have ab:=qk L b;have af:=qb b aJ;have o:=qb b aK;have al:=qb b a5;have a7:=qb b a4;have a8:=ay af;have a9:=aa.lt af;have ba:ae aL (ac (w.heap.size+2) 0) (.func (.func g) #[] i):=aa.cell al 0;have bb:=aa.lt al;have k:=ay o;have k:=aS o;have k:=aZ o;have k:=bi o;have k:=bl o;have k:=bF o;go_wp2_with fail
 refine dQ a6 (a0 aL ab.same (w.heap.size+2) w.heap.size bb a9 ba a8) (fb ab) ?_;intro a v an bc bd x d;obtain⟨⟨xv,xc,⟨xk,xn,xs⟩⟩,c⟩:=a;have ao:v=.tuple #[.agg #[xv,xc,xk,xn,xs],c]:=x;clear x;subst ao;have bh:=Z (ab.trans d);have bj:=qo d af;have bk:=qo d o;have bn:=qo d al;have bo:=qo d a7;clear d;clear bc;go_upto_region 4 with(first|(refine wpList_store_row rfl 71 (.tmp 8) (.tmp 23) rfl an.heap.size #[xv,xc,xk,xn,xs] rfl rfl 71 #[J 0,J 0,J 0,J 0,ai] (aa.new an 71 #[J 0,J 0,J 0,J 0,ai]) am rfl bw ?_;rw[World.setRow_alloc_new])|fail)
 obtain⟨aN,k,bp,b,-⟩:=nb an 71 #[xv,xc,xk,xn,xs];rw[k];clear k;have aq:=qk bh b;have ar:=qb b bj;have q:=qb b bk;have k:=qb b bn;have bq:=qb b bo;have br:=ay ar;have bs:=aa.lt ar;have bt:ae aN (ac (w.heap.size+2) 0) (.func (.func g) #[] i):=aa.cell k 0;have bu:=aa.lt k;have i:=b7 q;have i:=b4 q;have i:=je q;have i:=m5 q;have i:=ov q;have i:=p8 q;go_wp2_with fail
 refine dQ bd (a1 aN aq.same (w.heap.size+2) w.heap.size bu bs bt br) (fb aq) ?_;intro a v au bv aO x d;obtain⟨⟨yv,yc,⟨yk,yn,ys⟩⟩,M⟩:=a;have ao:v=.tuple #[.agg #[yv,yc,yk,yn,ys],M]:=x;clear x;subst ao;have bx:=Z (aq.trans d);have bz:=qo d ar;have bA:=qo d q;have bB:=qo d bq;have bC:=qo d bp;clear d;clear bv;go_upto_region 5 with(first|(refine wpList_store_row rfl 71 (.tmp 10) (.tmp 30) rfl au.heap.size #[yv,yc,yk,yn,ys] rfl rfl 71 #[J 0,J 0,J 0,J 0,ai] (aa.new au 71 #[J 0,J 0,J 0,J 0,ai]) am rfl bw ?_;rw[World.setRow_alloc_new])|fail)
 obtain⟨ax,d,bD,b,-⟩:=nb au 71 #[yv,yc,yk,yn,ys];rw[d];clear d;have N:=qk bx b;have aP:=qb b bz;have aR:=qb b bA;have bE:=qb b bB;have bG:=qb b bC;have aT:=Z (show R=RO.ap aI 2 at_ (RO.ap (!(m&&n)&&(decide (c=M)&&(!decide (c=0)&&(decide (ad=0)||(decide (c=2)||decide (c=3)))))) 10 at_ (.ok (⟨⟨xv,xc,⟨xk,xn,xs⟩⟩,op,⟨yv,yc,⟨yk,yn,ys⟩⟩,ad⟩:cG)))from aO);clear aO;go_upto_region 5 with(fail)
 have d:=ay aP;have i:=ox aR;have az:=(N.cell (p:=(ac f 8)) u aj).trans U;refine dP 5 d i λhS=>?_;refine hT ?_;refine aM 3 (λK j=>?_);go_simp;refine(aH ax.drew).mono ?_;rintro e w' ⟨rfl,rfl⟩;try go_simp
 refine j _ _ (λ_=>hS) ?_;refine aw ?_;cases aI
 case false=>
  refine aM 4 (λK j=>?_);go_simp;exact b1 N.drew aT az
 refine aM 4 (λK j=>?_);go_simp;refine bV N.drew aT az λE5=>?_;try go_simp
 refine j _ _ (λ_=>hS) ?_;refine aw ?_;refine bZ ?_;refine bM ?_;clear hS az;have b:=Z ((ag.refl ax).drew);obtain⟨i,d⟩:=av ax.drew;rw[<-d]at b⊢;clear d;have nC:=qk N b;have k:=qb b aP;have d:=qb b aR;have wL:=qb b bE;have i:=qb b bG;have b:=qb b bD;obtain⟨RS,j⟩:∃RS:RO cG,RS=.ok (⟨⟨xv,xc,⟨xk,xn,xs⟩⟩,op,⟨yv,yc,⟨yk,yn,ys⟩⟩,ad⟩:cG):=⟨_,rfl⟩;have Ey:=Z j;rw[<-j]at E5;clear j;have j:=ay k;have j:=aZ d;have j:=b3 d;have pe:=b4 d;have j:=je d;have d:=ox d;have pe:=(nC.cell (p:=(ac f 8)) u aj).trans U;have d:=ay i;have d:=aS i;have d:=aZ i;have d:=bi i;have d:=bl i;have d:=ay b;have d:=aS b;have d:=aZ b;have d:=bi b;have b:=bl b;cases m
 case true=>
  cases n
  case true=>
   exact pf
  by_cases bH:c=M
  case neg=>
   exact pf
  subst bH;have b:(c==c)=true:=aj
  by_cases O:c=0
  case pos=>
   have b:(c !=0)=false:=by simp[O]
   have b:decide (c=0)=true:=by simp[O]
   clear O;exact pf
  have b:(c !=0)=true:=by simp[O]
  by_cases P:ad=0
  case pos=>
   have b:(ad==0)=true:=by simp[P]
   have b:decide (ad=0)=true:=by simp[P]
   clear P;exact nD
  have b:(ad==0)=false:=by simp[P]
  by_cases Q:c=2
  case pos=>
   have b:(c==2)=true:=by simp[Q]
   have b:decide (c=2)=true:=by simp[Q]
   clear Q;exact nD
  have b:(c==2)=false:=by simp[Q]
  by_cases S:c=3
  case pos=>
   have b:(c==3)=true:=by simp[S]
   have b:decide (c=3)=true:=by simp[S]
   clear S;exact nD
  have b:(c==3)=false:=by simp[S]
  have E6:=Z (show R=RO.ap false 10 at_ RS by rw[E5.out];simp[*]);clear E5;go_wp2_with fail
  exact b1 nC E6 pe
 by_cases bH:c=M
 case neg=>
  exact pf
 subst bH;have b:(c==c)=true:=aj
 by_cases O:c=0
 case pos=>
  have b:(c !=0)=false:=by simp[O]
  have b:decide (c=0)=true:=by simp[O]
  clear O;exact pf
 have b:(c !=0)=true:=by simp[O]
 by_cases P:ad=0
 case pos=>
  have b:(ad==0)=true:=by simp[P]
  have b:decide (ad=0)=true:=by simp[P]
  clear P;exact nD
 have b:(ad==0)=false:=by simp[P]
 by_cases Q:c=2
 case pos=>
  have b:(c==2)=true:=by simp[Q]
  have b:decide (c=2)=true:=by simp[Q]
  clear Q;exact nD
 have b:(c==2)=false:=by simp[Q]
 by_cases S:c=3
 case pos=>
  have b:(c==3)=true:=by simp[S]
  have b:decide (c=3)=true:=by simp[S]
  clear S;exact nD
 have b:(c==3)=false:=by simp[S]
 have E6:=Z (show R=RO.ap false 10 at_ RS by rw[E5.out];simp[*]);clear E5;go_wp2_with fail
 exact b1 nC E6 pe
def iO (a:List (ByteArray×Int)):List (Value×Value):=a.zipIdx.map λa=>(.string a.1.1,.int .i64 (a.2:Int))
theorem wM (c:List (ByteArray×Int)) (a:Nat) (d:Value×Value) (h:(iO c)[a]?=some d):∃b,c[a]?=some b/\d=(.string b.1,.int .i64 (a:Int)):=by
 unfold iO at h;rw[List.getElem?_map,List.getElem?_zipIdx]at h;cases hv:c[a]? with
 |none=>rw[hv]at h;simp at h
 |some b=>rw[hv]at h;simp at h;exact⟨b,rfl,h.symm⟩
theorem wN {f:ah} {g:Nat} {a:List (ByteArray×Int)} (h:cR .string f g (iO a)) (k:(a.map (·.1)).Nodup) (c:ax):
 ((a.any λd=>decide (d.1=c))=false/\(Instr.lookup 281 (.map (some g)) c true).run prog f=.ok (.tuple #[J 0,.bool false]) f)\/
 ∃e:Nat,e<a.length/\(a.any λd=>decide (d.1=c))=true/\co (λd:ByteArray×Int=>decide (d.1=c)) a=(e:Int)/\(Instr.lookup 281 (.map (some g)) c true).run prog f=.ok (.tuple #[(e:Int),.bool true]) f:=by
 rcases h.look (P:=prog) (T:=281) underlying281 underlying9 (J 0) zeroValue3 c trivial with⟨i,j⟩|⟨b,n,i,j⟩
 ·refine .inl ⟨?_,j true⟩
  rw[List.any_eq_false];intro d l;obtain⟨b,m,rfl⟩:=List.mem_iff_getElem.1 l;have:=i (.string a[b].1,.int .i64 (b:Int)) (List.mem_map.2 ⟨(a[b],b),by rw[List.mem_zipIdx_iff_getElem?];simp[m],rfl⟩);simp at this;simpa using this
 obtain⟨d,l,m⟩:=wM a b _ i;injection m with e1 e2
 injection e1 with e1
 subst e2;obtain⟨d,f⟩:=List.getElem?_eq_some_iff.1 l;have f:a[b].1=c:=by rw[f,e1]
 refine .inr ⟨b,d,?_,?_,j true⟩
 ·rw[List.any_eq_true]
  exact⟨_,List.getElem_mem d,by simpa using f⟩
 refine p4 b d (by simpa using f) (λe d=>?_);have c:a[e].1≠c:=by
  intro g;have i:e<(a.map (·.1)).length:=aF
  have a:b<(a.map (·.1)).length:=aF
  exact(List.pairwise_iff_getElem.1 k e b i a d) (by simp;rw[g,f])
 simpa using c
structure pg (w:ah) (X Bv Bw Br M:Nat) (h hb:Hd) (ts:List RT) (vs:List (ByteArray×Int)) (at_:Int):Prop where
 hX:X<w.heap.size
 c0:ae w (ac X 0) h.val
 c8:ae w (ac X 8) at_
 hv:Bv<w.heap.size
 cv:ae w (ac Bv 0) (.map (some M))
 m:cR .string w M (iO vs)
 nd:(vs.map (·.1)).Nodup
 hw:Bw<w.heap.size
 cw:ae w (ac Bw 0) (ak X)
 hr:Br<w.heap.size
 cr:ae w (ac Br 8) hb.val
 lb:cY w hb (vs.map (·.2))
 ix:∀p∈vs,∃q:Nat,p.2=q/\q<ts.length
 ta:bI w h ts
theorem pg.same {w d:ah} {X b Bw c e:Nat} {h f:Hd} {ts:List RT} {g:List (ByteArray×Int)} {at_:Int} (a:pg w X b Bw c e h f ts g at_) (s:ag w d):pg d X b Bw c e h f ts g at_:=
 ⟨aV a.hX s.size,(s.cell (p:=(ac X 0)) a.hX).trans a.c0,(s.cell (p:=(ac X 8)) a.hX).trans a.c8,aV a.hv s.size,(s.cell (p:=(ac b 0)) a.hv).trans a.cv,a.m.kp (Kp.of_same (l:=[]) s) aj,a.nd,
  aV a.hw s.size,(s.cell (p:=(ac Bw 0)) a.hw).trans a.cw,aV a.hr s.size,(s.cell (p:=(ac c 8)) a.hr).trans a.cr,a.lb.same s,a.ix,a.ta.same s⟩
theorem Ez (w R Bw y W:Nat) (h F:Hd) (q:List RT) (A:List (ByteArray×Int)) (G:cF) (at_:Int) (i:ah) (a:pg i w R Bw y W h F q A at_):
 Calls prog 199 #[.agg G.cells.toArray,ak R,ak Bw,ak y] i λe w'=>RP [] i (iw (q.map RT.tb) at_ A G) mv e w':=by
 obtain⟨aN,S,H⟩:=h;obtain⟨aO,T,aP⟩:=F;have U:=Z a;have aQ:=Z a.ta;have W:=a.ta.1.1;have aR:=a.lb.1;have W:=a.lb.2.1;have bn:=a.hX;have W:=a.hw;have W:=a.hr;clear a;obtain⟨I,W⟩:=av (iw (q.map RT.tb) at_ A G);rw[<-W];have L:=Z W;clear W;obtain⟨aT,M,bo,⟨bp,bq,br⟩⟩:=G;have bs:=Z (Kp.refl [] i);show Calls prog 199 #[.agg #[aT,M,bo,bp,bq,br],ak R,ak Bw,ak y] i _;go_enter func199,ntmps199
 go_upto_region 1 with(fail)
 obtain⟨bo,G,W,c,R⟩:=nb i 284 _;rw[G];clear G;have bo:=qk bs c;have bp:=Z (aQ.same c);have bq:=Z (U.same c);clear c;obtain⟨b,G,bt,c,br⟩:=nc R 71 _;rw[G];clear G;have N:=qk bo c;have bu:=Z (bp.same c);have aU:=qb c W;have o:=Z (bq.same c);clear c;have G:i.heap.size+1<b.heap.size:=af
 clear R br;have bv:=ay aU;have bx:=o.cv;have X:=o.cw;have Y:=o.c8;rcases wN o.out.m o.out.nd aT with⟨B,ad⟩|⟨f,al,B,aW,ad⟩
 case inl=>
  have d:=Z (show I=RO.ap false 8 at_ _ by rw[L.out];unfold iw;rw[B]);clear B L;go_wp2_with fail
  exact b1 N d Y
 obtain⟨d,an,aq⟩:=U.ix _ (List.getElem_mem al);have aX:=Z (show I=RO.ap true 8 at_ ((cS at_ q[d].tb.attrs M).bind λg=>.ok ((⟨(f:Int),g,V.zero⟩:Sd),(cH q[d].tb.attrs g).kind)) by
  rw[L.out];unfold iw;rw[B,aW];have g:(A[(f:Int).toNat]?).getD (e0,0)=A[f]:=by rw[Int.toNat_natCast,List.getElem?_eq_getElem al];rfl
  dsimp only;rw[g,an,nz q d aq])
 have bz:=Z (show ae b (ac y 8) (O aO T aP)from o.cr);have bA:∃g j,aO=some ⟨g,j,none⟩/\g<b.heap.size/\ae b (ac g (j+f)) (d:Int):=by
  obtain⟨g,j,aN,F,H⟩:=o.lb.one f (by simpa using al) (v:=.int .i64 (d:Int)) (by simp[bU,an]);exact⟨g,j,aN,F,H⟩
 obtain⟨aY,a0,bB,b6,ar⟩:=bA;subst bB;have A:(f:Int)<T:=by have:=aR;simp at this;omega
 have A:(0:Int)<=f:=af
 clear B aW L an aR;go_wp2_with fail
 refine bV N aX Y λau=>?_;clear aX ad;obtain⟨g,j,az,A,aA,aB,aC⟩:=nx bu d aq;have P:=Z (aQ.2 _ (List.getElem_mem aq));have aD:=Z (λ(a:ax) (l:ah) (k:ag i l)=>o2 w q[d] a at_ l (aV bn k.size) (U.same k).c8 (P.same k));obtain⟨tq,a1⟩:=av (q[d]);rw[<-a1]at aA aB aC aD au P;obtain⟨x,⟨p,k,n⟩,r,⟨s,t,u⟩,b7⟩:=tq;have aE:=aA;have aF:ae b (ac g (j+d*3+1)) (O p k n):=aB;have aG:ae b (ac g (j+d*3+2)) (O s t u):=aC;have a2:Hid (∀(a:ax) (l:ah),ag i l->Calls prog 187 #[ak w,.agg #[x,O p k n,O s t u],a] l λe w'=>RP [] l (cS at_ (r.map RA.at_) a) hP e w'):=aD;have a3:Hid (fp i ⟨p,k,n⟩ r):=P.1;have a4:Hid (I=(cS at_ (r.map RA.at_) M).bind λl=>.ok ((⟨(f:Int),l,V.zero⟩:Sd),(cH (r.map RA.at_) l).kind)):=au;clear aA aB aC aD au a1 P;have q:(d:Int)<S:=af
 have q:(0:Int)<=d:=af
 subst az;have bC:=Z (a3.same N.same);have aH:ae b (ac w 0) (O (some ⟨g,j,none⟩) S H):=o.c0;have aI:=bz.out;have q:w<b.heap.size:=af
 have q:Bw<b.heap.size:=af
 have q:y<b.heap.size:=af
 go_upto_region 3 with(fail)
 refine oX 14 X aH aI ar aE aF aG λhS=>?_;refine dv ?_;refine eA ?_;refine tk 11 hS ?_;refine tk 12 hS ?_;have a5:(λw':World=>ae w' (ac Bw 0) (ak w)/\ae w' (ac w 0) (O (some ⟨g,j,none⟩) S H)/\ae w' (ac y 8) (O (some ⟨aY,a0,none⟩) T aP)/\ae w' (ac aY (a0+f)) (d:Int)/\ae w' (ac g (j+d*3)) x/\ae w' (ac g (j+d*3+1)) (O p k n)/\ae w' (ac g (j+d*3+2)) (O s t u)) (b.drew.alloc (.cells #[ai,ab,ab] 81)):=⟨(World.cell?_alloc_lt _ _ _ cK).trans X,(World.cell?_alloc_lt _ _ _ cK).trans aH,(World.cell?_alloc_lt _ _ _ cK).trans aI,(World.cell?_alloc_lt _ _ _ cK).trans ar,(World.cell?_alloc_lt _ _ _ cK).trans aE,(World.cell?_alloc_lt _ _ _ cK).trans aF,(World.cell?_alloc_lt _ _ _ cK).trans aG⟩;refine aM 13 (λK C=>?_);go_simp;refine C _ _ (λ_=>a5) ?_;refine aw ?_;refine bZ ?_;refine dt 14 (λK C=>?_);refine Eq.mpr (if_pos rfl) ?_;refine wJ 81 (.tmp 9) (.tmp 33) rfl b.drew _ _ 81 rfl rfl am rfl bw (C _ _ ?_);refine aw ?_;refine bM ?_;have d:=Z (show aa (b.drew.alloc (.cells #[x,O p k n,O s t u] 81)) b.heap.size 81 #[x,O p k n,O s t u]from aa.new b.drew 81 #[x,O p k n,O s t u]);have c:=Z (show ag b (b.drew.alloc (.cells #[x,O p k n,O s t u] 81))from((ag.refl b).drew).alloc _);obtain⟨bD,g⟩:=av (b.drew.alloc (.cells #[x,O p k n,O s t u] 81));rw[<-g]at d c⊢;clear g;have aJ:=qk N c;have bE:=qb c aU;have bF:=qb c bt;have g:=Z (o.same c);have bG:=Z (bC.same c);have Q:=d;clear d c;clear aE aF aG aH aI ar X Y bx hS a5 bv;have bH:=g.cw;go_upto_region 4 with(fail)
 have bI:=ay Q;have bJ:=aS Q;have bK:=aZ Q;have bL:=aS bE;go_wp2_with fail
 refine dQ a4 (a2 M bD aJ.same) (fb aJ) ?_;intro a c a6 a7 a8 a9 D;have bN:c=.int .i64 a:=a9;subst bN;obtain⟨l,bO,bb⟩:=qH a7;subst bO;have d:l<r.length:=by simpa using bb
 clear bb a9 a7;have aK:=Z (aJ.trans D);have bP:=qo D bF;have bc:=qo D Q;have j:=Z (bG.same D.same);have o:=aK.size;clear D;clear bI bJ bK bL bH a2;obtain⟨ba,bd,az,g,p,c,q,s,t,u⟩:=iJ a3 l d;have bh:=(aK.cell g aj).trans c;clear c;have c:(l:Int)<k:=by have:=j.out.1.1;have ad:r.length=k:=this;omega
 have c:(0:Int)<=l:=af
 obtain⟨aL,c⟩:=av (r[l].at_.kind);rw[<-c]at bh;have bQ:=Z (show I=.ok ((⟨(f:Int),(l:Int),V.zero⟩:Sd),aL) by rw[a8.out,ku r l d,<-c]);clear a4 a8 c p q s t u;have bR:=aV g o;subst az;go_upto_region 5 with(fail)
 have c:=aS bc;have z:=Z ((ag.refl a6).drew);refine dP 11 c bh λhS=>?_;refine dv ?_;obtain⟨bS,c⟩:=av a6.drew;rw[<-c]at z hS⊢;clear c;have bT:=qk aK z;have bj:=qb z bP;have bW:=qb z bc;obtain⟨bX,bY⟩:=hS;have c:=aV bR z.size;have c:=aa.lt bW;clear z;have b:(λw':World=>ae w' (ao b 1) (O (some ⟨ba,bd,none⟩) k n)/\ae w' (ac ba (bd+l*6+1)) aL) (bS.setRow ((i.heap.size+1)) #[(f:Int),(l:Int),J 0,J 0,ai]):=⟨(mw (by show b.heap.size<_;omega) (by show b.heap.size≠_;omega)).trans bX,(mw (by show ba<_;omega) (by show ba≠_;omega)).trans bY⟩;refine aM 9 (λK C=>?_);refine wp_store_row 71 (.tmp 5) (.tmp 41) rfl ((i.heap.size+1)) _ rfl rfl 71 _ bj am rfl bw (C _ _ (λ_=>b) ?_);refine aw ?_;refine tk 10 b ?_;refine gS am ?_ _;clear b;obtain⟨c,b,E,bk⟩:=mu bj #[(f:Int),(l:Int),J 0,J 0,ai];rw[b];clear b;have bm:=Z (bT.grown bk (λb bm=>.inr (by injection bm with bm;omega)));clear bk;have b0:=ay E;have b2:=aS E;have b3:=aZ E;have b4:=bi E;have b5:=bl E;go_wp2_with fail
 refine bodyPost_ret (v:=.tuple #[.agg #[(f:Int),(l:Int),J 0,J 0,ai],aL]) ?_ rfl ?_
 ·simp[results,results199,go_sem,b0,b2,b3,b4,b5]
 rw[bQ.out];exact⟨bm,_,rfl,rfl⟩
def sF (b:List Tb) (a:aB):RO Ru:=
 RO.ap (aY a.vars.length 1 3&&aY a.conds.length 1 12) 3 a.at_<|(gG b a.at_ [] a.vars).bind λc=>
  (fe a.at_ (iw b a.at_ c) [] a.conds).bind λb=>.ok {Ru.zero with kind:=4,name:=a.name,tables:=c.map (·.2),tests:=b}
theorem EA {f:Type} (c:List Tb) (a:Int) (l:List (ByteArray×Int)) (b:Vr) (e:List Vr) (d:List (ByteArray×Int)->RO f):(gG c a l (b::e)).bind d=
 RO.ap (!l.any λf=>decide (f.1=b.name)) 9 a ((d1 c a b.table).bind λf=>(gG c a (l++[(b.name,f)]) e).bind d):=by
 show(RO.ap _ 9 a (RO.bind _ _)).bind d=_;simp only[RO.bind_assoc,RO.gW]
theorem wO {f:Type} (a:Int) (b:cF->RO (Sd×Int)) (l:List cG) (d:bm) (e:List bm) (c:List cG->RO f):(fe a b l (d::e)).bind c=
 (jm a b d).bind λd=>(fe a b (l++[d]) e).bind c:=by
 show(RO.bind _ _).bind c=_;rw[RO.bind_assoc]
theorem wP (l:List (ByteArray×Int)) (a:ByteArray×Int):iO (l++[a])=iO l++[(.string a.1,.int .i64 (l.length:Int))]:=by
 unfold iO;rw[List.zipIdx_append,List.map_append];simp
theorem EB {l:List (ByteArray×Int)} {c:ax} (h:(l.any λa=>decide (a.1=c))=false):∀a∈iO l,a.1≠.string c:=by
 intro a d b;obtain⟨e,f,rfl⟩:=List.mem_iff_getElem.1 d;obtain⟨g,i,a⟩:=wM l e _ (List.getElem?_eq_getElem f);rw[a]at b;injection b with b
 rw[List.any_eq_false]at h;exact h g (List.mem_of_getElem? i) (by simp[b])
theorem Tryz.wQ:(prog.info? 73).map (λa=>(a.zero,a.size,a.bytes))=some (some (.agg #[J 0,J 0,J 0,J 0,ai,J 0,J 0,J 0,J 0,J 0,ai,J 0]),12,112):=am
theorem cG.eV (a:cG):a.cells.length=12:=rfl
theorem EC (k bi:Nat) (ar:RI) (h:Hd) (t:List RT) (bs bt bu bx bz bA:aA) (bj:aU) (aD bk:Nat) (bB:List cn) (c:ah) (a5:aa c k 157 #[h.val,bs,bt,bu,bx,O bj aD bk,bz,bA,ar.at_]) (dq:bI c h t) (X:aE c 2 ar.hvars Vr.cells ar.vars) (bC:aE c 14 ar.hconds bm.cells ar.conds) (bW:c.ownsRow bi 64 10 (O bj aD bk) aD (bB.flatMap cn.cells)) (d2:bB.length=aD) (dr:k<bi) (an:bi<=c.heap.size) (d3:aD<=1000):
 Calls prog 121 #[ak k,.agg ar.cells.toArray] c λe w'=>jy c (sF (t.map RT.tb) ar.it) (λd4 w'=>iL c w' k bi bj aD bk bB d4 (λd4=>#[h.val,bs,bt,bu,bx,d4,bz,bA,ar.at_])) e w':=by
 obtain⟨d5,d6,d7,d8,d9⟩:=info_parts Tryz.sv;obtain⟨ea,ec,ed,ee,ef⟩:=info_parts Tryz.wQ;have d4:=@run_makeMap prog;have eg:=Z (show∀b c,(callFunc 199 b).run prog c=.ok (.enter 199 b) c from enters_of func199 am rfl);obtain⟨a6,al,a7⟩:=h;have bD:=Z X;have bl:=Z bC;have ds:=X.1;have du:=X.2.1;have dv:=bC.1;have dw:=bC.2.1;clear X bC;obtain⟨aq,bC⟩:=av (sF (t.map RT.tb) ar.it);rw[<-bC];have eh:=Z bC;clear bC;obtain⟨bX,G,g,bY,b0,⟨b3,b5,b6⟩,fj,⟨b7,b8,b9⟩,fk,ca,cb,cd,⟨ce,cf,cg⟩,H,ch,ci,⟨cj,ck,cl⟩,fl,⟨bn,cm,bE⟩,q,⟨bo,co,bF⟩,s,⟨cp,cq,⟨cr,u,v⟩,C,⟨cs,ct,cu⟩,fm,⟨cv,w,x⟩,fn,cw,cx,cy,cz⟩⟩:=ar;have a8:=Z (show aq=RO.ap (aY q.length 1 3&&aY s.length 1 12) 3 g ((gG (t.map RT.tb) g [] q).bind λb=>(fe g (iw (t.map RT.tb) g b) [] s).bind λd=>.ok ({Ru.zero with kind:=4,name:=G,tables:=b.map (·.2),tests:=d}:Ru))from eh);have ar:Hid (aE c 2 ⟨bn,cm,bE⟩ Vr.cells q):=bD;have bC:Hid (aE c 14 ⟨bo,co,bF⟩ bm.cells s):=bl;have ei:q.length=cm:=ds;have cm:cm<=9223372036854775807:=du;have bH:s.length=co:=dv;have cm:co<=9223372036854775807:=dw;clear ds du dv dw;have bD:=ar;have bl:=bC;subst ei bH;obtain⟨a2,ar⟩:∃a2:List (ByteArray×Int)->RO Ru,a2=λar=>(fe g (iw (t.map RT.tb) g ar) [] s).bind λi=>.ok ({Ru.zero with kind:=4,name:=G,tables:=ar.map (·.2),tests:=i}:Ru):=⟨_,rfl⟩;have ej:=Z (λi=>congrFun ar i);rw[<-ar]at a8;clear ar;have ar:=a5;clear a5;have a5:aa c k 157 #[O a6 al a7,bs,bt,bu,bx,O bj aD bk,bz,bA,g]:=ar;clear ar;have ar:=a5.lt;have ek:=Z (Kp.refl [] c);have cA:=Z dq;have cB:=Z a5;have cC:=Z bW;have el:=Z bW;show Calls prog 121 #[ak k,.agg #[bX,G,g,bY,b0,O b3 b5 b6,O b7 b8 b9,ca,cb,cd,O ce cf cg,ch,ci,O cj ck cl,O bn q.length bE,O bo s.length bF,cp,cq,O cr u v,O cs ct cu,O cv w x,cw,cx,cy,cz]] c _;clear a5 dq bW;go_enter func121,ntmps121
 go_upto_region 1 with(fail)
 obtain⟨bW,ar,bC,b,a5⟩:=nb c 154 _;rw[ar];clear ar;have bW:=qk ek b;have cm:=Z (aK b cC);have co:=qb b cB;have dq:=Z (bD.same b);have ds:=Z (bl.same b);obtain⟨a3,ar,cD,b,du⟩:=nc a5 95 _;rw[ar];clear ar;have bJ:=qk bW b;have bK:=Z (aK b cm);have ar:=qb b co;have dx:=qb b bC;have em:=Z (dq.same b);have en:=Z (ds.same b);clear a5 du;have cE:=ay dx;have cH:=uQ cD;have cI:=uR cD;have cK:=b4 ar;have bL:=Z (λd=>fM (q.length:Int) 1 3 d);have cL:=Z (λd=>fM (s.length:Int) 1 12 d);obtain⟨eo,ar⟩:=av (aY (q.length:Int) 1 3);obtain⟨ep,a5⟩:=av (aY (s.length:Int) 1 12);rw[<-ar]at bL a8;rw[<-a5]at cL a8;have eq:=Z ar;have es:=Z a5;clear ar a5;cases eo
 case false=>
  refine gH 12 cE cH cI λhS=>?_;refine dX ?_;refine eb 4 (λK d=>?_);go_simp;refine(bL a3.drew).mono ?_;rintro e w' ⟨rfl,rfl⟩;try go_simp
  refine d _ _ (λ_=>hS) ?_;refine aw ?_;refine tk 5 hS ?_;refine sG ?_;refine aM 11 (λK d=>?_);go_simp;exact b1 bJ.drew a8 cK
 cases ep
 case false=>
  refine gH 12 cE cH cI λhS=>?_;refine dX ?_;refine eb 4 (λK d=>?_);go_simp;refine(bL a3.drew).mono ?_;rintro e w' ⟨rfl,rfl⟩;try go_simp
  refine d _ _ (λ_=>hS) ?_;refine aw ?_;refine tk 5 hS ?_;refine tk 6 hS ?_;refine tk 7 hS ?_;refine tk 8 hS ?_;refine eb 9 (λK d=>?_);go_simp;refine(cL a3.drew).mono ?_;rintro e w' ⟨rfl,rfl⟩;try go_simp
  refine d _ _ (λ_=>hS) ?_;refine aw ?_;refine tk 10 hS ?_;refine aM 11 (λK d=>?_);go_simp;exact b1 bJ.drew a8 cK
 refine gH 12 cE cH cI λhS=>?_;refine dX ?_;refine eb 4 (λK o=>?_);go_simp;refine(bL a3.drew).mono ?_;rintro e w' ⟨rfl,rfl⟩;try go_simp
 refine o _ _ (λ_=>hS) ?_;refine aw ?_;refine tk 5 hS ?_;refine tk 6 hS ?_;refine tk 7 hS ?_;refine tk 8 hS ?_;refine eb 9 (λK o=>?_);go_simp;refine(cL a3.drew).mono ?_;rintro e w' ⟨rfl,rfl⟩;try go_simp
 refine o _ _ (λ_=>hS) ?_;refine aw ?_;refine tk 10 hS ?_;refine aM 11 (λK o=>?_);go_simp;refine bV bJ.drew a8 cK λdy=>?_;try go_simp
 refine o _ _ (λ_=>hS) ?_;refine aw ?_;refine bZ ?_;refine bM ?_;have ar:q.length<=3:=by have h:=eq.out.symm;unfold aY at h;simp at h;omega
 have ar:s.length<=12:=by have h:=es.out.symm;unfold aY at h;simp at h;omega
 clear hS;have b:=Z ((ag.refl a3).drew);obtain⟨m,ar⟩:=av a3.drew;rw[<-ar]at b⊢;clear ar;have et:=qk bJ b;have eu:=qb b dx;have cM:=qb b cD;have ev:=Z (em.same b);have ew:=Z (en.same b);have ar:=aS cM;have ar:=aa.lt cM;go_upto_region 2 with(fail)
 go_upto_region 3 with(first|(refine wpList_store_row rfl 64 (.tmp 4) (.tmp 26) rfl m.heap.size #[J 4,G,J 0,ab,J 0,ab,J 0,J 0,ab,ab] rfl rfl 64 #[J 0,ai,J 0,ab,J 0,ab,J 0,J 0,ab,ab] (aa.new m 64 #[J 0,ai,J 0,ab,J 0,ab,J 0,J 0,ab,ab]) am rfl bw ?_;rw[World.setRow_alloc_new])|fail)
 obtain⟨j,ar,dz,b,-⟩:=nb m 64 #[J 4,G,J 0,ab,J 0,ab,J 0,J 0,ab,ab];rw[ar];clear ar;have dA:=qk et b;have ex:=qb b eu;have ey:=qb b cM;have ez:=Z (ev.same b);have eA:=Z (ew.same b);have ar:=dA.size;have ar:=aa.lt dz;go_upto_region 4 with(fail)
 have a5:=Z (cR.made .string j);have b:=Z (show ag j (j.alloc (.map #[] 0))from(ag.refl j).alloc _);obtain⟨ar,a3⟩:=av (j.alloc (.map #[] 0));have a8:ar.heap.size=j.heap.size+1:=by rw[a3];simp
 rw[<-a3]at a5 b⊢;clear a3;have bC:=qk dA b;have bJ:=qb b ex;have bL:=qb b ey;have bW:=qb b dz;have a3:=Z (ez.same b);have a3:=Z (eA.same b);have ax:=Z (show aa (ar.alloc (.cells #[.map (some j.heap.size)] 281)) (j.heap.size+1) 281 #[.map (some j.heap.size)] by have h:=aa.new ar 281 #[.map (some j.heap.size)];rw[a8]at h;exact h);have b:=Z (show ag ar (ar.alloc (.cells #[.map (some j.heap.size)] 281))from(ag.refl ar).alloc _);have dB:=Z (a5.kp (Kp.of_same (l:=[]) b) aj);have a3:(ar.alloc (.cells #[.map (some j.heap.size)] 281)).heap.size=ar.heap.size+1:=aj
 obtain⟨a9,ar⟩:=av (ar.alloc (.cells #[.map (some j.heap.size)] 281));rw[<-ar]at ax b dB a3⊢;clear ar;have eB:=qk bC b;have eC:=qb b bJ;have cN:=qb b bL;have eD:=qb b bW;have dC:=ax;have ar:j.heap.size+1<a9.heap.size:=af
 clear a8 a3;have ar:=uQ cN;have ar:=aa.lt cN;go_wp2_with fail
 go_loopg [31] (q.length+1) (λp y wr=>∃(d:Nat) (i:List (ByteArray×Int)) (f:aU) (n:Nat),y=.int .i64 d/\d<=q.length/\q.length-d<p/\i.length=d/\Hid (wr.ownsRow a9.heap.size 3 1 (O f d n) d ((i.map (·.2)).flatMap bU))/\Hid (aa wr m.heap.size 64 #[J 4,G,J 0,ab,J 0,ab,J 0,J 0,O f d n,ab])/\Hid (aa wr c.heap.size 154 #[ak k])/\Hid (aa wr (c.heap.size+1) 95 #[bX,G,g,bY,b0,O b3 b5 b6,O b7 b8 b9,ca,cb,cd,O ce cf cg,ch,ci,O cj ck cl,O bn q.length bE,O bo s.length bF,cp,cq,O cr u v,O cs ct cu,O cv w x,cw,cx,cy,cz])/\Hid (aa wr (j.heap.size+1) 281 #[.map (some j.heap.size)])/\Hid (cR .string wr j.heap.size (iO i))/\Hid ((i.map (·.1)).Nodup)/\Hid (∀n∈i,∃f:Nat,n.2=f/\f<t.length)/\Hid (Kp [] c wr)/\a9.heap.size<=wr.heap.size/\Hid (aq=(gG (t.map RT.tb) g i (q.drop d)).bind a2))
 case atStart=>exact⟨0,[],none,0,rfl,by omega,by omega,rfl,Z ⟨rfl,.inl ⟨rfl,rfl⟩⟩,eD,eC,cN,dC,dB,Z List.nodup_nil,Z (λf d=>by cases d),eB,Nat.le_refl _,dy⟩
 obtain⟨f,i,z,A,rfl,fo,dD,dE,bN,cQ,cS,bp,cT,dF,cU,dG,aB,fp,bO⟩:=hrel;have dH:=Z dD;have cV:=Z dE;clear dD dE dC dy;have ar:=Z (cA.same aB.same);have ar:=Z (aK aB.same cC);have eE:=Z (bD.same aB.same);have ar:=Z (bl.same aB.same);have eF:=qo aB cB;have ar:=aB.size;by_cases aG:f<q.length
 case neg=>
  have ar:¬(f:Int)<q.length:=af
  have cW:=Z (show aq=a2 i by rw[bO.out,List.drop_of_length_le af];rfl);clear bO;obtain⟨aH,eG⟩:=av wr;subst eG;obtain⟨ba,ar⟩:=av (iw (t.map RT.tb) g i);have dI:=Z ar;obtain⟨bb,a3⟩:∃bb:List cG->RO Ru,bb=λH=>.ok ({Ru.zero with kind:=4,name:=G,tables:=i.map (·.2),tests:=H}:Ru):=⟨_,rfl⟩;have eH:=Z (λi=>congrFun a3 i);have eJ:=Z (show aq=(fe g ba [] s).bind bb by rw[cW.out,ej.out i,ar,a3]);clear ar a3;have dJ:Hid (cY aH ⟨z,f,A⟩ (i.map (·.2))):=Z (cJ (h:=⟨z,f,A⟩) bU.len (by show(i.map (·.2)).length=f;rw[List.length_map];exact cV.out) (by show f<=_;omega) bN);have cZ:Hid (∀d n,z=some ⟨d,n,none⟩->a9.heap.size<=d/\d<aH.heap.size):=Z (λd n e=>b2 bN d (by show(Value.slice z f A).ownBlock=_;rw[e];rfl));have ar:m.heap.size<aH.heap.size:=by omega
  have ar:=uR bp;have ar:=aa.lt bp;go_wp2_with fail
  go_loopg [64] (s.length+1) (λy B wr=>∃(d:Nat) (H:List cG) (n:aU) (p:Nat),B=.int .i64 d/\d<=s.length/\s.length-d<y/\H.length=d/\Hid (wr.ownsRow aH.heap.size 73 12 (O n d p) d (H.flatMap cG.cells))/\Hid (aa wr m.heap.size 64 #[J 4,G,J 0,ab,J 0,ab,J 0,J 0,O z f A,O n d p])/\Hid (aa wr c.heap.size 154 #[ak k])/\Hid (aa wr (c.heap.size+1) 95 #[bX,G,g,bY,b0,O b3 b5 b6,O b7 b8 b9,ca,cb,cd,O ce cf cg,ch,ci,O cj ck cl,O bn q.length bE,O bo s.length bF,cp,cq,O cr u v,O cs ct cu,O cv w x,cw,cx,cy,cz])/\Hid (aa wr (j.heap.size+1) 281 #[.map (some j.heap.size)])/\Hid (Kp [] c wr)/\Hid (Kp [m.heap.size] aH wr)/\Hid (aq=(fe g ba H (s.drop d)).bind bb))
  case atStart=>exact⟨0,[],none,0,rfl,by omega,by omega,rfl,Z ⟨rfl,.inl ⟨rfl,rfl⟩⟩,cQ,cS,bp,cT,aB,Z (Kp.refl _ aH),eJ⟩
  obtain⟨d,H,I,Y,rfl,fq,dK,dL,bP,bQ,bR,eK,c0,a4,bq,bS⟩:=hrel;have dM:=Z dK;have dN:=Z dL;clear dK dL cQ cS bp cT aB;have eL:=Z (cA.same a4.same);have eM:=Z (aK a4.same cC);have eN:=Z (bl.same a4.same);have br:=qo a4 cB;have ar:=a4.size;have ar:=bq.size;by_cases dO:d<s.length
  case neg=>
   have n:¬(d:Int)<s.length:=af
   have cW:=Z (show aq=bb H by rw[bS.out,List.drop_of_length_le af];rfl);clear bS;have n:=Z (qJ k bi ⟨4,G,0,aL,[],0,aL,[],0,0,⟨z,f,A⟩,i.map (·.2),⟨I,d,Y⟩,H⟩ g (O a6 al a7) bs bt bu bx bz bA bj aD bk bB wr br eM d2 dr af d3);have p:Hid (Calls prog 194 #[ak k,.agg #[J 4,G,J 0,ab,J 0,ab,J 0,J 0,O z f A,O I d Y]] wr _):=n;have n:=ay bR;go_wp2_with (first|(refine iK rfl 64 (.tmp 4) rfl m.heap.size #[J 4,G,J 0,ab,J 0,ab,J 0,J 0,O z f A,O I d Y] rfl 64 bQ.out _ underlying64 rfl am ?_)|fail)
   refine p.mono ?_;rintro e n ⟨rfl,y⟩;go_wp2;first|go_end0|refine bodyPost_ret (results_none rfl _ _ _) rfl ?_
   rw[cW.out,eH.out H];have FL:=cJ (h:=⟨I,d,Y⟩) cG.eV dN (by show d<=_;omega) bP;have n:eU wr (Bw c.heap.size wr.heap.size) ⟨4,G,0,aL,[],0,aL,[],0,0,⟨z,f,A⟩,i.map (·.2),⟨I,d,Y⟩,H⟩:=⟨aE.none_ wr 1 _,bc.none_ _ _ _,aE.none_ wr 4 _,bc.none_ _ _ _,dJ.kp bq (λn p e al=>by have h:=cZ.out n p e;have:=aC al;omega),(λn p e=>by have h:=cZ.out n p e;exact⟨by omega,by omega⟩),FL,(λn p e=>by have h:=b2 bP.out n (by show(Value.slice I d Y).ownBlock=_;have n:I=some ⟨n,p,none⟩:=e;rw[n];rfl);exact⟨by omega,h.2⟩)⟩;exact⟨rfl,iL.qK a4 el dr an n y⟩
  have G:(d:Int)<s.length:=af
  obtain⟨D,of,ar,G,B⟩:=eN.2.2 d dO;have eO:bo=some ⟨D,of,none⟩:=ar;obtain⟨bd,G⟩:=av (s[d]);rw[<-G]at B;have dP:=Z (show aq=(jm g ba bd).bind λn=>(fe g ba (H++[n]) (s.drop (d+1))).bind bb by rw[bS.out,List.drop_eq_getElem_cons dO,wO,<-G]);clear G ar bS;have G:Hid (pg wr k (j.heap.size+1) c.heap.size m.heap.size j.heap.size ⟨a6,al,a7⟩ ⟨z,f,A⟩ t i g):=Z ⟨aa.lt br,aa.cell br 0,aa.cell br 8,aa.lt c0,aa.cell c0 0,dF.kp bq aF,cU,aa.lt bR,aa.cell bR 0,aa.lt bQ,aa.cell bQ 8,dJ.kp bq (λn p e al=>by have h:=cZ.out n p e;have:=aC al;omega),dG.out,eL.out⟩;have ar:=Z (λ(p:cF) (n:ah) (y:ag wr n)=>Ez k (j.heap.size+1) c.heap.size m.heap.size j.heap.size ⟨a6,al,a7⟩ ⟨z,f,A⟩ t i p g n (G.same y));have dR:=Z (λ(p:ah) (n:ag wr p)=>wK k 199 #[ak (j.heap.size+1),ak c.heap.size,ak m.heap.size] eg.out ba bd g p (aV (aa.lt br.out) n.size) ((G.out.same n).c8) (λp y=>by rw[dI.out];exact ar.out bd.l p (n.trans y)) (λp y=>by rw[dI.out];exact ar.out bd.r p (n.trans y)));obtain⟨c1,G⟩:∃c1,c1=jm g ba bd:=⟨_,rfl⟩;rw[<-G]at dP dR;clear G;obtain⟨⟨X,aI,aJ,⟨aN,aO,aP⟩⟩,aQ,⟨aR,aT,aW,⟨aX,aZ,a0⟩⟩,a1⟩:=bd;have eP:Hid (∀(n:ah),ag wr n->Calls prog 198 #[ak k,.agg #[X,aI,aJ,aN,aO,aP,aQ,aR,aT,aW,aX,aZ,a0,a1],.func (.func 199) #[] #[ak (j.heap.size+1),ak c.heap.size,ak m.heap.size]] n λe w'=>RP [] n c1 sE e w'):=dR;have G:ae wr (ac D (of+d*14)) X:=by simpa using B 0 _ rfl
  have G:ae wr (ac D (of+d*14+1)) aI:=B 1 _ rfl;have G:ae wr (ac D (of+d*14+2)) aJ:=B 2 _ rfl;have G:ae wr (ac D (of+d*14+3)) aN:=B 3 _ rfl;have G:ae wr (ac D (of+d*14+4)) aO:=B 4 _ rfl;have G:ae wr (ac D (of+d*14+5)) aP:=B 5 _ rfl;have G:ae wr (ac D (of+d*14+6)) aQ:=B 6 _ rfl;have G:ae wr (ac D (of+d*14+7)) aR:=B 7 _ rfl;have G:ae wr (ac D (of+d*14+8)) aT:=B 8 _ rfl;have eQ:ae wr (ac D (of+d*14+9)) aW:=B 9 _ rfl;have G:ae wr (ac D (of+d*14+10)) aX:=B 10 _ rfl;have G:ae wr (ac D (of+d*14+11)) aZ:=B 11 _ rfl;have G:ae wr (ac D (of+d*14+12)) a0:=B 12 _ rfl;have D:ae wr (ac D (of+d*14+13)) a1:=B 13 _ rfl;have D:IntKind.i64.wrap ((d:Int)+1)=(d:Int)+1:=IntWalk.i64_in _ af;clear B;subst eO;have eR:=Z (Kp.refl [] wr);go_upto_region 15 with(first|(refine wpList_store_row rfl 286 (.tmp 11) (.tmp 67) rfl wr.heap.size #[X,aI,aJ,aN,aO,aP,aQ,aR,aT,aW,aX,aZ,a0,a1] rfl rfl 286 #[ai,ai,.bool false,J 0,J 0,ai,J 0,ai,ai,.bool false,J 0,J 0,ai,J 0] (aa.new wr 286 #[ai,ai,.bool false,J 0,J 0,ai,J 0,ai,ai,.bool false,J 0,J 0,ai,J 0]) am rfl bw ?_;rw[World.setRow_alloc_new])|fail)
  obtain⟨y,B,ax,b,-⟩:=nb wr 286 #[X,aI,aJ,aN,aO,aP,aQ,aR,aT,aW,aX,aZ,a0,a1];rw[B];clear B;have dS:=qk a4 b;have dT:=qb b bR;have eS:=qb b eK;have dU:=qb b bQ;have eT:=qb b c0;have dV:=qk eR b;have eW:=qk bq b;have E:=ax;have B:ae y (ao m 9) (O I d Y):=aa.cell dU.out 9;have D:ae y (ao c 0) (ak k):=aa.cell dT.out 0;have G:ae y (ao wr 0) X:=aa.cell E.out 0;have ar:ae y (ao wr 1) aI:=aa.cell E.out 1;have aD:ae y (ao wr 2) aJ:=aa.cell E.out 2;have a3:ae y (ao wr 3) aN:=aa.cell E.out 3;have a4:ae y (ao wr 4) aO:=aa.cell E.out 4;have a5:ae y (ao wr 5) aP:=aa.cell E.out 5;have a8:ae y (ao wr 6) aQ:=aa.cell E.out 6;have ba:ae y (ao wr 7) aR:=aa.cell E.out 7;have bb:ae y (ao wr 8) aT:=aa.cell E.out 8;have bd:ae y (ao wr 9) aW:=aa.cell E.out 9;have bi:ae y (ao wr 10) aX:=aa.cell E.out 10;have bj:ae y (ao wr 11) aZ:=aa.cell E.out 11;have bk:ae y (ao wr 12) a0:=aa.cell E.out 12;have bl:ae y (ao wr 13) a1:=aa.cell E.out 13;refine eI 8 (S:=(λw'=>ae w' (ao m 9) (O I d Y)/\ae w' (ao c 0) (ak k)/\ae w' (ao wr 0) X/\ae w' (ao wr 1) aI/\ae w' (ao wr 2) aJ/\ae w' (ao wr 3) aN/\ae w' (ao wr 4) aO/\ae w' (ao wr 5) aP/\ae w' (ao wr 6) aQ/\ae w' (ao wr 7) aR/\ae w' (ao wr 8) aT/\ae w' (ao wr 9) aW/\ae w' (ao wr 10) aX/\ae w' (ao wr 11) aZ/\ae w' (ao wr 12) a0/\ae w' (ao wr 13) a1)) ⟨B,D,G,ar,aD,a3,a4,a5,a8,ba,bb,bd,bi,bj,bk,bl⟩ (λhS=>?_);refine dX ?_;refine tk 4 hS ?_;refine aM 5 (λK o=>?_);go_simp;refine dQ dP.out (eP.out y.drew dV.out.drew.same) (fb (dS.out.drew)) ?_;intro a eX n eY eZ dW az;have az:=Z (((Kp.refl [] y).drew).trans az.out);have y:=Z (rfl:a=a);obtain⟨⟨L,x,⟨M,w,N⟩⟩,Q,⟨R,v,⟨C,u,U⟩⟩,V⟩:=a;have e0:eX=.agg #[L,x,M,w,N,Q,R,v,C,u,U,V]:=dW;clear dW eY;subst e0;have e1:=Z (dS.out.trans (az.out));have c2:=qo az dT;have e2:=qo az eS;have bT:=qo az dU;have e3:=qo az eT;have F:=qo az E;have e4:=Z (dV.out.trans (az.out));have e5:=qm eW az;try go_simp
  have c3:ae n (ao m 9) (O I d Y):=aa.cell bT.out 9;have y:=aa.lt bT.out;have c4:ae n (ao c 0) (ak k):=aa.cell c2.out 0;have y:=aa.lt c2.out;have c5:ae n (ao wr 0) X:=aa.cell F.out 0;have c6:ae n (ao wr 1) aI:=aa.cell F.out 1;have c7:ae n (ao wr 2) aJ:=aa.cell F.out 2;have c9:ae n (ao wr 3) aN:=aa.cell F.out 3;have da:ae n (ao wr 4) aO:=aa.cell F.out 4;have db:ae n (ao wr 5) aP:=aa.cell F.out 5;have dc:ae n (ao wr 6) aQ:=aa.cell F.out 6;have dd:ae n (ao wr 7) aR:=aa.cell F.out 7;have de:ae n (ao wr 8) aT:=aa.cell F.out 8;have df:ae n (ao wr 9) aW:=aa.cell F.out 9;have dg:ae n (ao wr 10) aX:=aa.cell F.out 10;have dh:ae n (ao wr 11) aZ:=aa.cell F.out 11;have dj:ae n (ao wr 12) a0:=aa.cell F.out 12;have dk:ae n (ao wr 13) a1:=aa.cell F.out 13;have y:=aa.lt F.out;have dm:=Z (aK e4.out.same bP.out);refine oW o ⟨c3,c4,c5,c6,c7,c9,da,db,dc,dd,de,df,dg,dh,dj,dk⟩ λy=>?_;refine aw ?_;clear hS;clear y;have dY:(λw':World=>ae w' (ao m 9) (O I d Y)/\ae w' (ao c 0) (ak k)/\ae w' (ao wr 0) X/\ae w' (ao wr 1) aI/\ae w' (ao wr 2) aJ/\ae w' (ao wr 3) aN/\ae w' (ao wr 4) aO/\ae w' (ao wr 5) aP/\ae w' (ao wr 6) aQ/\ae w' (ao wr 7) aR/\ae w' (ao wr 8) aT/\ae w' (ao wr 9) aW/\ae w' (ao wr 10) aX/\ae w' (ao wr 11) aZ/\ae w' (ao wr 12) a0/\ae w' (ao wr 13) a1) (n.alloc (.cells #[L,x,M,w,N,Q,R,v,C,u,U,V] 73)):=⟨(World.cell?_alloc_lt _ _ _ (by show m.heap.size<_;omega)).trans c3,(World.cell?_alloc_lt _ _ _ (by show c.heap.size<_;omega)).trans c4,(World.cell?_alloc_lt _ _ _ dl).trans c5,(World.cell?_alloc_lt _ _ _ dl).trans c6,(World.cell?_alloc_lt _ _ _ dl).trans c7,(World.cell?_alloc_lt _ _ _ dl).trans c9,(World.cell?_alloc_lt _ _ _ dl).trans da,(World.cell?_alloc_lt _ _ _ dl).trans db,(World.cell?_alloc_lt _ _ _ dl).trans dc,(World.cell?_alloc_lt _ _ _ dl).trans dd,(World.cell?_alloc_lt _ _ _ dl).trans de,(World.cell?_alloc_lt _ _ _ dl).trans df,(World.cell?_alloc_lt _ _ _ dl).trans dg,(World.cell?_alloc_lt _ _ _ dl).trans dh,(World.cell?_alloc_lt _ _ _ dl).trans dj,(World.cell?_alloc_lt _ _ _ dl).trans dk⟩;refine aM 6 (λK o=>?_);go_simp;refine o.out _ _ (λ_=>dY) ?_;refine aw ?_;have bK:=Z (aK ((ag.refl n).alloc (.cells #[L,x,M,w,N,Q,R,v,C,u,U,V] 73)) dm.out);have y:=Z (cO n #[L,x,M,w,N,Q,R,v,C,u,U,V] 73 12 rfl);have p:∀W,(Value.slice I d Y).ownBlock=some W->aH.heap.size<=W/\W<n.heap.size/\W<wr.heap.size:=λW ad=>⟨(b2 dm.out W ad).1,(b2 dm.out W ad).2,(λW ad=>(b2 bP.out W ad).2) W ad⟩;have B:=aa.lt bT.out;refine aM 7 (λK o=>?_);refine di (n.alloc (.cells #[L,x,M,w,N,Q,R,v,C,u,U,V] 73)) (.tmp 69) (.tmp 74) 62 rfl (aH.heap.size) 73 ea _ 12 112 underlying62 ec ed ee ef rfl au (O I d Y) d (H.flatMap cG.cells) rfl bK.out (n.heap.size+1) (some ⟨n.heap.size,0,none⟩) 1 1 ((#[L,x,M,w,N,Q,R,v,C,u,U,V]:Array Value).toList) rfl y.out bw cc af aF ?_;intro eQ e6 dn ad e7;obtain⟨dZ,d0,rfl,e8⟩:=bv dn;have e9:=Z dn;have bh:=Z ad;have n:=Z (fO ((Kp.refl [] n).alloc (.cells #[L,x,M,w,N,Q,R,v,C,u,U,V] 73)) ad);clear dn ad e7 e8;have dp:=Z (aa.grown (bT.out.alloc (.cells #[L,x,M,w,N,Q,R,v,C,u,U,V] 73)) bh.out (λe=>by have:=p _ e.symm;omega));have y:ae e6 (ao m 9) (O I d Y):=aa.cell dp.out 9;have y:=λf=>aa.frozen dp.out f;refine o.out _ _ (λ_=>⟨cX n.out (by show m.heap.size<_;omega) (λe=>by have h:=p _ e.symm;dsimp only at h;omega) c3,cX n.out (by show c.heap.size<_;omega) (λe=>by have h:=p _ e.symm;dsimp only at h;omega) c4,cX n.out dl (λe=>by have h:=p _ e.symm;dsimp only at h;omega) c5,cX n.out dl (λe=>by have h:=p _ e.symm;dsimp only at h;omega) c6,cX n.out dl (λe=>by have h:=p _ e.symm;dsimp only at h;omega) c7,cX n.out dl (λe=>by have h:=p _ e.symm;dsimp only at h;omega) c9,cX n.out dl (λe=>by have h:=p _ e.symm;dsimp only at h;omega) da,cX n.out dl (λe=>by have h:=p _ e.symm;dsimp only at h;omega) db,cX n.out dl (λe=>by have h:=p _ e.symm;dsimp only at h;omega) dc,cX n.out dl (λe=>by have h:=p _ e.symm;dsimp only at h;omega) dd,cX n.out dl (λe=>by have h:=p _ e.symm;dsimp only at h;omega) de,cX n.out dl (λe=>by have h:=p _ e.symm;dsimp only at h;omega) df,cX n.out dl (λe=>by have h:=p _ e.symm;dsimp only at h;omega) dg,cX n.out dl (λe=>by have h:=p _ e.symm;dsimp only at h;omega) dh,cX n.out dl (λe=>by have h:=p _ e.symm;dsimp only at h;omega) dj,cX n.out dl (λe=>by have h:=p _ e.symm;dsimp only at h;omega) dk⟩) ?_;clear o K dY;refine aw ?_;refine bZ ?_;refine tq 8 ?_;refine dt 9 (λK o=>?_);go_simp;refine o _ _ ?_;refine aw ?_;refine bM ?_;have y:=Z (aa.grown (c2.out.alloc (.cells #[L,x,M,w,N,Q,R,v,C,u,U,V] 73)) bh.out (λe=>by have:=p _ e.symm;omega));have B:=Z (aa.grown (e2.out.alloc (.cells #[L,x,M,w,N,Q,R,v,C,u,U,V] 73)) bh.out (λe=>by have:=p _ e.symm;omega));have D:=Z (aa.grown (e3.out.alloc (.cells #[L,x,M,w,N,Q,R,v,C,u,U,V] 73)) bh.out (λe=>by have:=p _ e.symm;omega));have E:=Z ((e1.out.alloc (.cells #[L,x,M,w,N,Q,R,v,C,u,U,V] 73)).grown bh.out (λW ad=>.inr (by have:=p W ad;omega)));have F:=Z ((e5.out.alloc (.cells #[L,x,M,w,N,Q,R,v,C,u,U,V] 73)).grown bh.out (λW ad=>.inr (by have:=p W ad;omega)));clear p;obtain⟨G,p,ax,n⟩:=B1 dp (O dZ (d+1) d0);rw[p];clear p;have fa:=Z (F.out.trans n.out);have fc:=Z (n.out.old E.out (λp an aG=>absurd aG (by rw[aC an];omega)));have fd:=qo n y;have ff:=qo n B;have fg:=qo n D;have fh:=n;have fi:=ax;go_wp2_with fail
  go_roundg (s.length-d)
  case measure=>have:=dM.out;omega
  refine⟨d+1,H++[⟨⟨L,x,⟨M,w,N⟩⟩,Q,⟨R,v,⟨C,u,U⟩⟩,V⟩],dZ,d0,by go_num,by omega,omg dM,by rw[List.length_append,dN.out];rfl,Z ?_,fi,fd,ff,fg,fc,fa,eZ⟩;rw[List.flatMap_append];exact bG e9.out fh.out aF
 have s:(f:Int)<q.length:=af
 obtain⟨az,of,u,s,V⟩:=eE.out.2.2 f aG;have cZ:bn=some ⟨az,of,none⟩:=u;obtain⟨Q,s⟩:∃Q,Q=q[f]:=⟨_,rfl⟩;rw[<-s]at V;have W:=Z (show aq=RO.ap (!i.any λd=>decide (d.1=Q.name)) 9 g ((d1 (t.map RT.tb) g Q.table).bind λd=>(gG (t.map RT.tb) g (i++[(Q.name,d)]) (q.drop (f+1))).bind a2) by rw[bO.out,List.drop_eq_getElem_cons aG,EA,<-s]);clear s u bO;obtain⟨n,F⟩:=Q;have s:ae wr (ac az (of+f*2)) n:=by simpa using V 0 _ rfl
 have s:ae wr (ac az (of+f*2+1)) F:=V 1 _ rfl;have s:IntKind.i64.wrap ((f:Int)+1)=(f:Int)+1:=IntWalk.i64_in _ af;have s:Hid (aq=RO.ap (!i.any λd=>decide (d.1=n)) 9 g ((d1 (t.map RT.tb) g F).bind λd=>(gG (t.map RT.tb) g (i++[(n,d)]) (q.drop (f+1))).bind a2)):=W;clear V;have W:=s;subst cZ;go_upto_region 7 with(first|(refine wpList_store_row rfl 133 (.tmp 7) (.tmp 35) rfl wr.heap.size #[n,F] rfl rfl 133 #[ai,ai] (aa.new wr 133 #[ai,ai]) am rfl bw ?_;rw[World.setRow_alloc_new])|fail)
 have u:=Z (Kp.refl [] wr);obtain⟨N,s,ax,b,-⟩:=nb wr 133 #[n,F];rw[s];clear s;have aH:=qk aB b;have aI:=qb b eF;have aJ:=qb b cS;have c0:=qb b bp;have c1:=qb b cQ;have a0:=qb b cT;have b:=qk u b;have a1:=ax;have b:=Z (show ag wr N from b.out.same);have s:ae N (ac (j.heap.size+1) 0) (.map (some j.heap.size)):=aa.cell a0.out 0;have s:ae N (ao wr 0) n:=aa.cell a1.out 0;have a4:=Z (dF.out.kp (Kp.of_same (l:=[]) b.out) aj);have c2:=Z (aK b.out bN.out);have c3:=Z (show MapKept.IsKey .string n from trivial);rcases wN a4.out cU.out n with⟨M,ba⟩|⟨eG,c4,M,c5,ba⟩
 case inr=>
  have d:=Z (show aq=RO.ap false 9 g _ by rw[W.out,M];rfl);clear M c5 c4;have b:ae N (ao c 0) (ak k):=aa.cell aJ.out 0;have p:ae N (ac k 8) g:=aa.cell aI.out 8;go_wp2_with fail
  exact b1 aH.out d.out p
 have b:ae N (ao c 0) (ak k):=aa.cell aJ.out 0;have c6:ae N (ac k 8) g:=aa.cell aI.out 8;have c7:=Z (show aq=RO.ap true 9 g ((d1 (t.map RT.tb) g F).bind λb=>(gG (t.map RT.tb) g (i++[(n,b)]) (q.drop (f+1))).bind a2) by rw[W.out,M];rfl);have c9:=Z (EB M);have da:=Z (show(((i++[(n,(0:Int))]).map (·.1)).Nodup) by
  rw[List.map_append];refine List.nodup_append.2 ⟨cU.out,by simp,?_⟩;intro a p b d e;simp only[List.map_cons,List.map_nil,List.mem_singleton]at d;subst d;obtain⟨y,B,rfl⟩:=List.mem_map.1 p;rw[List.any_eq_false]at M;exact M y B (by simpa using e))
 clear M;go_wp2_with fail
 refine bV aH.out c7.out c6 λdb=>?_;clear ba;obtain⟨D,dc,b,I⟩:=cR.push (P:=prog) (T:=281) a4.out underlying281 underlying9 n (f:Int) c3.out c9.out;have dd:=Z (show cR .string D j.heap.size (iO (i++[(n,(0:Int))])) by rw[wP,cV.out];exact b);clear b;go_upto_region 10 with(fail)
 clear dc;have aN:=Z (I.old aH.out (λb an aG=>absurd aG (by rw[aC an];omega)));have de:=Z (cA.out.same aN.out.same);have b:=qo I aI;have bb:=qo I aJ;have df:=qo I c0;have bd:=qo I c1;have dg:=qo I a0;have bh:=qo I a1;have dh:=Z (bG c2.out I (λd an=>by rw[aC an];omega));clear I;have dj:=Z (Kp.refl [m.heap.size] D);have s:ae D (ao m 8) (O z f A):=aa.cell bd.out 8;have u:ae D (ao c 0) (ak k):=aa.cell bb.out 0;have v:ae D (ao wr 1) F:=aa.cell bh.out 1;have dk:ae D (ac k 0) (O a6 al a7):=aa.cell b.out 0;have dm:ae D (ac k 8) g:=aa.cell b.out 8;have dn:=aa.lt b.out;refine gH 8 s u v λhS=>?_;refine dX ?_;refine tk 4 hS ?_;refine aM 5 (λK o=>?_);go_simp;refine dQ db.out (o1 k ⟨a6,al,a7⟩ t F g D.drew dn dk dm (de.out.same ((ag.refl D).drew))) (fb (aN.out.drew)) ?_;intro a dp p bq dI br L;have L:=Z (((Kp.refl [] D).drew).trans L.out);obtain⟨d,rfl,bH⟩:=ny bq;have dJ:dp=.int .i64 (d:Int):=br;subst dJ;have dK:d<t.length:=by simpa using bH
 have dL:=Z (aN.out.trans (L.out));have aO:=qo L bb;have dM:=qo L df;have Y:=qo L bd;have dN:=qo L dg;have bP:=qo L bh;have bQ:=qm dj L;try go_simp
 clear br bq bH;have aP:ae p (ao m 8) (O z f A):=aa.cell Y.out 8;have b:=aa.lt Y.out;have aQ:ae p (ao c 0) (ak k):=aa.cell aO.out 0;have b:=aa.lt aO.out;have aR:ae p (ao wr 1) F:=aa.cell bP.out 1;have b:=aa.lt bP.out;have aT:=Z (bG dh.out bQ.out (λb an=>by rw[aC an];omega));refine oW o ⟨aP,aQ,aR⟩ λb=>?_;refine aw ?_;clear hS;clear b;have dO:=Z (dd.out.kp bQ.out aF);have bR:(λw':World=>ae w' (ao m 8) (O z f A)/\ae w' (ao c 0) (ak k)/\ae w' (ao wr 1) F) (p.alloc (.cells #[(d:Int)] 3)):=⟨(World.cell?_alloc_lt _ _ _ (by show m.heap.size<_;omega)).trans aP,(World.cell?_alloc_lt _ _ _ (by show c.heap.size<_;omega)).trans aQ,(World.cell?_alloc_lt _ _ _ dl).trans aR⟩;refine aM 6 (λK o=>?_);go_simp;refine o.out _ _ (λ_=>bR) ?_;refine aw ?_;have bK:=Z (aK ((ag.refl p).alloc (.cells #[(d:Int)] 3)) aT.out);have b:=Z (cO p #[(d:Int)] 3 1 rfl);have E:∀y,(Value.slice z f A).ownBlock=some y->a9.heap.size<=y/\y<p.heap.size/\y<wr.heap.size:=λy B=>⟨(b2 aT.out y B).1,(b2 aT.out y B).2,(λy B=>(b2 bN.out y B).2) y B⟩;have g:=aa.lt Y.out;refine aM 7 (λK o=>?_);refine di (p.alloc (.cells #[(d:Int)] 3)) (.tmp 52) (.tmp 57) 60 rfl (a9.heap.size) 3 d5 _ 1 8 underlying60 d6 d7 d8 d9 rfl au (O z f A) f ((i.map (·.2)).flatMap bU) rfl bK.out (p.heap.size+1) (some ⟨p.heap.size,0,none⟩) 1 1 ((#[(d:Int)]:Array Value).toList) rfl b.out bw cc af aF ?_;intro b bS aW B dP;obtain⟨bT,cW,rfl,dR⟩:=bv aW;have dS:=Z aW;have R:=Z B;have ad:=Z (fO ((Kp.refl [] p).alloc (.cells #[(d:Int)] 3)) B);clear aW B dP dR;have aX:=Z (aa.grown (Y.out.alloc (.cells #[(d:Int)] 3)) R.out (λe=>by have:=E _ e.symm;omega));have b:ae bS (ao m 8) (O z f A):=aa.cell aX.out 8;have b:=λf=>aa.frozen aX.out f;refine o.out _ _ (λ_=>⟨cX ad.out (by show m.heap.size<_;omega) (λe=>by have h:=E _ e.symm;dsimp only at h;omega) aP,cX ad.out (by show c.heap.size<_;omega) (λe=>by have h:=E _ e.symm;dsimp only at h;omega) aQ,cX ad.out dl (λe=>by have h:=E _ e.symm;dsimp only at h;omega) aR⟩) ?_;clear o K bR;refine aw ?_;refine bZ ?_;refine tq 8 ?_;refine dt 9 (λK o=>?_);go_simp;refine o _ _ ?_;refine aw ?_;refine bM ?_;have g:=Z (aa.grown (aO.out.alloc (.cells #[(d:Int)] 3)) R.out (λe=>by have:=E _ e.symm;omega));have k:=Z (aa.grown (dM.out.alloc (.cells #[(d:Int)] 3)) R.out (λe=>by have:=E _ e.symm;omega));have m:=Z (aa.grown (dN.out.alloc (.cells #[(d:Int)] 3)) R.out (λe=>by have:=E _ e.symm;omega));have o:=Z ((dL.out.alloc (.cells #[(d:Int)] 3)).grown R.out (λy B=>.inr (by have:=E y B;omega)));have b:p.heap.size<=bS.heap.size:=by have:=R.out.size;simp at this;omega
 have p:=Z (dO.out.kp ad.out (λal=>by have h:=E _ (jB al);omega));clear E;obtain⟨s,c,ax,b⟩:=B0 aX (O bT (f+1) cW);rw[c];clear c;have dT:=Z (b.old o.out (λc an aG=>absurd aG (by rw[aC an];omega)));have dU:=qo b g;have dV:=qo b k;have dW:=qo b m;have aZ:=b;have dY:=ax;have b:=aZ.out.size;have dZ:=Z (show cR .string s j.heap.size (iO (i++[(n,(d:Int))])) by
  have h:=p.out.kp aZ.out aF;rw[wP]at h⊢;exact h)
 go_wp2_with fail
 go_roundg (q.length-f)
 case measure=>have:=dH.out;omega
 refine⟨f+1,i++[(n,(d:Int))],bT,cW,by go_num,by omega,omg dH,by rw[List.length_append,cV.out];rfl,Z ?_,dY,dU,dV,dW,dZ,Z (by have h:=da.out;rw[List.map_append]at h⊢;exact h),Z ?_,dT,by omega,dI⟩
 ·rw[List.map_append,List.flatMap_append]
  exact bG dS.out aZ.out aF
 intro d0 U;rcases cP U with U|U
 ·exact dG.out d0 U
 rw[aC U];exact⟨d,rfl,dK⟩
end Go.Proofs.YteamkimbmdgdbaaGreatDoor

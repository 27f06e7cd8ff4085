import Derived.Test.YteamkimbmdgdbaaGreatDoorK14
set_option linter.unusedSimpArgs false
set_option linter.unusedVariables false
set_option maxHeartbeats 16000000
set_option maxRecDepth 100000
namespace Go.Proofs.YteamkimbmdgdbaaGreatDoor
open Go.RowKit
def lT (p:Sd×Int) (v:ay) (_:af):Prop:=v=.tuple #[.agg p.1.cells.toArray,p.2]
theorem BG {g:Type} {e:List Nat} {c:af} {i:FuncId} {j:aO} {f:Ending->World->Prop} {d:RO g} {V:g->Value->World->Prop} (l:Calls Tryz.prog i j c (λg b=>RP e c d V g b))
 (m:∀er a b,d=.bad er a->Hid (Kp e c b)->f (.panicked [{v:=eY er a,recovered:=false}]) b)
 (n:∀a v b,d=.ok a->V a v b->Hid (Kp e c b)->f (.returned v) b):Calls Tryz.prog i j c f:=by
 refine l.mono ?_;rintro g b ⟨k,h⟩;cases hr:d with
 |bad er a=>rw[hr]at h;subst h;exact m er a b hr (Z k)
 |ok a=>rw[hr]at h;obtain⟨v,rfl,o⟩:=h;exact n a v b hr o (Z k)
theorem lU {a:af} {c:Nat} {d:aO} {b:Addr} (f:b.block<a.heap.size) (g:b.block≠c):(a.setRow c d).cell? b=a.cell? b:=
 World.cell?_of_block ((jZ a c d).block _ f (λe=>g (by injection e with e)))
def n8 (c:FuncId) (d:aO) (e:af) (f:dG->RO (Sd×Int)) (b:dG):Prop:=
 ∀a,ag e a->Calls Tryz.prog c (#[.agg b.cells.toArray]++d) a λc d=>RP [] a (f b) lT c d
theorem BH (z r Bw:Nat) (j:FuncId) (A:aO) (l:∀l a,(callFunc j l).run Tryz.prog a=.ok (.enter j l) a) (l:dG->RO (Sd×Int)) (d:dG) (at_:Int) (a:af) (aC:r<a.heap.size) (Q:Bw<a.heap.size) (aD:z<a.heap.size)
 (R:ac a (ab r 0) (.func (.func j) #[] A)) (S:ac a (ab Bw 0) (aj z)) (T:ac a (ab z 8) at_) (z:n8 j A a l d):
 Calls Tryz.prog 270 #[.agg d.cells.toArray,aj r,aj Bw] a λe w'=>RP [] a (jK at_ l d) lT e w':=by
 have s:Hid (jK at_ l d=if d.c then RO.ap d.v.ok 2 at_ (.ok (⟨-1,0,d.v⟩,d.v.k))else l d):=Z rfl;obtain⟨t,U⟩:=aq (jK at_ l d);rw[<-U]at s⊢;clear U;obtain⟨W,l⟩:=aq (l d);have u:=Z z;unfold n8 at u;rw[<-l]at u s;clear l z;obtain⟨X,Y,B,⟨b,f,g⟩⟩:=d;have aa:Hid (∀d,ag a d->Calls Tryz.prog j (#[.agg #[X,Y,B,b,f,g]]++A) d λe w'=>RP [] d W lT e w'):=u;have w:=s;clear u s;have aE:=Z (Kp.refl [] a);have aF:=Z R;have ad:=Z S;have aG:=Z T;clear R S T;show Calls Tryz.prog 270 #[.agg #[X,Y,B,b,f,g],aj r,aj Bw] a _;go_enter Tryz.func270,Tryz.ntmps270
 go_upto_region 1 with(fail)
 obtain⟨u,l,s,d,r⟩:=nb a 284 _;rw[l];clear l;have u:=qk aE d;clear d;obtain⟨C,l,ae,d,z⟩:=nc r 71 _;rw[l];clear l;have m:=qk u d;have i:=qb d s;clear d;have al:=az i;have an:=aY i;have ao:=bh i;have D:=bj i;have E:=bn i;have F:=bQ i;have ar:=(m.cell aC ai).trans aF;have G:=(m.cell Q ai).trans ad;clear r z;cases B
 case false=>
  have H:Hid (t=W):=w;clear w;go_wp2_with fail
  refine BG (aa C m.same) ?au ?ay
  case au=>
   intro l n d d o;have HX:=Z (show t=.bad l n by rw[H.out,d]);clear d;go_wp2;refine⟨rfl,?_⟩;rw[HX.out];exact⟨m.trans o,rfl⟩
  intro L ax d d M o;have aA:=Z (show t=.ok L by rw[H.out,d]);clear d H;obtain⟨⟨p,q,⟨sk,x,y⟩⟩,N⟩:=L;have aB:ax=.tuple #[.agg #[p,q,sk,x,y],N]:=M;clear M;subst aB;have aH:=Z (m.trans o);have aI:=qo o i;have P:=qo o ae;clear o ar G al an ao D E F;go_wp2_with (first|(refine wpList_store_row rfl 71 (.tmp 4) (.tmp 12) rfl (a.heap.size+1) #[p,q,sk,x,y] rfl rfl 71 #[O 0,O 0,O 0,O 0,ah] P.out ak rfl bl ?_)|fail)
  obtain⟨l,d,n,I⟩:=jk P #[p,q,sk,x,y];rw[d];clear d;have aw:=Z (aH.grown I (λj aw=>.inr (by injection aw with aw;omega)));have aQ:=Z (J.grown aI I (λe=>by injection e with e;omega));clear I;have aJ:=az n;have aL:=aY n;have aM:=bh n;have aN:=bj n;have aP:=bn n;refine bodyPost_ret (v:=.tuple #[.agg #[p,q,sk,x,y],N]) ?_ rfl ?_
  ·simp[results,Tryz.results270,go_sem,aJ,aL,aM,aN,aP]
  rw[aA.out];exact⟨aw,_,rfl,rfl⟩
 have H:Hid (t=RO.ap (V.ok ⟨b,f,g⟩) 2 at_ (.ok (⟨-1,0,⟨b,f,g⟩⟩,b))):=w;clear w aa;have I:Hid (Rs 42 #[.agg #[b,f,g]] (.bool (V.ok ⟨b,f,g⟩))):=Z (λd=>ng ⟨b,f,g⟩ d);obtain⟨aH,d⟩:=aq (V.ok ⟨b,f,g⟩);rw[<-d]at I H;clear d;go_upto_region 3 with(fail)
 refine kH 5 G D E F λhS=>?_;refine cJ ?_;refine aK 3 (λK n=>?_);go_simp;refine(I C.drew).mono ?_;rintro e aw ⟨rfl,o⟩;have o:=Z (((ag.refl C).drew).trans o);have p:=qk m o;have x:=qb o i;have aI:=qb o ae;clear o I;have ax:=(p.cell Q ai).trans ad;have L:=(p.cell aD ai).trans aG;have M:=bj x;have N:=bn x;have P:=bQ x;try go_simp
 refine nP n ⟨ax,M,N,P⟩ λy=>?_;refine av ?_;cases aH
 case false=>
  have hS:=y;clear y;refine aK 4 (λK n=>?_);go_simp;exact bv p H L
 have hS:=y;clear y;refine aK 4 (λK n=>?_);go_simp;refine bJ p H L λaJ=>?_;try go_simp
 refine n _ _ (λ_=>hS) ?_;refine av ?_;refine b2 ?_;refine bV ?_;clear hS ar G al an ao D E F ax L;go_upto_region 4 with(fail)
 have d:=Z ((ag.refl aw).drew);refine gr 8 M N P λhS=>?_;refine cJ ?_;refine gt ?_;refine tk 5 hS ?_;obtain⟨m,i⟩:=aq aw.drew;rw[<-i]at d hS⊢;clear i;have o:=qk p d;have i:=qb d x;have l:=qb d aI;clear M N P;have d:=bj i;have p:=bn i;have r:=bQ i;have i:=J.lt i;have d:(λw':World=>ac w' (am a 3) b/\ac w' (am a 4) f/\ac w' (am a 5) g) (m.setRow ((a.heap.size+1)) #[O (-1),O 0,b,f,g]):=⟨(lU (by show a.heap.size<_;omega) (by show a.heap.size≠_;omega)).trans d,(lU (by show a.heap.size<_;omega) (by show a.heap.size≠_;omega)).trans p,(lU (by show a.heap.size<_;omega) (by show a.heap.size≠_;omega)).trans r⟩;refine aK 6 (λK n=>?_);refine wp_store_row 71 (.tmp 4) (.tmp 21) rfl ((a.heap.size+1)) _ rfl rfl 71 _ l ak rfl bl (n _ _ (λ_=>d) ?_);refine av ?_;refine tk 7 d ?_;refine gH ak ?_ _;clear d;obtain⟨d,a,q,aA⟩:=jk l #[O (-1),O 0,b,f,g];rw[a];clear a;have aB:=Z (o.grown aA (λj aB=>.inr (by injection aB with aB;omega)));clear aA;clear hS;have aL:=az q;have aM:=aY q;have aN:=bh q;have aP:=bj q;have aQ:=bn q;go_wp2_with fail
 refine bodyPost_ret (v:=.tuple #[.agg #[O (-1),O 0,b,f,g],b]) ?_ rfl ?_
 ·simp[results,Tryz.results270,go_sem,aL,aM,aN,aP,aQ]
 rw[aJ.out];exact⟨aB,_,rfl,rfl⟩
def rl (a:cT) (b:ay) (_:af):Prop:=b=.agg a.cells.toArray
theorem uw (f:Nat) (g:FuncId) (i:aO) (aA:∀t w,(callFunc g t).run Tryz.prog w=.ok (.enter g t) w) (k:dG->RO (Sd×Int)) (s:bB) (at_:Int) (w:af) (u:f<w.heap.size)
 (U:ac w (ab f 8) at_) (aB:n8 g i w k s.l) (aC:n8 g i w k s.r):
 Calls Tryz.prog 198 #[aj f,.agg s.cells.toArray,.func (.func g) #[] i] w λe w'=>RP [] w (jL at_ k s) rl e w':=by
 have t:∀t w,(callFunc 270 t).run Tryz.prog w=.ok (.enter 270 t) w:=enters_of Tryz.func270 ak rfl;have aU:=Z aB;have aV:=Z aC;have V:=Z U;have aD:=Z (λ(j:dG) (b:af) (c:ag w b) (d Bw:Nat) (m:d<b.heap.size) (n:Bw<b.heap.size) (o:ac b (ab d 0) (.func (.func g) #[] i)) (q:ac b (ab Bw 0) (aj f)) (t:n8 g i w k j)=>
  BH f d Bw g i aA k j at_ b m n (aT u c.size) o q ((c.cell (p:=(ab f 8)) u).trans U) (λb d=>t b (c.trans d)))
 obtain⟨R,t⟩:=aq (jL at_ k s);rw[<-t];have aW:=Z t;clear t aB aC U;obtain⟨⟨y,z,m,⟨A,B,C⟩⟩,op,⟨D,E,n,⟨F,G,H⟩⟩,ad⟩:=s;obtain⟨aE,W⟩:=aq (jK at_ k ⟨y,z,m,⟨A,B,C⟩⟩);obtain⟨aF,X⟩:=aq (jK at_ k ⟨D,E,n,⟨F,G,H⟩⟩);have I:=Z (show R=RO.ap (aZ op 1 4) 1 at_ (aE.bind λb=>aF.bind λc=>RO.ap (aZ ad (-1000000000) 1000000000) 2 at_<|RO.ap (!(m&&n)&&(decide (b.2=c.2)&&(!decide (b.2=0)&&(decide (ad=0)||(decide (b.2=2)||decide (b.2=3)))))) 10 at_<|.ok (⟨b.1,op,c.1,ad⟩:cT)) by rw[W,X];exact aW.out);have k:=Z (λ(b:af) (c:ag w b) (d Bw:Nat) j k o q=>aD ⟨y,z,m,⟨A,B,C⟩⟩ b c d Bw j k o q aU);have s:=Z (λ(b:af) (c:ag w b) (d Bw:Nat) j o q s=>aD ⟨D,E,n,⟨F,G,H⟩⟩ b c d Bw j o q s aV);rw[<-W]at k;rw[<-X]at s;have aX:Hid (∀(b:af),ag w b->∀c Bw,c<b.heap.size->Bw<b.heap.size->ac b (ab c 0) (.func (.func g) #[] i)->ac b (ab Bw 0) (aj f)->Calls Tryz.prog 270 #[.agg #[y,z,m,A,B,C],aj c,aj Bw] b λe w'=>RP [] b aE lT e w'):=k;have a0:Hid (∀(b:af),ag w b->∀c Bw,c<b.heap.size->Bw<b.heap.size->ac b (ab c 0) (.func (.func g) #[] i)->ac b (ab Bw 0) (aj f)->Calls Tryz.prog 270 #[.agg #[D,E,n,F,G,H],aj c,aj Bw] b λe w'=>RP [] b aF lT e w'):=s;clear W X aA;have aG:=Z (λb=>fj op 1 4 b);have aH:=Z (λb=>fj ad (-1000000000) 1000000000 b);generalize aZ op 1 4=a1 at aG I;generalize aZ ad (-1000000000) 1000000000=aI at aH I;have a2:=Z (Kp.refl [] w);show Calls Tryz.prog 198 #[aj f,.agg #[y,z,m,A,B,C,op,D,E,n,F,G,H,ad],.func (.func g) #[] i] w _;go_enter Tryz.func198,Tryz.ntmps198
 go_upto_region 1 with(fail)
 obtain⟨y,k,s,b,t⟩:=nb w 154 _;rw[k];clear k;have y:=qk a2 b;obtain⟨A,k,t,b,z⟩:=nc t 286 _;rw[k];clear k;have y:=qk y b;have s:=qb b s;obtain⟨B,k,z,b,A⟩:=nc z 288 _;rw[k];clear k;have y:=qk y b;have s:=qb b s;have t:=qb b t;obtain⟨Y,k,a3,b,A⟩:=nc A 73 _;rw[k];clear k;have L:=qk y b;have aJ:=qb b s;have aL:=qb b t;have a4:=qb b z;go_upto_region 1 with(fail)
 have k:=az aJ;have s:=cd aL;have aa:=(L.cell (p:=(ab f 8)) u ai).trans V;refine dB 5 k s λhS=>?_;refine cJ ?_;refine aK 3 (λK j=>?_);go_simp;refine(aG Y.drew).mono ?_;rintro e w' ⟨rfl,rfl⟩;try go_simp
 refine j _ _ (λ_=>hS) ?_;refine av ?_;cases a1
 case false=>
  refine aK 4 (λK j=>?_);go_simp;exact bv L.drew I aa
 refine aK 4 (λK j=>?_);go_simp;refine bJ L.drew I aa λa5=>?_;try go_simp
 refine j _ _ (λ_=>hS) ?_;refine av ?_;refine b2 ?_;refine bV ?_;clear hS aa;have b:=Z ((ag.refl Y).drew);obtain⟨aM,k⟩:=aq Y.drew;rw[<-k]at b⊢;clear k;have ae:=qk L b;have al:=qb b aJ;have o:=qb b aL;have am:=qb b a4;have a6:=qb b a3;have a7:=az al;have a8:=J.lt al;have a9:ac aM (ab (w.heap.size+2) 0) (.func (.func g) #[] i):=J.cell am 0;have ba:=J.lt am;have k:=az o;have k:=aY o;have k:=bh o;have k:=bj o;have k:=bn o;have k:=bQ o;go_wp2_with fail
 refine dC a5 (aX aM ae.same (w.heap.size+2) w.heap.size ba a8 a9 a7) (eL ae) ?_;intro a v an bb bf x d;obtain⟨⟨xv,xc,⟨xk,xn,xs⟩⟩,c⟩:=a;have ao:v=.tuple #[.agg #[xv,xc,xk,xn,xs],c]:=x;clear x;subst ao;have bg:=Z (ae.trans d);have bi:=qo d al;have bk:=qo d o;have bm:=qo d am;have bo:=qo d a6;clear d;clear bb;go_upto_region 4 with(first|(refine wpList_store_row rfl 71 (.tmp 8) (.tmp 23) rfl an.heap.size #[xv,xc,xk,xn,xs] rfl rfl 71 #[O 0,O 0,O 0,O 0,ah] (J.new an 71 #[O 0,O 0,O 0,O 0,ah]) ak rfl bl ?_;rw[World.setRow_alloc_new])|fail)
 obtain⟨aN,k,bp,b,-⟩:=nb an 71 #[xv,xc,xk,xn,xs];rw[k];clear k;have ar:=qk bg b;have au:=qb b bi;have q:=qb b bk;have k:=qb b bm;have bq:=qb b bo;have br:=az au;have bs:=J.lt au;have bt:ac aN (ab (w.heap.size+2) 0) (.func (.func g) #[] i):=J.cell k 0;have bu:=J.lt k;have i:=b7 q;have i:=bN q;have i:=iT q;have i:=ml q;have i:=nk q;have i:=o8 q;go_wp2_with fail
 refine dC bf (a0 aN ar.same (w.heap.size+2) w.heap.size bu bs bt br) (eL ar) ?_;intro a v aw bw aP x d;obtain⟨⟨yv,yc,⟨yk,yn,ys⟩⟩,M⟩:=a;have ao:v=.tuple #[.agg #[yv,yc,yk,yn,ys],M]:=x;clear x;subst ao;have bx:=Z (ar.trans d);have bz:=qo d au;have bA:=qo d q;have bC:=qo d bq;have bD:=qo d bp;clear d;clear bw;go_upto_region 5 with(first|(refine wpList_store_row rfl 71 (.tmp 10) (.tmp 30) rfl aw.heap.size #[yv,yc,yk,yn,ys] rfl rfl 71 #[O 0,O 0,O 0,O 0,ah] (J.new aw 71 #[O 0,O 0,O 0,O 0,ah]) ak rfl bl ?_;rw[World.setRow_alloc_new])|fail)
 obtain⟨ax,d,bE,b,-⟩:=nb aw 71 #[yv,yc,yk,yn,ys];rw[d];clear d;have N:=qk bx b;have aQ:=qb b bz;have aR:=qb b bA;have bF:=qb b bC;have bG:=qb b bD;have aS:=Z (show R=RO.ap aI 2 at_ (RO.ap (!(m&&n)&&(decide (c=M)&&(!decide (c=0)&&(decide (ad=0)||(decide (c=2)||decide (c=3)))))) 10 at_ (.ok (⟨⟨xv,xc,⟨xk,xn,xs⟩⟩,op,⟨yv,yc,⟨yk,yn,ys⟩⟩,ad⟩:cT)))from aP);clear aP;go_upto_region 5 with(fail)
 have d:=az aQ;have i:=nl aR;have ay:=(N.cell (p:=(ab f 8)) u ai).trans V;refine dB 5 d i λhS=>?_;refine cJ ?_;refine aK 3 (λK j=>?_);go_simp;refine(aH ax.drew).mono ?_;rintro e w' ⟨rfl,rfl⟩;try go_simp
 refine j _ _ (λ_=>hS) ?_;refine av ?_;cases aI
 case false=>
  refine aK 4 (λK j=>?_);go_simp;exact bv N.drew aS ay
 refine aK 4 (λK j=>?_);go_simp;refine bJ N.drew aS ay λE5=>?_;try go_simp
 refine j _ _ (λ_=>hS) ?_;refine av ?_;refine b2 ?_;refine bV ?_;clear hS ay;have b:=Z ((ag.refl ax).drew);obtain⟨i,d⟩:=aq ax.drew;rw[<-d]at b⊢;clear d;have fX:=qk N b;have k:=qb b aQ;have d:=qb b aR;have kN:=qb b bF;have i:=qb b bG;have b:=qb b bE;obtain⟨RS,j⟩:∃RS:RO cT,RS=.ok (⟨⟨xv,xc,⟨xk,xn,xs⟩⟩,op,⟨yv,yc,⟨yk,yn,ys⟩⟩,ad⟩:cT):=⟨_,rfl⟩;have pL:=Z j;rw[<-j]at E5;clear j;have j:=az k;have j:=bh d;have j:=cd d;have iy:=bN d;have j:=iT d;have d:=nl d;have iy:=(fX.cell (p:=(ab f 8)) u ai).trans V;have d:=az i;have d:=aY i;have d:=bh i;have d:=bj i;have d:=bn i;have d:=az b;have d:=aY b;have d:=bh b;have d:=bj b;have b:=bn b;cases m
 case true=>
  cases n
  case true=>
   exact vS
  by_cases bH:c=M
  case neg=>
   exact vS
  subst bH;have b:(c==c)=true:=ai
  by_cases P:c=0
  case pos=>
   have b:(c !=0)=false:=by simp[P]
   have b:decide (c=0)=true:=by simp[P]
   clear P;exact vS
  have b:(c !=0)=true:=by simp[P]
  by_cases Q:ad=0
  case pos=>
   have b:(ad==0)=true:=by simp[Q]
   have b:decide (ad=0)=true:=by simp[Q]
   clear Q;exact r9
  have b:(ad==0)=false:=by simp[Q]
  by_cases S:c=2
  case pos=>
   have b:(c==2)=true:=by simp[S]
   have b:decide (c=2)=true:=by simp[S]
   clear S;exact r9
  have b:(c==2)=false:=by simp[S]
  by_cases T:c=3
  case pos=>
   have b:(c==3)=true:=by simp[T]
   have b:decide (c=3)=true:=by simp[T]
   clear T;exact r9
  have b:(c==3)=false:=by simp[T]
  have E6:=Z (show R=RO.ap false 10 at_ RS by rw[E5.out];simp[*]);clear E5;go_wp2_with fail
  exact bv fX E6 iy
 by_cases bH:c=M
 case neg=>
  exact vS
 subst bH;have b:(c==c)=true:=ai
 by_cases P:c=0
 case pos=>
  have b:(c !=0)=false:=by simp[P]
  have b:decide (c=0)=true:=by simp[P]
  clear P;exact vS
 have b:(c !=0)=true:=by simp[P]
 by_cases Q:ad=0
 case pos=>
  have b:(ad==0)=true:=by simp[Q]
  have b:decide (ad=0)=true:=by simp[Q]
  clear Q;exact r9
 have b:(ad==0)=false:=by simp[Q]
 by_cases S:c=2
 case pos=>
  have b:(c==2)=true:=by simp[S]
  have b:decide (c=2)=true:=by simp[S]
  clear S;exact r9
 have b:(c==2)=false:=by simp[S]
 by_cases T:c=3
 case pos=>
  have b:(c==3)=true:=by simp[T]
  have b:decide (c=3)=true:=by simp[T]
  clear T;exact r9
 have b:(c==3)=false:=by simp[T]
 have E6:=Z (show R=RO.ap false 10 at_ RS by rw[E5.out];simp[*]);clear E5;go_wp2_with fail
 exact bv fX E6 iy
def iA (a:List (ByteArray×Int)):List (Value×Value):=a.zipIdx.map λa=>(.string a.1.1,.int .i64 (a.2:Int))
theorem uy (c:List (ByteArray×Int)) (a:Nat) (d:Value×Value) (h:(iA c)[a]?=some d):∃b,c[a]?=some b/\d=(.string b.1,.int .i64 (a:Int)):=by
 unfold iA at h;rw[List.getElem?_map,List.getElem?_zipIdx]at h;cases hv:c[a]? with
 |none=>rw[hv]at h;simp at h
 |some b=>rw[hv]at h;simp at h;exact⟨b,rfl,h.symm⟩
theorem uz {f:af} {g:Nat} {a:List (ByteArray×Int)} (h:cH .string f g (iA a)) (k:(a.map (·.1)).Nodup) (c:aw):
 ((a.any λd=>decide (d.1=c))=false/\(Instr.lookup 281 (.map (some g)) c true).run Tryz.prog f=.ok (.tuple #[O 0,.bool false]) f)\/
 ∃e:Nat,e<a.length/\(a.any λd=>decide (d.1=c))=true/\cn (λd:ByteArray×Int=>decide (d.1=c)) a=(e:Int)/\(Instr.lookup 281 (.map (some g)) c true).run Tryz.prog f=.ok (.tuple #[(e:Int),.bool true]) f:=by
 rcases h.look (P:=Tryz.prog) (T:=281) Tryz.underlying281 Tryz.underlying9 (O 0) Tryz.zeroValue3 c trivial with⟨i,j⟩|⟨b,n,i,j⟩
 ·refine .inl ⟨?_,j true⟩
  rw[List.any_eq_false];intro d l;obtain⟨b,m,rfl⟩:=List.mem_iff_getElem.1 l;have:=i (.string a[b].1,.int .i64 (b:Int)) (List.mem_map.2 ⟨(a[b],b),by rw[List.mem_zipIdx_iff_getElem?];simp[m],rfl⟩);simp at this;simpa using this
 obtain⟨d,l,m⟩:=uy a b _ i;injection m with e1 e2
 injection e1 with e1
 subst e2;obtain⟨d,f⟩:=List.getElem?_eq_some_iff.1 l;have f:a[b].1=c:=by rw[f,e1]
 refine .inr ⟨b,d,?_,?_,j true⟩
 ·rw[List.any_eq_true]
  exact⟨_,List.getElem_mem d,by simpa using f⟩
 refine nh b d (by simpa using f) (λe d=>?_);have c:a[e].1≠c:=by
  intro g;have i:e<(a.map (·.1)).length:=aC
  have a:b<(a.map (·.1)).length:=aC
  exact(List.pairwise_iff_getElem.1 k e b i a d) (by simp;rw[g,f])
 simpa using c
structure ox (w:af) (X Bv Bw Br M:Nat) (h hb:Hd) (ts:List RT) (vs:List (ByteArray×Int)) (at_:Int):Prop where
 hX:X<w.heap.size
 c0:ac w (ab X 0) h.val
 c8:ac w (ab X 8) at_
 hv:Bv<w.heap.size
 cv:ac w (ab Bv 0) (.map (some M))
 m:cH .string w M (iA vs)
 nd:(vs.map (·.1)).Nodup
 hw:Bw<w.heap.size
 cw:ac w (ab Bw 0) (aj X)
 hr:Br<w.heap.size
 cr:ac w (ab Br 8) hb.val
 lb:dQ w hb (vs.map (·.2))
 ix:∀p∈vs,∃q:Nat,p.2=q/\q<ts.length
 ta:bI w h ts
theorem ox.same {w d:af} {X b Bw c e:Nat} {h f:Hd} {ts:List RT} {g:List (ByteArray×Int)} {at_:Int} (a:ox w X b Bw c e h f ts g at_) (s:ag w d):ox d X b Bw c e h f ts g at_:=
 ⟨aT a.hX s.size,(s.cell (p:=(ab X 0)) a.hX).trans a.c0,(s.cell (p:=(ab X 8)) a.hX).trans a.c8,aT a.hv s.size,(s.cell (p:=(ab b 0)) a.hv).trans a.cv,a.m.kp (Kp.of_same (l:=[]) s) ai,a.nd,
  aT a.hw s.size,(s.cell (p:=(ab Bw 0)) a.hw).trans a.cw,aT a.hr s.size,(s.cell (p:=(ab c 8)) a.hr).trans a.cr,a.lb.same s,a.ix,a.ta.same s⟩
theorem BI (w R Bw y X:Nat) (h F:Hd) (q:List RT) (A:List (ByteArray×Int)) (G:dG) (at_:Int) (i:af) (a:ox i w R Bw y X h F q A at_):
 Calls Tryz.prog 199 #[.agg G.cells.toArray,aj R,aj Bw,aj y] i λe w'=>RP [] i (hY (q.map RT.tb) at_ A G) lT e w':=by
 obtain⟨aN,S,H⟩:=h;obtain⟨aO,T,aP⟩:=F;have W:=Z a;have aQ:=Z a.ta;have X:=a.ta.1.1;have aR:=a.lb.1;have X:=a.lb.2.1;have bo:=a.hX;have X:=a.hw;have X:=a.hr;clear a;obtain⟨I,X⟩:=aq (hY (q.map RT.tb) at_ A G);rw[<-X];have L:=Z X;clear X;obtain⟨aS,M,bp,⟨bq,br,bs⟩⟩:=G;have bt:=Z (Kp.refl [] i);show Calls Tryz.prog 199 #[.agg #[aS,M,bp,bq,br,bs],aj R,aj Bw,aj y] i _;go_enter Tryz.func199,Tryz.ntmps199
 go_upto_region 1 with(fail)
 obtain⟨bp,G,X,c,R⟩:=nb i 284 _;rw[G];clear G;have bp:=qk bt c;have bq:=Z (aQ.same c);have br:=Z (W.same c);clear c;obtain⟨b,G,bu,c,bs⟩:=nc R 71 _;rw[G];clear G;have N:=qk bp c;have bw:=Z (bq.same c);have aU:=qb c X;have o:=Z (br.same c);clear c;have G:i.heap.size+1<b.heap.size:=ae
 clear R bs;have bx:=az aU;have bz:=o.cv;have Y:=o.cw;have ad:=o.c8;rcases uz o.out.m o.out.nd aS with⟨B,al⟩|⟨f,an,B,aV,al⟩
 case inl=>
  have d:=Z (show I=RO.ap false 8 at_ _ by rw[L.out];unfold hY;rw[B]);clear B L;go_wp2_with fail
  exact bv N d ad
 obtain⟨d,ao,ar⟩:=W.ix _ (List.getElem_mem an);have aW:=Z (show I=RO.ap true 8 at_ ((cO at_ q[d].tb.attrs M).bind λg=>.ok ((⟨(f:Int),g,V.zero⟩:Sd),(cE q[d].tb.attrs g).kind)) by
  rw[L.out];unfold hY;rw[B,aV];have g:(A[(f:Int).toNat]?).getD (e0,0)=A[f]:=by rw[Int.toNat_natCast,List.getElem?_eq_getElem an];rfl
  dsimp only;rw[g,ao,lR q d ar])
 have bA:=Z (show ac b (ab y 8) (U aO T aP)from o.cr);have bB:∃g j,aO=some ⟨g,j,none⟩/\g<b.heap.size/\ac b (ab g (j+f)) (d:Int):=by
  obtain⟨g,j,aN,F,H⟩:=o.lb.one f (by simpa using an) (v:=.int .i64 (d:Int)) (by simp[cj,ao]);exact⟨g,j,aN,F,H⟩
 obtain⟨aX,aZ,bC,b5,au⟩:=bB;subst bC;have A:(f:Int)<T:=by have:=aR;simp at this;omega
 have A:(0:Int)<=f:=ae
 clear B aV L ao aR;go_wp2_with fail
 refine bJ N aW ad λax=>?_;clear aW al;obtain⟨g,j,ay,A,aA,aB,aC⟩:=lQ bw d ar;have P:=Z (aQ.2 _ (List.getElem_mem ar));have aD:=Z (λ(a:aw) (l:af) (k:ag i l)=>nV w q[d] a at_ l (aT bo k.size) (W.same k).c8 (P.same k));obtain⟨tq,a0⟩:=aq (q[d]);rw[<-a0]at aA aB aC aD ax P;obtain⟨x,⟨p,k,n⟩,r,⟨s,t,u⟩,b6⟩:=tq;have aE:=aA;have aF:ac b (ab g (j+d*3+1)) (U p k n):=aB;have aG:ac b (ab g (j+d*3+2)) (U s t u):=aC;have a1:Hid (∀(a:aw) (l:af),ag i l->Calls Tryz.prog 187 #[aj w,.agg #[x,U p k n,U s t u],a] l λe w'=>RP [] l (cO at_ (r.map RA.at_) a) g7 e w'):=aD;have a2:Hid (fu i ⟨p,k,n⟩ r):=P.1;have a3:Hid (I=(cO at_ (r.map RA.at_) M).bind λl=>.ok ((⟨(f:Int),l,V.zero⟩:Sd),(cE (r.map RA.at_) l).kind)):=ax;clear aA aB aC aD ax a0 P;have q:(d:Int)<S:=ae
 have q:(0:Int)<=d:=ae
 subst ay;have bD:=Z (a2.same N.same);have aH:ac b (ab w 0) (U (some ⟨g,j,none⟩) S H):=o.c0;have aI:=bA.out;have q:w<b.heap.size:=ae
 have q:Bw<b.heap.size:=ae
 have q:y<b.heap.size:=ae
 go_upto_region 3 with(fail)
 refine nQ 14 Y aH aI au aE aF aG λhS=>?_;refine dg ?_;refine eh ?_;refine tk 11 hS ?_;refine tk 12 hS ?_;have a4:(λw':World=>ac w' (ab Bw 0) (aj w)/\ac w' (ab w 0) (U (some ⟨g,j,none⟩) S H)/\ac w' (ab y 8) (U (some ⟨aX,aZ,none⟩) T aP)/\ac w' (ab aX (aZ+f)) (d:Int)/\ac w' (ab g (j+d*3)) x/\ac w' (ab g (j+d*3+1)) (U p k n)/\ac w' (ab g (j+d*3+2)) (U s t u)) (b.drew.alloc (.cells #[ah,aa,aa] 81)):=⟨(World.cell?_alloc_lt _ _ _ cB).trans Y,(World.cell?_alloc_lt _ _ _ cB).trans aH,(World.cell?_alloc_lt _ _ _ cB).trans aI,(World.cell?_alloc_lt _ _ _ cB).trans au,(World.cell?_alloc_lt _ _ _ cB).trans aE,(World.cell?_alloc_lt _ _ _ cB).trans aF,(World.cell?_alloc_lt _ _ _ cB).trans aG⟩;refine aK 13 (λK C=>?_);go_simp;refine C _ _ (λ_=>a4) ?_;refine av ?_;refine b2 ?_;refine dp 14 (λK C=>?_);refine Eq.mpr (if_pos rfl) ?_;refine uv 81 (.tmp 9) (.tmp 33) rfl b.drew _ _ 81 rfl rfl ak rfl bl (C _ _ ?_);refine av ?_;refine bV ?_;have d:=Z (show J (b.drew.alloc (.cells #[x,U p k n,U s t u] 81)) b.heap.size 81 #[x,U p k n,U s t u]from J.new b.drew 81 #[x,U p k n,U s t u]);have c:=Z (show ag b (b.drew.alloc (.cells #[x,U p k n,U s t u] 81))from((ag.refl b).drew).alloc _);obtain⟨bE,g⟩:=aq (b.drew.alloc (.cells #[x,U p k n,U s t u] 81));rw[<-g]at d c⊢;clear g;have aJ:=qk N c;have bF:=qb c aU;have bG:=qb c bu;have g:=Z (o.same c);have bH:=Z (bD.same c);have Q:=d;clear d c;clear aE aF aG aH aI au Y ad bz hS a4 bx;have bI:=g.cw;go_upto_region 4 with(fail)
 have bK:=az Q;have bL:=aY Q;have bM:=bh Q;have bN:=aY bF;go_wp2_with fail
 refine dC a3 (a1 M bE aJ.same) (eL aJ) ?_;intro a c a5 a6 a7 a8 D;have bO:c=.int .i64 a:=a8;subst bO;obtain⟨l,bP,a9⟩:=pH a6;subst bP;have d:l<r.length:=by simpa using a9
 clear a9 a8 a6;have aL:=Z (aJ.trans D);have bQ:=qo D bG;have bb:=qo D Q;have j:=Z (bH.same D.same);have o:=aL.size;clear D;clear bK bL bM bN bI a1;obtain⟨ba,bf,ay,g,p,c,q,s,t,u⟩:=iq a2 l d;have bg:=(aL.cell g ai).trans c;clear c;have c:(l:Int)<k:=by have:=j.out.1.1;have al:r.length=k:=this;omega
 have c:(0:Int)<=l:=ae
 obtain⟨aM,c⟩:=aq (r[l].at_.kind);rw[<-c]at bg;have bR:=Z (show I=.ok ((⟨(f:Int),(l:Int),V.zero⟩:Sd),aM) by rw[a7.out,jY r l d,<-c]);clear a3 a7 c p q s t u;have bS:=aT g o;subst ay;go_upto_region 5 with(fail)
 have c:=aY bb;have z:=Z ((ag.refl a5).drew);refine dB 11 c bg λhS=>?_;refine dg ?_;obtain⟨bT,c⟩:=aq a5.drew;rw[<-c]at z hS⊢;clear c;have bU:=qk aL z;have bi:=qb z bQ;have bW:=qb z bb;obtain⟨bX,bY⟩:=hS;have c:=aT bS z.size;have c:=J.lt bW;clear z;have b:(λw':World=>ac w' (am b 1) (U (some ⟨ba,bf,none⟩) k n)/\ac w' (ab ba (bf+l*6+1)) aM) (bT.setRow ((i.heap.size+1)) #[(f:Int),(l:Int),O 0,O 0,ah]):=⟨(lU (by show b.heap.size<_;omega) (by show b.heap.size≠_;omega)).trans bX,(lU (by show ba<_;omega) (by show ba≠_;omega)).trans bY⟩;refine aK 9 (λK C=>?_);refine wp_store_row 71 (.tmp 5) (.tmp 41) rfl ((i.heap.size+1)) _ rfl rfl 71 _ bi ak rfl bl (C _ _ (λ_=>b) ?_);refine av ?_;refine tk 10 b ?_;refine gH ak ?_ _;clear b;obtain⟨c,b,E,bk⟩:=jk bi #[(f:Int),(l:Int),O 0,O 0,ah];rw[b];clear b;have bm:=Z (bU.grown bk (λb bm=>.inr (by injection bm with bm;omega)));clear bk;have bZ:=az E;have b0:=aY E;have b1:=bh E;have b3:=bj E;have b4:=bn E;go_wp2_with fail
 refine bodyPost_ret (v:=.tuple #[.agg #[(f:Int),(l:Int),O 0,O 0,ah],aM]) ?_ rfl ?_
 ·simp[results,Tryz.results199,go_sem,bZ,b0,b1,b3,b4]
 rw[bR.out];exact⟨bm,_,rfl,rfl⟩
def ro (b:List Tb) (a:aI):RO Ru:=
 RO.ap (aZ a.vars.length 1 3&&aZ a.conds.length 1 12) 3 a.at_<|(gG b a.at_ [] a.vars).bind λc=>
  (eT a.at_ (hY b a.at_ c) [] a.conds).bind λb=>.ok {Ru.zero with kind:=4,name:=a.name,tables:=c.map (·.2),tests:=b}
theorem BJ {f:Type} (c:List Tb) (a:Int) (l:List (ByteArray×Int)) (b:Vr) (e:List Vr) (d:List (ByteArray×Int)->RO f):(gG c a l (b::e)).bind d=
 RO.ap (!l.any λf=>decide (f.1=b.name)) 9 a ((dS c a b.table).bind λf=>(gG c a (l++[(b.name,f)]) e).bind d):=by
 show(RO.ap _ 9 a (RO.bind _ _)).bind d=_;simp only[RO.bind_assoc,RO.gK]
theorem uA {f:Type} (a:Int) (b:dG->RO (Sd×Int)) (l:List cT) (d:bB) (e:List bB) (c:List cT->RO f):(eT a b l (d::e)).bind c=
 (jL a b d).bind λd=>(eT a b (l++[d]) e).bind c:=by
 show(RO.bind _ _).bind c=_;rw[RO.bind_assoc]
theorem uB (l:List (ByteArray×Int)) (a:ByteArray×Int):iA (l++[a])=iA l++[(.string a.1,.int .i64 (l.length:Int))]:=by
 unfold iA;rw[List.zipIdx_append,List.map_append];simp
theorem BK {l:List (ByteArray×Int)} {c:aw} (h:(l.any λa=>decide (a.1=c))=false):∀a∈iA l,a.1≠.string c:=by
 intro a d b;obtain⟨e,f,rfl⟩:=List.mem_iff_getElem.1 d;obtain⟨g,i,a⟩:=uy l e _ (List.getElem?_eq_getElem f);rw[a]at b;injection b with b
 rw[List.any_eq_false]at h;exact h g (List.mem_of_getElem? i) (by simp[b])
theorem Tryz.uC:(Tryz.prog.info? 73).map (λa=>(a.zero,a.size,a.bytes))=some (some (.agg #[O 0,O 0,O 0,O 0,ah,O 0,O 0,O 0,O 0,O 0,ah,O 0]),12,112):=ak
theorem cT.eE (a:cT):a.cells.length=12:=rfl
theorem BL (k bi:Nat) (aw:RI) (h:Hd) (t:List RT) (bt bu bw bx bz bA:ay) (bj:aX) (aE bk:Nat) (bD:List cG) (c:af) (a6:J c k 157 #[h.val,bt,bu,bw,bx,U bj aE bk,bz,bA,aw.at_]) (dq:bI c h t) (Y:aF c 2 aw.hvars Vr.cells aw.vars) (bE:aF c 14 aw.hconds bB.cells aw.conds) (bX:c.ownsRow bi 64 10 (U bj aE bk) aE (bD.flatMap cG.cells)) (d3:bD.length=aE) (dr:k<bi) (ao:bi<=c.heap.size) (d4:aE<=1000):
 Calls Tryz.prog 121 #[aj k,.agg aw.cells.toArray] c λe w'=>jh c (ro (t.map RT.tb) aw.it) (λd5 w'=>iu c w' k bi bj aE bk bD d5 (λd5=>#[h.val,bt,bu,bw,bx,d5,bz,bA,aw.at_])) e w':=by
 obtain⟨d6,d7,d8,d9,ea⟩:=info_parts Tryz.rc;obtain⟨eb,ec,ed,ee,ef⟩:=info_parts Tryz.uC;have d5:=@run_makeMap Tryz.prog;have eg:=Z (show∀b c,(callFunc 199 b).run Tryz.prog c=.ok (.enter 199 b) c from enters_of Tryz.func199 ak rfl);obtain⟨a7,an,a8⟩:=h;have bF:=Z Y;have bm:=Z bE;have ds:=Y.1;have dt:=Y.2.1;have du:=bE.1;have dv:=bE.2.1;clear Y bE;obtain⟨ar,bE⟩:=aq (ro (t.map RT.tb) aw.it);rw[<-bE];have eh:=Z bE;clear bE;obtain⟨bY,G,g,bZ,b0,⟨b4,b5,b6⟩,fl,⟨b7,b8,b9⟩,fn,ca,cb,cc,⟨cd,ce,cf⟩,H,cg,ch,⟨ci,ck,cl⟩,fo,⟨bn,cm,bG⟩,q,⟨bp,cn,bH⟩,s,⟨co,cp,⟨cq,u,v⟩,C,⟨cr,cs,ct⟩,fp,⟨cu,w,x⟩,fq,cv,cw,cx,cy⟩⟩:=aw;have a9:=Z (show ar=RO.ap (aZ q.length 1 3&&aZ s.length 1 12) 3 g ((gG (t.map RT.tb) g [] q).bind λb=>(eT g (hY (t.map RT.tb) g b) [] s).bind λd=>.ok ({Ru.zero with kind:=4,name:=G,tables:=b.map (·.2),tests:=d}:Ru))from eh);have aw:Hid (aF c 2 ⟨bn,cm,bG⟩ Vr.cells q):=bF;have bE:Hid (aF c 14 ⟨bp,cn,bH⟩ bB.cells s):=bm;have ei:q.length=cm:=ds;have cm:cm<=9223372036854775807:=dt;have bK:s.length=cn:=du;have cm:cn<=9223372036854775807:=dv;clear ds dt du dv;have bF:=aw;have bm:=bE;subst ei bK;obtain⟨a3,aw⟩:∃a3:List (ByteArray×Int)->RO Ru,a3=λaw=>(eT g (hY (t.map RT.tb) g aw) [] s).bind λi=>.ok ({Ru.zero with kind:=4,name:=G,tables:=aw.map (·.2),tests:=i}:Ru):=⟨_,rfl⟩;have ej:=Z (λi=>congrFun aw i);rw[<-aw]at a9;clear aw;have aw:=a6;clear a6;have a6:J c k 157 #[U a7 an a8,bt,bu,bw,bx,U bj aE bk,bz,bA,g]:=aw;clear aw;have aw:=a6.lt;have ek:=Z (Kp.refl [] c);have cz:=Z dq;have cA:=Z a6;have cB:=Z bX;have el:=Z bX;show Calls Tryz.prog 121 #[aj k,.agg #[bY,G,g,bZ,b0,U b4 b5 b6,U b7 b8 b9,ca,cb,cc,U cd ce cf,cg,ch,U ci ck cl,U bn q.length bG,U bp s.length bH,co,cp,U cq u v,U cr cs ct,U cu w x,cv,cw,cx,cy]] c _;clear a6 dq bX;go_enter Tryz.func121,Tryz.ntmps121
 go_upto_region 1 with(fail)
 obtain⟨bX,aw,bE,b,a6⟩:=nb c 154 _;rw[aw];clear aw;have bX:=qk ek b;have cm:=Z (aH b cB);have cn:=qb b cA;have dq:=Z (bF.same b);have ds:=Z (bm.same b);obtain⟨a4,aw,cD,b,dt⟩:=nc a6 95 _;rw[aw];clear aw;have bL:=qk bX b;have bM:=Z (aH b cm);have aw:=qb b cn;have dw:=qb b bE;have em:=Z (dq.same b);have en:=Z (ds.same b);clear a6 dt;have cE:=az dw;have cI:=sI cD;have cK:=sJ cD;have cL:=bN aw;have bO:=Z (λd=>fj (q.length:Int) 1 3 d);have cM:=Z (λd=>fj (s.length:Int) 1 12 d);obtain⟨eo,aw⟩:=aq (aZ (q.length:Int) 1 3);obtain⟨ep,a6⟩:=aq (aZ (s.length:Int) 1 12);rw[<-aw]at bO a9;rw[<-a6]at cM a9;have eq:=Z aw;have es:=Z a6;clear aw a6;cases eo
 case false=>
  refine gr 12 cE cI cK λhS=>?_;refine cJ ?_;refine tk 3 hS ?_;refine dV 4 (λK d=>?_);go_simp;refine(bO a4.drew).mono ?_;rintro e w' ⟨rfl,rfl⟩;try go_simp
  refine d _ _ (λ_=>hS) ?_;refine av ?_;refine tk 5 hS ?_;refine rq ?_;refine aK 11 (λK d=>?_);go_simp;exact bv bL.drew a9 cL
 cases ep
 case false=>
  refine gr 12 cE cI cK λhS=>?_;refine cJ ?_;refine tk 3 hS ?_;refine dV 4 (λK d=>?_);go_simp;refine(bO a4.drew).mono ?_;rintro e w' ⟨rfl,rfl⟩;try go_simp
  refine d _ _ (λ_=>hS) ?_;refine av ?_;refine rr ?_;refine dV 9 (λK d=>?_);go_simp;refine(cM a4.drew).mono ?_;rintro e w' ⟨rfl,rfl⟩;try go_simp
  refine d _ _ (λ_=>hS) ?_;refine av ?_;refine tk 10 hS ?_;refine aK 11 (λK d=>?_);go_simp;exact bv bL.drew a9 cL
 refine gr 12 cE cI cK λhS=>?_;refine cJ ?_;refine tk 3 hS ?_;refine dV 4 (λK o=>?_);go_simp;refine(bO a4.drew).mono ?_;rintro e w' ⟨rfl,rfl⟩;try go_simp
 refine o _ _ (λ_=>hS) ?_;refine av ?_;refine rr ?_;refine dV 9 (λK o=>?_);go_simp;refine(cM a4.drew).mono ?_;rintro e w' ⟨rfl,rfl⟩;try go_simp
 refine o _ _ (λ_=>hS) ?_;refine av ?_;refine tk 10 hS ?_;refine aK 11 (λK o=>?_);go_simp;refine bJ bL.drew a9 cL λdx=>?_;try go_simp
 refine o _ _ (λ_=>hS) ?_;refine av ?_;refine b2 ?_;refine bV ?_;have aw:q.length<=3:=by have h:=eq.out.symm;unfold aZ at h;simp at h;omega
 have aw:s.length<=12:=by have h:=es.out.symm;unfold aZ at h;simp at h;omega
 clear hS;have b:=Z ((ag.refl a4).drew);obtain⟨m,aw⟩:=aq a4.drew;rw[<-aw]at b⊢;clear aw;have et:=qk bL b;have eu:=qb b dw;have cN:=qb b cD;have ev:=Z (em.same b);have ew:=Z (en.same b);have aw:=aY cN;have aw:=J.lt cN;go_upto_region 2 with(fail)
 go_upto_region 3 with(first|(refine wpList_store_row rfl 64 (.tmp 4) (.tmp 26) rfl m.heap.size #[O 4,G,O 0,aa,O 0,aa,O 0,O 0,aa,aa] rfl rfl 64 #[O 0,ah,O 0,aa,O 0,aa,O 0,O 0,aa,aa] (J.new m 64 #[O 0,ah,O 0,aa,O 0,aa,O 0,O 0,aa,aa]) ak rfl bl ?_;rw[World.setRow_alloc_new])|fail)
 obtain⟨j,aw,dy,b,-⟩:=nb m 64 #[O 4,G,O 0,aa,O 0,aa,O 0,O 0,aa,aa];rw[aw];clear aw;have dz:=qk et b;have ex:=qb b eu;have ey:=qb b cN;have eA:=Z (ev.same b);have eB:=Z (ew.same b);have aw:=dz.size;have aw:=J.lt dy;go_upto_region 4 with(fail)
 have a6:=Z (cH.made .string j);have b:=Z (show ag j (j.alloc (.map #[] 0))from(ag.refl j).alloc _);obtain⟨aw,a4⟩:=aq (j.alloc (.map #[] 0));have a9:aw.heap.size=j.heap.size+1:=by rw[a4];simp
 rw[<-a4]at a6 b⊢;clear a4;have bE:=qk dz b;have bL:=qb b ex;have bO:=qb b ey;have bX:=qb b dy;have a4:=Z (eA.same b);have a4:=Z (eB.same b);have ax:=Z (show J (aw.alloc (.cells #[.map (some j.heap.size)] 281)) (j.heap.size+1) 281 #[.map (some j.heap.size)] by have h:=J.new aw 281 #[.map (some j.heap.size)];rw[a9]at h;exact h);have b:=Z (show ag aw (aw.alloc (.cells #[.map (some j.heap.size)] 281))from(ag.refl aw).alloc _);have dA:=Z (a6.kp (Kp.of_same (l:=[]) b) ai);have a4:(aw.alloc (.cells #[.map (some j.heap.size)] 281)).heap.size=aw.heap.size+1:=ai
 obtain⟨ba,aw⟩:=aq (aw.alloc (.cells #[.map (some j.heap.size)] 281));rw[<-aw]at ax b dA a4⊢;clear aw;have eC:=qk bE b;have eD:=qb b bL;have cO:=qb b bO;have eF:=qb b bX;have dB:=ax;have aw:j.heap.size+1<ba.heap.size:=ae
 clear a9 a4;have aw:=sI cO;have aw:=J.lt cO;go_wp2_with fail
 go_loopg [31] (q.length+1) (λp y wr=>∃(d:Nat) (i:List (ByteArray×Int)) (f:aX) (n:Nat),y=.int .i64 d/\d<=q.length/\q.length-d<p/\i.length=d/\Hid (wr.ownsRow ba.heap.size 3 1 (U f d n) d ((i.map (·.2)).flatMap cj))/\Hid (J wr m.heap.size 64 #[O 4,G,O 0,aa,O 0,aa,O 0,O 0,U f d n,aa])/\Hid (J wr c.heap.size 154 #[aj k])/\Hid (J wr (c.heap.size+1) 95 #[bY,G,g,bZ,b0,U b4 b5 b6,U b7 b8 b9,ca,cb,cc,U cd ce cf,cg,ch,U ci ck cl,U bn q.length bG,U bp s.length bH,co,cp,U cq u v,U cr cs ct,U cu w x,cv,cw,cx,cy])/\Hid (J wr (j.heap.size+1) 281 #[.map (some j.heap.size)])/\Hid (cH .string wr j.heap.size (iA i))/\Hid ((i.map (·.1)).Nodup)/\Hid (∀n∈i,∃f:Nat,n.2=f/\f<t.length)/\Hid (Kp [] c wr)/\ba.heap.size<=wr.heap.size/\Hid (ar=(gG (t.map RT.tb) g i (q.drop d)).bind a3))
 case atStart=>exact⟨0,[],none,0,rfl,by omega,by omega,rfl,Z ⟨rfl,.inl ⟨rfl,rfl⟩⟩,eF,eD,cO,dB,dA,Z List.nodup_nil,Z (λf d=>by cases d),eC,Nat.le_refl _,dx⟩
 obtain⟨f,i,z,A,rfl,fr,dD,dE,bP,cP,cQ,bq,cS,dF,cU,dH,aD,fs,bQ⟩:=hrel;have dI:=Z dD;have cV:=Z dE;clear dD dE dB dx;have aw:=Z (cz.same aD.same);have aw:=Z (aH aD.same cB);have eG:=Z (bF.same aD.same);have aw:=Z (bm.same aD.same);have eH:=qo aD cA;have aw:=aD.size;by_cases aG:f<q.length
 case neg=>
  have aw:¬(f:Int)<q.length:=ae
  have cW:=Z (show ar=a3 i by rw[bQ.out,List.drop_of_length_le ae];rfl);clear bQ;obtain⟨aI,eI⟩:=aq wr;subst eI;obtain⟨bb,aw⟩:=aq (hY (t.map RT.tb) g i);have dJ:=Z aw;obtain⟨bf,a4⟩:∃bf:List cT->RO Ru,bf=λH=>.ok ({Ru.zero with kind:=4,name:=G,tables:=i.map (·.2),tests:=H}:Ru):=⟨_,rfl⟩;have eJ:=Z (λi=>congrFun a4 i);have eK:=Z (show ar=(eT g bb [] s).bind bf by rw[cW.out,ej.out i,aw,a4]);clear aw a4;have dK:Hid (dQ aI ⟨z,f,A⟩ (i.map (·.2))):=Z (cF (h:=⟨z,f,A⟩) cj.len (by show(i.map (·.2)).length=f;rw[List.length_map];exact cV.out) (by show f<=_;omega) bP);have cX:Hid (∀d n,z=some ⟨d,n,none⟩->ba.heap.size<=d/\d<aI.heap.size):=Z (λd n e=>b3 bP d (by show(Value.slice z f A).ownBlock=_;rw[e];rfl));have aw:m.heap.size<aI.heap.size:=by omega
  have aw:=sJ bq;have aw:=J.lt bq;go_wp2_with fail
  go_loopg [64] (s.length+1) (λy B wr=>∃(d:Nat) (H:List cT) (n:aX) (p:Nat),B=.int .i64 d/\d<=s.length/\s.length-d<y/\H.length=d/\Hid (wr.ownsRow aI.heap.size 73 12 (U n d p) d (H.flatMap cT.cells))/\Hid (J wr m.heap.size 64 #[O 4,G,O 0,aa,O 0,aa,O 0,O 0,U z f A,U n d p])/\Hid (J wr c.heap.size 154 #[aj k])/\Hid (J wr (c.heap.size+1) 95 #[bY,G,g,bZ,b0,U b4 b5 b6,U b7 b8 b9,ca,cb,cc,U cd ce cf,cg,ch,U ci ck cl,U bn q.length bG,U bp s.length bH,co,cp,U cq u v,U cr cs ct,U cu w x,cv,cw,cx,cy])/\Hid (J wr (j.heap.size+1) 281 #[.map (some j.heap.size)])/\Hid (Kp [] c wr)/\Hid (Kp [m.heap.size] aI wr)/\Hid (ar=(eT g bb H (s.drop d)).bind bf))
  case atStart=>exact⟨0,[],none,0,rfl,by omega,by omega,rfl,Z ⟨rfl,.inl ⟨rfl,rfl⟩⟩,cP,cQ,bq,cS,aD,Z (Kp.refl _ aI),eK⟩
  obtain⟨d,H,I,ad,rfl,ft,dL,dM,bR,bS,bT,eM,cZ,a5,br,bU⟩:=hrel;have dN:=Z dL;have dO:=Z dM;clear dL dM cP cQ bq cS aD;have eN:=Z (cz.same a5.same);have eO:=Z (aH a5.same cB);have eP:=Z (bm.same a5.same);have bs:=qo a5 cA;have aw:=a5.size;have aw:=br.size;by_cases dP:d<s.length
  case neg=>
   have n:¬(d:Int)<s.length:=ae
   have cW:=Z (show ar=bf H by rw[bU.out,List.drop_of_length_le ae];rfl);clear bU;have n:=Z (pJ k bi ⟨4,G,0,aJ,[],0,aJ,[],0,0,⟨z,f,A⟩,i.map (·.2),⟨I,d,ad⟩,H⟩ g (U a7 an a8) bt bu bw bx bz bA bj aE bk bD wr bs eO d3 dr ae d4);have p:Hid (Calls Tryz.prog 194 #[aj k,.agg #[O 4,G,O 0,aa,O 0,aa,O 0,O 0,U z f A,U I d ad]] wr _):=n;have n:=az bT;go_wp2_with (first|(refine ir rfl 64 (.tmp 4) rfl m.heap.size #[O 4,G,O 0,aa,O 0,aa,O 0,O 0,U z f A,U I d ad] rfl 64 bS.out _ Tryz.underlying64 rfl ak ?_)|fail)
   refine p.mono ?_;rintro e n ⟨rfl,y⟩;go_wp2;first|go_end0|refine bodyPost_ret (results_none rfl _ _ _) rfl ?_
   rw[cW.out,eJ.out H];have n:=cF (h:=⟨I,d,ad⟩) cT.eE dO (by show d<=_;omega) bR;have n:eZ wr (Bw c.heap.size wr.heap.size) ⟨4,G,0,aJ,[],0,aJ,[],0,0,⟨z,f,A⟩,i.map (·.2),⟨I,d,ad⟩,H⟩:=⟨aF.none_ wr 1 _,aS.none_ _ _ _,aF.none_ wr 4 _,aS.none_ _ _ _,dK.kp br (λp B e an=>by have h:=cX.out p B e;have:=aA an;omega),(λp B e=>by have h:=cX.out p B e;exact⟨by omega,by omega⟩),n,(λn p e=>by have h:=b3 bR.out n (by show(Value.slice I d ad).ownBlock=_;have n:I=some ⟨n,p,none⟩:=e;rw[n];rfl);exact⟨by omega,h.2⟩)⟩;exact⟨rfl,iu.pK a5 el dr ao n y⟩
  have G:(d:Int)<s.length:=ae
  obtain⟨D,of,aw,G,B⟩:=eP.2.2 d dP;have eQ:bp=some ⟨D,of,none⟩:=aw;obtain⟨bg,G⟩:=aq (s[d]);rw[<-G]at B;have dR:=Z (show ar=(jL g bb bg).bind λn=>(eT g bb (H++[n]) (s.drop (d+1))).bind bf by rw[bU.out,List.drop_eq_getElem_cons dP,uA,<-G]);clear G aw bU;have G:Hid (ox wr k (j.heap.size+1) c.heap.size m.heap.size j.heap.size ⟨a7,an,a8⟩ ⟨z,f,A⟩ t i g):=Z ⟨J.lt bs,J.cell bs 0,J.cell bs 8,J.lt cZ,J.cell cZ 0,dF.kp br aC,cU,J.lt bT,J.cell bT 0,J.lt bS,J.cell bS 8,dK.kp br (λn p e an=>by have h:=cX.out n p e;have:=aA an;omega),dH.out,eN.out⟩;have aw:=Z (λ(p:dG) (n:af) (y:ag wr n)=>BI k (j.heap.size+1) c.heap.size m.heap.size j.heap.size ⟨a7,an,a8⟩ ⟨z,f,A⟩ t i p g n (G.same y));have dT:=Z (λ(p:af) (n:ag wr p)=>uw k 199 #[aj (j.heap.size+1),aj c.heap.size,aj m.heap.size] eg.out bb bg g p (aT (J.lt bs.out) n.size) ((G.out.same n).c8) (λp y=>by rw[dJ.out];exact aw.out bg.l p (n.trans y)) (λp y=>by rw[dJ.out];exact aw.out bg.r p (n.trans y)));obtain⟨c0,G⟩:∃c0,c0=jL g bb bg:=⟨_,rfl⟩;rw[<-G]at dR dT;clear G;obtain⟨⟨Y,aL,aM,⟨aN,aO,aP⟩⟩,aQ,⟨aR,aU,aV,⟨aW,a0,a1⟩⟩,a2⟩:=bg;have eR:Hid (∀(n:af),ag wr n->Calls Tryz.prog 198 #[aj k,.agg #[Y,aL,aM,aN,aO,aP,aQ,aR,aU,aV,aW,a0,a1,a2],.func (.func 199) #[] #[aj (j.heap.size+1),aj c.heap.size,aj m.heap.size]] n λe w'=>RP [] n c0 rl e w'):=dT;have G:ac wr (ab D (of+d*14)) Y:=by simpa using B 0 _ rfl
  have G:ac wr (ab D (of+d*14+1)) aL:=B 1 _ rfl;have G:ac wr (ab D (of+d*14+2)) aM:=B 2 _ rfl;have G:ac wr (ab D (of+d*14+3)) aN:=B 3 _ rfl;have G:ac wr (ab D (of+d*14+4)) aO:=B 4 _ rfl;have G:ac wr (ab D (of+d*14+5)) aP:=B 5 _ rfl;have G:ac wr (ab D (of+d*14+6)) aQ:=B 6 _ rfl;have G:ac wr (ab D (of+d*14+7)) aR:=B 7 _ rfl;have G:ac wr (ab D (of+d*14+8)) aU:=B 8 _ rfl;have eS:ac wr (ab D (of+d*14+9)) aV:=B 9 _ rfl;have G:ac wr (ab D (of+d*14+10)) aW:=B 10 _ rfl;have G:ac wr (ab D (of+d*14+11)) a0:=B 11 _ rfl;have G:ac wr (ab D (of+d*14+12)) a1:=B 12 _ rfl;have D:ac wr (ab D (of+d*14+13)) a2:=B 13 _ rfl;have D:IntKind.i64.wrap ((d:Int)+1)=(d:Int)+1:=IntWalk.i64_in _ ae;clear B;subst eQ;have eU:=Z (Kp.refl [] wr);go_upto_region 15 with(first|(refine wpList_store_row rfl 286 (.tmp 11) (.tmp 67) rfl wr.heap.size #[Y,aL,aM,aN,aO,aP,aQ,aR,aU,aV,aW,a0,a1,a2] rfl rfl 286 #[ah,ah,.bool false,O 0,O 0,ah,O 0,ah,ah,.bool false,O 0,O 0,ah,O 0] (J.new wr 286 #[ah,ah,.bool false,O 0,O 0,ah,O 0,ah,ah,.bool false,O 0,O 0,ah,O 0]) ak rfl bl ?_;rw[World.setRow_alloc_new])|fail)
  obtain⟨y,B,ax,b,-⟩:=nb wr 286 #[Y,aL,aM,aN,aO,aP,aQ,aR,aU,aV,aW,a0,a1,a2];rw[B];clear B;have dU:=qk a5 b;have dW:=qb b bT;have eV:=qb b eM;have dX:=qb b bS;have eW:=qb b cZ;have dY:=qk eU b;have eX:=qk br b;have E:=ax;have B:ac y (am m 9) (U I d ad):=J.cell dX.out 9;have D:ac y (am c 0) (aj k):=J.cell dW.out 0;have G:ac y (am wr 0) Y:=J.cell E.out 0;have aw:ac y (am wr 1) aL:=J.cell E.out 1;have aE:ac y (am wr 2) aM:=J.cell E.out 2;have a4:ac y (am wr 3) aN:=J.cell E.out 3;have a5:ac y (am wr 4) aO:=J.cell E.out 4;have a6:ac y (am wr 5) aP:=J.cell E.out 5;have a9:ac y (am wr 6) aQ:=J.cell E.out 6;have bb:ac y (am wr 7) aR:=J.cell E.out 7;have bf:ac y (am wr 8) aU:=J.cell E.out 8;have bg:ac y (am wr 9) aV:=J.cell E.out 9;have bi:ac y (am wr 10) aW:=J.cell E.out 10;have bj:ac y (am wr 11) a0:=J.cell E.out 11;have bk:ac y (am wr 12) a1:=J.cell E.out 12;have bm:ac y (am wr 13) a2:=J.cell E.out 13;refine ez 8 (S:=(λw'=>ac w' (am m 9) (U I d ad)/\ac w' (am c 0) (aj k)/\ac w' (am wr 0) Y/\ac w' (am wr 1) aL/\ac w' (am wr 2) aM/\ac w' (am wr 3) aN/\ac w' (am wr 4) aO/\ac w' (am wr 5) aP/\ac w' (am wr 6) aQ/\ac w' (am wr 7) aR/\ac w' (am wr 8) aU/\ac w' (am wr 9) aV/\ac w' (am wr 10) aW/\ac w' (am wr 11) a0/\ac w' (am wr 12) a1/\ac w' (am wr 13) a2)) ⟨B,D,G,aw,aE,a4,a5,a6,a9,bb,bf,bg,bi,bj,bk,bm⟩ (λhS=>?_);refine cJ ?_;refine gt ?_;refine aK 5 (λK o=>?_);go_simp;refine dC dR.out (eR.out y.drew dY.out.drew.same) (eL (dU.out.drew)) ?_;intro a e0 n e1 e2 dZ aB;have aB:=Z (((Kp.refl [] y).drew).trans aB.out);have y:=Z (rfl:a=a);obtain⟨⟨L,x,⟨M,w,N⟩⟩,Q,⟨R,v,⟨C,u,V⟩⟩,W⟩:=a;have e3:e0=.agg #[L,x,M,w,N,Q,R,v,C,u,V,W]:=dZ;clear dZ e1;subst e3;have e4:=Z (dU.out.trans (aB.out));have c1:=qo aB dW;have e5:=qo aB eV;have bW:=qo aB dX;have e6:=qo aB eW;have F:=qo aB E;have e7:=Z (dY.out.trans (aB.out));have e8:=qm eX aB;try go_simp
  have c2:ac n (am m 9) (U I d ad):=J.cell bW.out 9;have y:=J.lt bW.out;have c3:ac n (am c 0) (aj k):=J.cell c1.out 0;have y:=J.lt c1.out;have c4:ac n (am wr 0) Y:=J.cell F.out 0;have c5:ac n (am wr 1) aL:=J.cell F.out 1;have c9:ac n (am wr 2) aM:=J.cell F.out 2;have da:ac n (am wr 3) aN:=J.cell F.out 3;have db:ac n (am wr 4) aO:=J.cell F.out 4;have dc:ac n (am wr 5) aP:=J.cell F.out 5;have dd:ac n (am wr 6) aQ:=J.cell F.out 6;have de:ac n (am wr 7) aR:=J.cell F.out 7;have df:ac n (am wr 8) aU:=J.cell F.out 8;have dg:ac n (am wr 9) aV:=J.cell F.out 9;have dh:ac n (am wr 10) aW:=J.cell F.out 10;have di:ac n (am wr 11) a0:=J.cell F.out 11;have dj:ac n (am wr 12) a1:=J.cell F.out 12;have dk:ac n (am wr 13) a2:=J.cell F.out 13;have y:=J.lt F.out;have dl:=Z (aH e7.out.same bR.out);refine nP o ⟨c2,c3,c4,c5,c9,da,db,dc,dd,de,df,dg,dh,di,dj,dk⟩ λy=>?_;refine av ?_;clear hS;clear y;have d0:(λw':World=>ac w' (am m 9) (U I d ad)/\ac w' (am c 0) (aj k)/\ac w' (am wr 0) Y/\ac w' (am wr 1) aL/\ac w' (am wr 2) aM/\ac w' (am wr 3) aN/\ac w' (am wr 4) aO/\ac w' (am wr 5) aP/\ac w' (am wr 6) aQ/\ac w' (am wr 7) aR/\ac w' (am wr 8) aU/\ac w' (am wr 9) aV/\ac w' (am wr 10) aW/\ac w' (am wr 11) a0/\ac w' (am wr 12) a1/\ac w' (am wr 13) a2) (n.alloc (.cells #[L,x,M,w,N,Q,R,v,C,u,V,W] 73)):=⟨(World.cell?_alloc_lt _ _ _ (by show m.heap.size<_;omega)).trans c2,(World.cell?_alloc_lt _ _ _ (by show c.heap.size<_;omega)).trans c3,(World.cell?_alloc_lt _ _ _ c6).trans c4,(World.cell?_alloc_lt _ _ _ c6).trans c5,(World.cell?_alloc_lt _ _ _ c6).trans c9,(World.cell?_alloc_lt _ _ _ c6).trans da,(World.cell?_alloc_lt _ _ _ c6).trans db,(World.cell?_alloc_lt _ _ _ c6).trans dc,(World.cell?_alloc_lt _ _ _ c6).trans dd,(World.cell?_alloc_lt _ _ _ c6).trans de,(World.cell?_alloc_lt _ _ _ c6).trans df,(World.cell?_alloc_lt _ _ _ c6).trans dg,(World.cell?_alloc_lt _ _ _ c6).trans dh,(World.cell?_alloc_lt _ _ _ c6).trans di,(World.cell?_alloc_lt _ _ _ c6).trans dj,(World.cell?_alloc_lt _ _ _ c6).trans dk⟩;refine aK 6 (λK o=>?_);go_simp;refine o.out _ _ (λ_=>d0) ?_;refine av ?_;have bM:=Z (aH ((ag.refl n).alloc (.cells #[L,x,M,w,N,Q,R,v,C,u,V,W] 73)) dl.out);have y:=Z (cC n #[L,x,M,w,N,Q,R,v,C,u,V,W] 73 12 rfl);have p:∀X,(Value.slice I d ad).ownBlock=some X->aI.heap.size<=X/\X<n.heap.size/\X<wr.heap.size:=λX al=>⟨(b3 dl.out X al).1,(b3 dl.out X al).2,(λX al=>(b3 bR.out X al).2) X al⟩;have B:=J.lt bW.out;refine aK 7 (λK o=>?_);refine c7 (n.alloc (.cells #[L,x,M,w,N,Q,R,v,C,u,V,W] 73)) (.tmp 69) (.tmp 74) 62 rfl (aI.heap.size) 73 eb _ 12 112 Tryz.underlying62 ec ed ee ef rfl au (U I d ad) d (H.flatMap cT.cells) rfl bM.out (n.heap.size+1) (some ⟨n.heap.size,0,none⟩) 1 1 ((#[L,x,M,w,N,Q,R,v,C,u,V,W]:Array Value).toList) rfl y.out bl b1 ae aC ?_;intro eS e9 dm al fa;obtain⟨d1,d2,rfl,fb⟩:=bo dm;have fc:=Z dm;have bh:=Z al;have n:=Z (fm ((Kp.refl [] n).alloc (.cells #[L,x,M,w,N,Q,R,v,C,u,V,W] 73)) al);clear dm al fa fb;have dn:=Z (J.grown (bW.out.alloc (.cells #[L,x,M,w,N,Q,R,v,C,u,V,W] 73)) bh.out (λe=>by have:=p _ e.symm;omega));have y:ac e9 (am m 9) (U I d ad):=J.cell dn.out 9;have y:=λf=>J.frozen dn.out f;refine o.out _ _ (λ_=>⟨cR n.out (by show m.heap.size<_;omega) (λe=>by have h:=p _ e.symm;dsimp only at h;omega) c2,cR n.out (by show c.heap.size<_;omega) (λe=>by have h:=p _ e.symm;dsimp only at h;omega) c3,cR n.out c6 (λe=>by have h:=p _ e.symm;dsimp only at h;omega) c4,cR n.out c6 (λe=>by have h:=p _ e.symm;dsimp only at h;omega) c5,cR n.out c6 (λe=>by have h:=p _ e.symm;dsimp only at h;omega) c9,cR n.out c6 (λe=>by have h:=p _ e.symm;dsimp only at h;omega) da,cR n.out c6 (λe=>by have h:=p _ e.symm;dsimp only at h;omega) db,cR n.out c6 (λe=>by have h:=p _ e.symm;dsimp only at h;omega) dc,cR n.out c6 (λe=>by have h:=p _ e.symm;dsimp only at h;omega) dd,cR n.out c6 (λe=>by have h:=p _ e.symm;dsimp only at h;omega) de,cR n.out c6 (λe=>by have h:=p _ e.symm;dsimp only at h;omega) df,cR n.out c6 (λe=>by have h:=p _ e.symm;dsimp only at h;omega) dg,cR n.out c6 (λe=>by have h:=p _ e.symm;dsimp only at h;omega) dh,cR n.out c6 (λe=>by have h:=p _ e.symm;dsimp only at h;omega) di,cR n.out c6 (λe=>by have h:=p _ e.symm;dsimp only at h;omega) dj,cR n.out c6 (λe=>by have h:=p _ e.symm;dsimp only at h;omega) dk⟩) ?_;clear o K d0;refine av ?_;refine b2 ?_;refine tq 8 ?_;refine dp 9 (λK o=>?_);go_simp;refine o _ _ ?_;refine av ?_;refine bV ?_;have y:=Z (J.grown (c1.out.alloc (.cells #[L,x,M,w,N,Q,R,v,C,u,V,W] 73)) bh.out (λe=>by have:=p _ e.symm;omega));have B:=Z (J.grown (e5.out.alloc (.cells #[L,x,M,w,N,Q,R,v,C,u,V,W] 73)) bh.out (λe=>by have:=p _ e.symm;omega));have D:=Z (J.grown (e6.out.alloc (.cells #[L,x,M,w,N,Q,R,v,C,u,V,W] 73)) bh.out (λe=>by have:=p _ e.symm;omega));have E:=Z ((e4.out.alloc (.cells #[L,x,M,w,N,Q,R,v,C,u,V,W] 73)).grown bh.out (λX al=>.inr (by have:=p X al;omega)));have F:=Z ((e8.out.alloc (.cells #[L,x,M,w,N,Q,R,v,C,u,V,W] 73)).grown bh.out (λX al=>.inr (by have:=p X al;omega)));clear p;obtain⟨G,p,ax,n⟩:=yW dn (U d1 (d+1) d2);rw[p];clear p;have fd:=Z (F.out.trans n.out);have fe:=Z (n.out.old E.out (λp ao aG=>absurd aG (by rw[aA ao];omega)));have ff:=qo n y;have fg:=qo n B;have fh:=qo n D;have fi:=n;have fk:=ax;go_wp2_with fail
  go_roundg (s.length-d)
  case measure=>have:=dN.out;omega
  refine⟨d+1,H++[⟨⟨L,x,⟨M,w,N⟩⟩,Q,⟨R,v,⟨C,u,V⟩⟩,W⟩],d1,d2,by go_num,by omega,by have:=dN.out;omega,by rw[List.length_append,dO.out];rfl,Z ?_,fk,ff,fg,fh,fe,fd,e2⟩;rw[List.flatMap_append];exact bC fc.out fi.out aC
 have s:(f:Int)<q.length:=ae
 obtain⟨aB,of,u,s,W⟩:=eG.out.2.2 f aG;have cX:bn=some ⟨aB,of,none⟩:=u;obtain⟨Q,s⟩:∃Q,Q=q[f]:=⟨_,rfl⟩;rw[<-s]at W;have X:=Z (show ar=RO.ap (!i.any λd=>decide (d.1=Q.name)) 9 g ((dS (t.map RT.tb) g Q.table).bind λd=>(gG (t.map RT.tb) g (i++[(Q.name,d)]) (q.drop (f+1))).bind a3) by rw[bQ.out,List.drop_eq_getElem_cons aG,BJ,<-s]);clear s u bQ;obtain⟨n,F⟩:=Q;have s:ac wr (ab aB (of+f*2)) n:=by simpa using W 0 _ rfl
 have s:ac wr (ab aB (of+f*2+1)) F:=W 1 _ rfl;have s:IntKind.i64.wrap ((f:Int)+1)=(f:Int)+1:=IntWalk.i64_in _ ae;have s:Hid (ar=RO.ap (!i.any λd=>decide (d.1=n)) 9 g ((dS (t.map RT.tb) g F).bind λd=>(gG (t.map RT.tb) g (i++[(n,d)]) (q.drop (f+1))).bind a3)):=X;clear W;have X:=s;subst cX;go_upto_region 7 with(first|(refine wpList_store_row rfl 133 (.tmp 7) (.tmp 35) rfl wr.heap.size #[n,F] rfl rfl 133 #[ah,ah] (J.new wr 133 #[ah,ah]) ak rfl bl ?_;rw[World.setRow_alloc_new])|fail)
 have u:=Z (Kp.refl [] wr);obtain⟨N,s,ax,b,-⟩:=nb wr 133 #[n,F];rw[s];clear s;have aI:=qk aD b;have aL:=qb b eH;have aM:=qb b cQ;have cZ:=qb b bq;have c0:=qb b cP;have a1:=qb b cS;have b:=qk u b;have a2:=ax;have b:=Z (show ag wr N from b.out.same);have s:ac N (ab (j.heap.size+1) 0) (.map (some j.heap.size)):=J.cell a1.out 0;have s:ac N (am wr 0) n:=J.cell a2.out 0;have a5:=Z (dF.out.kp (Kp.of_same (l:=[]) b.out) ai);have c1:=Z (aH b.out bP.out);have c2:=Z (show MapKept.IsKey .string n from trivial);rcases uz a5.out cU.out n with⟨M,bb⟩|⟨eI,c3,M,c4,bb⟩
 case inr=>
  have d:=Z (show ar=RO.ap false 9 g _ by rw[X.out,M];rfl);clear M c4 c3;have b:ac N (am c 0) (aj k):=J.cell aM.out 0;have p:ac N (ab k 8) g:=J.cell aL.out 8;go_wp2_with fail
  exact bv aI.out d.out p
 have b:ac N (am c 0) (aj k):=J.cell aM.out 0;have c5:ac N (ab k 8) g:=J.cell aL.out 8;have c9:=Z (show ar=RO.ap true 9 g ((dS (t.map RT.tb) g F).bind λb=>(gG (t.map RT.tb) g (i++[(n,b)]) (q.drop (f+1))).bind a3) by rw[X.out,M];rfl);have da:=Z (BK M);have db:=Z (show(((i++[(n,(0:Int))]).map (·.1)).Nodup) by
  rw[List.map_append];refine List.nodup_append.2 ⟨cU.out,by simp,?_⟩;intro a p b d e;simp only[List.map_cons,List.map_nil,List.mem_singleton]at d;subst d;obtain⟨y,B,rfl⟩:=List.mem_map.1 p;rw[List.any_eq_false]at M;exact M y B (by simpa using e))
 clear M;go_wp2_with fail
 refine bJ aI.out c9.out c5 λdc=>?_;clear bb;obtain⟨D,dd,b,I⟩:=cH.push (P:=Tryz.prog) (T:=281) a5.out Tryz.underlying281 Tryz.underlying9 n (f:Int) c2.out da.out;have de:=Z (show cH .string D j.heap.size (iA (i++[(n,(0:Int))])) by rw[uB,cV.out];exact b);clear b;go_upto_region 10 with(fail)
 clear dd;have aN:=Z (I.old aI.out (λb ao aG=>absurd aG (by rw[aA ao];omega)));have df:=Z (cz.out.same aN.out.same);have b:=qo I aL;have bf:=qo I aM;have dg:=qo I cZ;have bg:=qo I c0;have dh:=qo I a1;have bh:=qo I a2;have di:=Z (bC c1.out I (λd ao=>by rw[aA ao];omega));clear I;have dj:=Z (Kp.refl [m.heap.size] D);have s:ac D (am m 8) (U z f A):=J.cell bg.out 8;have u:ac D (am c 0) (aj k):=J.cell bf.out 0;have v:ac D (am wr 1) F:=J.cell bh.out 1;have dk:ac D (ab k 0) (U a7 an a8):=J.cell b.out 0;have dl:ac D (ab k 8) g:=J.cell b.out 8;have dm:=J.lt b.out;refine gr 8 s u v λhS=>?_;refine cJ ?_;refine gt ?_;refine aK 5 (λK o=>?_);go_simp;refine dC dc.out (nU k ⟨a7,an,a8⟩ t F g D.drew dm dk dl (df.out.same ((ag.refl D).drew))) (eL (aN.out.drew)) ?_;intro a dn p br dJ bs L;have L:=Z (((Kp.refl [] D).drew).trans L.out);obtain⟨d,rfl,bK⟩:=mM br;have dK:dn=.int .i64 (d:Int):=bs;subst dK;have dL:d<t.length:=by simpa using bK
 have dM:=Z (aN.out.trans (L.out));have aO:=qo L bf;have dN:=qo L dg;have ad:=qo L bg;have dO:=qo L dh;have bR:=qo L bh;have bS:=qm dj L;try go_simp
 clear bs br bK;have aP:ac p (am m 8) (U z f A):=J.cell ad.out 8;have b:=J.lt ad.out;have aQ:ac p (am c 0) (aj k):=J.cell aO.out 0;have b:=J.lt aO.out;have aR:ac p (am wr 1) F:=J.cell bR.out 1;have b:=J.lt bR.out;have aU:=Z (bC di.out bS.out (λb ao=>by rw[aA ao];omega));refine nP o ⟨aP,aQ,aR⟩ λb=>?_;refine av ?_;clear hS;clear b;have dP:=Z (de.out.kp bS.out aC);have bT:(λw':World=>ac w' (am m 8) (U z f A)/\ac w' (am c 0) (aj k)/\ac w' (am wr 1) F) (p.alloc (.cells #[(d:Int)] 3)):=⟨(World.cell?_alloc_lt _ _ _ (by show m.heap.size<_;omega)).trans aP,(World.cell?_alloc_lt _ _ _ (by show c.heap.size<_;omega)).trans aQ,(World.cell?_alloc_lt _ _ _ c6).trans aR⟩;refine aK 6 (λK o=>?_);go_simp;refine o.out _ _ (λ_=>bT) ?_;refine av ?_;have bM:=Z (aH ((ag.refl p).alloc (.cells #[(d:Int)] 3)) aU.out);have b:=Z (cC p #[(d:Int)] 3 1 rfl);have E:∀y,(Value.slice z f A).ownBlock=some y->ba.heap.size<=y/\y<p.heap.size/\y<wr.heap.size:=λy B=>⟨(b3 aU.out y B).1,(b3 aU.out y B).2,(λy B=>(b3 bP.out y B).2) y B⟩;have g:=J.lt ad.out;refine aK 7 (λK o=>?_);refine c7 (p.alloc (.cells #[(d:Int)] 3)) (.tmp 52) (.tmp 57) 60 rfl (ba.heap.size) 3 d6 _ 1 8 Tryz.underlying60 d7 d8 d9 ea rfl au (U z f A) f ((i.map (·.2)).flatMap cj) rfl bM.out (p.heap.size+1) (some ⟨p.heap.size,0,none⟩) 1 1 ((#[(d:Int)]:Array Value).toList) rfl b.out bl b1 ae aC ?_;intro b bU aV B dR;obtain⟨bW,cW,rfl,dT⟩:=bo aV;have dU:=Z aV;have R:=Z B;have al:=Z (fm ((Kp.refl [] p).alloc (.cells #[(d:Int)] 3)) B);clear aV B dR dT;have aW:=Z (J.grown (ad.out.alloc (.cells #[(d:Int)] 3)) R.out (λe=>by have:=E _ e.symm;omega));have b:ac bU (am m 8) (U z f A):=J.cell aW.out 8;have b:=λf=>J.frozen aW.out f;refine o.out _ _ (λ_=>⟨cR al.out (by show m.heap.size<_;omega) (λe=>by have h:=E _ e.symm;dsimp only at h;omega) aP,cR al.out (by show c.heap.size<_;omega) (λe=>by have h:=E _ e.symm;dsimp only at h;omega) aQ,cR al.out c6 (λe=>by have h:=E _ e.symm;dsimp only at h;omega) aR⟩) ?_;clear o K bT;refine av ?_;refine b2 ?_;refine tq 8 ?_;refine dp 9 (λK o=>?_);go_simp;refine o _ _ ?_;refine av ?_;refine bV ?_;have g:=Z (J.grown (aO.out.alloc (.cells #[(d:Int)] 3)) R.out (λe=>by have:=E _ e.symm;omega));have k:=Z (J.grown (dN.out.alloc (.cells #[(d:Int)] 3)) R.out (λe=>by have:=E _ e.symm;omega));have m:=Z (J.grown (dO.out.alloc (.cells #[(d:Int)] 3)) R.out (λe=>by have:=E _ e.symm;omega));have o:=Z ((dM.out.alloc (.cells #[(d:Int)] 3)).grown R.out (λy B=>.inr (by have:=E y B;omega)));have b:p.heap.size<=bU.heap.size:=by have:=R.out.size;simp at this;omega
 have p:=Z (dP.out.kp al.out (λan=>by have h:=E _ (jm an);omega));clear E;obtain⟨s,c,ax,b⟩:=yV aW (U bW (f+1) cW);rw[c];clear c;have dW:=Z (b.old o.out (λc ao aG=>absurd aG (by rw[aA ao];omega)));have dX:=qo b g;have dY:=qo b k;have dZ:=qo b m;have a0:=b;have d0:=ax;have b:=a0.out.size;have d1:=Z (show cH .string s j.heap.size (iA (i++[(n,(d:Int))])) by
  have h:=p.out.kp a0.out aC;rw[uB]at h⊢;exact h)
 go_wp2_with fail
 go_roundg (q.length-f)
 case measure=>have:=dI.out;omega
 refine⟨f+1,i++[(n,(d:Int))],bW,cW,by go_num,by omega,by have:=dI.out;omega,by rw[List.length_append,cV.out];rfl,Z ?_,d0,dX,dY,dZ,d1,Z (by have h:=db.out;rw[List.map_append]at h⊢;exact h),Z ?_,dW,by omega,dJ⟩
 ·rw[List.map_append,List.flatMap_append]
  exact bC dU.out a0.out aC
 intro d2 V;rcases cY V with V|V
 ·exact dH.out d2 V
 rw[aA V];exact⟨d,rfl,dL⟩
def gL (a:RA):Prop:=a.h=aJ/\a.at_.was=[]
structure fY (w:af) (S:Nat->Prop) (h:Hd) (ra:List RA):Prop where
 a:fu w h ra
 i:aS S h
 b:∀r∈ra,gL r
 l:ra.length<=10000
theorem fY.mono {w:af} {S S':Nat->Prop} {h:Hd} {ra:List RA} (a:fY w S h ra) (d:∀c,S c->S' c):fY w S' h ra:=⟨a.a,a.i.mono d,a.b,a.l⟩
theorem pM (b:af) {a:RA} (h:gL a):b4 b a.h a.at_.was:=by
 rw[h.1,h.2];exact⟨aF.none_ b 1 _,λ_ h=>by cases h⟩
theorem fY.keep {w e:af} {S:Nat->Prop} {h:Hd} {f:List RA} (c:fY w S h f) {l:List Nat} (k:Kp l w e) (g:∀d∈l,¬S d):fY e S h f:=
 ⟨⟨c.a.1.kp k (λd f j m=>g d m (c.i d f j)),λd f=>⟨pM e (c.b d f),(c.a.2 d f).2⟩⟩,c.i,c.b,c.l⟩
theorem fY.none_ (w:af) (S:Nat->Prop):fY w S aJ []:=⟨⟨aF.none_ w 6 _,λ_ h=>by cases h⟩,aS.none_ _ _ _,(λ_ h=>by cases h),by show 0<=_;omega⟩
theorem j1 {b d:af} {e m n:Nat} {c:bb} {v:ay} {xs:bg} {row:Option Nat} (f:b.ownsRow e c m v n xs) (k:b.grownBy d row) (l:∀a,v.ownBlock=some a->row≠some a):d.ownsRow e c m v n xs:=by
 refine⟨f.1,?_⟩;rcases f.2 with h|⟨a,o,g,i,p,j,q⟩
 ·exact .inl h
 have b:a<b.heap.size:=J.lt (t:=c) (cs:=g) j;exact .inr ⟨a,o,g,i,p,(k.block a b (λb=>l a (by rw[i];rfl) b.symm)).trans j,q⟩
theorem j2 {c:af} {g i:Nat} {e b:bb} {j k l m:Nat} {v f:ay} {xs n:bg} (o:c.ownsRow g e j v l xs) (p:c.ownsRow i b k f m n) (q:e≠b):∀c,f.ownBlock=some c->v.ownBlock≠some c:=by
 intro c a;rcases p.2 with⟨d,_⟩|⟨u,w,r,d,_,s,_⟩
 ·rw[d]at a;cases a
 rw[d]at a;injection a with a
 subst a;exact lm o (t:=b) (cs:=r) s q
def rt (c:Nat) (p:List Int×List At) (v:ay) (a:af):Prop:=
 ∃(b d:Hd) (e:List RA),v=.tuple #[b.val,d.val]/\dQ a b p.1/\aS (Bw c a.heap.size) b/\p.1.length<=5001/\e.length<=5001/\e.map RA.at_=p.2/\fY a (Bw c a.heap.size) d e/\a.ownsRow c 111 6 d.val d.n (e.flatMap RA.cells)/\a.ownsRow c 3 1 b.val b.n (p.1.flatMap cj)
theorem BM (a:Int) (b:List At) (c:List Int) (e:List At) (d:aw) (f:bm):fz a b c e (d::f)=(ee a b d).bind λd=>RO.ap (!c.any λg=>decide (g=d)) 9 a (fz a b (c++[d]) (e++[cE b d]) f):=rfl
theorem pN {l:List At} {c:Int} {a:aw} {b:Int} (h:ee c l a=.ok b):∃k:Nat,b=k/\k<l.length:=by
 have d:=lr (λb:At=>decide (b.name=a)) l;unfold ee RO.ap at h;split at h
 ·rename_i b
  have b:0<=ed l a:=by simpa using b
  injection h with h
  subst h;refine⟨(ed l a).toNat,by omega,?_⟩;have:ed l a<l.length:=d.2;omega
 cases h
theorem Tryz.infoAt:(Tryz.prog.info? 111).map (λi=>(i.zero,i.size,i.bytes))=some (some (.agg #[ah,O 0,aa,O 0,O 0,ah]),6,80):=ak
theorem RA.uD (a:RA):a.cells.length=6:=rfl
theorem uE (Q:Nat) (h:Hd) (k:List RA) (a0:Hd) (l:bm) (at_:Int) (d:af) (a1:Q<d.heap.size) (a2:ac d (ab Q 8) at_) (a:fu d h k) (bO:∀x∈k,gL x) (am:b4 d a0 l) (cR:l.length<=5001):
 Calls Tryz.prog 273 #[aj Q,h.val,a0.val] d λe w'=>RP [] d (fz at_ (k.map RA.at_) [] [] l) (rt d.heap.size) e w':=by
 obtain⟨a3,a4,a5,a6,a7⟩:=info_parts Tryz.rc;obtain⟨a8,a9,bf,bh,bi⟩:=info_parts Tryz.infoAt;obtain⟨an,bP,bj⟩:=h;obtain⟨bQ,bS,nc⟩:=a0;have cp:l.length=bS:=am.1.1;have a0:bS<=9223372036854775807:=am.1.2.1;have cq:k.length=bP:=a.1.1;have a0:bP<=9223372036854775807:=a.1.2.1;subst cp cq;have bk:=Z a;have cr:=Z am;have cs:=Z bO;have ct:=Z a2;have a0:=Z (λ(f:aw) (c:af) (b:ag d c)=>pv Q ⟨an,k.length,bj⟩ k f at_ c (aT a1 b.size) ((b.cell a1).trans a2) (a.same b));have cu:Hid (∀(c:aw) (b:af),ag d b->Calls Tryz.prog 272 #[aj Q,U an k.length bj,c] b λe w'=>RP [] b (ee at_ (k.map RA.at_) c) g7 e w'):=a0;clear a0 a am bO a2;obtain⟨ao,am⟩:=aq (fz at_ (k.map RA.at_) [] [] l);rw[<-am];have bT:=Z am;clear am;have bU:=Z (Kp.refl [] d);show Calls Tryz.prog 273 #[aj Q,U an k.length bj,U bQ l.length nc] d _;go_enter Tryz.func273,Tryz.ntmps273
 go_wp2;go_loopg [6,7,13] (l.length+1) (λq r t u wr=>∃(b:Nat) (f:List Int) (c:List RA) (g:aX) (n:Nat) (o:aX) (p:Nat),u=.int .i64 b/\r=.slice g b n/\t=.slice o b p/\b<=l.length/\l.length-b<q/\f.length=b/\c.length=b/\Hid (wr.ownsRow d.heap.size 3 1 (U g b n) b (f.flatMap cj))/\Hid (wr.ownsRow d.heap.size 111 6 (U o b p) b (c.flatMap RA.cells))/\Hid (∀x∈c,gL x/\aG x.at_.name/\aG x.at_.dflt.s)/\Hid (Kp [] d wr)/\Hid (ao=fz at_ (k.map RA.at_) f (c.map RA.at_) (l.drop b)))
 case atStart=>exact⟨0,[],[],none,0,none,0,rfl,rfl,rfl,by omega,by omega,rfl,rfl,Z ⟨rfl,.inl ⟨rfl,rfl⟩⟩,Z ⟨rfl,.inl ⟨rfl,rfl⟩⟩,Z (λx b=>by cases b),bU,bT⟩
 obtain⟨c,y,C,E,F,I,L,rfl,rfl,rfl,cS,bV,bW,bX,X,Y,R,M,ar⟩:=hrel;have S:=Z bV;have T:=Z bW;have V:=Z bX;clear bV bW bX bT bU;have bY:=Z (bk.same M.same);have bZ:=Z (cr.same M.same);by_cases b0:c<l.length
 case neg=>
  have f:¬(c:Int)<l.length:=ae
  have b:=Z (show ao=.ok (y,C.map RA.at_) by rw[ar.out,List.drop_of_length_le ae];rfl);clear ar;go_wp2;refine bodyPost_ret (v:=.tuple #[U E c F,U I c L]) (by simp[results,Tryz.results273,go_sem]) rfl ?_;rw[b.out];have b:∀(b:aX) (f g:Nat) (e:bb) (n:Nat) (o:bg),wr.ownsRow d.heap.size e n (U b f g) f o->aS (Bw d.heap.size wr.heap.size) ⟨b,f,g⟩:=λb f g e n o o n p q=>b3 o n (by show(Value.slice b f g).ownBlock=_;have b:b=some ⟨n,p,none⟩:=q;rw[b];rfl);exact⟨M,_,rfl,⟨E,c,F⟩,⟨I,c,L⟩,C,rfl,cF (h:=⟨E,c,F⟩) cj.len T (by show c<=_;omega) X,b _ _ _ _ _ _ X,by show y.length<=_;have:=T.out;omega,by have:=V.out;omega,rfl,⟨⟨cF (h:=⟨I,c,L⟩) RA.uD V.out (by show c<=_;omega) Y.out,λx f=>⟨pM wr (R.out x f).1,(R.out x f).2⟩⟩,b _ _ _ _ _ _ Y.out,(λx b=>(R.out x b).1),by have:=V.out;omega⟩,Y.out,X.out⟩
 have Q:(c:Int)<l.length:=ae
 obtain⟨Q,of,am,a0,b2⟩:=bZ.1.one c b0 (v:=.string l[c]) rfl;have bn:bQ=some ⟨Q,of,none⟩:=am;obtain⟨b5,Q⟩:=aq (l[c]);rw[<-Q]at b2;have b6:=Z (show ao=(ee at_ (k.map RA.at_) b5).bind λb=>RO.ap (!y.any λf=>decide (f=b)) 9 at_ (fz at_ (k.map RA.at_) (y++[b]) (C.map RA.at_++[cE (k.map RA.at_) b]) (l.drop (c+1))) by rw[ar.out,List.drop_eq_getElem_cons b0,BM,<-Q]);clear ar Q am;subst bn;have b7:=Z (Kp.refl [] wr);go_wp2_with fail
 refine dC b6 (cu b5 wr M.same) (eL M) ?_;intro a Q N b8 O b9 ax;have cv:Q=.int .i64 a:=b9;subst cv;obtain⟨b,cw,ca⟩:=pN b8;subst cw;have az:b<k.length:=by simpa using ca
 clear ca b9 b8;have D:=Z (M.trans ax);have cx:=Z (bY.same ax.same);have bp:=Z (b7.trans ax);have Q:=D.size;clear ax;clear b2;have bq:=(D.cell a1 ai).trans ct;have aE:=Z (aH bp.same X);have br:=Z (aH bp.same Y);have Q:=cF (h:=⟨E,c,F⟩) cj.len T (by show c<=_;omega) aE;have aW:Hid (Calls Tryz.prog 188 #[U E c F,(b:Int)] N λe w'=>e=.returned (.bool (y.any λf=>decide (f=(b:Int))))/\N=w'):=Z (o9 ⟨E,c,F⟩ y (b:Int) N Q);have am:=Z (show ao=RO.ap (!y.any λf=>decide (f=(b:Int))) 9 at_ (fz at_ (k.map RA.at_) (y++[(b:Int)]) ((C++[k[b]]).map RA.at_) (l.drop (c+1))) by rw[O.out,jY k b az,List.map_append];rfl);clear b6 O Q;have O:=am;clear am;generalize (y.any λf=>decide (f=(b:Int)))=cy at aW O;cases cy
 case true=>
  go_wp2_with (first|(go_at_call 188;refine aW.out.mono ?_;rintro e w' ⟨rfl,rfl⟩)|fail)
  exact bv D O bq
 go_wp2_with (first|(go_at_call 188;refine aW.out.mono ?_;rintro e w' ⟨rfl,rfl⟩)|fail)
 refine bJ D O bq λaY=>?_;clear aW O bq;obtain⟨ba,f,O,cz,bs,bt,bu,bw,bx,bz⟩:=iq bk b az;have bn:an=some ⟨ba,f,none⟩:=O;have Q:(b:Int)<k.length:=ae
 have Q:(0:Int)<=b:=ae
 have aZ:=Z (show gL k[b]/\aG k[b].at_.name/\aG k[b].at_.dflt.s from⟨cs _ (List.getElem_mem az),(bk.2 _ (List.getElem_mem az)).2⟩);obtain⟨cA,k⟩:=aq (k[b]);rw[<-k]at bs bt bu bw bx bz aZ aY;clear k O;obtain⟨⟨n,o,bA,⟨p,q,r⟩⟩,⟨t,u,w⟩⟩:=cA;have B:=cz;have bB:ac d (ab ba (f+b*6)) n:=bs;have cb:=(D.cell B ai).trans bB;have bC:ac d (ab ba (f+b*6+1)) o:=bt;have cc:=(D.cell B ai).trans bC;have bD:ac d (ab ba (f+b*6+2)) (U t u w):=bu;have cd:=(D.cell B ai).trans bD;have bE:ac d (ab ba (f+b*6+3)) p:=bw;have ce:=(D.cell B ai).trans bE;have bF:ac d (ab ba (f+b*6+4)) q:=bx;have cf:=(D.cell B ai).trans bF;have bG:ac d (ab ba (f+b*6+5)) r:=bz;have cg:=(D.cell B ai).trans bG;have k:IntKind.i64.wrap ((c:Int)+1)=(c:Int)+1:=IntWalk.i64_in _ ae;clear bs bt bu bw bx bz;subst bn;go_upto_region 6 with(fail)
 refine tr 13 cb cc cd ce cf cg λhS=>?_;refine lO ?_;refine tk 4 hS ?_;refine rr ?_;have g:=Z (λ(g:af) (k:Kp [] d g)=>show ac g (ab ba (f+b*6)) n/\ac g (ab ba (f+b*6+1)) o/\ac g (ab ba (f+b*6+2)) (U t u w)/\ac g (ab ba (f+b*6+3)) p/\ac g (ab ba (f+b*6+4)) q/\ac g (ab ba (f+b*6+5)) r from⟨(k.cell B ai).trans bB,(k.cell B ai).trans bC,(k.cell B ai).trans bD,(k.cell B ai).trans bE,(k.cell B ai).trans bF,(k.cell B ai).trans bG⟩);clear bB bC bD bE bF bG cb cc cd ce cf cg hS;have aa:=b3 aE;have bH:=b3 br;obtain⟨z,k⟩:=aq N.drew;have ch:=Z (show Kp [] d z by rw[k];exact D.out.drew);have ci:=Z (show z.ownsRow d.heap.size 3 1 (U E c F) c (y.flatMap cj) by rw[k];exact aH ((ag.refl N).drew) aE.out);have ck:=Z (show z.ownsRow d.heap.size 111 6 (U I c L) c (C.flatMap RA.cells) by rw[k];exact aH ((ag.refl N).drew) br.out);have cl:N.heap.size<=z.heap.size:=by rw[k];exact Nat.le_refl _
 rw[<-k];clear k aE br X Y bY cx bZ M b7 bp;refine nF (i:=2) (j:=9) (oi:=?ah) (oj:=?ay) ak ?aB ?aC ?aD ?aF ?aI ?aJ
 case aB=>simp only[bc,bd,be];rfl
 case aC=>rfl
 case aD=>simp only[bc,bd,be];rfl
 case aF=>rfl
 case aI=>
  intro K A;go_simp;have B:=Z (ch.alloc (.cells #[(b:Int)] 3));refine A _ _ (λ_=>g _ B) ?_;refine av ?_;have k:=Z ((ag.refl z).alloc (.cells #[(b:Int)] 3));have D:=Z (J.new z 3 #[(b:Int)]);obtain⟨W,M⟩:=aq (z.alloc (.cells #[(b:Int)] 3));rw[<-M]at B k D⊢;clear M;have cm:=B;have bI:=Z (aH k ci);have bK:=Z (aH k ck);have cB:=bR cl k.size;have bL:=D;refine nF (i:=3) (j:=9) (oi:=?aL) (oj:=?aM) ak ?aN ?aP ?aQ ?aR ?aU ?aV
  case aN=>simp only[bc,bd,be];rfl
  case aP=>rfl
  case aQ=>simp only[bc,bd,be];rfl
  case aR=>rfl
  case aU=>
   intro K A;have k:=Z (jd bL (m:=1) rfl);have B:=J.lt bL;have cC:=Z (j2 bK bI au);refine c7 W (.tmp 27) (.tmp 29) 60 rfl d.heap.size 3 a3 _ 1 8 Tryz.underlying60 a4 a5 a6 a7 rfl au (U E c F) c (y.flatMap cj) rfl bI (z.heap.size+1) (some ⟨z.heap.size,0,none⟩) 1 1 ((_:aO).toList) rfl k bl b1 ae ae ?_;intro cD ad P G bM;obtain⟨cG,cH,rfl,bN⟩:=bo P;have B:=Z P;have k:=Z G;clear P G bM bN;have cn:=Z (cm.grown k (λD G=>.inr (aa D G).1));refine A _ _ (λ_=>g _ cn) ?_;refine av ?_;have cI:=B;have cJ:=Z (j1 bK k (λB D e=>cC B e D));have k:=bR cB k.size;refine aK 9 (λK A=>?_);go_simp;have k:=Z (cn.alloc (.cells #[n,o,U t u w,p,q,r] 111));refine A _ _ (λ_=>g _ k) ?_;refine av ?_;have B:=Z ((ag.refl ad).alloc (.cells #[n,o,U t u w,p,q,r] 111));have D:=Z (J.new ad 111 #[n,o,U t u w,p,q,r]);obtain⟨N,M⟩:=aq (ad.alloc (.cells #[n,o,U t u w,p,q,r] 111));rw[<-M]at k B D⊢;clear M;have cK:=k;have co:=Z (aH B cI);have k:=Z (aH B cJ);have B:=D;refine aK 10 (λK A=>?_);have D:=Z (jd B (m:=6) rfl);have B:=J.lt B;have cL:=Z (j2 co k au);refine c7 N (.tmp 31) (.tmp 36) 79 rfl d.heap.size 111 a8 _ 6 80 Tryz.underlying79 a9 bf bh bi rfl au (U I c L) c (C.flatMap RA.cells) rfl k (ad.heap.size+1) (some ⟨ad.heap.size,0,none⟩) 1 1 ((_:aO).toList) rfl D bl b1 ae ae ?_;intro cD cM P G bM;obtain⟨cN,cO,rfl,bN⟩:=bo P;have B:=Z P;have k:=Z G;clear P G bM bN;have H:=Z (cK.grown k (λD G=>.inr (bH D G).1));refine A _ _ (λ_=>g _ H) ?_;refine av ?_;have cP:=B;have cQ:=Z (j1 co k (λk B e=>cL k e B));have k:(λw':World=>ac w' (ab ba (f+b*6)) n/\ac w' (ab ba (f+b*6+1)) o/\ac w' (ab ba (f+b*6+2)) (U t u w)/\ac w' (ab ba (f+b*6+3)) p/\ac w' (ab ba (f+b*6+4)) q/\ac w' (ab ba (f+b*6+5)) r) cM:=⟨(g _ H).1,(g _ H).2.1,(g _ H).2.2.1,(g _ H).2.2.2.1,(g _ H).2.2.2.2.1,(g _ H).2.2.2.2.2⟩;refine tk 11 k ?_;refine tk 12 k ?_;refine gH ak ?_ _;go_wp2_with fail
   go_roundg (l.length-c)
   case measure=>have:=S.out;omega
   refine⟨c+1,y++[(b:Int)],C++[(⟨⟨n,o,bA,⟨p,q,r⟩⟩,⟨t,u,w⟩⟩:RA)],cG,cH,cN,cO,by go_num,rfl,rfl,by omega,by have:=S.out;omega,by rw[List.length_append,T.out];rfl,by rw[List.length_append,V.out];rfl,Z ?_,Z ?_,Z ?_,H,aY⟩
   ·rw[List.flatMap_append];exact cQ.out
   ·rw[List.flatMap_append];exact cP.out
   intro x al;rcases cY al with al|al
   ·exact R x al
   rw[aA al];exact aZ.out
  intro K A;go_simp;have B:=Z (cm.alloc (.cells #[n,o,U t u w,p,q,r] 111));refine A _ _ (λ_=>g _ B) ?_;refine av ?_;have k:=Z ((ag.refl W).alloc (.cells #[n,o,U t u w,p,q,r] 111));have D:=Z (J.new W 111 #[n,o,U t u w,p,q,r]);obtain⟨N,M⟩:=aq (W.alloc (.cells #[n,o,U t u w,p,q,r] 111));rw[<-M]at B k D⊢;clear M;have cC:=B;have B:=Z (aH k bI);have bN:=Z (aH k bK);have k:=qb k bL;have cD:=D;refine aK 3 (λK A=>?_);have D:=Z (jd k (m:=1) rfl);have k:=J.lt k;have cG:=Z (j2 bN B au);refine c7 N (.tmp 27) (.tmp 29) 60 rfl d.heap.size 3 a3 _ 1 8 Tryz.underlying60 a4 a5 a6 a7 rfl au (U E c F) c (y.flatMap cj) rfl B (z.heap.size+1) (some ⟨z.heap.size,0,none⟩) 1 1 ((_:aO).toList) rfl D bl b1 ae ae ?_;intro cH cI P G al;obtain⟨cJ,cK,rfl,bM⟩:=bo P;have B:=Z P;have k:=Z G;clear P G al bM;have cn:=Z (cC.grown k (λD G=>.inr (aa D G).1));refine A _ _ (λ_=>g _ cn) ?_;refine av ?_;have co:=B;have B:=Z (j1 bN k (λB D e=>cG B e D));have k:=Z (J.grown cD k (λe=>by have:=aa _ e.symm;omega));refine aK 10 (λK A=>?_);have D:=Z (jd k (m:=6) rfl);have k:=J.lt k;have cL:=Z (j2 co B au);refine c7 cI (.tmp 31) (.tmp 36) 79 rfl d.heap.size 111 a8 _ 6 80 Tryz.underlying79 a9 bf bh bi rfl au (U I c L) c (C.flatMap RA.cells) rfl B (W.heap.size+1) (some ⟨W.heap.size,0,none⟩) 1 1 ((_:aO).toList) rfl D bl b1 ae ae ?_;intro cH cM P G al;obtain⟨cN,cO,rfl,bM⟩:=bo P;have B:=Z P;have k:=Z G;clear P G al bM;have H:=Z (cn.grown k (λD G=>.inr (bH D G).1));refine A _ _ (λ_=>g _ H) ?_;refine av ?_;have cP:=B;have cQ:=Z (j1 co k (λk A e=>cL k e A));have k:(λw':World=>ac w' (ab ba (f+b*6)) n/\ac w' (ab ba (f+b*6+1)) o/\ac w' (ab ba (f+b*6+2)) (U t u w)/\ac w' (ab ba (f+b*6+3)) p/\ac w' (ab ba (f+b*6+4)) q/\ac w' (ab ba (f+b*6+5)) r) cM:=⟨(g _ H).1,(g _ H).2.1,(g _ H).2.2.1,(g _ H).2.2.2.1,(g _ H).2.2.2.2.1,(g _ H).2.2.2.2.2⟩;refine tk 11 k ?_;refine tk 12 k ?_;refine gH ak ?_ _;go_wp2_with fail
  go_roundg (l.length-c)
  case measure=>have:=S.out;omega
  refine⟨c+1,y++[(b:Int)],C++[(⟨⟨n,o,bA,⟨p,q,r⟩⟩,⟨t,u,w⟩⟩:RA)],cJ,cK,cN,cO,by go_num,rfl,rfl,by omega,by have:=S.out;omega,by rw[List.length_append,T.out];rfl,by rw[List.length_append,V.out];rfl,Z ?_,Z ?_,Z ?_,H,aY⟩
  ·rw[List.flatMap_append];exact cQ.out
  ·rw[List.flatMap_append];exact cP.out
  intro x ad;rcases cY ad with ad|ad
  ·exact R x ad
  rw[aA ad];exact aZ.out
 intro K H;go_simp;have B:=Z (ch.alloc (.cells #[n,o,U t u w,p,q,r] 111));refine H _ _ (λ_=>g _ B) ?_;refine av ?_;have k:=Z ((ag.refl z).alloc (.cells #[n,o,U t u w,p,q,r] 111));have D:=Z (J.new z 111 #[n,o,U t u w,p,q,r]);obtain⟨W,M⟩:=aq (z.alloc (.cells #[n,o,U t u w,p,q,r] 111));rw[<-M]at B k D⊢;clear M;have bN:=B;have cm:=Z (aH k ci);have cn:=Z (aH k ck);have k:=bR cl k.size;have co:=D;refine aK 2 (λK H=>?_);go_simp;have B:=Z (bN.alloc (.cells #[(b:Int)] 3));refine H _ _ (λ_=>g _ B) ?_;refine av ?_;have k:=Z ((ag.refl W).alloc (.cells #[(b:Int)] 3));have D:=Z (J.new W 3 #[(b:Int)]);obtain⟨N,M⟩:=aq (W.alloc (.cells #[(b:Int)] 3));rw[<-M]at B k D⊢;clear M;have cB:=B;have B:=Z (aH k cm);have bK:=Z (aH k cn);have cC:=qb k co;have k:=D;refine aK 3 (λK H=>?_);have D:=Z (jd k (m:=1) rfl);have k:=J.lt k;have cD:=Z (j2 bK B au);refine c7 N (.tmp 27) (.tmp 29) 60 rfl d.heap.size 3 a3 _ 1 8 Tryz.underlying60 a4 a5 a6 a7 rfl au (U E c F) c (y.flatMap cj) rfl B (W.heap.size+1) (some ⟨W.heap.size,0,none⟩) 1 1 ((_:aO).toList) rfl D bl b1 ae ae ?_;intro cG cH P A al;obtain⟨cI,cJ,rfl,bI⟩:=bo P;have B:=Z P;have k:=Z A;clear P A al bI;have bL:=Z (cB.grown k (λD A=>.inr (aa D A).1));refine H _ _ (λ_=>g _ bL) ?_;refine av ?_;have bM:=B;have B:=Z (j1 bK k (λB D e=>cD B e D));have k:=Z (J.grown cC k (λe=>by have:=aa _ e.symm;omega));refine aK 10 (λK H=>?_);have D:=Z (jd k (m:=6) rfl);have k:=J.lt k;have cK:=Z (j2 bM B au);refine c7 cH (.tmp 31) (.tmp 36) 79 rfl d.heap.size 111 a8 _ 6 80 Tryz.underlying79 a9 bf bh bi rfl au (U I c L) c (C.flatMap RA.cells) rfl B (z.heap.size+1) (some ⟨z.heap.size,0,none⟩) 1 1 ((_:aO).toList) rfl D bl b1 ae ae ?_;intro cG cL P A al;obtain⟨cM,cN,rfl,bI⟩:=bo P;have k:=Z P;have d:=Z A;clear P A al bI;have G:=Z (bL.grown d (λz A=>.inr (bH z A).1));refine H _ _ (λ_=>g _ G) ?_;refine av ?_;have cO:=k;have cP:=Z (j1 bM d (λd k e=>cK d e k));have d:(λw':World=>ac w' (ab ba (f+b*6)) n/\ac w' (ab ba (f+b*6+1)) o/\ac w' (ab ba (f+b*6+2)) (U t u w)/\ac w' (ab ba (f+b*6+3)) p/\ac w' (ab ba (f+b*6+4)) q/\ac w' (ab ba (f+b*6+5)) r) cL:=⟨(g _ G).1,(g _ G).2.1,(g _ G).2.2.1,(g _ G).2.2.2.1,(g _ G).2.2.2.2.1,(g _ G).2.2.2.2.2⟩;refine tk 11 d ?_;refine tk 12 d ?_;refine gH ak ?_ _;go_wp2_with fail
 go_roundg (l.length-c)
 case measure=>have:=S.out;omega
 refine⟨c+1,y++[(b:Int)],C++[(⟨⟨n,o,bA,⟨p,q,r⟩⟩,⟨t,u,w⟩⟩:RA)],cI,cJ,cM,cN,by go_num,rfl,rfl,by omega,by have:=S.out;omega,by rw[List.length_append,T.out];rfl,by rw[List.length_append,V.out];rfl,Z ?_,Z ?_,Z ?_,G,aY⟩
 ·rw[List.flatMap_append];exact cP.out
 ·rw[List.flatMap_append];exact cO.out
 intro x ad;rcases cY ad with ad|ad
 ·exact R x ad
 rw[aA ad];exact aZ.out
end Go.Proofs.YteamkimbmdgdbaaGreatDoor

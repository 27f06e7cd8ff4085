import Derived.Test.YteamkimbmdgdbaaGreatDoorK14
set_option linter.unusedSimpArgs false
set_option linter.unusedVariables false
set_option maxHeartbeats 16000000
set_option maxRecDepth 100000
namespace Go.Proofs.YteamkimbmdgdbaaGreatDoor
open Go.RowKit
def lT (p:Sd×Int) (v:ay) (_:af):Prop:=v=.tuple #[.agg p.1.cells.toArray,p.2]
theorem BG {g:Type} {e:List Nat} {c:af} {i:FuncId} {j:aO} {f:Ending->World->Prop} {d:RO g} {V:g->Value->World->Prop} (l:Calls Tryz.prog i j c (λg b=>RP e c d V g b))
 (m:∀er a b,d=.bad er a->Hid (Kp e c b)->f (.panicked [{v:=eY er a,recovered:=false}]) b)
 (n:∀a v b,d=.ok a->V a v b->Hid (Kp e c b)->f (.returned v) b):Calls Tryz.prog i j c f:=by
 refine l.mono ?_;rintro g b ⟨k,h⟩;cases hr:d with
 |bad er a=>rw[hr]at h;subst h;exact m er a b hr (Z k)
 |ok a=>rw[hr]at h;obtain⟨v,rfl,o⟩:=h;exact n a v b hr o (Z k)
theorem lU {a:af} {c:Nat} {d:aO} {b:Addr} (f:b.block<a.heap.size) (g:b.block≠c):(a.setRow c d).cell? b=a.cell? b:=
 World.cell?_of_block ((jZ a c d).block _ f (λe=>g (by injection e with e)))
def n8 (c:FuncId) (d:aO) (e:af) (f:dG->RO (Sd×Int)) (b:dG):Prop:=
 ∀a,ag e a->Calls Tryz.prog c (#[.agg b.cells.toArray]++d) a λc d=>RP [] a (f b) lT c d
theorem BH (s r Bw:Nat) (j:FuncId) (z:aO) (d:∀d a,(callFunc j d).run Tryz.prog a=.ok (.enter j d) a) (m:dG->RO (Sd×Int)) (d:dG) (at_:Int) (a:af) (ax:r<a.heap.size) (N:Bw<a.heap.size) (aA:s<a.heap.size)
 (P:ac a (ab r 0) (.func (.func j) #[] z)) (Q:ac a (ab Bw 0) (aj s)) (R:ac a (ab s 8) at_) (S:n8 j z a m d):
 Calls Tryz.prog 270 #[.agg d.cells.toArray,aj r,aj Bw] a λe w'=>RP [] a (jK at_ m d) lT e w':=by
 have s:Hid (jK at_ m d=if d.c then RO.ap d.v.ok 2 at_ (.ok (⟨-1,0,d.v⟩,d.v.k))else m d):=Z rfl;obtain⟨t,T⟩:=aq (jK at_ m d);rw[<-T]at s⊢;clear T;obtain⟨U,T⟩:=aq (m d);have m:=Z S;unfold n8 at m;rw[<-T]at m s;clear T S;obtain⟨S,T,A,⟨b,f,g⟩⟩:=d;have W:Hid (∀d,ag a d->Calls Tryz.prog j (#[.agg #[S,T,A,b,f,g]]++z) d λe w'=>RP [] d U lT e w'):=m;have u:=s;clear m s;have aB:=Z (Kp.refl [] a);have aC:=Z P;have X:=Z Q;have aD:=Z R;clear P Q R;show Calls Tryz.prog 270 #[.agg #[S,T,A,b,f,g],aj r,aj Bw] a _;go_enter Tryz.func270,Tryz.ntmps270
 go_upto_region 1 with(fail)
 obtain⟨z,m,s,d,r⟩:=nb a 284 _;rw[m];clear m;have z:=qk aB d;clear d;obtain⟨B,m,Y,d,P⟩:=nc r 71 _;rw[m];clear m;have n:=qk z d;have i:=qb d s;clear d;have aa:=az i;have ad:=aY i;have ae:=bh i;have C:=bj i;have D:=bn i;have E:=bQ i;have al:=(n.cell ax ai).trans aC;have F:=(n.cell N ai).trans X;clear r P;cases A
 case false=>
  have G:Hid (t=U):=u;clear u;go_wp2_with fail
  refine BG (W B n.same) ?au ?ay
  case au=>
   intro m o d d p;have HX:=Z (show t=.bad m o by rw[G.out,d]);clear d;go_wp2;refine⟨rfl,?_⟩;rw[HX.out];exact⟨n.trans p,rfl⟩
  intro d s m m r p;have an:=Z (show t=.ok d by rw[G.out,m]);clear m G;obtain⟨⟨q,w,⟨sk,x,y⟩⟩,I⟩:=d;have ao:s=.tuple #[.agg #[q,w,sk,x,y],I]:=r;clear r;subst ao;have ar:=Z (n.trans p);have aw:=qo p i;have L:=qo p Y;clear p al F aa ad ae C D E;go_wp2_with (first|(refine wpList_store_row rfl 71 (.tmp 4) (.tmp 12) rfl (a.heap.size+1) #[q,w,sk,x,y] rfl rfl 71 #[O 0,O 0,O 0,O 0,ah] L.out ak rfl bl ?_)|fail)
  obtain⟨m,d,o,H⟩:=jk L #[q,w,sk,x,y];rw[d];clear d;have M:=Z (ar.grown H (λj M=>.inr (by injection M with M;omega)));have aJ:=Z (J.grown aw H (λe=>by injection e with e;omega));clear H;have aE:=az o;have aF:=aY o;have aG:=bh o;have aH:=bj o;have aI:=bn o;refine bodyPost_ret (v:=.tuple #[.agg #[q,w,sk,x,y],I]) ?_ rfl ?_
  ·simp[results,Tryz.results270,go_sem,aE,aF,aG,aH,aI]
  rw[an.out];exact⟨M,_,rfl,rfl⟩
 have y:Hid (t=RO.ap (V.ok ⟨b,f,g⟩) 2 at_ (.ok (⟨-1,0,⟨b,f,g⟩⟩,b))):=u;clear u W;have G:Hid (Rs 42 #[.agg #[b,f,g]] (.bool (V.ok ⟨b,f,g⟩))):=Z (λd=>ng ⟨b,f,g⟩ d);obtain⟨aE,d⟩:=aq (V.ok ⟨b,f,g⟩);rw[<-d]at G y;clear d;go_upto_region 3 with(fail)
 refine kH 5 F C D E λhS=>?_;refine cJ ?_;refine aK 3 (λK l=>?_);go_simp;refine(G B.drew).mono ?_;rintro e an ⟨rfl,o⟩;have o:=Z (((ag.refl B).drew).trans o);have p:=qk n o;have w:=qb o i;have aF:=qb o Y;clear o G;have ao:=(p.cell N ai).trans X;have H:=(p.cell aA ai).trans aD;have I:=bj w;have L:=bn w;have M:=bQ w;try go_simp
 refine nP l ⟨ao,I,L,M⟩ λx=>?_;refine av ?_;cases aE
 case false=>
  have hS:=x;clear x;refine aK 4 (λK l=>?_);go_simp;exact bv p y H
 have hS:=x;clear x;refine aK 4 (λK l=>?_);go_simp;refine bJ p y H λaG=>?_;try go_simp
 refine l _ _ (λ_=>hS) ?_;refine av ?_;refine b2 ?_;refine bV ?_;clear hS al F aa ad ae C D E ao H;go_upto_region 4 with(fail)
 have d:=Z ((ag.refl an).drew);refine gr 8 I L M λhS=>?_;refine cJ ?_;refine gt ?_;refine tk 5 hS ?_;obtain⟨n,i⟩:=aq an.drew;rw[<-i]at d hS⊢;clear i;have o:=qk p d;have i:=qb d w;have m:=qb d aF;clear I L M;have d:=bj i;have p:=bn i;have r:=bQ i;have i:=J.lt i;have d:(λw':World=>ac w' (am a 3) b/\ac w' (am a 4) f/\ac w' (am a 5) g) (n.setRow ((a.heap.size+1)) #[O (-1),O 0,b,f,g]):=⟨(lU (by show a.heap.size<_;omega) (by show a.heap.size≠_;omega)).trans d,(lU (by show a.heap.size<_;omega) (by show a.heap.size≠_;omega)).trans p,(lU (by show a.heap.size<_;omega) (by show a.heap.size≠_;omega)).trans r⟩;refine aK 6 (λK l=>?_);refine wp_store_row 71 (.tmp 4) (.tmp 21) rfl ((a.heap.size+1)) _ rfl rfl 71 _ m ak rfl bl (l _ _ (λ_=>d) ?_);refine av ?_;refine tk 7 d ?_;refine gH ak ?_ _;clear d;obtain⟨d,a,q,ar⟩:=jk m #[O (-1),O 0,b,f,g];rw[a];clear a;have aw:=Z (o.grown ar (λj aw=>.inr (by injection aw with aw;omega)));clear ar;clear hS;have aH:=az q;have aI:=aY q;have aJ:=bh q;have aL:=bj q;have aM:=bn q;go_wp2_with fail
 refine bodyPost_ret (v:=.tuple #[.agg #[O (-1),O 0,b,f,g],b]) ?_ rfl ?_
 ·simp[results,Tryz.results270,go_sem,aH,aI,aJ,aL,aM]
 rw[aG.out];exact⟨aw,_,rfl,rfl⟩
def rl (a:cT) (b:ay) (_:af):Prop:=b=.agg a.cells.toArray
theorem uw (f:Nat) (g:FuncId) (i:aO) (ao:∀t w,(callFunc g t).run Tryz.prog w=.ok (.enter g t) w) (k:dG->RO (Sd×Int)) (s:bB) (at_:Int) (w:af) (u:f<w.heap.size)
 (P:ac w (ab f 8) at_) (ar:n8 g i w k s.l) (au:n8 g i w k s.r):
 Calls Tryz.prog 198 #[aj f,.agg s.cells.toArray,.func (.func g) #[] i] w λe w'=>RP [] w (jL at_ k s) rl e w':=by
 have t:∀t w,(callFunc 270 t).run Tryz.prog w=.ok (.enter 270 t) w:=enters_of Tryz.func270 ak rfl;have aJ:=Z ar;have aL:=Z au;have Q:=Z P;have aw:=Z (λ(m:dG) (b:af) (c:ag w b) (d Bw:Nat) (n:d<b.heap.size) (o:Bw<b.heap.size) (q:ac b (ab d 0) (.func (.func g) #[] i)) (t:ac b (ab Bw 0) (aj f)) (x:n8 g i w k m)=>
  BH f d Bw g i ao k m at_ b n o (aT u c.size) q t ((c.cell (p:=(ab f 8)) u).trans P) (λb d=>x b (c.trans d)))
 obtain⟨R,t⟩:=aq (jL at_ k s);rw[<-t];have aM:=Z t;clear t ar au P;obtain⟨⟨y,z,m,⟨A,B,C⟩⟩,op,⟨D,E,n,⟨F,G,H⟩⟩,ad⟩:=s;obtain⟨t,s⟩:=aq (jK at_ k ⟨y,z,m,⟨A,B,C⟩⟩);obtain⟨P,k⟩:=aq (jK at_ k ⟨D,E,n,⟨F,G,H⟩⟩);have I:=Z (show R=RO.ap (aZ op 1 4) 1 at_ (t.bind λb=>P.bind λc=>RO.ap (aZ ad (-1000000000) 1000000000) 2 at_<|RO.ap (!(m&&n)&&(decide (b.2=c.2)&&(!decide (b.2=0)&&(decide (ad=0)||(decide (b.2=2)||decide (b.2=3)))))) 10 at_<|.ok (⟨b.1,op,c.1,ad⟩:cT)) by rw[s,k];exact aM.out);have ar:=Z (λ(b:af) (c:ag w b) (d Bw:Nat) o q x L=>aw ⟨y,z,m,⟨A,B,C⟩⟩ b c d Bw o q x L aJ);have au:=Z (λ(b:af) (c:ag w b) (d Bw:Nat) o q x L=>aw ⟨D,E,n,⟨F,G,H⟩⟩ b c d Bw o q x L aL);rw[<-s]at ar;rw[<-k]at au;have aN:Hid (∀(b:af),ag w b->∀c Bw,c<b.heap.size->Bw<b.heap.size->ac b (ab c 0) (.func (.func g) #[] i)->ac b (ab Bw 0) (aj f)->Calls Tryz.prog 270 #[.agg #[y,z,m,A,B,C],aj c,aj Bw] b λe w'=>RP [] b t lT e w'):=ar;have aP:Hid (∀(b:af),ag w b->∀c Bw,c<b.heap.size->Bw<b.heap.size->ac b (ab c 0) (.func (.func g) #[] i)->ac b (ab Bw 0) (aj f)->Calls Tryz.prog 270 #[.agg #[D,E,n,F,G,H],aj c,aj Bw] b λe w'=>RP [] b P lT e w'):=au;clear s k ao;have ax:=Z (λb=>fj op 1 4 b);have ay:=Z (λb=>fj ad (-1000000000) 1000000000 b);generalize aZ op 1 4=aQ at ax I;generalize aZ ad (-1000000000) 1000000000=aA at ay I;have aR:=Z (Kp.refl [] w);show Calls Tryz.prog 198 #[aj f,.agg #[y,z,m,A,B,C,op,D,E,n,F,G,H,ad],.func (.func g) #[] i] w _;go_enter Tryz.func198,Tryz.ntmps198
 go_upto_region 1 with(fail)
 obtain⟨y,k,s,b,t⟩:=nb w 154 _;rw[k];clear k;have y:=qk aR b;obtain⟨A,k,t,b,z⟩:=nc t 286 _;rw[k];clear k;have y:=qk y b;have s:=qb b s;obtain⟨B,k,z,b,A⟩:=nc z 288 _;rw[k];clear k;have y:=qk y b;have s:=qb b s;have t:=qb b t;obtain⟨S,k,aS,b,A⟩:=nc A 73 _;rw[k];clear k;have L:=qk y b;have aB:=qb b s;have aC:=qb b t;have aU:=qb b z;go_upto_region 1 with(fail)
 have k:=az aB;have s:=cd aC;have T:=(L.cell (p:=(ab f 8)) u ai).trans Q;refine dB 5 k s λhS=>?_;refine cJ ?_;refine aK 3 (λK j=>?_);go_simp;refine(ax S.drew).mono ?_;rintro e w' ⟨rfl,rfl⟩;try go_simp
 refine j _ _ (λ_=>hS) ?_;refine av ?_;cases aQ
 case false=>
  refine aK 4 (λK j=>?_);go_simp;exact bv L.drew I T
 refine aK 4 (λK j=>?_);go_simp;refine bJ L.drew I T λaV=>?_;try go_simp
 refine j _ _ (λ_=>hS) ?_;refine av ?_;refine b2 ?_;refine bV ?_;clear hS T;have b:=Z ((ag.refl S).drew);obtain⟨aD,k⟩:=aq S.drew;rw[<-k]at b⊢;clear k;have U:=qk L b;have V:=qb b aB;have o:=qb b aC;have W:=qb b aU;have aW:=qb b aS;have aX:=az V;have a0:=J.lt V;have a1:ac aD (ab (w.heap.size+2) 0) (.func (.func g) #[] i):=J.cell W 0;have a2:=J.lt W;have k:=az o;have k:=aY o;have k:=bh o;have k:=bj o;have k:=bn o;have k:=bQ o;go_wp2_with fail
 refine dC aV (aN aD U.same (w.heap.size+2) w.heap.size a2 a0 a1 aX) (eL U) ?_;intro a v X a3 a4 x d;obtain⟨⟨xv,xc,⟨xk,xn,xs⟩⟩,c⟩:=a;have Y:v=.tuple #[.agg #[xv,xc,xk,xn,xs],c]:=x;clear x;subst Y;have a5:=Z (U.trans d);have a6:=qo d V;have a7:=qo d o;have a8:=qo d W;have a9:=qo d aW;clear d;clear a3;go_upto_region 4 with(first|(refine wpList_store_row rfl 71 (.tmp 8) (.tmp 23) rfl X.heap.size #[xv,xc,xk,xn,xs] rfl rfl 71 #[O 0,O 0,O 0,O 0,ah] (J.new X 71 #[O 0,O 0,O 0,O 0,ah]) ak rfl bl ?_;rw[World.setRow_alloc_new])|fail)
 obtain⟨aE,k,ba,b,-⟩:=nb X 71 #[xv,xc,xk,xn,xs];rw[k];clear k;have aa:=qk a5 b;have ae:=qb b a6;have q:=qb b a7;have k:=qb b a8;have bb:=qb b a9;have bf:=az ae;have bg:=J.lt ae;have bi:ac aE (ab (w.heap.size+2) 0) (.func (.func g) #[] i):=J.cell k 0;have bk:=J.lt k;have i:=b7 q;have i:=bN q;have i:=iT q;have i:=ml q;have i:=nk q;have i:=o8 q;go_wp2_with fail
 refine dC a4 (aP aE aa.same (w.heap.size+2) w.heap.size bk bg bi bf) (eL aa) ?_;intro a v al bm aF x d;obtain⟨⟨yv,yc,⟨yk,yn,ys⟩⟩,M⟩:=a;have Y:v=.tuple #[.agg #[yv,yc,yk,yn,ys],M]:=x;clear x;subst Y;have bo:=Z (aa.trans d);have bp:=qo d ae;have bq:=qo d q;have br:=qo d bb;have bs:=qo d ba;clear d;clear bm;go_upto_region 5 with(first|(refine wpList_store_row rfl 71 (.tmp 10) (.tmp 30) rfl al.heap.size #[yv,yc,yk,yn,ys] rfl rfl 71 #[O 0,O 0,O 0,O 0,ah] (J.new al 71 #[O 0,O 0,O 0,O 0,ah]) ak rfl bl ?_;rw[World.setRow_alloc_new])|fail)
 obtain⟨am,d,bt,b,-⟩:=nb al 71 #[yv,yc,yk,yn,ys];rw[d];clear d;have N:=qk bo b;have aG:=qb b bp;have aH:=qb b bq;have bu:=qb b br;have bw:=qb b bs;have aI:=Z (show R=RO.ap aA 2 at_ (RO.ap (!(m&&n)&&(decide (c=M)&&(!decide (c=0)&&(decide (ad=0)||(decide (c=2)||decide (c=3)))))) 10 at_ (.ok (⟨⟨xv,xc,⟨xk,xn,xs⟩⟩,op,⟨yv,yc,⟨yk,yn,ys⟩⟩,ad⟩:cT)))from aF);clear aF;go_upto_region 5 with(fail)
 have d:=az aG;have i:=nl aH;have an:=(N.cell (p:=(ab f 8)) u ai).trans Q;refine dB 5 d i λhS=>?_;refine cJ ?_;refine aK 3 (λK j=>?_);go_simp;refine(ay am.drew).mono ?_;rintro e w' ⟨rfl,rfl⟩;try go_simp
 refine j _ _ (λ_=>hS) ?_;refine av ?_;cases aA
 case false=>
  refine aK 4 (λK j=>?_);go_simp;exact bv N.drew aI an
 refine aK 4 (λK j=>?_);go_simp;refine bJ N.drew aI an λE5=>?_;try go_simp
 refine j _ _ (λ_=>hS) ?_;refine av ?_;refine b2 ?_;refine bV ?_;clear hS an;have b:=Z ((ag.refl am).drew);obtain⟨i,d⟩:=aq am.drew;rw[<-d]at b⊢;clear d;have fX:=qk N b;have o:=qb b aG;have d:=qb b aH;have kN:=qb b bu;have i:=qb b bw;have b:=qb b bt;obtain⟨RS,k⟩:∃RS:RO cT,RS=.ok (⟨⟨xv,xc,⟨xk,xn,xs⟩⟩,op,⟨yv,yc,⟨yk,yn,ys⟩⟩,ad⟩:cT):=⟨_,rfl⟩;have pL:=Z k;rw[<-k]at E5;clear k;have k:=az o;have k:=bh d;have k:=cd d;have iy:=bN d;have k:=iT d;have d:=nl d;have iy:=(fX.cell (p:=(ab f 8)) u ai).trans Q;have d:=az i;have d:=aY i;have d:=bh i;have d:=bj i;have d:=bn i;have d:=az b;have d:=aY b;have d:=bh b;have d:=bj b;have b:=bn b;cases m
 case true=>
  cases n
  case true=>
   exact vS
  by_cases bx:c=M
  case neg=>
   exact vS
  subst bx;have b:(c==c)=true:=ai
  by_cases b:c=0
  case pos=>
   have d:(c !=0)=false:=by simp[b]
   have d:decide (c=0)=true:=by simp[b]
   clear b;exact vS
  have b:(c !=0)=true:=by simp[b]
  by_cases b:ad=0
  case pos=>
   have d:(ad==0)=true:=by simp[b]
   have d:decide (ad=0)=true:=by simp[b]
   clear b;exact r9
  have b:(ad==0)=false:=by simp[b]
  by_cases b:c=2
  case pos=>
   have d:(c==2)=true:=by simp[b]
   have d:decide (c=2)=true:=by simp[b]
   clear b;exact r9
  have b:(c==2)=false:=by simp[b]
  by_cases b:c=3
  case pos=>
   have d:(c==3)=true:=by simp[b]
   have d:decide (c=3)=true:=by simp[b]
   clear b;exact r9
  have b:(c==3)=false:=by simp[b]
  have E6:=Z (show R=RO.ap false 10 at_ RS by rw[E5.out];simp[*]);clear E5;go_wp2_with fail
  exact bv fX E6 iy
 by_cases bx:c=M
 case neg=>
  exact vS
 subst bx;have b:(c==c)=true:=ai
 by_cases b:c=0
 case pos=>
  have d:(c !=0)=false:=by simp[b]
  have d:decide (c=0)=true:=by simp[b]
  clear b;exact vS
 have b:(c !=0)=true:=by simp[b]
 by_cases b:ad=0
 case pos=>
  have d:(ad==0)=true:=by simp[b]
  have d:decide (ad=0)=true:=by simp[b]
  clear b;exact r9
 have b:(ad==0)=false:=by simp[b]
 by_cases b:c=2
 case pos=>
  have d:(c==2)=true:=by simp[b]
  have d:decide (c=2)=true:=by simp[b]
  clear b;exact r9
 have b:(c==2)=false:=by simp[b]
 by_cases b:c=3
 case pos=>
  have d:(c==3)=true:=by simp[b]
  have d:decide (c=3)=true:=by simp[b]
  clear b;exact r9
 have b:(c==3)=false:=by simp[b]
 have E6:=Z (show R=RO.ap false 10 at_ RS by rw[E5.out];simp[*]);clear E5;go_wp2_with fail
 exact bv fX E6 iy
def iA (a:List (ByteArray×Int)):List (Value×Value):=a.zipIdx.map λa=>(.string a.1.1,.int .i64 (a.2:Int))
theorem uy (c:List (ByteArray×Int)) (a:Nat) (d:Value×Value) (h:(iA c)[a]?=some d):∃b,c[a]?=some b/\d=(.string b.1,.int .i64 (a:Int)):=by
 unfold iA at h;rw[List.getElem?_map,List.getElem?_zipIdx]at h;cases hv:c[a]? with
 |none=>rw[hv]at h;simp at h
 |some b=>rw[hv]at h;simp at h;exact⟨b,rfl,h.symm⟩
theorem uz {f:af} {g:Nat} {a:List (ByteArray×Int)} (h:cH .string f g (iA a)) (l:(a.map (·.1)).Nodup) (c:aw):
 ((a.any λd=>decide (d.1=c))=false/\(Instr.lookup 281 (.map (some g)) c true).run Tryz.prog f=.ok (.tuple #[O 0,.bool false]) f)\/
 ∃e:Nat,e<a.length/\(a.any λd=>decide (d.1=c))=true/\cn (λd:ByteArray×Int=>decide (d.1=c)) a=(e:Int)/\(Instr.lookup 281 (.map (some g)) c true).run Tryz.prog f=.ok (.tuple #[(e:Int),.bool true]) f:=by
 rcases h.look (P:=Tryz.prog) (T:=281) Tryz.underlying281 Tryz.underlying9 (O 0) Tryz.zeroValue3 c trivial with⟨i,j⟩|⟨b,o,i,j⟩
 ·refine .inl ⟨?_,j true⟩
  rw[List.any_eq_false];intro d m;obtain⟨b,n,rfl⟩:=List.mem_iff_getElem.1 m;have:=i (.string a[b].1,.int .i64 (b:Int)) (List.mem_map.2 ⟨(a[b],b),by rw[List.mem_zipIdx_iff_getElem?];simp[n],rfl⟩);simp at this;simpa using this
 obtain⟨d,m,n⟩:=uy a b _ i;injection n with e1 e2
 injection e1 with e1
 subst e2;obtain⟨d,f⟩:=List.getElem?_eq_some_iff.1 m;have f:a[b].1=c:=by rw[f,e1]
 refine .inr ⟨b,d,?_,?_,j true⟩
 ·rw[List.any_eq_true]
  exact⟨_,List.getElem_mem d,by simpa using f⟩
 refine nh b d (by simpa using f) (λe k=>?_);have c:a[e].1≠c:=by
  intro d;have g:e<(a.map (·.1)).length:=aC
  have a:b<(a.map (·.1)).length:=aC
  exact(List.pairwise_iff_getElem.1 l e b g a k) (by simp;rw[d,f])
 simpa using c
structure ox (w:af) (X Bv Bw Br M:Nat) (h hb:Hd) (ts:List RT) (vs:List (ByteArray×Int)) (at_:Int):Prop where
 hX:X<w.heap.size
 c0:ac w (ab X 0) h.val
 c8:ac w (ab X 8) at_
 hv:Bv<w.heap.size
 cv:ac w (ab Bv 0) (.map (some M))
 m:cH .string w M (iA vs)
 nd:(vs.map (·.1)).Nodup
 hw:Bw<w.heap.size
 cw:ac w (ab Bw 0) (aj X)
 hr:Br<w.heap.size
 cr:ac w (ab Br 8) hb.val
 lb:dQ w hb (vs.map (·.2))
 ix:∀p∈vs,∃q:Nat,p.2=q/\q<ts.length
 ta:bI w h ts
theorem ox.same {w d:af} {X b Bw c e:Nat} {h f:Hd} {ts:List RT} {g:List (ByteArray×Int)} {at_:Int} (a:ox w X b Bw c e h f ts g at_) (s:ag w d):ox d X b Bw c e h f ts g at_:=
 ⟨aT a.hX s.size,(s.cell (p:=(ab X 0)) a.hX).trans a.c0,(s.cell (p:=(ab X 8)) a.hX).trans a.c8,aT a.hv s.size,(s.cell (p:=(ab b 0)) a.hv).trans a.cv,a.m.kp (Kp.of_same (l:=[]) s) ai,a.nd,
  aT a.hw s.size,(s.cell (p:=(ab Bw 0)) a.hw).trans a.cw,aT a.hr s.size,(s.cell (p:=(ab c 8)) a.hr).trans a.cr,a.lb.same s,a.ix,a.ta.same s⟩
theorem BI (w P Bw y T:Nat) (h E:Hd) (q:List RT) (A:List (ByteArray×Int)) (F:dG) (at_:Int) (i:af) (a:ox i w P Bw y T h E q A at_):
 Calls Tryz.prog 199 #[.agg F.cells.toArray,aj P,aj Bw,aj y] i λe w'=>RP [] i (hY (q.map RT.tb) at_ A F) lT e w':=by
 obtain⟨aF,Q,G⟩:=h;obtain⟨aG,R,aH⟩:=E;have S:=Z a;have aI:=Z a.ta;have T:=a.ta.1.1;have aJ:=a.lb.1;have T:=a.lb.2.1;have a7:=a.hX;have T:=a.hw;have T:=a.hr;clear a;obtain⟨H,T⟩:=aq (hY (q.map RT.tb) at_ A F);rw[<-T];have I:=Z T;clear T;obtain⟨aL,L,F,⟨T,a8,a9⟩⟩:=F;have bb:=Z (Kp.refl [] i);show Calls Tryz.prog 199 #[.agg #[aL,L,F,T,a8,a9],aj P,aj Bw,aj y] i _;go_enter Tryz.func199,Tryz.ntmps199
 go_upto_region 1 with(fail)
 obtain⟨a8,F,T,c,P⟩:=nb i 284 _;rw[F];clear F;have a8:=qk bb c;have a9:=Z (aI.same c);have bb:=Z (S.same c);clear c;obtain⟨b,F,bf,c,bg⟩:=nc P 71 _;rw[F];clear F;have M:=qk a8 c;have bi:=Z (a9.same c);have aM:=qb c T;have o:=Z (bb.same c);clear c;have F:i.heap.size+1<b.heap.size:=ae
 clear P bg;have bk:=az aM;have bm:=o.cv;have W:=o.cw;have X:=o.c8;rcases uz o.out.m o.out.nd aL with⟨B,Y⟩|⟨f,ad,B,aN,Y⟩
 case inl=>
  have d:=Z (show H=RO.ap false 8 at_ _ by rw[I.out];unfold hY;rw[B]);clear B I;go_wp2_with fail
  exact bv M d X
 obtain⟨d,al,an⟩:=S.ix _ (List.getElem_mem ad);have aO:=Z (show H=RO.ap true 8 at_ ((cO at_ q[d].tb.attrs L).bind λg=>.ok ((⟨(f:Int),g,V.zero⟩:Sd),(cE q[d].tb.attrs g).kind)) by
  rw[I.out];unfold hY;rw[B,aN];have g:(A[(f:Int).toNat]?).getD (e0,0)=A[f]:=by rw[Int.toNat_natCast,List.getElem?_eq_getElem ad];rfl
  dsimp only;rw[g,al,lR q d an])
 have bo:=Z (show ac b (ab y 8) (U aG R aH)from o.cr);have A:∃g j,aG=some ⟨g,j,none⟩/\g<b.heap.size/\ac b (ab g (j+f)) (d:Int):=by
  obtain⟨g,j,aF,E,G⟩:=o.lb.one f (by simpa using ad) (v:=.int .i64 (d:Int)) (by simp[cj,al]);exact⟨g,j,aF,E,G⟩
 obtain⟨aP,aQ,bp,A,ao⟩:=A;subst bp;have A:(f:Int)<R:=by have:=aJ;simp at this;omega
 have A:(0:Int)<=f:=ae
 clear B aN I al aJ;go_wp2_with fail
 refine bJ M aO X λB=>?_;clear aO Y;obtain⟨g,j,ar,A,E,F,I⟩:=lQ bi d an;have A:=Z (aI.2 _ (List.getElem_mem an));have P:=Z (λ(a:aw) (l:af) (k:ag i l)=>nV w q[d] a at_ l (aT a7 k.size) (S.same k).c8 (A.same k));obtain⟨tq,q⟩:=aq (q[d]);rw[<-q]at E F I P B A;obtain⟨x,⟨p,k,n⟩,r,⟨s,t,u⟩,S⟩:=tq;have au:=E;have ax:ac b (ab g (j+d*3+1)) (U p k n):=F;have ay:ac b (ab g (j+d*3+2)) (U s t u):=I;have aR:Hid (∀(a:aw) (l:af),ag i l->Calls Tryz.prog 187 #[aj w,.agg #[x,U p k n,U s t u],a] l λe w'=>RP [] l (cO at_ (r.map RA.at_) a) g7 e w'):=P;have aS:Hid (fu i ⟨p,k,n⟩ r):=A.1;have aU:Hid (H=(cO at_ (r.map RA.at_) L).bind λl=>.ok ((⟨(f:Int),l,V.zero⟩:Sd),(cE (r.map RA.at_) l).kind)):=B;clear E F I P B q A;have q:(d:Int)<Q:=ae
 have q:(0:Int)<=d:=ae
 subst ar;have bq:=Z (aS.same M.same);have aA:ac b (ab w 0) (U (some ⟨g,j,none⟩) Q G):=o.c0;have aB:=bo.out;have q:w<b.heap.size:=ae
 have q:Bw<b.heap.size:=ae
 have q:y<b.heap.size:=ae
 go_upto_region 3 with(fail)
 refine nQ 14 W aA aB ao au ax ay λhS=>?_;refine dg ?_;refine eh ?_;refine tk 11 hS ?_;refine tk 12 hS ?_;have aV:(λw':World=>ac w' (ab Bw 0) (aj w)/\ac w' (ab w 0) (U (some ⟨g,j,none⟩) Q G)/\ac w' (ab y 8) (U (some ⟨aP,aQ,none⟩) R aH)/\ac w' (ab aP (aQ+f)) (d:Int)/\ac w' (ab g (j+d*3)) x/\ac w' (ab g (j+d*3+1)) (U p k n)/\ac w' (ab g (j+d*3+2)) (U s t u)) (b.drew.alloc (.cells #[ah,aa,aa] 81)):=⟨(World.cell?_alloc_lt _ _ _ cB).trans W,(World.cell?_alloc_lt _ _ _ cB).trans aA,(World.cell?_alloc_lt _ _ _ cB).trans aB,(World.cell?_alloc_lt _ _ _ cB).trans ao,(World.cell?_alloc_lt _ _ _ cB).trans au,(World.cell?_alloc_lt _ _ _ cB).trans ax,(World.cell?_alloc_lt _ _ _ cB).trans ay⟩;refine aK 13 (λK z=>?_);go_simp;refine z _ _ (λ_=>aV) ?_;refine av ?_;refine b2 ?_;refine dp 14 (λK z=>?_);refine Eq.mpr (if_pos rfl) ?_;refine uv 81 (.tmp 9) (.tmp 33) rfl b.drew _ _ 81 rfl rfl ak rfl bl (z _ _ ?_);refine av ?_;refine bV ?_;have d:=Z (show J (b.drew.alloc (.cells #[x,U p k n,U s t u] 81)) b.heap.size 81 #[x,U p k n,U s t u]from J.new b.drew 81 #[x,U p k n,U s t u]);have c:=Z (show ag b (b.drew.alloc (.cells #[x,U p k n,U s t u] 81))from((ag.refl b).drew).alloc _);obtain⟨br,g⟩:=aq (b.drew.alloc (.cells #[x,U p k n,U s t u] 81));rw[<-g]at d c⊢;clear g;have aC:=qk M c;have bs:=qb c aM;have bt:=qb c bf;have g:=Z (o.same c);have bu:=Z (bq.same c);have N:=d;clear d c;clear au ax ay aA aB ao W X bm hS aV bk;have bw:=g.cw;go_upto_region 4 with(fail)
 have bx:=az N;have bz:=aY N;have bA:=bh N;have bB:=aY bs;go_wp2_with fail
 refine dC aU (aR L br aC.same) (eL aC) ?_;intro a c aW aX aZ a0 C;have bC:c=.int .i64 a:=a0;subst bC;obtain⟨l,bD,a1⟩:=pH aX;subst bD;have d:l<r.length:=by simpa using a1
 clear a1 a0 aX;have aD:=Z (aC.trans C);have bE:=qo C bt;have a2:=qo C N;have j:=Z (bu.same C.same);have o:=aD.size;clear C;clear bx bz bA bB bw aR;obtain⟨ba,a3,ar,g,p,c,q,s,t,u⟩:=iq aS l d;have a4:=(aD.cell g ai).trans c;clear c;have c:(l:Int)<k:=by have:=j.out.1.1;have Y:r.length=k:=this;omega
 have c:(0:Int)<=l:=ae
 obtain⟨aE,c⟩:=aq (r[l].at_.kind);rw[<-c]at a4;have bF:=Z (show H=.ok ((⟨(f:Int),(l:Int),V.zero⟩:Sd),aE) by rw[aZ.out,jY r l d,<-c]);clear aU aZ c p q s t u;have bG:=aT g o;subst ar;go_upto_region 5 with(fail)
 have d:=aY a2;have c:=Z ((ag.refl aW).drew);refine dB 11 d a4 λhS=>?_;refine dg ?_;obtain⟨g,d⟩:=aq aW.drew;rw[<-d]at c hS⊢;clear d;have j:=qk aD c;have d:=qb c bE;have o:=qb c a2;obtain⟨p,q⟩:=hS;have r:=aT bG c.size;have o:=J.lt o;clear c;have b:(λw':World=>ac w' (am b 1) (U (some ⟨ba,a3,none⟩) k n)/\ac w' (ab ba (a3+l*6+1)) aE) (g.setRow ((i.heap.size+1)) #[(f:Int),(l:Int),O 0,O 0,ah]):=⟨(lU (by show b.heap.size<_;omega) (by show b.heap.size≠_;omega)).trans p,(lU (by show ba<_;omega) (by show ba≠_;omega)).trans q⟩;refine aK 9 (λK z=>?_);refine wp_store_row 71 (.tmp 5) (.tmp 41) rfl ((i.heap.size+1)) _ rfl rfl 71 _ d ak rfl bl (z _ _ (λ_=>b) ?_);refine av ?_;refine tk 10 b ?_;refine gH ak ?_ _;clear b;obtain⟨c,b,D,a5⟩:=jk d #[(f:Int),(l:Int),O 0,O 0,ah];rw[b];clear b;have a6:=Z (j.grown a5 (λb a6=>.inr (by injection a6 with a6;omega)));clear a5;have bH:=az D;have bI:=aY D;have bK:=bh D;have bL:=bj D;have bM:=bn D;go_wp2_with fail
 refine bodyPost_ret (v:=.tuple #[.agg #[(f:Int),(l:Int),O 0,O 0,ah],aE]) ?_ rfl ?_
 ·simp[results,Tryz.results199,go_sem,bH,bI,bK,bL,bM]
 rw[bF.out];exact⟨a6,_,rfl,rfl⟩
def ro (b:List Tb) (a:aI):RO Ru:=
 RO.ap (aZ a.vars.length 1 3&&aZ a.conds.length 1 12) 3 a.at_<|(gG b a.at_ [] a.vars).bind λc=>
  (eT a.at_ (hY b a.at_ c) [] a.conds).bind λb=>.ok {Ru.zero with kind:=4,name:=a.name,tables:=c.map (·.2),tests:=b}
theorem BJ {f:Type} (c:List Tb) (a:Int) (l:List (ByteArray×Int)) (b:Vr) (e:List Vr) (d:List (ByteArray×Int)->RO f):(gG c a l (b::e)).bind d=
 RO.ap (!l.any λf=>decide (f.1=b.name)) 9 a ((dS c a b.table).bind λf=>(gG c a (l++[(b.name,f)]) e).bind d):=by
 show(RO.ap _ 9 a (RO.bind _ _)).bind d=_;simp only[RO.bind_assoc,RO.gK]
theorem uA {f:Type} (a:Int) (b:dG->RO (Sd×Int)) (l:List cT) (d:bB) (e:List bB) (c:List cT->RO f):(eT a b l (d::e)).bind c=
 (jL a b d).bind λd=>(eT a b (l++[d]) e).bind c:=by
 show(RO.bind _ _).bind c=_;rw[RO.bind_assoc]
theorem uB (l:List (ByteArray×Int)) (a:ByteArray×Int):iA (l++[a])=iA l++[(.string a.1,.int .i64 (l.length:Int))]:=by
 unfold iA;rw[List.zipIdx_append,List.map_append];simp
theorem BK {l:List (ByteArray×Int)} {c:aw} (h:(l.any λa=>decide (a.1=c))=false):∀a∈iA l,a.1≠.string c:=by
 intro a d b;obtain⟨e,f,rfl⟩:=List.mem_iff_getElem.1 d;obtain⟨g,i,a⟩:=uy l e _ (List.getElem?_eq_getElem f);rw[a]at b;injection b with b
 rw[List.any_eq_false]at h;exact h g (List.mem_of_getElem? i) (by simp[b])
theorem Tryz.uC:(Tryz.prog.info? 73).map (λa=>(a.zero,a.size,a.bytes))=some (some (.agg #[O 0,O 0,O 0,O 0,ah,O 0,O 0,O 0,O 0,O 0,ah,O 0]),12,112):=ak
theorem cT.eE (a:cT):a.cells.length=12:=rfl
theorem BL (m bg:Nat) (ar:RI) (h:Hd) (t:List RT) (br bs bt bu bw bx:ay) (bh:aX) (aD bi:Nat) (bz:List cG) (c:af) (a5:J c m 157 #[h.val,br,bs,bt,bu,U bh aD bi,bw,bx,ar.at_]) (di:bI c h t) (X:aF c 2 ar.hvars Vr.cells ar.vars) (bA:aF c 14 ar.hconds bB.cells ar.conds) (bU:c.ownsRow bg 64 10 (U bh aD bi) aD (bz.flatMap cG.cells)) (dU:bz.length=aD) (dj:m<bg) (an:bg<=c.heap.size) (dW:aD<=1000):
 Calls Tryz.prog 121 #[aj m,.agg ar.cells.toArray] c λe w'=>jh c (ro (t.map RT.tb) ar.it) (λdk w'=>iu c w' m bg bh aD bi bz dk (λdk=>#[h.val,br,bs,bt,bu,dk,bw,bx,ar.at_])) e w':=by
 obtain⟨dX,dY,dZ,d0,d1⟩:=info_parts Tryz.rc;obtain⟨d2,d3,d4,d5,d6⟩:=info_parts Tryz.uC;have dk:=@run_makeMap Tryz.prog;have d7:=Z (show∀b c,(callFunc 199 b).run Tryz.prog c=.ok (.enter 199 b) c from enters_of Tryz.func199 ak rfl);obtain⟨a6,al,a7⟩:=h;have bD:=Z X;have bj:=Z bA;have dk:=X.1;have dl:=X.2.1;have dm:=bA.1;have dn:=bA.2.1;clear X bA;obtain⟨ao,bA⟩:=aq (ro (t.map RT.tb) ar.it);rw[<-bA];have d8:=Z bA;clear bA;obtain⟨bW,B,g,bX,bY,⟨bZ,b0,b4⟩,d9,⟨b5,b6,b7⟩,e9,b8,b9,ca,⟨cb,cc,cd⟩,G,ce,cf,⟨cg,ch,ci⟩,fa,⟨bk,ar,bE⟩,q,⟨bm,bA,bF⟩,s,⟨ck,cl,⟨cm,u,v⟩,C,⟨cn,co,cp⟩,fb,⟨cq,w,x⟩,fc,cr,cs,ct,cu⟩⟩:=ar;have a8:=Z (show ao=RO.ap (aZ q.length 1 3&&aZ s.length 1 12) 3 g ((gG (t.map RT.tb) g [] q).bind λb=>(eT g (hY (t.map RT.tb) g b) [] s).bind λd=>.ok ({Ru.zero with kind:=4,name:=B,tables:=b.map (·.2),tests:=d}:Ru))from d8);have d8:Hid (aF c 2 ⟨bk,ar,bE⟩ Vr.cells q):=bD;have d9:Hid (aF c 14 ⟨bm,bA,bF⟩ bB.cells s):=bj;have ea:q.length=ar:=dk;have ar:ar<=9223372036854775807:=dl;have bG:s.length=bA:=dm;have ar:bA<=9223372036854775807:=dn;clear dk dl dm dn;have bD:=d8;have bj:=d9;subst ea bG;obtain⟨a2,ar⟩:∃a2:List (ByteArray×Int)->RO Ru,a2=λar=>(eT g (hY (t.map RT.tb) g ar) [] s).bind λi=>.ok ({Ru.zero with kind:=4,name:=B,tables:=ar.map (·.2),tests:=i}:Ru):=⟨_,rfl⟩;have eb:=Z (λi=>congrFun ar i);rw[<-ar]at a8;clear ar;have ar:=a5;clear a5;have a5:J c m 157 #[U a6 al a7,br,bs,bt,bu,U bh aD bi,bw,bx,g]:=ar;clear ar;have ar:=a5.lt;have ec:=Z (Kp.refl [] c);have cv:=Z di;have cw:=Z a5;have cx:=Z bU;have ed:=Z bU;show Calls Tryz.prog 121 #[aj m,.agg #[bW,B,g,bX,bY,U bZ b0 b4,U b5 b6 b7,b8,b9,ca,U cb cc cd,ce,cf,U cg ch ci,U bk q.length bE,U bm s.length bF,ck,cl,U cm u v,U cn co cp,U cq w x,cr,cs,ct,cu]] c _;clear a5 di bU;go_enter Tryz.func121,Tryz.ntmps121
 go_upto_region 1 with(fail)
 obtain⟨bU,ar,bA,b,a5⟩:=nb c 154 _;rw[ar];clear ar;have bU:=qk ec b;have di:=Z (aH b cx);have dk:=qb b cw;have dl:=Z (bD.same b);have dm:=Z (bj.same b);obtain⟨a3,ar,cy,b,dn⟩:=nc a5 95 _;rw[ar];clear ar;have bH:=qk bU b;have bK:=Z (aH b di);have ar:=qb b dk;have dq:=qb b bA;have ee:=Z (dl.same b);have ef:=Z (dm.same b);clear a5 dn;have cz:=az dq;have cA:=sI cy;have cB:=sJ cy;have cD:=bN ar;have bL:=Z (λd=>fj (q.length:Int) 1 3 d);have cE:=Z (λd=>fj (s.length:Int) 1 12 d);obtain⟨eg,ar⟩:=aq (aZ (q.length:Int) 1 3);obtain⟨eh,a5⟩:=aq (aZ (s.length:Int) 1 12);rw[<-ar]at bL a8;rw[<-a5]at cE a8;have ei:=Z ar;have ej:=Z a5;clear ar a5;cases eg
 case false=>
  refine gr 12 cz cA cB λhS=>?_;refine cJ ?_;refine tk 3 hS ?_;refine dV 4 (λK j=>?_);go_simp;refine(bL a3.drew).mono ?_;rintro e w' ⟨rfl,rfl⟩;try go_simp
  refine j _ _ (λ_=>hS) ?_;refine av ?_;refine tk 5 hS ?_;refine rq ?_;refine aK 11 (λK j=>?_);go_simp;exact bv bH.drew a8 cD
 cases eh
 case false=>
  refine gr 12 cz cA cB λhS=>?_;refine cJ ?_;refine tk 3 hS ?_;refine dV 4 (λK j=>?_);go_simp;refine(bL a3.drew).mono ?_;rintro e w' ⟨rfl,rfl⟩;try go_simp
  refine j _ _ (λ_=>hS) ?_;refine av ?_;refine rr ?_;refine dV 9 (λK j=>?_);go_simp;refine(cE a3.drew).mono ?_;rintro e w' ⟨rfl,rfl⟩;try go_simp
  refine j _ _ (λ_=>hS) ?_;refine av ?_;refine tk 10 hS ?_;refine aK 11 (λK j=>?_);go_simp;exact bv bH.drew a8 cD
 refine gr 12 cz cA cB λhS=>?_;refine cJ ?_;refine tk 3 hS ?_;refine dV 4 (λK j=>?_);go_simp;refine(bL a3.drew).mono ?_;rintro e w' ⟨rfl,rfl⟩;try go_simp
 refine j _ _ (λ_=>hS) ?_;refine av ?_;refine rr ?_;refine dV 9 (λK j=>?_);go_simp;refine(cE a3.drew).mono ?_;rintro e w' ⟨rfl,rfl⟩;try go_simp
 refine j _ _ (λ_=>hS) ?_;refine av ?_;refine tk 10 hS ?_;refine aK 11 (λK j=>?_);go_simp;refine bJ bH.drew a8 cD λdr=>?_;try go_simp
 refine j _ _ (λ_=>hS) ?_;refine av ?_;refine b2 ?_;refine bV ?_;have ar:q.length<=3:=by have h:=ei.out.symm;unfold aZ at h;simp at h;omega
 have ar:s.length<=12:=by have h:=ej.out.symm;unfold aZ at h;simp at h;omega
 clear hS;have b:=Z ((ag.refl a3).drew);obtain⟨n,ar⟩:=aq a3.drew;rw[<-ar]at b⊢;clear ar;have ek:=qk bH b;have el:=qb b dq;have cI:=qb b cy;have em:=Z (ee.same b);have en:=Z (ef.same b);have ar:=aY cI;have ar:=J.lt cI;go_upto_region 2 with(fail)
 go_upto_region 3 with(first|(refine wpList_store_row rfl 64 (.tmp 4) (.tmp 26) rfl n.heap.size #[O 4,B,O 0,aa,O 0,aa,O 0,O 0,aa,aa] rfl rfl 64 #[O 0,ah,O 0,aa,O 0,aa,O 0,O 0,aa,aa] (J.new n 64 #[O 0,ah,O 0,aa,O 0,aa,O 0,O 0,aa,aa]) ak rfl bl ?_;rw[World.setRow_alloc_new])|fail)
 obtain⟨k,ar,ds,b,-⟩:=nb n 64 #[O 4,B,O 0,aa,O 0,aa,O 0,O 0,aa,aa];rw[ar];clear ar;have dt:=qk ek b;have eo:=qb b el;have ep:=qb b cI;have eq:=Z (em.same b);have es:=Z (en.same b);have ar:=dt.size;have ar:=J.lt ds;go_upto_region 4 with(fail)
 have a5:=Z (cH.made .string k);have b:=Z (show ag k (k.alloc (.map #[] 0))from(ag.refl k).alloc _);obtain⟨ar,a3⟩:=aq (k.alloc (.map #[] 0));have a8:ar.heap.size=k.heap.size+1:=by rw[a3];simp
 rw[<-a3]at a5 b⊢;clear a3;have bA:=qk dt b;have bH:=qb b eo;have bL:=qb b ep;have bU:=qb b ds;have a3:=Z (eq.same b);have a3:=Z (es.same b);have aw:=Z (show J (ar.alloc (.cells #[.map (some k.heap.size)] 281)) (k.heap.size+1) 281 #[.map (some k.heap.size)] by have h:=J.new ar 281 #[.map (some k.heap.size)];rw[a8]at h;exact h);have b:=Z (show ag ar (ar.alloc (.cells #[.map (some k.heap.size)] 281))from(ag.refl ar).alloc _);have du:=Z (a5.kp (Kp.of_same (l:=[]) b) ai);have a3:(ar.alloc (.cells #[.map (some k.heap.size)] 281)).heap.size=ar.heap.size+1:=ai
 obtain⟨a9,ar⟩:=aq (ar.alloc (.cells #[.map (some k.heap.size)] 281));rw[<-ar]at aw b du a3⊢;clear ar;have et:=qk bA b;have eu:=qb b bH;have cK:=qb b bL;have ev:=qb b bU;have dv:=aw;have ar:k.heap.size+1<a9.heap.size:=ae
 clear a8 a3;have ar:=sI cK;have ar:=J.lt cK;go_wp2_with fail
 go_loopg [31] (q.length+1) (λp y wr=>∃(d:Nat) (i:List (ByteArray×Int)) (f:aX) (o:Nat),y=.int .i64 d/\d<=q.length/\q.length-d<p/\i.length=d/\Hid (wr.ownsRow a9.heap.size 3 1 (U f d o) d ((i.map (·.2)).flatMap cj))/\Hid (J wr n.heap.size 64 #[O 4,B,O 0,aa,O 0,aa,O 0,O 0,U f d o,aa])/\Hid (J wr c.heap.size 154 #[aj m])/\Hid (J wr (c.heap.size+1) 95 #[bW,B,g,bX,bY,U bZ b0 b4,U b5 b6 b7,b8,b9,ca,U cb cc cd,ce,cf,U cg ch ci,U bk q.length bE,U bm s.length bF,ck,cl,U cm u v,U cn co cp,U cq w x,cr,cs,ct,cu])/\Hid (J wr (k.heap.size+1) 281 #[.map (some k.heap.size)])/\Hid (cH .string wr k.heap.size (iA i))/\Hid ((i.map (·.1)).Nodup)/\Hid (∀o∈i,∃f:Nat,o.2=f/\f<t.length)/\Hid (Kp [] c wr)/\a9.heap.size<=wr.heap.size/\Hid (ao=(gG (t.map RT.tb) g i (q.drop d)).bind a2))
 case atStart=>exact⟨0,[],none,0,rfl,by omega,by omega,rfl,Z ⟨rfl,.inl ⟨rfl,rfl⟩⟩,ev,eu,cK,dv,du,Z List.nodup_nil,Z (λf d=>by cases d),et,Nat.le_refl _,dr⟩
 obtain⟨f,i,z,A,rfl,fd,dw,dx,bM,cL,cM,bn,cN,dy,cO,dz,aB,fe,bO⟩:=hrel;have dA:=Z dw;have cP:=Z dx;clear dw dx dv dr;have ar:=Z (cv.same aB.same);have ar:=Z (aH aB.same cx);have ew:=Z (bD.same aB.same);have ar:=Z (bj.same aB.same);have ex:=qo aB cw;have ar:=aB.size;by_cases aE:f<q.length
 case neg=>
  have ar:¬(f:Int)<q.length:=ae
  have D:=Z (show ao=a2 i by rw[bO.out,List.drop_of_length_le ae];rfl);clear bO;obtain⟨aG,ey⟩:=aq wr;subst ey;obtain⟨ba,ar⟩:=aq (hY (t.map RT.tb) g i);have dB:=Z ar;obtain⟨bb,a3⟩:∃bb:List cT->RO Ru,bb=λG=>.ok ({Ru.zero with kind:=4,name:=B,tables:=i.map (·.2),tests:=G}:Ru):=⟨_,rfl⟩;have eA:=Z (λi=>congrFun a3 i);have eB:=Z (show ao=(eT g ba [] s).bind bb by rw[D.out,eb.out i,ar,a3]);clear ar a3;have dD:Hid (dQ aG ⟨z,f,A⟩ (i.map (·.2))):=Z (cF (h:=⟨z,f,A⟩) cj.len (by show(i.map (·.2)).length=f;rw[List.length_map];exact cP.out) (by show f<=_;omega) bM);have cQ:Hid (∀d o,z=some ⟨d,o,none⟩->a9.heap.size<=d/\d<aG.heap.size):=Z (λd o e=>b3 bM d (by show(Value.slice z f A).ownBlock=_;rw[e];rfl));have ar:n.heap.size<aG.heap.size:=by omega
  have ar:=sJ bn;have ar:=J.lt bn;go_wp2_with fail
  go_loopg [64] (s.length+1) (λy E wr=>∃(d:Nat) (G:List cT) (o:aX) (p:Nat),E=.int .i64 d/\d<=s.length/\s.length-d<y/\G.length=d/\Hid (wr.ownsRow aG.heap.size 73 12 (U o d p) d (G.flatMap cT.cells))/\Hid (J wr n.heap.size 64 #[O 4,B,O 0,aa,O 0,aa,O 0,O 0,U z f A,U o d p])/\Hid (J wr c.heap.size 154 #[aj m])/\Hid (J wr (c.heap.size+1) 95 #[bW,B,g,bX,bY,U bZ b0 b4,U b5 b6 b7,b8,b9,ca,U cb cc cd,ce,cf,U cg ch ci,U bk q.length bE,U bm s.length bF,ck,cl,U cm u v,U cn co cp,U cq w x,cr,cs,ct,cu])/\Hid (J wr (k.heap.size+1) 281 #[.map (some k.heap.size)])/\Hid (Kp [] c wr)/\Hid (Kp [n.heap.size] aG wr)/\Hid (ao=(eT g ba G (s.drop d)).bind bb))
  case atStart=>exact⟨0,[],none,0,rfl,by omega,by omega,rfl,Z ⟨rfl,.inl ⟨rfl,rfl⟩⟩,cL,cM,bn,cN,aB,Z (Kp.refl _ aG),eB⟩
  obtain⟨d,G,H,Y,rfl,ff,dE,dF,bP,bQ,bR,eC,cS,a4,bp,bS⟩:=hrel;have dH:=Z dE;have dI:=Z dF;clear dE dF cL cM bn cN aB;have eD:=Z (cv.same a4.same);have ar:=Z (aH a4.same cx);have eF:=Z (bj.same a4.same);have bq:=qo a4 cw;have a3:=a4.size;have a3:=bp.size;by_cases dJ:d<s.length
  case neg=>
   have o:¬(d:Int)<s.length:=ae
   have D:=Z (show ao=bb G by rw[bS.out,List.drop_of_length_le ae];rfl);clear bS;have o:=Z (pJ m bg ⟨4,B,0,aJ,[],0,aJ,[],0,0,⟨z,f,A⟩,i.map (·.2),⟨H,d,Y⟩,G⟩ g (U a6 al a7) br bs bt bu bw bx bh aD bi bz wr bq ar dU dj ae dW);have p:Hid (Calls Tryz.prog 194 #[aj m,.agg #[O 4,B,O 0,aa,O 0,aa,O 0,O 0,U z f A,U H d Y]] wr _):=o;have o:=az bR;go_wp2_with (first|(refine ir rfl 64 (.tmp 4) rfl n.heap.size #[O 4,B,O 0,aa,O 0,aa,O 0,O 0,U z f A,U H d Y] rfl 64 bQ.out _ Tryz.underlying64 rfl ak ?_)|fail)
   refine p.mono ?_;rintro e o ⟨rfl,y⟩;go_wp2;first|go_end0|refine bodyPost_ret (results_none rfl _ _ _) rfl ?_
   rw[D.out,eA.out G];have o:=cF (h:=⟨H,d,Y⟩) cT.eE dI (by show d<=_;omega) bP;have o:eZ wr (Bw c.heap.size wr.heap.size) ⟨4,B,0,aJ,[],0,aJ,[],0,0,⟨z,f,A⟩,i.map (·.2),⟨H,d,Y⟩,G⟩:=⟨aF.none_ wr 1 _,aS.none_ _ _ _,aF.none_ wr 4 _,aS.none_ _ _ _,dD.kp bp (λp B e al=>by have h:=cQ.out p B e;have:=aA al;omega),(λp B e=>by have h:=cQ.out p B e;exact⟨by omega,by omega⟩),o,(λo p e=>by have h:=b3 bP.out o (by show(Value.slice H d Y).ownBlock=_;have o:H=some ⟨o,p,none⟩:=e;rw[o];rfl);exact⟨by omega,h.2⟩)⟩;exact⟨rfl,iu.pK a4 ed dj an o y⟩
  have B:(d:Int)<s.length:=ae
  obtain⟨D,of,a3,ar,B⟩:=eF.2.2 d dJ;have eG:bm=some ⟨D,of,none⟩:=a3;obtain⟨ar,aD⟩:=aq (s[d]);rw[<-aD]at B;have dK:=Z (show ao=(jL g ba ar).bind λo=>(eT g ba (G++[o]) (s.drop (d+1))).bind bb by rw[bS.out,List.drop_eq_getElem_cons dJ,uA,<-aD]);clear aD a3 bS;have aD:Hid (ox wr m (k.heap.size+1) c.heap.size n.heap.size k.heap.size ⟨a6,al,a7⟩ ⟨z,f,A⟩ t i g):=Z ⟨J.lt bq,J.cell bq 0,J.cell bq 8,J.lt cS,J.cell cS 0,dy.kp bp aC,cO,J.lt bR,J.cell bR 0,J.lt bQ,J.cell bQ 8,dD.kp bp (λo p e al=>by have h:=cQ.out o p e;have:=aA al;omega),dz.out,eD.out⟩;have a3:=Z (λ(p:dG) (o:af) (y:ag wr o)=>BI m (k.heap.size+1) c.heap.size n.heap.size k.heap.size ⟨a6,al,a7⟩ ⟨z,f,A⟩ t i p g o (aD.same y));have a3:=Z (λ(p:af) (o:ag wr p)=>uw m 199 #[aj (k.heap.size+1),aj c.heap.size,aj n.heap.size] d7.out ba ar g p (aT (J.lt bq.out) o.size) ((aD.out.same o).c8) (λp y=>by rw[dB.out];exact a3.out ar.l p (o.trans y)) (λp y=>by rw[dB.out];exact a3.out ar.r p (o.trans y)));obtain⟨aD,a5⟩:∃aD,aD=jL g ba ar:=⟨_,rfl⟩;rw[<-a5]at dK a3;clear a5;obtain⟨⟨X,aI,aL,⟨aM,aN,aO⟩⟩,aP,⟨aQ,aR,aU,⟨aV,aW,a0⟩⟩,a1⟩:=ar;have eH:Hid (∀(o:af),ag wr o->Calls Tryz.prog 198 #[aj m,.agg #[X,aI,aL,aM,aN,aO,aP,aQ,aR,aU,aV,aW,a0,a1],.func (.func 199) #[] #[aj (k.heap.size+1),aj c.heap.size,aj n.heap.size]] o λe w'=>RP [] o aD rl e w'):=a3;have ar:ac wr (ab D (of+d*14)) X:=by simpa using B 0 _ rfl
  have ar:ac wr (ab D (of+d*14+1)) aI:=B 1 _ rfl;have ar:ac wr (ab D (of+d*14+2)) aL:=B 2 _ rfl;have ar:ac wr (ab D (of+d*14+3)) aM:=B 3 _ rfl;have ar:ac wr (ab D (of+d*14+4)) aN:=B 4 _ rfl;have ar:ac wr (ab D (of+d*14+5)) aO:=B 5 _ rfl;have ar:ac wr (ab D (of+d*14+6)) aP:=B 6 _ rfl;have ar:ac wr (ab D (of+d*14+7)) aQ:=B 7 _ rfl;have ar:ac wr (ab D (of+d*14+8)) aR:=B 8 _ rfl;have eI:ac wr (ab D (of+d*14+9)) aU:=B 9 _ rfl;have ar:ac wr (ab D (of+d*14+10)) aV:=B 10 _ rfl;have ar:ac wr (ab D (of+d*14+11)) aW:=B 11 _ rfl;have ar:ac wr (ab D (of+d*14+12)) a0:=B 12 _ rfl;have D:ac wr (ab D (of+d*14+13)) a1:=B 13 _ rfl;have D:IntKind.i64.wrap ((d:Int)+1)=(d:Int)+1:=IntWalk.i64_in _ ae;clear B;subst eG;have eJ:=Z (Kp.refl [] wr);go_upto_region 15 with(first|(refine wpList_store_row rfl 286 (.tmp 11) (.tmp 67) rfl wr.heap.size #[X,aI,aL,aM,aN,aO,aP,aQ,aR,aU,aV,aW,a0,a1] rfl rfl 286 #[ah,ah,.bool false,O 0,O 0,ah,O 0,ah,ah,.bool false,O 0,O 0,ah,O 0] (J.new wr 286 #[ah,ah,.bool false,O 0,O 0,ah,O 0,ah,ah,.bool false,O 0,O 0,ah,O 0]) ak rfl bl ?_;rw[World.setRow_alloc_new])|fail)
  obtain⟨y,B,aw,b,-⟩:=nb wr 286 #[X,aI,aL,aM,aN,aO,aP,aQ,aR,aU,aV,aW,a0,a1];rw[B];clear B;have dL:=qk a4 b;have dM:=qb b bR;have eK:=qb b eC;have dN:=qb b bQ;have eM:=qb b cS;have dO:=qk eJ b;have eN:=qk bp b;have E:=aw;have B:ac y (am n 9) (U H d Y):=J.cell dN.out 9;have D:ac y (am c 0) (aj m):=J.cell dM.out 0;have ar:ac y (am wr 0) X:=J.cell E.out 0;have aD:ac y (am wr 1) aI:=J.cell E.out 1;have a3:ac y (am wr 2) aL:=J.cell E.out 2;have a4:ac y (am wr 3) aM:=J.cell E.out 3;have a5:ac y (am wr 4) aN:=J.cell E.out 4;have a8:ac y (am wr 5) aO:=J.cell E.out 5;have ba:ac y (am wr 6) aP:=J.cell E.out 6;have bb:ac y (am wr 7) aQ:=J.cell E.out 7;have bg:ac y (am wr 8) aR:=J.cell E.out 8;have bh:ac y (am wr 9) aU:=J.cell E.out 9;have bi:ac y (am wr 10) aV:=J.cell E.out 10;have bj:ac y (am wr 11) aW:=J.cell E.out 11;have bm:ac y (am wr 12) a0:=J.cell E.out 12;have bp:ac y (am wr 13) a1:=J.cell E.out 13;refine ez 8 (S:=(λw'=>ac w' (am n 9) (U H d Y)/\ac w' (am c 0) (aj m)/\ac w' (am wr 0) X/\ac w' (am wr 1) aI/\ac w' (am wr 2) aL/\ac w' (am wr 3) aM/\ac w' (am wr 4) aN/\ac w' (am wr 5) aO/\ac w' (am wr 6) aP/\ac w' (am wr 7) aQ/\ac w' (am wr 8) aR/\ac w' (am wr 9) aU/\ac w' (am wr 10) aV/\ac w' (am wr 11) aW/\ac w' (am wr 12) a0/\ac w' (am wr 13) a1)) ⟨B,D,ar,aD,a3,a4,a5,a8,ba,bb,bg,bh,bi,bj,bm,bp⟩ (λhS=>?_);refine cJ ?_;refine gt ?_;refine aK 5 (λK j=>?_);go_simp;refine dC dK.out (eH.out y.drew dO.out.drew.same) (eL (dL.out.drew)) ?_;intro a D o ar eO B ax;have ax:=Z (((Kp.refl [] y).drew).trans ax.out);have y:=Z (rfl:a=a);obtain⟨⟨I,x,⟨L,w,M⟩⟩,N,⟨Q,v,⟨C,u,R⟩⟩,V⟩:=a;have eP:D=.agg #[I,x,L,w,M,N,Q,v,C,u,R,V]:=B;clear B ar;subst eP;have eQ:=Z (dL.out.trans (ax.out));have cU:=qo ax dM;have eR:=qo ax eK;have bT:=qo ax dN;have eS:=qo ax eM;have F:=qo ax E;have eU:=Z (dO.out.trans (ax.out));have eV:=qm eN ax;try go_simp
  have cV:ac o (am n 9) (U H d Y):=J.cell bT.out 9;have y:=J.lt bT.out;have cW:ac o (am c 0) (aj m):=J.cell cU.out 0;have y:=J.lt cU.out;have cX:ac o (am wr 0) X:=J.cell F.out 0;have cZ:ac o (am wr 1) aI:=J.cell F.out 1;have c0:ac o (am wr 2) aL:=J.cell F.out 2;have c1:ac o (am wr 3) aM:=J.cell F.out 3;have c2:ac o (am wr 4) aN:=J.cell F.out 4;have c3:ac o (am wr 5) aO:=J.cell F.out 5;have c4:ac o (am wr 6) aP:=J.cell F.out 6;have c5:ac o (am wr 7) aQ:=J.cell F.out 7;have c9:ac o (am wr 8) aR:=J.cell F.out 8;have da:ac o (am wr 9) aU:=J.cell F.out 9;have db:ac o (am wr 10) aV:=J.cell F.out 10;have dc:ac o (am wr 11) aW:=J.cell F.out 11;have dd:ac o (am wr 12) a0:=J.cell F.out 12;have de:ac o (am wr 13) a1:=J.cell F.out 13;have y:=J.lt F.out;have df:=Z (aH eU.out.same bP.out);refine nP j ⟨cV,cW,cX,cZ,c0,c1,c2,c3,c4,c5,c9,da,db,dc,dd,de⟩ λy=>?_;refine av ?_;clear hS;clear y;have dP:(λw':World=>ac w' (am n 9) (U H d Y)/\ac w' (am c 0) (aj m)/\ac w' (am wr 0) X/\ac w' (am wr 1) aI/\ac w' (am wr 2) aL/\ac w' (am wr 3) aM/\ac w' (am wr 4) aN/\ac w' (am wr 5) aO/\ac w' (am wr 6) aP/\ac w' (am wr 7) aQ/\ac w' (am wr 8) aR/\ac w' (am wr 9) aU/\ac w' (am wr 10) aV/\ac w' (am wr 11) aW/\ac w' (am wr 12) a0/\ac w' (am wr 13) a1) (o.alloc (.cells #[I,x,L,w,M,N,Q,v,C,u,R,V] 73)):=⟨(World.cell?_alloc_lt _ _ _ (by show n.heap.size<_;omega)).trans cV,(World.cell?_alloc_lt _ _ _ (by show c.heap.size<_;omega)).trans cW,(World.cell?_alloc_lt _ _ _ c6).trans cX,(World.cell?_alloc_lt _ _ _ c6).trans cZ,(World.cell?_alloc_lt _ _ _ c6).trans c0,(World.cell?_alloc_lt _ _ _ c6).trans c1,(World.cell?_alloc_lt _ _ _ c6).trans c2,(World.cell?_alloc_lt _ _ _ c6).trans c3,(World.cell?_alloc_lt _ _ _ c6).trans c4,(World.cell?_alloc_lt _ _ _ c6).trans c5,(World.cell?_alloc_lt _ _ _ c6).trans c9,(World.cell?_alloc_lt _ _ _ c6).trans da,(World.cell?_alloc_lt _ _ _ c6).trans db,(World.cell?_alloc_lt _ _ _ c6).trans dc,(World.cell?_alloc_lt _ _ _ c6).trans dd,(World.cell?_alloc_lt _ _ _ c6).trans de⟩;refine aK 6 (λK j=>?_);go_simp;refine j.out _ _ (λ_=>dP) ?_;refine av ?_;have bK:=Z (aH ((ag.refl o).alloc (.cells #[I,x,L,w,M,N,Q,v,C,u,R,V] 73)) df.out);have y:=Z (cC o #[I,x,L,w,M,N,Q,v,C,u,R,V] 73 12 rfl);have p:∀W,(Value.slice H d Y).ownBlock=some W->aG.heap.size<=W/\W<o.heap.size/\W<wr.heap.size:=λW ad=>⟨(b3 df.out W ad).1,(b3 df.out W ad).2,(λW ad=>(b3 bP.out W ad).2) W ad⟩;have B:=J.lt bT.out;refine aK 7 (λK j=>?_);refine c7 (o.alloc (.cells #[I,x,L,w,M,N,Q,v,C,u,R,V] 73)) (.tmp 69) (.tmp 74) 62 rfl (aG.heap.size) 73 d2 _ 12 112 Tryz.underlying62 d3 d4 d5 d6 rfl au (U H d Y) d (G.flatMap cT.cells) rfl bK.out (o.heap.size+1) (some ⟨o.heap.size,0,none⟩) 1 1 ((#[I,x,L,w,M,N,Q,v,C,u,R,V]:Array Value).toList) rfl y.out bl b1 ae aC ?_;intro eI eW dg ad eX;obtain⟨dR,dT,rfl,e0⟩:=bo dg;have e1:=Z dg;have bf:=Z ad;have o:=Z (fm ((Kp.refl [] o).alloc (.cells #[I,x,L,w,M,N,Q,v,C,u,R,V] 73)) ad);clear dg ad eX e0;have dh:=Z (J.grown (bT.out.alloc (.cells #[I,x,L,w,M,N,Q,v,C,u,R,V] 73)) bf.out (λe=>by have:=p _ e.symm;omega));have y:ac eW (am n 9) (U H d Y):=J.cell dh.out 9;have y:=λf=>J.frozen dh.out f;refine j.out _ _ (λ_=>⟨cR o.out (by show n.heap.size<_;omega) (λe=>by have h:=p _ e.symm;dsimp only at h;omega) cV,cR o.out (by show c.heap.size<_;omega) (λe=>by have h:=p _ e.symm;dsimp only at h;omega) cW,cR o.out c6 (λe=>by have h:=p _ e.symm;dsimp only at h;omega) cX,cR o.out c6 (λe=>by have h:=p _ e.symm;dsimp only at h;omega) cZ,cR o.out c6 (λe=>by have h:=p _ e.symm;dsimp only at h;omega) c0,cR o.out c6 (λe=>by have h:=p _ e.symm;dsimp only at h;omega) c1,cR o.out c6 (λe=>by have h:=p _ e.symm;dsimp only at h;omega) c2,cR o.out c6 (λe=>by have h:=p _ e.symm;dsimp only at h;omega) c3,cR o.out c6 (λe=>by have h:=p _ e.symm;dsimp only at h;omega) c4,cR o.out c6 (λe=>by have h:=p _ e.symm;dsimp only at h;omega) c5,cR o.out c6 (λe=>by have h:=p _ e.symm;dsimp only at h;omega) c9,cR o.out c6 (λe=>by have h:=p _ e.symm;dsimp only at h;omega) da,cR o.out c6 (λe=>by have h:=p _ e.symm;dsimp only at h;omega) db,cR o.out c6 (λe=>by have h:=p _ e.symm;dsimp only at h;omega) dc,cR o.out c6 (λe=>by have h:=p _ e.symm;dsimp only at h;omega) dd,cR o.out c6 (λe=>by have h:=p _ e.symm;dsimp only at h;omega) de⟩) ?_;clear j K dP;refine av ?_;refine b2 ?_;refine tq 8 ?_;refine dp 9 (λK j=>?_);go_simp;refine j _ _ ?_;refine av ?_;refine bV ?_;have y:=Z (J.grown (cU.out.alloc (.cells #[I,x,L,w,M,N,Q,v,C,u,R,V] 73)) bf.out (λe=>by have:=p _ e.symm;omega));have B:=Z (J.grown (eR.out.alloc (.cells #[I,x,L,w,M,N,Q,v,C,u,R,V] 73)) bf.out (λe=>by have:=p _ e.symm;omega));have D:=Z (J.grown (eS.out.alloc (.cells #[I,x,L,w,M,N,Q,v,C,u,R,V] 73)) bf.out (λe=>by have:=p _ e.symm;omega));have E:=Z ((eQ.out.alloc (.cells #[I,x,L,w,M,N,Q,v,C,u,R,V] 73)).grown bf.out (λW ad=>.inr (by have:=p W ad;omega)));have F:=Z ((eV.out.alloc (.cells #[I,x,L,w,M,N,Q,v,C,u,R,V] 73)).grown bf.out (λW ad=>.inr (by have:=p W ad;omega)));clear p;obtain⟨H,p,aw,o⟩:=yW dh (U dR (d+1) dT);rw[p];clear p;have e2:=Z (F.out.trans o.out);have e3:=Z (o.out.old E.out (λp an aE=>absurd aE (by rw[aA an];omega)));have e4:=qo o y;have e5:=qo o B;have e6:=qo o D;have e7:=o;have e8:=aw;go_wp2_with fail
  go_roundg (s.length-d)
  case measure=>have:=dH.out;omega
  refine⟨d+1,G++[⟨⟨I,x,⟨L,w,M⟩⟩,N,⟨Q,v,⟨C,u,R⟩⟩,V⟩],dR,dT,by go_num,by omega,by have:=dH.out;omega,by rw[List.length_append,dI.out];rfl,Z ?_,e8,e4,e5,e6,e3,e2,eO⟩;rw[List.flatMap_append];exact bC e1.out e7.out aC
 have s:(f:Int)<q.length:=ae
 obtain⟨v,of,x,s,u⟩:=ew.out.2.2 f aE;have cQ:bk=some ⟨v,of,none⟩:=x;obtain⟨s,w⟩:∃s,s=q[f]:=⟨_,rfl⟩;rw[<-w]at u;have V:=Z (show ao=RO.ap (!i.any λd=>decide (d.1=s.name)) 9 g ((dS (t.map RT.tb) g s.table).bind λd=>(gG (t.map RT.tb) g (i++[(s.name,d)]) (q.drop (f+1))).bind a2) by rw[bO.out,List.drop_eq_getElem_cons aE,BJ,<-w]);clear w x bO;obtain⟨o,H⟩:=s;have s:ac wr (ab v (of+f*2)) o:=by simpa using u 0 _ rfl
 have s:ac wr (ab v (of+f*2+1)) H:=u 1 _ rfl;have s:IntKind.i64.wrap ((f:Int)+1)=(f:Int)+1:=IntWalk.i64_in _ ae;have s:Hid (ao=RO.ap (!i.any λd=>decide (d.1=o)) 9 g ((dS (t.map RT.tb) g H).bind λd=>(gG (t.map RT.tb) g (i++[(o,d)]) (q.drop (f+1))).bind a2)):=V;clear u;have V:=s;subst cQ;go_upto_region 7 with(first|(refine wpList_store_row rfl 133 (.tmp 7) (.tmp 35) rfl wr.heap.size #[o,H] rfl rfl 133 #[ah,ah] (J.new wr 133 #[ah,ah]) ak rfl bl ?_;rw[World.setRow_alloc_new])|fail)
 have u:=Z (Kp.refl [] wr);obtain⟨N,s,aw,b,-⟩:=nb wr 133 #[o,H];rw[s];clear s;have ad:=qk aB b;have ax:=qb b ex;have aG:=qb b cM;have cS:=qb b bn;have cU:=qb b cL;have aV:=qb b cN;have b:=qk u b;have aW:=aw;have b:=Z (show ag wr N from b.out.same);have s:ac N (ab (k.heap.size+1) 0) (.map (some k.heap.size)):=J.cell aV.out 0;have s:ac N (am wr 0) o:=J.cell aW.out 0;have a0:=Z (dy.out.kp (Kp.of_same (l:=[]) b.out) ai);have cV:=Z (aH b.out bM.out);have cW:=Z (show MapKept.IsKey .string o from trivial);rcases uz a0.out cO.out o with⟨M,a1⟩|⟨eC,cX,M,cZ,a1⟩
 case inr=>
  have d:=Z (show ao=RO.ap false 9 g _ by rw[V.out,M];rfl);clear M cZ cX;have b:ac N (am c 0) (aj m):=J.cell aG.out 0;have p:ac N (ab m 8) g:=J.cell ax.out 8;go_wp2_with fail
  exact bv ad.out d.out p
 have b:ac N (am c 0) (aj m):=J.cell aG.out 0;have c0:ac N (ab m 8) g:=J.cell ax.out 8;have c1:=Z (show ao=RO.ap true 9 g ((dS (t.map RT.tb) g H).bind λb=>(gG (t.map RT.tb) g (i++[(o,b)]) (q.drop (f+1))).bind a2) by rw[V.out,M];rfl);have c2:=Z (BK M);have c3:=Z (show(((i++[(o,(0:Int))]).map (·.1)).Nodup) by
  rw[List.map_append];refine List.nodup_append.2 ⟨cO.out,by simp,?_⟩;intro a p b d e;simp only[List.map_cons,List.map_nil,List.mem_singleton]at d;subst d;obtain⟨y,D,rfl⟩:=List.mem_map.1 p;rw[List.any_eq_false]at M;exact M y D (by simpa using e))
 clear M;go_wp2_with fail
 refine bJ ad.out c1.out c0 λc4=>?_;clear a1;obtain⟨E,c5,b,I⟩:=cH.push (P:=Tryz.prog) (T:=281) a0.out Tryz.underlying281 Tryz.underlying9 o (f:Int) cW.out c2.out;have c9:=Z (show cH .string E k.heap.size (iA (i++[(o,(0:Int))])) by rw[uB,cP.out];exact b);clear b;go_upto_region 10 with(fail)
 clear c5;have aI:=Z (I.old ad.out (λb an aE=>absurd aE (by rw[aA an];omega)));have da:=Z (cv.out.same aI.out.same);have b:=qo I ax;have a4:=qo I aG;have db:=qo I cS;have ba:=qo I cU;have dc:=qo I aV;have bb:=qo I aW;have dd:=Z (bC cV.out I (λd an=>by rw[aA an];omega));clear I;have de:=Z (Kp.refl [n.heap.size] E);have s:ac E (am n 8) (U z f A):=J.cell ba.out 8;have u:ac E (am c 0) (aj m):=J.cell a4.out 0;have v:ac E (am wr 1) H:=J.cell bb.out 1;have df:ac E (ab m 0) (U a6 al a7):=J.cell b.out 0;have dg:ac E (ab m 8) g:=J.cell b.out 8;have dh:=J.lt b.out;refine gr 8 s u v λhS=>?_;refine cJ ?_;refine gt ?_;refine aK 5 (λK j=>?_);go_simp;refine dC c4.out (nU m ⟨a6,al,a7⟩ t H g E.drew dh df dg (da.out.same ((ag.refl E).drew))) (eL (aI.out.drew)) ?_;intro a dB p bf dD bp L;have L:=Z (((Kp.refl [] E).drew).trans L.out);obtain⟨d,rfl,bG⟩:=mM bf;have dE:dB=.int .i64 (d:Int):=bp;subst dE;have dF:d<t.length:=by simpa using bG
 have dH:=Z (aI.out.trans (L.out));have aL:=qo L a4;have dI:=qo L db;have W:=qo L ba;have dJ:=qo L dc;have bq:=qo L bb;have bP:=qm de L;try go_simp
 clear bp bf bG;have aM:ac p (am n 8) (U z f A):=J.cell W.out 8;have b:=J.lt W.out;have aN:ac p (am c 0) (aj m):=J.cell aL.out 0;have b:=J.lt aL.out;have aO:ac p (am wr 1) H:=J.cell bq.out 1;have b:=J.lt bq.out;have aP:=Z (bC dd.out bP.out (λb an=>by rw[aA an];omega));refine nP j ⟨aM,aN,aO⟩ λb=>?_;refine av ?_;clear hS;clear b;have dK:=Z (c9.out.kp bP.out aC);have bQ:(λw':World=>ac w' (am n 8) (U z f A)/\ac w' (am c 0) (aj m)/\ac w' (am wr 1) H) (p.alloc (.cells #[(d:Int)] 3)):=⟨(World.cell?_alloc_lt _ _ _ (by show n.heap.size<_;omega)).trans aM,(World.cell?_alloc_lt _ _ _ (by show c.heap.size<_;omega)).trans aN,(World.cell?_alloc_lt _ _ _ c6).trans aO⟩;refine aK 6 (λK j=>?_);go_simp;refine j.out _ _ (λ_=>bQ) ?_;refine av ?_;have bK:=Z (aH ((ag.refl p).alloc (.cells #[(d:Int)] 3)) aP.out);have b:=Z (cC p #[(d:Int)] 3 1 rfl);have F:∀y,(Value.slice z f A).ownBlock=some y->a9.heap.size<=y/\y<p.heap.size/\y<wr.heap.size:=λy D=>⟨(b3 aP.out y D).1,(b3 aP.out y D).2,(λy D=>(b3 bM.out y D).2) y D⟩;have g:=J.lt W.out;refine aK 7 (λK j=>?_);refine c7 (p.alloc (.cells #[(d:Int)] 3)) (.tmp 52) (.tmp 57) 60 rfl (a9.heap.size) 3 dX _ 1 8 Tryz.underlying60 dY dZ d0 d1 rfl au (U z f A) f ((i.map (·.2)).flatMap cj) rfl bK.out (p.heap.size+1) (some ⟨p.heap.size,0,none⟩) 1 1 ((#[(d:Int)]:Array Value).toList) rfl b.out bl b1 ae aC ?_;intro b bR aQ D dL;obtain⟨bS,bT,rfl,dM⟩:=bo aQ;have dN:=Z aQ;have Q:=Z D;have Y:=Z (fm ((Kp.refl [] p).alloc (.cells #[(d:Int)] 3)) D);clear aQ D dL dM;have aR:=Z (J.grown (W.out.alloc (.cells #[(d:Int)] 3)) Q.out (λe=>by have:=F _ e.symm;omega));have b:ac bR (am n 8) (U z f A):=J.cell aR.out 8;have b:=λf=>J.frozen aR.out f;refine j.out _ _ (λ_=>⟨cR Y.out (by show n.heap.size<_;omega) (λe=>by have h:=F _ e.symm;dsimp only at h;omega) aM,cR Y.out (by show c.heap.size<_;omega) (λe=>by have h:=F _ e.symm;dsimp only at h;omega) aN,cR Y.out c6 (λe=>by have h:=F _ e.symm;dsimp only at h;omega) aO⟩) ?_;clear j K bQ;refine av ?_;refine b2 ?_;refine tq 8 ?_;refine dp 9 (λK j=>?_);go_simp;refine j _ _ ?_;refine av ?_;refine bV ?_;have g:=Z (J.grown (aL.out.alloc (.cells #[(d:Int)] 3)) Q.out (λe=>by have:=F _ e.symm;omega));have m:=Z (J.grown (dI.out.alloc (.cells #[(d:Int)] 3)) Q.out (λe=>by have:=F _ e.symm;omega));have n:=Z (J.grown (dJ.out.alloc (.cells #[(d:Int)] 3)) Q.out (λe=>by have:=F _ e.symm;omega));have s:=Z ((dH.out.alloc (.cells #[(d:Int)] 3)).grown Q.out (λy D=>.inr (by have:=F y D;omega)));have b:p.heap.size<=bR.heap.size:=by have:=Q.out.size;simp at this;omega
 have p:=Z (dK.out.kp Y.out (λal=>by have h:=F _ (jm al);omega));clear F;obtain⟨t,c,aw,b⟩:=yV aR (U bS (f+1) bT);rw[c];clear c;have dO:=Z (b.old s.out (λc an aE=>absurd aE (by rw[aA an];omega)));have dP:=qo b g;have dR:=qo b m;have dT:=qo b n;have aU:=b;have ey:=aw;have b:=aU.out.size;have eA:=Z (show cH .string t k.heap.size (iA (i++[(o,(d:Int))])) by
  have h:=p.out.kp aU.out aC;rw[uB]at h⊢;exact h)
 go_wp2_with fail
 go_roundg (q.length-f)
 case measure=>have:=dA.out;omega
 refine⟨f+1,i++[(o,(d:Int))],bS,bT,by go_num,by omega,by have:=dA.out;omega,by rw[List.length_append,cP.out];rfl,Z ?_,ey,dP,dR,dT,eA,Z (by have h:=c3.out;rw[List.map_append]at h⊢;exact h),Z ?_,dO,by omega,dD⟩
 ·rw[List.map_append,List.flatMap_append]
  exact bC dN.out aU.out aC
 intro eB R;rcases cY R with R|R
 ·exact dz.out eB R
 rw[aA R];exact⟨d,rfl,dF⟩
end Go.Proofs.YteamkimbmdgdbaaGreatDoor

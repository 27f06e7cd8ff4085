import Derived.Test.YteamkimbmdgdbaaGreatDoorK05
set_option linter.unusedSimpArgs false
set_option linter.unusedVariables false
set_option maxHeartbeats 16000000
set_option maxRecDepth 100000
namespace Go.Proofs.YteamkimbmdgdbaaGreatDoor
open Go.Proofs.Tryz
open Go.RowKit
theorem sf (a:aq) (b:List aq) (c:ax):bB (a::b) c=gn a c:=by
 show(gn a c&&eF b [])=gn a c;have:eF b []=true:=by cases b<;>rfl
 rw[this,Bool.and_true]
theorem V.jt (a b:Int) (c:ax) (d:0<=a/\a<=4) (d:-9999999999<=b/\b<=9999999999) (d:aJ c):V.fine ⟨a,b,c⟩:=⟨by show _<=a;omega,by show a<=_;omega,by show _<=b;omega,by show b<=_;omega,d⟩
def o3 (b:Option V) (v:aA) (_:ah):Prop:=(∃a:V,b=some a/\v=.tuple #[.agg #[a.k,a.n,a.s],.bool true]/\a.fine)\/(b=none/\v=.tuple #[.agg #[J 0,J 0,ai],.bool false])
def CA (a:V) (v:aA) (_:ah):Prop:=v=.agg #[a.k,a.n,a.s]/\a.fine
def CB (a:ByteArray×ByteArray) (b:aA) (_:ah):Prop:=b=.tuple #[a.1,a.2]/\aJ a.1/\aJ a.2
theorem CC (c:Int) (b:aq) (a:List aq) (f:b.k≠3) (g:b.k≠2):go c (b::a)=
 if bB (b::a) ⟨#[45]⟩then(cu c a).bind λd e=>.ok (some ⟨2,-d,⟨#[]⟩⟩) e else if bB (b::a) ⟨#[64]⟩then(cu c a).bind λd e=>.ok (some ⟨3,d,⟨#[]⟩⟩) e else if bB (b::a) ⟨#[116,114,117,101]⟩then .ok (some ⟨4,1,⟨#[]⟩⟩) a else if bB (b::a) ⟨#[102,97,108,115,101]⟩then .ok (some ⟨4,0,⟨#[]⟩⟩) a else if bB (b::a) ⟨#[110,117,108,108]⟩then .ok (some ⟨0,0,⟨#[]⟩⟩) a else .ok none (b::a):=by
 rw[go,if_neg f,if_neg g];simp only[sf];rfl
theorem CD (d:Int) (a:Nat) (b:ah) (c:az b a d []):
 Calls prog 297 #[ak a] b λi j=>PP d a b (.ok none []) o3 i j:=by
 have d:=c.lt;have k:=Z c;obtain⟨⟨l,e,m⟩,f,g⟩:=c;have a:ae b (ac a 0) (O l e m):=aa.cell f 0;have n:0=e:=g.lies.1;subst n;clear g f;go_enter func297,ntmps297
 go_wp2;refine bodyPost_ret (v:=.tuple #[.agg #[J 0,J 0,ai],.bool false]) ?_ rfl ?_
 ·simp[results,results297,go_sem]
  try rfl
 exact⟨(Kp.refl _ _).alloc _,_,rfl,.inr ⟨rfl,rfl⟩,k.alloc _⟩
theorem CE (e:Int) (d:Nat) (b:aq) (i:List aq) (c:ah) (f:az c d e (b::i)) (o:b.k=3):
 Calls prog 297 #[ak d] c λB C=>PP e d c (((eO e (b::i) b.k).bind λj l=>.ok (some ⟨1,0,j.t⟩) l)) o3 B C:=by
 have B:=f.lt;have p:=Z f;have D:=Z (Kp.refl [d] c);have B:c.heap.size<=c.heap.size:=Nat.le_refl _;obtain⟨⟨E,m,F⟩,q,g⟩:=f;have B:=g.lies.2.1;have B:ae c (ac d 0) (O E m F):=aa.cell q 0;obtain⟨B,C,r,E,F,W,X,Y,ab⟩:=g.first;have G:=r;subst G;have B:((m:Int)==0)=false:=by have:=g.lies.1;simp at this;simp;omega
 have m:1<=m:=by have:=g.lies.1;simp at this;omega
 clear r g q;have g:(b.k==3)=true:=by simp[o]
 have g:∀(b:aq) c,(Instr.field 188 b.val 1).run prog c=.ok (.string b.t) c:=λ_ _=>by kernel_rfl
 clear o;have f:=trivial;clear f;obtain⟨f,f⟩:∃f:PO (Option V),f=((eO e (b::i) b.k).bind λj l=>.ok (some ⟨1,0,j.t⟩) l):=⟨_,rfl⟩;rw[<-f];have H:=Z f;clear f;go_enter func297,ntmps297
 have I:=Z (aa.new c 66 #[J 0,J 0,ai]);go_wp2_with fail
 refine aT aj ((D.alloc _).alloc _) H (r1 e d (b::i) b.k _ ((p.alloc _).alloc _)) aN ?_;intro u b b b K L w M N b;have n:=b6 w I;obtain⟨rfl,x,P⟩:=L;clear w;have Q:=Z (p.fine x).s;clear x P;obtain⟨b,c,d⟩:=eR n;have b:=λb=>aa.frozen n b;go_wp2;have R:=ed n M N [.int .i64 1,.int .i64 0,.string u.t] rfl af af;obtain⟨y,z,A⟩:=R;simp only[bX,Nat.zero_add,Nat.reduceAdd]at y z A;obtain⟨S,T,U⟩:=eR y;refine bodyPost_ret (v:=.tuple #[.agg #[J 1,J 0,u.t],.bool true]) ?_ rfl ?_
 ·simp[results,results297,go_sem,S,T,U]
 rw[K.out];exact⟨z,_,rfl,.inl ⟨_,rfl,rfl,V.jt _ _ _ af af Q⟩,A⟩
theorem CF (f:Int) (e:Nat) (c:aq) (j:List aq) (b:ah) (g:az b e f (c::j)) (m:c.k=2):
 Calls prog 297 #[ak e] b λy z=>PP f e b (((cu f (c::j)).bind λd n=>.ok (some ⟨2,d,⟨#[]⟩⟩) n)) o3 y z:=by
 have y:=g.lt;have A:=Z g;have B:=Z (Kp.refl [e] b);have y:b.heap.size<=b.heap.size:=Nat.le_refl _;obtain⟨⟨C,d,D⟩,q,i⟩:=g;have y:=i.lies.2.1;have y:ae b (ac e 0) (O C d D):=aa.cell q 0;obtain⟨y,z,r,C,D,R,S,T,U⟩:=i.first;have E:=r;subst E;have y:((d:Int)==0)=false:=by have:=i.lies.1;simp at this;simp;omega
 have o:1<=d:=by have:=i.lies.1;simp at this;omega
 clear r i q;have i:(c.k==3)=false:=by simp[m]
 have i:(c.k==2)=true:=by simp[m]
 clear m;have g:=trivial;clear g;obtain⟨g,d⟩:∃g:PO (Option V),g=((cu f (c::j)).bind λd n=>.ok (some ⟨2,d,⟨#[]⟩⟩) n):=⟨_,rfl⟩;rw[<-d];have F:=Z d;clear d;go_enter func297,ntmps297
 have G:=Z (aa.new b 66 #[J 0,J 0,ai]);go_wp2_with fail
 refine aT aj ((B.alloc _).alloc _) F (gq f e (c::j) _ ((A.alloc _).alloc _)) aN ?_;intro l b b b H I s K L b;have p:=b6 s G;obtain⟨rfl,t,o⟩:=I;clear s;have b:0<=l/\l<=9999999999:=⟨t,o⟩;clear t o;obtain⟨b,c,d⟩:=eR p;have b:=λb=>aa.frozen p b;go_wp2;have M:=ed p K L [.int .i64 2,.int .i64 l,.string ⟨#[]⟩] rfl af af;obtain⟨u,w,x⟩:=M;simp only[bX,Nat.zero_add,Nat.reduceAdd]at u w x;obtain⟨N,P,Q⟩:=eR u;refine bodyPost_ret (v:=.tuple #[.agg #[J 2,l,ai],.bool true]) ?_ rfl ?_
 ·simp[results,results297,go_sem,N,P,Q]
 rw[H.out];exact⟨w,_,rfl,.inl ⟨_,rfl,rfl,V.jt _ _ _ af af (bY _ au)⟩,x⟩
theorem CG (e:Int) (f:Nat) (d:aq) (g:List aq) (c:ah) (j:az c f e (d::g)) (q:d.k≠3) (r:d.k≠2):
 Calls prog 297 #[ak f] c λL M=>PP e f c ((go e (d::g))) o3 L M:=by
 have L:=j.lt;have N:=Z j;have P:=Z (Kp.refl [f] c);have L:c.heap.size<=c.heap.size:=Nat.le_refl _;obtain⟨⟨Q,s,R⟩,A,l⟩:=j;have L:=l.lies.2.1;have L:ae c (ac f 0) (O Q s R):=aa.cell A 0;obtain⟨L,M,B,Q,R,aK,aL,aM,aO⟩:=l.first;have S:=B;subst S;have L:((s:Int)==0)=false:=by have:=l.lies.1;simp at this;simp;omega
 have ay:1<=s:=by have:=l.lies.1;simp at this;omega
 clear B l A;have l:(d.k==3)=false:=by simp[q]
 have l:(d.k==2)=false:=by simp[r]
 have C:=Z (CC e d g q r);clear q r;have j:=trivial;clear j;obtain⟨t,d⟩:∃t:PO (Option V),t=(go e (d::g)):=⟨_,rfl⟩;rw[<-d];have u:=Z d;clear d;go_enter func297,ntmps297
 have D:=Z (aa.new c 66 #[J 0,J 0,ai]);replace u:=Z (u.out.trans C.out);clear C;go_wp2_with fail
 refine jp ⟨#[45]⟩ aj ((P.alloc _).alloc _) u ((N.alloc _).alloc _) (bY _ au) ?ay ?aA
 case ay=>
  intro d K b T U d;have y:=b6 b D;clear b;go_wp2_with fail
  refine jp ⟨#[64]⟩ aj T K U (bY _ au) ?aB ?aC
  case aB=>
   intro d W b X Y d;have x:=bn b y;clear b;go_wp2_with fail
   refine jp ⟨_⟩ aj X W Y (bY _ au) ?aD ?aF
   case aD=>
    intro d ab b ad ag d;have z:=bn b x;clear b;go_wp2_with fail
    refine jp ⟨_⟩ aj ad ab ag (bY _ au) ?aG ?aH
    case aG=>
     intro d w b E F d;have m:=bn b z;clear b;go_wp2_with fail
     refine jp ⟨_⟩ aj E w F (bY _ au) ?aI ?aJ
     case aI=>
      intro d G b H I d;have i:=bn b m;clear b;obtain⟨d,j,l⟩:=eR i;have d:=λd=>aa.frozen i d;go_wp2;have al:=ed i H I [.int .i64 0,.int .i64 0,.string ⟨#[]⟩] rfl af af;obtain⟨n,o,p⟩:=al;simp only[bX,Nat.zero_add,Nat.reduceAdd]at n o p;obtain⟨am,an,ap⟩:=eR n;refine bodyPost_ret (v:=.tuple #[.agg #[J 0,J 0,ai],.bool false]) ?_ rfl ?_
      ·simp[results,results297,go_sem,am,an,ap]
      rw[G.out];exact⟨o,_,rfl,.inr ⟨rfl,rfl⟩,p⟩
     intro d G b H I d;have i:=bn b m;clear b;obtain⟨d,j,l⟩:=eR i;have d:=λd=>aa.frozen i d;go_wp2;have al:=ed i H I [.int .i64 0,.int .i64 0,.string ⟨#[]⟩] rfl af af;obtain⟨n,o,p⟩:=al;simp only[bX,Nat.zero_add,Nat.reduceAdd]at n o p;obtain⟨am,an,ap⟩:=eR n;refine bodyPost_ret (v:=.tuple #[.agg #[J 0,J 0,ai],.bool true]) ?_ rfl ?_
     ·simp[results,results297,go_sem,am,an,ap]
     rw[G.out];exact⟨o,_,rfl,.inl ⟨_,rfl,rfl,V.jt _ _ _ af af (bY _ au)⟩,p⟩
    intro al am b an ap d;have o:=bn b z;clear b;obtain⟨E,F,G⟩:=eR o;have H:=λp=>aa.frozen o p;go_upto_region 19 with(fail)
    have i:=ed o an ap [.int .i64 4,.int .i64 0,.string ⟨#[]⟩] rfl af af;simp only[bX,Nat.zero_add,Nat.reduceAdd]at i;generalize ((((al.setCell (ao c 0) (J 4)).setCell (ao c 1) (J 0)).setCell (ao c 2) ai))=aP at i⊢;obtain⟨w,m,n⟩:=i;have ar:=am;clear E F G H;obtain⟨E,F,G⟩:=eR w;have H:=λp=>aa.frozen w p;go_wp2;have i:=ed w m n [.int .i64 4,.int .i64 0,.string ⟨#[]⟩] rfl af af;obtain⟨I,m,n⟩:=i;simp only[bX,Nat.zero_add,Nat.reduceAdd]at I m n;obtain⟨aw,ax,aE⟩:=eR I;refine bodyPost_ret (v:=.tuple #[.agg #[J 4,J 0,ai],.bool true]) ?_ rfl ?_
    ·simp[results,results297,go_sem,aw,ax,aE]
    rw[ar.out];exact⟨m,_,rfl,.inl ⟨_,rfl,rfl,V.jt _ _ _ af af (bY _ au)⟩,n⟩
   intro I ab b ad ag d;have o:=bn b x;clear b;obtain⟨z,E,F⟩:=eR o;have G:=λp=>aa.frozen o p;go_upto_region 19 with(fail)
   have i:=ed o ad ag [.int .i64 4,.int .i64 1,.string ⟨#[]⟩] rfl af af;simp only[bX,Nat.zero_add,Nat.reduceAdd]at i;generalize ((((I.setCell (ao c 0) (J 4)).setCell (ao c 1) (J 1)).setCell (ao c 2) ai))=ar at i⊢;obtain⟨w,m,n⟩:=i;have al:=ab;clear z E F G;obtain⟨z,E,F⟩:=eR w;have G:=λp=>aa.frozen w p;go_wp2;have i:=ed w m n [.int .i64 4,.int .i64 1,.string ⟨#[]⟩] rfl af af;obtain⟨H,m,n⟩:=i;simp only[bX,Nat.zero_add,Nat.reduceAdd]at H m n;obtain⟨am,an,ap⟩:=eR H;refine bodyPost_ret (v:=.tuple #[.agg #[J 4,J 1,ai],.bool true]) ?_ rfl ?_
   ·simp[results,results297,go_sem,am,an,ap]
   rw[al.out];exact⟨m,_,rfl,.inl ⟨_,rfl,rfl,V.jt _ _ _ af af (bY _ au)⟩,n⟩
  intro d W b X Y d;have ab:=bn b y;clear b;go_wp2_with fail
  refine aT aj X W (gq e f g _ Y) aN ?_;intro i d d ad ag al b am an d;have p:=bn b ab;obtain⟨rfl,z,ay⟩:=al;clear b;have b:0<=i/\i<=9999999999:=⟨z,ay⟩;clear z ay;obtain⟨E,F,G⟩:=eR p;have H:=λw=>aa.frozen p w;go_upto_region 19 with(fail)
  have m:=ed p am an [.int .i64 3,.int .i64 i,.string ⟨#[]⟩] rfl af af;simp only[bX,Nat.zero_add,Nat.reduceAdd]at m;generalize ((((ad.setCell (ao c 0) (J 3)).setCell (ao c 1) i).setCell (ao c 2) ai))=aE at m⊢;obtain⟨x,n,o⟩:=m;have ap:=ag;clear E F G H;obtain⟨E,F,G⟩:=eR x;have H:=λw=>aa.frozen x w;go_wp2;have m:=ed x n o [.int .i64 3,.int .i64 i,.string ⟨#[]⟩] rfl af af;obtain⟨I,n,o⟩:=m;simp only[bX,Nat.zero_add,Nat.reduceAdd]at I n o;obtain⟨ar,aw,ax⟩:=eR I;refine bodyPost_ret (v:=.tuple #[.agg #[J 3,i,ai],.bool true]) ?_ rfl ?_
  ·simp[results,results297,go_sem,ar,aw,ax]
  rw[ap.out];exact⟨n,_,rfl,.inl ⟨_,rfl,rfl,V.jt _ _ _ af af (bY _ au)⟩,o⟩
 intro d T i U W d;have X:=b6 i D;clear i;go_wp2_with fail
 refine aT aj U T (gq e f g _ W) aN ?_;intro n Y d ab w ad i ag al d;have x:=bn i X;obtain⟨rfl,E,ay⟩:=ad;clear i;have d:0<=n/\n<=9999999999:=⟨E,ay⟩;clear E ay;obtain⟨b,d⟩:=av (-n);have e:IntKind.i64.wrap (-n)=b:=by rw[d];exact IntWalk.i64_in _ af
 have e:-9999999999<=b:=af
 have e:b<=9999999999:=af
 replace w:Hid (t=.ok (some ⟨2,b,⟨#[]⟩⟩) Y):=by rw[d];exact w
 clear d;obtain⟨F,G,H⟩:=eR x;have I:=λy=>aa.frozen x y;go_upto_region 19 with(fail)
 have m:=ed x ag al [.int .i64 2,.int .i64 b,.string ⟨#[]⟩] rfl af af;simp only[bX,Nat.zero_add,Nat.reduceAdd]at m;generalize ((((ab.setCell (ao c 0) (J 2)).setCell (ao c 1) b).setCell (ao c 2) ai))=aw at m⊢;obtain⟨z,o,p⟩:=m;have am:=w;clear F G H I;obtain⟨F,G,H⟩:=eR z;have I:=λy=>aa.frozen z y;go_wp2;have m:=ed z o p [.int .i64 2,.int .i64 b,.string ⟨#[]⟩] rfl af af;obtain⟨K,o,p⟩:=m;simp only[bX,Nat.zero_add,Nat.reduceAdd]at K o p;obtain⟨an,ap,ar⟩:=eR K;refine bodyPost_ret (v:=.tuple #[.agg #[J 2,b,ai],.bool true]) ?_ rfl ?_
 ·simp[results,results297,go_sem,an,ap,ar]
 rw[am.out];exact⟨o,_,rfl,.inl ⟨_,rfl,rfl,V.jt _ _ _ af af (bY _ au)⟩,p⟩
theorem vW (a:Int) (c:Nat) (f:List aq) (d:ah) (g:az d c a f):
 Calls prog 297 #[ak c] d λi j=>PP a c d (go a f) o3 i j:=by
 cases f with
 |nil=>exact CD a c d g
 |cons b e=>
  by_cases i:b.k=3
  ·have:=CE a c b e d g i
   rwa[show go a (b::e)=(eO a (b::e) b.k).bind λj l=>.ok (some ⟨1,0,j.t⟩) l by rw[go,if_pos i,eO,if_pos rfl];rfl]
  by_cases j:b.k=2
  ·have:=CF a c b e d g j
   rwa[show go a (b::e)=(cu a (b::e)).bind λl f=>.ok (some ⟨2,l,⟨#[]⟩⟩) f by simp only[go,if_neg i,if_pos j,cu,eO];rfl]
  exact CG a c b e d g i j
theorem vX (b:Int) (f:Nat) (c:List aq) (d:ah) (m:az d f b c):
 Calls prog 240 #[ak f] d λw x=>PP b f d (jX b c) CA w x:=by
 have w:=m.lt;have y:=Z m;have z:=Z (Kp.refl [f] d);have w:d.heap.size<=d.heap.size:=Nat.le_refl _;clear m;have n:=Z (show jX b c=(go b c).bind λe c=>match e with|some e=>.ok e c|none=>fI b c 4 from rfl);generalize jX b c=o at n⊢;go_enter func240,ntmps240
 have A:=Z (aa.new d 66 #[J 0,J 0,ai]);go_wp2_with fail
 refine aT aj (z.alloc _) n (vW b f c _ (y.alloc _)) aN ?_;intro c p c c e B c q r d;have g:=bn c A;clear c;rcases B with⟨C,rfl,rfl,s⟩|⟨rfl,rfl⟩
 ·
  obtain⟨i,j,k⟩:=C;have HX:=Z s;replace e:Hid (o=.ok ⟨i,j,k⟩ p):=e;clear s;obtain⟨c,d,f⟩:=eR g;have c:=λc=>aa.frozen g c;have c:=aa.lt g;go_wp2;have D:=ed g q r [.int .i64 i,.int .i64 j,.string k] rfl af af;obtain⟨l,t,u⟩:=D;simp only[bX,Nat.zero_add,Nat.reduceAdd]at l t u;replace l:=l.alloc (.cells #[i,j,k] 66);obtain⟨E,F,G⟩:=eR l;refine bodyPost_ret (v:=.agg #[i,j,k]) ?_ rfl ?_
  ·simp[results,results240,go_sem,E,F,G]
  rw[e.out];exact⟨t.alloc _,_,rfl,⟨rfl,HX⟩,u.alloc _⟩
 replace e:Hid (o=fI b p 4):=e;go_wp2_with fail
 refine r6 4 (q.alloc _) e (r.alloc _) ?au;intro er a wx HX KX;go_wp2;exact⟨rfl,by rw[HX.out];exact⟨KX.out,rfl⟩⟩
theorem vY (d:Int) (e:Nat) (b:List aq) (f:ah) (n:az f e d b):
 Calls prog 298 #[ak e] f λA B=>PP d e f (jY d b) (jo cF.cells cF.bo) A B:=by
 have A:=n.lt;have C:=Z n;have D:=Z (Kp.refl [e] f);have A:f.heap.size<=f.heap.size:=Nat.le_refl _;clear n;have p:=Z (show jY d b=(go d b).bind λc b=>match c with|some c=>.ok ⟨e0,e0,true,c⟩ b|none=>(bW d b).bind λa b=>if bB b ⟨#[46]⟩then(bW d b.tail).bind λc b=>.ok ⟨a,c,false,⟨0,0,e0⟩⟩ b else .ok ⟨e0,a,false,⟨0,0,e0⟩⟩ b from rfl);generalize jY d b=q at p⊢;go_enter func298,ntmps298
 have E:=Z (aa.new f 284 #[ai,ai,.bool false,J 0,J 0,ai]);go_wp2_with fail
 refine aT aj (D.alloc _) p (vW d e b _ (C.alloc _)) aN ?_;intro f o f f g F c r s f;have i:=bn c E;clear c;rcases F with⟨G,rfl,rfl,t⟩|⟨rfl,rfl⟩
 ·
  obtain⟨j,k,l⟩:=G;have HX:=Z t;replace g:Hid (q=.ok ⟨e0,e0,true,⟨j,k,l⟩⟩ o):=g;clear t;obtain⟨f,n,p,t,A,B⟩:=ni i;have f:=λf=>aa.frozen i f;have f:=aa.lt i;go_wp2;have x:=ed i r s [.string ⟨#[]⟩,.string ⟨#[]⟩,.bool true,.int .i64 j,.int .i64 k,.string l] rfl af af;obtain⟨m,u,w⟩:=x;simp only[bX,Nat.zero_add,Nat.reduceAdd]at m u w;replace m:=m.alloc (.cells #[j,k,l] 66);obtain⟨y,z,H,I,K,L⟩:=ni m;refine bodyPost_ret (v:=.agg #[ai,ai,.bool true,j,k,l]) ?_ rfl ?_
  ·simp[results,results298,go_sem,y,z,H,I,K,L]
  rw[g.out];exact⟨u.alloc _,_,rfl,⟨rfl,⟨bY _ au,bY _ au,HX⟩⟩,w.alloc _⟩
 replace g:Hid (q=((bW d o).bind λa b=>if bB b ⟨#[46]⟩then(bW d b.tail).bind λf b=>.ok ⟨a,f,false,⟨0,0,e0⟩⟩ b else .ok ⟨e0,a,false,⟨0,0,e0⟩⟩ b)):=g;go_wp2_with fail
 refine aT aj (r.alloc _) g (eJ d e o _ (s.alloc _)) aN ?_;intro j H b b I l c K L b;have m:=b6 c i;obtain⟨rfl,u⟩:=l;clear c;go_wp2_with fail
 refine jp ⟨#[46]⟩ aj K I L (bY _ au) ?av ?ay
 case av=>
  intro b z c M N b;have k:=bn c m;clear c;obtain⟨b,f,g,i,n,o⟩:=ni k;have b:=λb=>aa.frozen k b;have b:=aa.lt k;go_wp2;have O:=ed k M N [.string ⟨#[]⟩,.string j,.bool false,.int .i64 0,.int .i64 0,.string ⟨#[]⟩] rfl af af;obtain⟨w,x,y⟩:=O;simp only[bX,Nat.zero_add,Nat.reduceAdd]at w x y;obtain⟨P,Q,R,S,T,U⟩:=ni w;refine bodyPost_ret (v:=.agg #[ai,j,.bool false,J 0,J 0,ai]) ?_ rfl ?_
  ·simp[results,results298,go_sem,P,Q,R,S,T,U]
  rw[z.out];exact⟨x,_,rfl,⟨rfl,⟨bY _ au,u,V.jt _ _ _ af af (bY _ au)⟩⟩,y⟩
 intro b M c N O b;have P:=bn c m;clear c;go_wp2_with fail
 refine aT aj N M (eJ d e H.tail _ O) aN ?_;intro w b b b Q l c R S b;have k:=bn c P;obtain⟨rfl,T⟩:=l;clear c;obtain⟨b,c,d,e,f,g⟩:=ni k;have b:=λb=>aa.frozen k b;have b:=aa.lt k;go_wp2;have U:=ed k R S [.string j,.string w,.bool false,.int .i64 0,.int .i64 0,.string ⟨#[]⟩] rfl af af;obtain⟨x,y,z⟩:=U;simp only[bX,Nat.zero_add,Nat.reduceAdd]at x y z;obtain⟨W,X,Y,ab,ac,ad⟩:=ni x;refine bodyPost_ret (v:=.agg #[j,w,.bool false,J 0,J 0,ai]) ?_ rfl ?_
 ·simp[results,results298,go_sem,W,X,Y,ab,ac,ad]
 rw[Q.out];exact⟨y,_,rfl,⟨rfl,⟨u,T,V.jt _ _ _ af af (bY _ au)⟩⟩,z⟩
theorem qv (c:Int) (d:Nat) (b:List aq) (g:ah) (i:az g d c b):
 Calls prog 168 #[ak d] g λk l=>PP c d g (gR c b) CB k l:=by
 have k:=i.lt;have m:=Z i;have n:=Z (Kp.refl [d] g);clear i;have j:=Z (show gR c b=(bW c b).bind λa b=>(aW c b [⟨#[46]⟩]).bind λ_ b=>(bW c b).bind λe b=>.ok (a,e) b from rfl);generalize gR c b=C at j⊢;go_enter func168,ntmps168
 go_wp2_with fail
 refine aT aj n j (eJ c d b _ m) aN ?_;intro b o b p q e f r s b;obtain⟨rfl,t⟩:=e;clear f;go_wp2_with fail
 refine aT aj (r.alloc _) q (df c d o [⟨#[46]⟩] _ p _ (s.alloc _) (cC [⟨#[46]⟩] au)) aN ?_;intro b u b b v e f w x b;obtain rfl:=e;clear f;go_wp2_with fail
 refine aT aj w v (eJ c d u _ x) aN ?_;intro b b b b y e f z A b;obtain⟨rfl,B⟩:=e;clear f;go_wp2;go_ret2
 rw[y.out];exact⟨z,_,rfl,⟨rfl,t,B⟩,A⟩
theorem CH (c:Int) (e:Nat) (b:List aq) (f:ah) (i:az f e c b):
 Calls prog 172 #[ak e] f λs t=>PP c e f (k9 c b) (jo da.cells da.bo) s t:=by
 have s:=i.lt;have u:=Z i;have w:=Z (Kp.refl [e] f);have s:f.heap.size<=f.heap.size:=Nat.le_refl _;clear i;have k:=Z (show k9 c b=(bW c b).bind λa b=>(aW c b [⟨#[61]⟩]).bind λ_ b=>(jX c b).bind λd b=>.ok ⟨a,d⟩ b from rfl);generalize k9 c b=V at k⊢;go_enter func172,ntmps172
 have x:=Z (aa.new f 238 #[ai,J 0,J 0,ai]);go_wp2_with fail
 refine aT aj (w.alloc _) k (eJ c e b _ (u.alloc _)) aN ?_;intro l y b z A g d B C b;have D:=bn d x;obtain⟨rfl,E⟩:=g;clear d;go_wp2_with fail
 refine aT aj (B.alloc _) A (df c e y [⟨#[61]⟩] _ z _ (C.alloc _) (cC [⟨#[61]⟩] au)) aN ?_;intro b F b b G g d H I b;have K:=b6 d D;obtain rfl:=g;clear d;go_wp2_with fail
 refine aT aj H G (vX c e F _ I) aN ?_;intro L b b b M g d N O b;have j:=bn d K;obtain⟨rfl,P⟩:=g;clear d;obtain⟨m,n,o⟩:=L;obtain⟨b,c,d,e⟩:=vF j;have b:=λb=>aa.frozen j b;go_wp2;have Q:=ed j N O [.string l,.int .i64 m,.int .i64 n,.string o] rfl af af;obtain⟨p,q,r⟩:=Q;simp only[bX,Nat.zero_add,Nat.reduceAdd]at p q r;obtain⟨R,S,T,U⟩:=vF p;refine bodyPost_ret (v:=.agg #[l,m,n,o]) ?_ rfl ?_
 ·simp[results,results172,go_sem,R,S,T,U]
 rw[M.out];exact⟨q,_,rfl,⟨rfl,⟨E,P⟩⟩,r⟩
theorem CI (c:Int) (e:Nat) (b:List aq) (d:ah) (g:az d e c b):
 Calls prog 174 #[ak e] d λq r=>PP c e d (la c b) (jo Vr.cells Vr.bo) q r:=by
 have q:=g.lt;have s:=Z g;have t:=Z (Kp.refl [e] d);have q:d.heap.size<=d.heap.size:=Nat.le_refl _;clear g;have k:=Z (show la c b=(bW c b).bind λf b=>(bW c b).bind λg b=>.ok ⟨g,f⟩ b from rfl);generalize la c b=J at k⊢;go_enter func174,ntmps174
 have u:=Z (aa.new d 133 #[ai,ai]);go_wp2_with fail
 refine aT aj (t.alloc _) k (eJ c e b _ (s.alloc _)) aN ?_;intro l w b b x i f y z b;have A:=bn f u;obtain⟨rfl,B⟩:=i;clear f;go_wp2_with fail
 refine aT aj y x (eJ c e w _ z) aN ?_;intro m b b b C i f D E b;have j:=bn f A;obtain⟨rfl,F⟩:=i;clear f;obtain⟨b,c⟩:=vE j;have b:=λb=>aa.frozen j b;go_wp2;have G:=ed j D E [.string m,.string l] rfl af af;obtain⟨n,o,p⟩:=G;simp only[bX,Nat.zero_add,Nat.reduceAdd]at n o p;obtain⟨H,I⟩:=vE n;refine bodyPost_ret (v:=.agg #[m,l]) ?_ rfl ?_
 ·simp[results,results174,go_sem,H,I]
 rw[C.out];exact⟨o,_,rfl,⟨rfl,⟨F,B⟩⟩,p⟩
theorem CJ (d:Int) (f:Nat) (c:List aq) (g:ah) (l:az g f d c):
 Calls prog 165 #[ak f] g λD E=>PP d f g (k8 d c) (jo cZ.cells cZ.bo) D E:=by
 have D:=l.lt;have F:=Z l;have G:=Z (Kp.refl [f] g);have D:g.heap.size<=g.heap.size:=Nat.le_refl _;clear l;have u:=Z (show k8 d c=(bW d c).bind λa c=>(dZ d c [⟨_⟩,⟨_⟩,⟨_⟩,⟨_⟩]).bind λb c=>if bB c ⟨#[61]⟩then(jX d c.tail).bind λe c=>.ok ⟨a,b,e⟩ c else .ok ⟨a,b,⟨0,0,e0⟩⟩ c from rfl);generalize k8 d c=ax at u⊢;go_enter func165,ntmps165
 have H:=Z (aa.new g 208 #[ai,J 0,J 0,J 0,ai]);go_wp2_with fail
 refine aT aj (G.alloc _) u (eJ d f c _ (F.alloc _)) aN ?_;intro i I c K L j b M N c;have O:=bn b H;obtain⟨rfl,w⟩:=j;clear b;go_wp2_with fail
 refine aT aj (M.alloc _) L (mh d f I [⟨_⟩,⟨_⟩,⟨_⟩,⟨_⟩] _ K _ (N.alloc _) (cC [⟨_⟩,⟨_⟩,⟨_⟩,⟨_⟩] au) au) aN ?_;intro e P c k Q j b R S c;have m:=b6 b O;obtain⟨rfl,x,y⟩:=j;clear b;have c:1<=e/\e<=100:=⟨x,y⟩;clear x y;have z:=Z (aa.new k 208 #[i,e,J 0,J 0,ai]);have c:=aa.lt m;go_wp2_with fail
 refine jp ⟨#[61]⟩ aj (R.alloc _) Q (S.alloc _) (bY _ au) ?av ?ay
 case av=>
  intro c s b A B c;have n:=b6 b m;have c:=bn b z;clear b;obtain⟨g,l,u,x,y⟩:=nh n;have l:=λg=>aa.frozen n g;obtain⟨l,u,x,y,D⟩:=nh c;have g:=λg=>aa.frozen c g;have c:=aa.lt c;go_wp2;have C:=ed n A B [.string i,.int .i64 e,.int .i64 0,.int .i64 0,.string ⟨#[]⟩] rfl af af;obtain⟨o,q,r⟩:=C;simp only[bX,Nat.zero_add,Nat.reduceAdd]at o q r;obtain⟨T,U,W,X,Y⟩:=nh o;refine bodyPost_ret (v:=.agg #[i,e,J 0,J 0,ai]) ?_ rfl ?_
  ·simp[results,results165,go_sem,T,U,W,X,Y]
  rw[s.out];exact⟨q,_,rfl,⟨rfl,⟨w,⟨by show _<=e;omega,by show e<=_;omega⟩,V.jt _ _ _ af af (bY _ au)⟩⟩,r⟩
 intro c T b U W c;have X:=b6 b m;have Y:=bn b z;clear b;go_wp2_with fail
 refine aT aj U T (vX d f P.tail _ W) aN ?_;intro ab c c c ac j b ad ae c;have n:=bn b X;have o:=bn b Y;obtain⟨rfl,ag⟩:=j;clear b;obtain⟨q,r,s⟩:=ab;obtain⟨b,c,d,f,g⟩:=nh n;have c:=λb=>aa.frozen n b;obtain⟨c,d,f,g,j⟩:=nh o;have b:=λb=>aa.frozen o b;have b:=aa.lt o;go_wp2;have al:=ed (t:=208) (aa.far (aa.far (aa.far n (p:=(ao k 2)) aG q) (p:=(ao k 3)) aG r) (p:=(ao k 4)) aG s) (Kp.set aG (Kp.set aG (Kp.set aG ad _) _) _) (az.set aG (az.set aG (az.set aG ae _) _) _) [.string i,.int .i64 e,.int .i64 q,.int .i64 r,.string s] rfl af af;obtain⟨A,B,C⟩:=al;simp only[bX,Nat.zero_add,Nat.reduceAdd]at A B C;obtain⟨am,an,ap,ar,aw⟩:=nh A;refine bodyPost_ret (v:=.agg #[i,e,q,r,s]) ?_ rfl ?_
 ·simp[results,results165,go_sem,am,an,ap,ar,aw]
 rw[ac.out];exact⟨B,_,rfl,⟨rfl,⟨w,⟨by show _<=e;omega,by show e<=_;omega⟩,ag⟩⟩,C⟩
theorem CK (d:Int) (x:Nat) (e:List aq) (z:ah) (B:az z x d e):
 Calls prog 243 #[ak x] z λX Y=>PP d x z (k7 d e) (jo bm.cells bm.bo) X Y:=by
 have X:=B.lt;have ab:=Z B;have ac:=Z (Kp.refl [x] z);have X:z.heap.size<=z.heap.size:=Nat.le_refl _;clear B;have L:=Z (show k7 d e=(jY d e).bind λb e=>(dZ d e [⟨#[61]⟩,⟨_⟩,⟨#[60]⟩,⟨_⟩]).bind λc e=>(jY d e).bind λf e=>(m6 d e).bind λg e=>.ok ⟨b,c,f,g⟩ e from rfl);generalize k7 d e=M at L⊢;go_enter func243,ntmps243
 have ad:=Z (aa.new z 286 #[ai,ai,.bool false,J 0,J 0,ai,J 0,ai,ai,.bool false,J 0,J 0,ai,J 0]);go_wp2_with fail
 refine aT aj (ac.alloc _) L (vY d x e _ (ab.alloc _)) aN ?_;intro ae ag al am an f b ap ar z;have aw:=bn b ad;obtain⟨f,C⟩:=f;clear b;obtain⟨g,i,j,⟨k,l,m⟩⟩:=ae;replace f:al=.agg #[g,i,j,k,l,m]:=f;subst f;go_wp2_with fail
 refine aT aj (ap.alloc _) an (mh d x ag [⟨#[61]⟩,⟨_⟩,⟨#[60]⟩,⟨_⟩] _ am _ (ar.alloc _) (cC [⟨#[61]⟩,⟨_⟩,⟨#[60]⟩,⟨_⟩] au) au) aN ?_;intro c ax z z aD f b aE aF z;have aH:=b6 b aw;obtain⟨rfl,N,O⟩:=f;clear b;have z:1<=c/\c<=100:=⟨N,O⟩;clear N O;go_wp2_with fail
 refine aT aj aE aD (vY d x ax _ aF) aN ?_;intro aI w aJ D E f b aK aL z;have F:=bn b aH;obtain⟨f,G⟩:=f;clear b;obtain⟨n,o,q,⟨r,s,u⟩⟩:=aI;replace f:aJ=.agg #[n,o,q,r,s,u]:=f;subst f;have P:=Z (aa.new D 286 #[g,i,j,k,l,m,c,n,o,q,r,s,u,J 0]);have z:=aa.lt F;replace E:Hid (M=(if bB w ⟨#[43]⟩then(cu d w.tail).bind λy e=>.ok ⟨⟨g,i,j,⟨k,l,m⟩⟩,c,⟨n,o,q,⟨r,s,u⟩⟩,y⟩ e else if bB w ⟨#[45]⟩then(cu d w.tail).bind λy e=>.ok ⟨⟨g,i,j,⟨k,l,m⟩⟩,c,⟨n,o,q,⟨r,s,u⟩⟩,-y⟩ e else .ok ⟨⟨g,i,j,⟨k,l,m⟩⟩,c,⟨n,o,q,⟨r,s,u⟩⟩,0⟩ w)):=by
  apply Z;rw[E.out];show(m6 d w).bind _=_;unfold m6;cases bB w ⟨#[43]⟩<;>cases bB w ⟨#[45]⟩<;>simp[PO.bind]<;>cases cu d w.tail<;>rfl
 go_wp2_with fail
 refine jp ⟨#[43]⟩ aj (aK.alloc _) E (aL.alloc _) (bY _ au) ?ay ?aA
 case ay=>
  intro e aM b aO aP e;have Q:=b6 b F;have R:=bn b P;clear b;go_wp2_with fail
  refine jp ⟨#[45]⟩ aj aO aM aP (bY _ au) ?aB ?aC
  case aB=>
   intro e K b S T e;have y:=bn b Q;have e:=bn b R;clear b;obtain⟨z,B,E,L,N,O,V,W,X,Y,ab,ac,ad,ae⟩:=ka y;have B:=λz=>aa.frozen y z;obtain⟨B,E,L,N,O,V,W,X,Y,ab,ac,ad,ae,ag⟩:=ka e;have z:=λz=>aa.frozen e z;have e:=aa.lt e;go_wp2;have U:=ed y S T [.string g,.string i,.bool j,.int .i64 k,.int .i64 l,.string m,.int .i64 c,.string n,.string o,.bool q,.int .i64 r,.int .i64 s,.string u,.int .i64 0] rfl af af;obtain⟨A,H,I⟩:=U;simp only[bX,Nat.zero_add,Nat.reduceAdd]at A H I;obtain⟨x0,x1,x2,x3,x4,x5,x6,x7,x8,x9,x10,sg,sh,si⟩:=ka A;refine bodyPost_ret (v:=.agg #[g,i,j,k,l,m,c,n,o,q,r,s,u,J 0]) ?_ rfl ?_
   ·exact sj
   rw[K.out];exact⟨H,_,rfl,⟨rfl,⟨C,⟨by show _<=c;omega,by show c<=_;omega⟩,G,⟨by show _<=(0:Int);omega,by show(0:Int)<=_;omega⟩⟩⟩,I⟩
  intro e aQ b aR aS e;have aU:=bn b Q;have aV:=bn b R;clear b;go_wp2_with fail
  refine aT aj aR aQ (gq d x w.tail _ aS) aN ?_;intro A aW e e H f b aX aY e;have I:=bn b aU;have K:=bn b aV;obtain⟨rfl,S,T⟩:=f;clear b;have e:0<=A/\A<=9999999999:=⟨S,T⟩;clear S T;obtain⟨y,e⟩:=av (-A);have z:IntKind.i64.wrap (-A)=y:=by rw[e];exact IntWalk.i64_in _ af
  have z:-9999999999<=y:=af
  have z:y<=9999999999:=af
  replace H:Hid (M=.ok ⟨⟨g,i,j,⟨k,l,m⟩⟩,c,⟨n,o,q,⟨r,s,u⟩⟩,y⟩ aW):=by rw[e];exact H
  clear e;obtain⟨e,z,A,B,E,L,M,N,O,Q,R,S,T,X⟩:=ka I;have z:=λe=>aa.frozen I e;obtain⟨z,A,B,E,L,M,N,O,Q,R,S,T,X,Y⟩:=ka K;have e:=λe=>aa.frozen K e;have e:=aa.lt K;go_wp2;have aZ:=ed (t:=286) (aa.far I (p:=(ao D 13)) aG y) (Kp.set aG aX _) (az.set aG aY _) [.string g,.string i,.bool j,.int .i64 k,.int .i64 l,.string m,.int .i64 c,.string n,.string o,.bool q,.int .i64 r,.int .i64 s,.string u,.int .i64 y] rfl af af;obtain⟨U,V,W⟩:=aZ;simp only[bX,Nat.zero_add,Nat.reduceAdd]at U V W;obtain⟨x0,x1,x2,x3,x4,x5,x6,x7,x8,x9,x10,sg,sh,si⟩:=ka U;refine bodyPost_ret (v:=.agg #[g,i,j,k,l,m,c,n,o,q,r,s,u,y]) ?_ rfl ?_
  ·exact sj
  rw[H.out];exact⟨V,_,rfl,⟨rfl,⟨C,⟨by show _<=c;omega,by show c<=_;omega⟩,G,⟨by show _<=y;omega,by show y<=_;omega⟩⟩⟩,W⟩
 intro e T b U V e;have W:=b6 b F;have aM:=bn b P;clear b;go_wp2_with fail
 refine aT aj U T (gq d x w.tail _ V) aN ?_;intro y d d d aO f b aP aQ d;have A:=bn b W;have H:=bn b aM;obtain⟨rfl,I,K⟩:=f;clear b;have b:0<=y/\y<=9999999999:=⟨I,K⟩;clear I K;obtain⟨b,d,e,f,w,x,z,B,E,F,I,K,L,M⟩:=ka A;have d:=λb=>aa.frozen A b;obtain⟨d,e,f,w,x,z,B,E,F,I,K,L,M,N⟩:=ka H;have b:=λb=>aa.frozen H b;have b:=aa.lt H;go_wp2;have aR:=ed (t:=286) (aa.far A (p:=(ao D 13)) aG y) (Kp.set aG aP _) (az.set aG aQ _) [.string g,.string i,.bool j,.int .i64 k,.int .i64 l,.string m,.int .i64 c,.string n,.string o,.bool q,.int .i64 r,.int .i64 s,.string u,.int .i64 y] rfl af af;obtain⟨Q,R,S⟩:=aR;simp only[bX,Nat.zero_add,Nat.reduceAdd]at Q R S;obtain⟨x0,x1,x2,x3,x4,x5,x6,x7,x8,x9,x10,sg,sh,si⟩:=ka Q;refine bodyPost_ret (v:=.agg #[g,i,j,k,l,m,c,n,o,q,r,s,u,y]) ?_ rfl ?_
 ·exact sj
 rw[aO.out];exact⟨R,_,rfl,⟨rfl,⟨C,⟨by show _<=c;omega,by show c<=_;omega⟩,G,⟨by show _<=y;omega,by show y<=_;omega⟩⟩⟩,S⟩
theorem vZ (b:Int) (c:Nat) (e:List aq) (d:ah) (i:az d c b e):
 Calls prog 175 #[ak c] d λg j=>PP b c d (jZ b e) (d3 d.heap.size 14 bm.cells bm.bo) g j:=by
 have g:=i.lt;have l:=Z i;have m:=Z (Kp.refl [c] d);have j:∀g d,(callFunc 243 g).run prog d=.ok (.enter 243 g) d:=enters_of func243 am rfl;have n:=Z (λf (g:ah) (h:az g c b f)=>BR 243 #[ak c] (k7 b) (vz b) j b c f ⟨#[97,110,100]⟩ g h (bY _ au) (λf g h=>CK b c f g h));clear j;clear i;have k:=Z (show jZ b e=(aW b e [⟨_⟩]).bind λ_ e=>dO ⟨_⟩ (k7 b) e from rfl);generalize jZ b e=y at k⊢;go_enter func175,ntmps175
 go_wp2_with fail
 refine aT aj (m.alloc _) k (df b c e [⟨_⟩] _ d _ (l.alloc _) (cC [⟨_⟩] au)) aN ?_;intro b o b b p q f r s t;obtain rfl:=q;clear f;go_wp2_with fail
 refine aT aj r (p.trans (PO.bind_pure _).symm) (n o _ s) aN ?_;intro b b b b u v f w x b;clear f;go_wp2;go_ret;rw[u.out];exact⟨w,_,rfl,v.base t,x⟩
inductive RE where
 |mk (kind:Int) (table:ax) (hk:Hd) (kids:List RE) (hc:Hd) (conds:List bm) (hn:Hd) (names:bk) (attr cU:ax) (agg at_:Int)
def RE.cells:RE->List Value
 |.mk kind table hk _ hc _ hn _ attr cU agg at_=>[.int .i64 kind,.string table,hk.val,hc.val,hn.val,.string attr,.string cU,.int .i64 agg,.int .i64 at_]
mutual
def RE.ex:RE->Ex
 |.mk kind table _ kids _ conds _ names attr cU agg at_=>.mk kind table (RE.exs kids) conds names attr cU agg at_
def RE.exs:List RE->List Ex
 |[]=>[]
 |r::l=>r.ex::RE.exs l
end
def RE.zero:RE:=.mk 0 e0 ⟨none,0,0⟩ [] ⟨none,0,0⟩ [] ⟨none,0,0⟩ [] e0 e0 0 0
def bc (S:Nat->Prop) (h:Hd):Prop:=∀b c,h.a=some ⟨b,c,none⟩->S b
def eT (c:Nat->Prop) (h:Hd):Prop:=∀b d,h.a=some ⟨b,d,none⟩->0<h.n->c b
theorem eT.mono {S S':Nat->Prop} {h:Hd} (a:eT S h) (c:∀b,S b->S' b):eT S' h:=λb d e f=>c b (a b d e f)
theorem bc.e {S:Nat->Prop} {h:Hd} (a:bc S h):eT S h:=λb c d _=>a b c d
instance {a:Nat->Prop} {h:Hd}:Coe (bc a h) (eT a h):=⟨bc.e⟩
theorem aE.kg {b:Type} {d e:ah} {f:Nat} {h:Hd} {g:b->List Value} {i:List b} (c:aE d f h g i) {j:List Nat} (k:Kp j d e) (l:∀b d,h.a=some ⟨b,d,none⟩->0<h.n->b∉j):aE e f h g i:=
 ⟨c.1,c.2.1,λd e=>by
  obtain⟨b,d,e,f,g⟩:=c.2.2 d e;exact⟨b,d,e,aV f k.size,λi j m=>(k.cell (p:=⟨b,_,none⟩) f (l b d e (by have:=c.1;omega))).trans (g i j m)⟩⟩
inductive dK (w:ah) (S:Nat->Prop):RE->Prop where
 |mk {kind:Int} {table:ax} {hk:Hd} {kids:List RE} {hc:Hd} {conds:List bm} {hn:Hd} {names:bk} {attr cU:ax} {agg at_:Int}
  (lk:aE w 9 hk RE.cells kids) (ik:eT S hk) (sub:∀k∈kids,dK w S k) (lc:aE w 14 hc bm.cells conds) (ic:eT S hc) (fc:∀c∈conds,c.bo) (ln:b5 w hn names) (iN:eT S hn)
  (ot:aJ table) (oa:aJ attr) (os:aJ cU) (Lg:cb kind) (ig:cb agg) (ip:cb at_):dK w S (.mk kind table hk kids hc conds hn names attr cU agg at_)
theorem bc.mono {S S':Nat->Prop} {h:Hd} (a:bc S h) (c:∀b,S b->S' b):bc S' h:=λb d e=>c b (a b d e)
theorem bc.none_ (S:Nat->Prop) (n a:Nat):bc S ⟨none,n,a⟩:=λa a b=>by cases b
theorem aE.none_ {a:Type} (w:ah) (m:Nat) (enc:a->List Value):aE w m ⟨none,0,0⟩ enc []:=⟨rfl,by show 0<=_;omega,λa a=>absurd a aj⟩
theorem dK.mono {w:ah} {S S':Nat->Prop} {r:RE} (a:dK w S r) (b:∀c,S c->S' c):dK w S' r:=by
 induction a with
 |mk d e t f g i j k l m n o p q s=>exact .mk d (e.mono b) (λc d=>s c d) f (g.mono b) i j (k.mono b) l m n o p q
theorem dK.keep {w c:ah} {S:Nat->Prop} {d:RE} (j:dK w S d) {l:List Nat} (k:Kp l w c) (b:∀a∈l,¬S a):dK c S d:=by
 induction j with
 |mk m e x n f o g i p q r s t u v=>
  exact .mk (m.kg k (λa c d j m=>b a m (e a c d j))) e (λc d=>v c d) (n.kg k (λa c d e j=>b a j (f a c d e))) f o ⟨g.1.kg k (λa c d e f=>b a f (i a c d e)),g.2⟩ i p q r s t u
theorem RE.len (a:RE):a.cells.length=9:=by cases a;rfl
theorem RE.sn (a:List RE):RE.exs a=a.map RE.ex:=by
 induction a with
 |nil=>rfl
 |cons c a b=>rw[RE.exs,b];rfl
def Bw (b c:Nat) (a:Nat):Prop:=b<=a/\a<c
def qw (base:Nat) (c:Ex) (v:aA) (b:ah):Prop:=∃a:RE,a.ex=c/\v=.agg a.cells.toArray/\dK b (Bw base b.heap.size) a
theorem v6 {w:ah} {j m a d e:Nat} {k:aX} {f ys vs:aP} (o:w.ownsRow j k m (O (some ⟨e,0,none⟩) (a+1) d) (a+1) (f++ys)) (g:f.length=a*m) (u:ys.length=m) (l:vs.length=m):
 (bX w e (a*m) vs).ownsRow j k m (O (some ⟨e,0,none⟩) (a+1) d) (a+1) (f++vs):=by
 rcases o.2 with⟨h,_⟩|⟨v,x,b,p,q,r,n,s,y,t⟩
 ·cases h
 injection p with c i e3
 injection c with c
 injection c with c
 subst c e3;have j:a*m+vs.length<=b.size:=by
  have:(a+1)*m<=d*m:=Nat.mul_le_mul_right m n;rw[Nat.add_mul]at this;omega
 refine⟨by rw[List.length_append,g,l,Nat.add_mul];omega,.inr ⟨e,d,mg b (a*m) vs,rfl,q,aa.jq vs (a*m) w b r,n,s,?_,?_⟩⟩
 ·have:=congrArg List.length (qi vs (a*m) b j)
  simp only[Array.length_toList,List.length_append,List.length_take,List.length_drop]at this;omega
 rw[qi vs (a*m) b j];have c:(a+1)*m=a*m+vs.length:=by rw[Nat.add_mul,l];omega
 have i:b.toList.take (a*m)=f:=by
  have b:(b.toList.take ((a+1)*m)).take (a*m)=b.toList.take (a*m):=by
   have:a*m<=(a+1)*m:=oR
   rw[List.take_take,Nat.min_eq_left this]
  rw[<-b,t,List.take_append_of_le_length af,List.take_of_length_le af]
 rw[i,c,List.take_append_of_le_length (by rw[List.length_append,g];omega),List.take_of_length_le (by rw[List.length_append,g];omega)]
def PL {c:Type} (l:List Nat) (z:Int) (P:Nat) (w:ah) (e:PO c) (V:c->Value->World->Prop) (d:Ending) (b:ah):Prop:=
 Kp l w b/\match e with
 |.ok a ts=>∃c,d=.returned c/\V a c b/\az b P z ts
 |.bad er at_=>d=.panicked [{v:=gT er at_,recovered:=false}]
theorem PO.qx {b e:Type} {a:Prop} [Decidable a] (c d:PO b) (f:b->List aq->PO e):(if a then c else d).bind f=if a then c.bind f else d.bind f:=by split<;>rfl
section
variable {w W:ah} {P:Nat} {z:Int} {us:List aq} {f:FuncId} {args:aQ} {Q:Ending->World->Prop} {l:List Nat}
theorem o4 {i o:Type} {j:PO o} {k:PO i} {V:i->Value->World->Prop} {g:i->List aq->PO o} {l2:List Nat} (q:∀c∈l2,c∈l\/w.heap.size<=c) (o:Kp l w W) (d:j=k.bind g) (r:Calls prog f args W (λi b=>PL l2 z P W k V i b))
 (m:∀er a b,Hid (j=.bad er a)->Hid (Kp l w b)->Q (.panicked [{v:=gT er a,recovered:=false}]) b)
 (s:∀a e v b,Hid (j=g a e)->V a v b->Kp l2 W b->Hid (Kp l w b)->Hid (az b P z e)->w.heap.size<=b.heap.size->Q (.returned v) b):Calls prog f args W Q:=by
 refine r.mono ?_;rintro i b ⟨p,h⟩;have n:Kp l w b:=p.old o (λc m i=>by rcases q c m with h|h;exact h;omega);cases hr:k with
 |bad er a=>rw[hr]at h d;subst h;exact m er a b (Z d) (Z n)
 |ok a e=>rw[hr]at h d;obtain⟨v,rfl,t,u⟩:=h;exact s a e v b (Z d) t p (Z n) (Z u) n.size
theorem so {o:Type} {g j k:PO o} (b:ax) (i:ah) (c:Nat) (p:Kp l w W) (d:g=if bB us b=true then j else k) (m:az W P z us) (q:aJ b)
 (r:∀a,Hid (g=k)->Kp [] W a->Hid (Kp l w a)->Hid (az a P z us)->w.heap.size<=a.heap.size->Q (.returned (.bool false)) a)
 (s:∀a,Hid (g=j)->Kp [] W a->Hid (Kp l w a)->Hid (az a P z us)->w.heap.size<=a.heap.size->Q (.returned (.bool true)) a)
 (t:W=i.alloc (.cells #[b] 9):=by rfl) (u:c=i.heap.size:=by simp):
 Calls prog 169 #[ak P,O (some ⟨c,0,none⟩) 1 1] W Q:=by
 have v:b5 W ⟨some ⟨c,0,none⟩,1,1⟩ [b]:=by subst t u;exact oP i [b] 9 aj (by simpa using q)
 refine(r0 z P us ⟨some ⟨c,0,none⟩,1,1⟩ [b] W m v).mono ?_;rintro c a ⟨x,e⟩;have f:Kp l w a:=p.trans (Kp.of_same e);subst x;have n:=m.same e;cases hr:bB us b with
 |false=>rw[hr]at d;rw[show eF us [b]=false from hr];exact r a (Z d) (Kp.of_same e) (Z f) (Z n) f.size
 |true=>rw[hr]at d;rw[show eF us [b]=true from hr];exact s a (Z d) (Kp.of_same e) (Z f) (Z n) f.size
end
structure sq (lo X:Nat) (c0 c1 c2 c8:aA) (r:dq) (w:ah) (hc hn:Hd):Prop where
 blk:aa w X 93 #[c0,c1,c2,hc.val,hn.val,r.attr,r.cU,r.agg,c8]
 lc:aE w 14 hc bm.cells r.conds
 ic:bc (Bw lo w.heap.size) hc
 fc:∀c∈r.conds,c.bo
 ln:b5 w hn r.names
 iN:bc (Bw lo w.heap.size) hn
 oa:aJ r.attr
 os:aJ r.cU
 og:cb r.agg
def qz (a b:Nat) (c d e f:aA) (g:dq) (i:aA) (w:ah):Prop:=i=.tuple #[]/\∃i j,sq a b c d e f g w i j
theorem d3.open_ {d:Type} {g i:Nat} {j:d->List Value} {k:d->Prop} {e:List d} {a:aU} {b c:Nat} {w:ah} (l:d3 g i j k e (O a b c) w):aE w i ⟨a,b,c⟩ j e/\(∀d∈e,k d)/\bc (Bw g w.heap.size) ⟨a,b,c⟩:=by
 obtain⟨⟨m,n,o⟩,f,p,q,r,_⟩:=l;replace f:Value.slice a b c=.slice m n o:=f;injection f with e1 e2 e3
 subst e1 e2 e3;exact⟨p,q,r⟩
theorem bc.low {a lo' b:Nat} {h:Hd} (c:bc (Bw a b) h) (d:lo'<=a):bc (Bw lo' b) h:=c.mono (λa a=>⟨bJ d a.1,a.2⟩)
theorem kh (a:ah):b5 a ⟨none,0,0⟩ []:=⟨aE.none_ a 1 cq,λa h=>by cases h⟩
theorem CL (g:Int) (d c q:Nat) (e:List aq) (b:ah) (u f v w:aA) (r:az b d g e) (s:aa b c 93 #[u,f,v,ab,ab,ai,ai,J 0,w]) (l:aa b q 127 #[ak d]) (I:d<c) (I:c<q):
 Calls prog 300 #[ak c,ak q] b λi q=>PL [d,c] g d b (eG g 0 e) (qz b.heap.size c u f v w) i q:=by
 have q:=r.lt;have A:=Z r;have B:=Z (Kp.refl [d,c] b);have q:b.heap.size<=b.heap.size:=Nat.le_refl _;have C:=Z s;have x:=Z l;have q:=l.lt;clear s l;clear r;have y:=Z (show eG g 0 e=(jZ g e).bind λj e=>.ok {dq.zero with conds:=j} e from rfl);generalize eG g 0 e=K at y⊢;have q:=ay x;have q:=aa.lt x;have l:=bb q;go_enter func300,ntmps300
 go_wp2_with fail
 refine aT aj B y (vZ g d e _ A) aN ?_;intro e e m D E z e F G g;have n:=bn e C;clear e;obtain⟨⟨j,k,f⟩,t,H⟩:∃h:Hd,m=h.val/\m=m:=by obtain⟨h,i,_⟩:=z;exact⟨h,i,rfl⟩
 replace t:m=.slice j k f:=t;subst t;clear H;obtain⟨e,g,l,m,q,r,t,u,v⟩:=fg n;have e:=λe=>aa.frozen n e;have e:=aa.lt n;have s:=bb e;have o:=z.open_;go_wp2;refine bodyPost_ret (results_none rfl _ _ _) rfl ?_;rw[E.out];have e:=(n.aR 3 (O j k f));have c:=(Kp.aI (p:=(ac c 3)) aj (Kp.refl [d,c] D) (O j k f));exact⟨(Kp.aI aj F (O j k f)),_,rfl,⟨rfl,⟨j,k,f⟩,⟨none,0,0⟩,⟨e,(o.1.kp c (λc d i e=>by have:=o.2.2 c d i;unfold Bw at this;simp at e;omega)),(by have h:=o.2.2.low (lo':=b.heap.size) (by omega);simpa using h),o.2.1,kh _,bc.none_ _ _ _,bY _ au,bY _ au,⟨by show _<=(0:Int);omega,by show(0:Int)<=_;omega⟩⟩⟩,(az.set aG G.out _)⟩
theorem CM (f:Int) (c d w:Nat) (e:List aq) (g:ah) (z A B C:aA) (x:az g c f e) (q:aa g d 93 #[z,A,B,ab,ab,ai,ai,J 0,C]) (i:aa g w 127 #[ak c]) (af:c<d) (af:d<w):
 Calls prog 301 #[ak d,ak w] g λk w=>PL [c,d] f c g (eG f 1 e) (qz g.heap.size d z A B C) k w:=by
 have w:=x.lt;have H:=Z x;have I:=Z (Kp.refl [c,d] g);have K:=Z q;have y:=Z i;clear q i;clear x;have D:=Z (show eG f 1 e=(aW f e [⟨_⟩]).bind λ_ e=>(lY f ⟨#[41]⟩ e).bind λb e=>.ok {dq.zero with names:=b} e from rfl);generalize eG f 1 e=L at D⊢;have r:=ay y;have j:=aa.lt y;have i:=bb j;go_enter func301,ntmps301
 go_wp2_with fail
 refine aT aj (I.alloc _) D (df f c e [⟨_⟩] _ g _ (H.alloc _) (cC [⟨_⟩] au)) aN ?_;intro e E e M N l b P Q e;have F:=b6 b K;have s:=b6 b y;obtain rfl:=l;clear b;clear r j i;have r:=ay s;have j:=aa.lt s;have i:=bb j;go_wp2_with fail
 refine so ⟨#[41]⟩ M _ (P.alloc _) (N.trans (PO.qx _ _ _)) (Q.alloc _) (bY _ au) ?av ?aB
 case av=>
  intro e R b S T e;have U:=b6 b F;have e:=b6 b s;clear b;clear r j i;have r:=ay e;have j:=aa.lt e;have i:=bb j;go_wp2_with fail
  refine aT aj S R (qj f c E _ T) aN ?_;intro e e t V W G b X Y e;have u:=bn b U;clear b;obtain⟨⟨m,n,o⟩,l,ad⟩:∃h:Hd,t=h.val/\t=t:=by obtain⟨h,k,_⟩:=G;exact⟨h,k,rfl⟩
  replace l:t=.slice m n o:=l;subst l;clear ad;obtain⟨e,f,i,j,l,r,t,w,x⟩:=fg u;have e:=λe=>aa.frozen u e;have e:=aa.lt u;have q:=bb e;have v:=G.open_;go_wp2;refine bodyPost_ret (results_none rfl _ _ _) rfl ?_;rw[W.out];have e:=(u.aR 4 (O m n o));have ae:=(Kp.aI (p:=(ac d 4)) aj (Kp.refl [c,d] V) (O m n o));exact⟨(Kp.aI aj X (O m n o)),_,rfl,⟨rfl,⟨none,0,0⟩,⟨m,n,o⟩,⟨e,aE.none_ _ 14 _,bc.none_ _ _ _,(λ_ h=>by cases h),⟨(v.1.kp ae (λe f k i=>by have:=v.2.2 e f k;unfold Bw at this;simp at i;omega)),v.2.1⟩,(by have h:=v.2.2.low (lo':=g.heap.size) (by omega);simpa using h),bY _ au,bY _ au,⟨by show _<=(0:Int);omega,by show(0:Int)<=_;omega⟩⟩⟩,(az.set aG Y.out _)⟩
 intro o n b t u e;have m:=b6 b F;have e:=b6 b s;clear b;replace n:Hid (L=.ok {dq.zero with names:=[]} E):=n;obtain⟨b,e,f,g,i,j,k,l,r⟩:=fg m;have b:=λb=>aa.frozen m b;have b:=aa.lt m;have q:=bb b;go_wp2;refine bodyPost_ret (results_none rfl _ _ _) rfl ?_;rw[n.out];have b:=m.out;have c:=(Kp.refl [c,d] o);exact⟨t,_,rfl,⟨rfl,⟨none,0,0⟩,⟨none,0,0⟩,⟨b,aE.none_ _ 14 _,bc.none_ _ _ _,(λ_ h=>by cases h),kh _,bc.none_ _ _ _,bY _ au,bY _ au,⟨by show _<=(0:Int);omega,by show(0:Int)<=_;omega⟩⟩⟩,u.out⟩
theorem CN (d:Int) (e i r:Nat) (b:List aq) (j:ah) (x y z A:aA) (s:az j e d b) (m:aa j i 93 #[x,y,z,ab,ab,ai,ai,J 0,A]) (g:aa j r 127 #[ak e]) (P:e<i) (P:i<r):
 Calls prog 302 #[ak i,ak r] j λr P=>PL [e,i] d e j (eG d 5 b) (qz j.heap.size i x y z A) r P:=by
 have r:=s.lt;have Q:=Z s;have R:=Z (Kp.refl [e,i] j);have S:=Z m;have t:=Z g;clear m g;clear s;have B:=Z (show eG d 5 b=(aW d b [⟨#[44]⟩]).bind λ_ b=>(bW d b).bind λa b=>(aW d b [⟨_⟩]).bind λ_ b=>(bW d b).bind λc b=>.ok {dq.zero with attr:=a,cU:=c} b from rfl);generalize eG d 5 b=aC at B⊢;have l:=ay t;have f:=aa.lt t;have g:=bb f;go_enter func302,ntmps302
 go_wp2_with fail
 refine aT aj (R.alloc _) B (df d e b [⟨#[44]⟩] _ j _ (Q.alloc _) (cC [⟨#[44]⟩] au)) aN ?_;intro b T b b U k c V W b;have X:=b6 c S;have u:=b6 c t;obtain rfl:=k;clear c;clear l f g;have l:=ay u;have f:=aa.lt u;have g:=bb f;go_wp2_with fail
 refine aT aj V U (eJ d e T _ W) aN ?_;intro n Y b ad ae k c af ag b;have o:=bn c X;have v:=bn c u;obtain⟨rfl,al⟩:=k;clear c;clear l f g;have l:=ay v;have f:=aa.lt v;have g:=bb f;obtain⟨C,D,E,F,G,H,I,K,L⟩:=fg o;have M:=λw=>aa.frozen o w;have p:=aa.lt o;have m:=bb p;go_wp2_with fail
 refine aT aj ((Kp.aI aj af n).alloc _) ae (df d e Y [⟨_⟩] _ (ad.setCell (ac i 5) n) _ ((az.set aG ag _).alloc _) (cC [⟨_⟩] au)) aN ?_;intro b am b b an k c ao ap b;have ar:=Z (c.blk ((jU o n).alloc _) bd);have N:=Z (c.blk ((aa.far v aG n).alloc _) bd);obtain rfl:=k;clear c;clear C D E F G H I K L M p m;clear l f g;have l:=ay N;have f:=aa.lt N;have g:=bb f;go_wp2_with fail
 refine aT aj ao an (eJ d e am _ ap) aN ?_;intro O b b b av k c aw ax b;have q:=bn c ar;obtain⟨rfl,aB⟩:=k;clear c;obtain⟨C,D,E,F,G,H,I,K,L⟩:=fg q;have M:=λw=>aa.frozen q w;have p:=aa.lt q;have m:=bb p;go_wp2;refine bodyPost_ret (results_none rfl _ _ _) rfl ?_;rw[av.out];have b:=(q.aR 6 O);exact⟨(Kp.aI aj aw O),_,rfl,⟨rfl,⟨none,0,0⟩,⟨none,0,0⟩,⟨b,aE.none_ _ 14 _,bc.none_ _ _ _,(λ_ h=>by cases h),kh _,bc.none_ _ _ _,al,aB,⟨by show _<=(0:Int);omega,by show(0:Int)<=_;omega⟩⟩⟩,(az.set aG ax.out _)⟩
theorem CO (e:Int) (f k T:Nat) (c:List aq) (o:ah) (an ao ap ar:aA) (U:az o f e c) (m:aa o k 93 #[an,ao,ap,ab,ab,ai,ai,J 0,ar]) (i:aa o T 127 #[ak f]) (bE:f<k) (bE:k<T):
 Calls prog 303 #[ak k,ak T] o λu T=>PL [f,k] e f o (eG e 6 c) (qz o.heap.size k an ao ap ar) u T:=by
 have T:=U.lt;have aU:=Z U;have aV:=Z (Kp.refl [f,k] o);have aX:=Z m;have V:=Z i;have T:=i.lt;clear m i;clear U;have aw:=Z (show eG e 6 c=(aW e c [⟨_⟩]).bind λ_ c=>(lY e ⟨_⟩ c).bind λd c=>(aW e c [⟨_⟩]).bind λ_ c=>(dZ e c [⟨_⟩,⟨_⟩,⟨_⟩,⟨_⟩]).bind λb c=>(if b=1 then .ok e0 c else bW e c).bind λa c=>(aW e c [⟨_⟩]).bind λ_ c=>(bW e c).bind λg c=>.ok {dq.zero with names:=d,attr:=a,cU:=g,agg:=b} c from rfl);generalize eG e 6 c=K at aw⊢;have j:=ay V;have d:=aa.lt V;have i:=bb d;go_enter func303,ntmps303
 go_wp2_with fail
 refine aT aj (aV.alloc _) aw (df e f c [⟨_⟩] _ o _ (aU.alloc _) (cC [⟨_⟩] au)) aN ?_;intro T W T aY aZ g b a0 a1 T;have ax:=b6 b aX;have L:=b6 b V;obtain rfl:=g;clear b;clear j d i;have j:=ay L;have d:=aa.lt L;have i:=bb d;go_wp2_with fail
 refine so ⟨_⟩ aY _ (a0.alloc _) (aZ.trans (PO.qx _ _ _)) (a1.alloc _) (bY _ au) ?av ?aB
 case av=>
  intro T a2 b a3 a4 T;have a5:=b6 b ax;have X:=b6 b L;clear b;clear j d i;have j:=ay X;have d:=aa.lt X;have i:=bb d;go_wp2_with fail
  refine aT aj a3 a2 (qj e f W _ a4) aN ?_;intro aC aD M aF Y aH b a6 a7 T;have N:=bn b a5;have ad:=bn b X;clear b;obtain⟨⟨r,s,t⟩,g,a8⟩:∃h:Hd,M=h.val/\M=M:=by obtain⟨h,u,_⟩:=aH;exact⟨h,u,rfl⟩
  replace g:M=.slice r s t:=g;subst g;clear a8;obtain⟨v,w,x,y,z,A,B,C,D⟩:=fg N;have E:=λq=>aa.frozen N q;have n:=aa.lt N;have m:=bb n;replace Y:Hid (K=(aW e aD [⟨#[119,105,116,104]⟩]).bind λ_ c=>(dZ e c [⟨#[99,111,117,110,116]⟩,⟨#[115,117,109]⟩,⟨#[108,101,97,115,116]⟩,⟨#[103,114,101,97,116,101,115,116]⟩]).bind λl c=>(if l=1 then .ok e0 c else bW e c).bind λa c=>(aW e c [⟨#[97,115]⟩]).bind λ_ c=>(bW e c).bind λF c=>.ok {dq.zero with names:=aC,attr:=a,cU:=F,agg:=l} c):=Y;clear j d i;have j:=ay ad;have d:=aa.lt ad;have i:=bb d;go_wp2_with fail
  refine aT aj ((Kp.aI aj a6 (O r s t)).alloc _) Y (df e f aD [⟨_⟩] _ (aF.setCell (ac k 4) (O r s t)) _ ((az.set aG a7 _).alloc _) (cC [⟨_⟩] au)) aN ?_;intro M a9 M aJ ba g b be bf M;have bg:=Z (b.blk ((lX N (O r s t)).alloc _) bd);have ae:=Z (b.blk ((aa.far ad aG (O r s t)).alloc _) bd);have bh:=Z (aH.kp (((Kp.aI aj (Kp.refl [f,k] aF) (O r s t)).alloc _).trans (b.mono aj)) bd);obtain rfl:=g;clear b;clear j d i;have j:=ay ae;have d:=aa.lt ae;have i:=bb d;go_wp2_with fail
  refine aT aj (be.alloc _) ba (mh e f a9 [⟨_⟩,⟨_⟩,⟨_⟩,⟨_⟩] _ aJ _ (bf.alloc _) (cC [⟨_⟩,⟨_⟩,⟨_⟩,⟨_⟩] au) au) aN ?_;intro l af M ag F g b aK aL M;have H:=b6 b bg;have P:=b6 b ae;have aM:=Z (bh.kp (((Kp.refl [f,k] aJ).alloc _).trans (b.mono aj)) bd);obtain⟨rfl,aO,aP⟩:=g;clear b;have M:1<=l/\l<=100:=⟨aO,aP⟩;clear aO aP;obtain⟨v,w,x,y,z,A,B,C,D⟩:=fg H;have E:=λq=>aa.frozen H q;have n:=aa.lt H;have m:=bb n;clear j d i;have j:=ay P;have d:=aa.lt P;have i:=bb d;by_cases G:l=1
  ·
   have M:(l !=1)=false:=by simp[G]
   replace F:Hid (K=(aW e af [⟨#[97,115]⟩]).bind λ_ c=>(bW e c).bind λI c=>.ok {dq.zero with names:=aC,attr:=e0,cU:=I,agg:=l} c):=Z (by rw[F.out,if_pos G];rfl);clear G;go_wp2_with fail
   refine aT aj ((Kp.aI aj aK l).alloc _) F (df e f af [⟨_⟩] _ (ag.setCell (ac k 7) l) _ ((az.set aG aL _).alloc _) (cC [⟨_⟩] au)) aN ?_;intro M al M am aQ g b aS bi M;have bj:=Z (b.blk ((gE H l).alloc _) bd);have R:=Z (b.blk ((aa.far P aG l).alloc _) bd);have bk:=Z (aM.kp (((Kp.aI aj (Kp.refl [f,k] ag) l).alloc _).trans (b.mono aj)) bd);obtain rfl:=g;clear b;clear v w x y z A B C D E n m;clear j d i;have j:=ay R;have d:=aa.lt R;have i:=bb d;go_wp2_with fail
   refine aT aj aS aQ (eJ e f al _ bi) aN ?_;intro S M M bl bm g b bo bp M;have I:=bn b bj;have M:=bn b R;have bq:=Z (bk.kp ((Kp.refl [f,k] am).trans (b.mono aj)) bd);obtain⟨rfl,br⟩:=g;clear b;obtain⟨v,w,x,y,z,A,B,C,D⟩:=fg I;have E:=λq=>aa.frozen I q;have n:=aa.lt I;have m:=bb n;have Q:=bq.open_;go_wp2;refine bodyPost_ret (results_none rfl _ _ _) rfl ?_;rw[bm.out];have I:=(I.aR 6 S);have bs:=(Kp.aI (p:=(ac k 6)) aj (Kp.refl [f,k] bl) S);exact⟨(Kp.aI aj bo S),_,rfl,⟨rfl,⟨none,0,0⟩,⟨r,s,t⟩,⟨I,aE.none_ _ 14 _,bc.none_ _ _ _,(λ_ h=>by cases h),⟨(Q.1.kp bs (λI M u N=>by have:=Q.2.2 I M u;unfold Bw at this;simp at N;omega)),Q.2.1⟩,(by have h:=Q.2.2.low (lo':=o.heap.size) (by omega);simpa using h),bY _ au,br,⟨by show _<=l;omega,by show l<=_;omega⟩⟩⟩,(az.set aG bp.out _)⟩
  have M:(l !=1)=true:=by simp[G]
  replace F:=Z (F.out.trans (congrArg (λI=>PO.bind I _) (if_neg G)));clear G;go_wp2_with fail
  refine aT aj (Kp.aI aj aK l) F (eJ e f af _ (az.set aG aL _)) aN ?_;intro I bi F aQ bj g b bk bl F;have Q:=Z (b.blk (gE H l) bd);have al:=Z (b.blk (aa.far P aG l) bd);have bm:=Z (aM.kp ((Kp.aI aj (Kp.refl [f,k] ag) l).trans (b.mono aj)) bd);obtain⟨rfl,bo⟩:=g;clear b;clear v w x y z A B C D E n m;obtain⟨v,w,x,y,z,A,B,C,D⟩:=fg Q;have E:=λq=>aa.frozen Q q;have n:=aa.lt Q;have m:=bb n;clear j d i;have j:=ay al;have d:=aa.lt al;have i:=bb d;go_wp2_with fail
  refine aT aj ((Kp.aI aj bk I).alloc _) bj (df e f bi [⟨_⟩] _ (aQ.setCell (ac k 5) I) _ ((az.set aG bl _).alloc _) (cC [⟨_⟩] au)) aN ?_;intro F bp F bq br g b bs bt F;have bu:=Z (b.blk ((jU Q I).alloc _) bd);have aS:=Z (b.blk ((aa.far al aG I).alloc _) bd);have bv:=Z (bm.kp (((Kp.aI aj (Kp.refl [f,k] aQ) I).alloc _).trans (b.mono aj)) bd);obtain rfl:=g;clear b;clear v w x y z A B C D E n m;clear j d i;have j:=ay aS;have d:=aa.lt aS;have i:=bb d;go_wp2_with fail
  refine aT aj bs br (eJ e f bp _ bt) aN ?_;intro am F F bw bx g b bz bA F;have R:=bn b bu;have bB:=Z (bv.kp ((Kp.refl [f,k] bq).trans (b.mono aj)) bd);obtain⟨rfl,bC⟩:=g;clear b;obtain⟨v,w,x,y,z,A,B,C,D⟩:=fg R;have E:=λq=>aa.frozen R q;have n:=aa.lt R;have m:=bb n;have S:=bB.open_;go_wp2;refine bodyPost_ret (results_none rfl _ _ _) rfl ?_;rw[bx.out];have n:=(R.aR 6 am);have bD:=(Kp.aI (p:=(ac k 6)) aj (Kp.refl [f,k] bw) am);exact⟨(Kp.aI aj bz am),_,rfl,⟨rfl,⟨none,0,0⟩,⟨r,s,t⟩,⟨n,aE.none_ _ 14 _,bc.none_ _ _ _,(λ_ h=>by cases h),⟨(S.1.kp bD (λn q u r=>by have:=S.2.2 n q u;unfold Bw at this;simp at r;omega)),S.2.1⟩,(by have h:=S.2.2.low (lo':=o.heap.size) (by omega);simpa using h),bo,bC,⟨by show _<=l;omega,by show l<=_;omega⟩⟩⟩,(az.set aG bA.out _)⟩
 intro ag M b al am o;have aC:=b6 b ax;have N:=b6 b L;clear b;replace M:Hid (K=(aW e W [⟨#[119,105,116,104]⟩]).bind λ_ c=>(dZ e c [⟨#[99,111,117,110,116]⟩,⟨#[115,117,109]⟩,⟨#[108,101,97,115,116]⟩,⟨#[103,114,101,97,116,101,115,116]⟩]).bind λl c=>(if l=1 then .ok e0 c else bW e c).bind λa c=>(aW e c [⟨#[97,115]⟩]).bind λ_ c=>(bW e c).bind λn c=>.ok {dq.zero with names:=[],attr:=a,cU:=n,agg:=l} c):=M;clear j d i;have j:=ay N;have d:=aa.lt N;have i:=bb d;go_wp2_with fail
 refine aT aj (al.alloc _) M (df e f W [⟨_⟩] _ ag _ (am.alloc _) (cC [⟨_⟩] au)) aN ?_;intro o aD o aF aH g b aJ aK o;have aL:=b6 b aC;have P:=b6 b N;obtain rfl:=g;clear b;clear j d i;have j:=ay P;have d:=aa.lt P;have i:=bb d;go_wp2_with fail
 refine aT aj (aJ.alloc _) aH (mh e f aD [⟨_⟩,⟨_⟩,⟨_⟩,⟨_⟩] _ aF _ (aK.alloc _) (cC [⟨_⟩,⟨_⟩,⟨_⟩,⟨_⟩] au) au) aN ?_;intro l Q o aM r g b Y ad o;have E:=b6 b aL;have F:=b6 b P;obtain⟨rfl,ae,af⟩:=g;clear b;have o:1<=l/\l<=100:=⟨ae,af⟩;clear ae af;obtain⟨s,t,v,w,x,y,z,A,B⟩:=fg E;have C:=λq=>aa.frozen E q;have n:=aa.lt E;have m:=bb n;clear j d i;have j:=ay F;have d:=aa.lt F;have i:=bb d;by_cases D:l=1
 ·
  have o:(l !=1)=false:=by simp[D]
  replace r:Hid (K=(aW e Q [⟨#[97,115]⟩]).bind λ_ c=>(bW e c).bind λo c=>.ok {dq.zero with names:=[],attr:=e0,cU:=o,agg:=l} c):=Z (by rw[r.out,if_pos D];rfl);clear D;go_wp2_with fail
  refine aT aj ((Kp.aI aj Y l).alloc _) r (df e f Q [⟨_⟩] _ (aM.setCell (ac k 7) l) _ ((az.set aG ad _).alloc _) (cC [⟨_⟩] au)) aN ?_;intro c R c c S g b X aO c;have aP:=Z (b.blk ((gE E l).alloc _) bd);have H:=Z (b.blk ((aa.far F aG l).alloc _) bd);obtain rfl:=g;clear b;clear s t v w x y z A B C n m;clear j d i;have j:=ay H;have d:=aa.lt H;have i:=bb d;go_wp2_with fail
  refine aT aj X S (eJ e f R _ aO) aN ?_;intro I c c aQ aS g b a2 a3 c;have G:=bn b aP;have c:=bn b H;obtain⟨rfl,a4⟩:=g;clear b;obtain⟨s,t,v,w,x,y,z,A,B⟩:=fg G;have C:=λq=>aa.frozen G q;have n:=aa.lt G;have m:=bb n;go_wp2;refine bodyPost_ret (results_none rfl _ _ _) rfl ?_;rw[aS.out];have c:=(G.aR 6 I);have o:=(Kp.aI (p:=(ac k 6)) aj (Kp.refl [f,k] aQ) I);exact⟨(Kp.aI aj a2 I),_,rfl,⟨rfl,⟨none,0,0⟩,⟨none,0,0⟩,⟨c,aE.none_ _ 14 _,bc.none_ _ _ _,(λ_ h=>by cases h),kh _,bc.none_ _ _ _,bY _ au,a4,⟨by show _<=l;omega,by show l<=_;omega⟩⟩⟩,(az.set aG a3.out _)⟩
 have c:(l !=1)=true:=by simp[D]
 replace r:=Z (r.out.trans (congrArg (λc=>PO.bind c _) (if_neg D)));clear D;go_wp2_with fail
 refine aT aj (Kp.aI aj Y l) r (eJ e f Q _ (az.set aG ad _)) aN ?_;intro G aO c aP aQ g b aS a2 c;have H:=Z (b.blk (gE E l) bd);have R:=Z (b.blk (aa.far F aG l) bd);obtain⟨rfl,a3⟩:=g;clear b;clear s t v w x y z A B C n m;obtain⟨s,t,v,w,x,y,z,A,B⟩:=fg H;have C:=λq=>aa.frozen H q;have n:=aa.lt H;have m:=bb n;clear j d i;have j:=ay R;have d:=aa.lt R;have i:=bb d;go_wp2_with fail
 refine aT aj ((Kp.aI aj aS G).alloc _) aQ (df e f aO [⟨_⟩] _ (aP.setCell (ac k 5) G) _ ((az.set aG a2 _).alloc _) (cC [⟨_⟩] au)) aN ?_;intro c a4 c c a5 g b a6 a7 c;have a8:=Z (b.blk ((jU H G).alloc _) bd);have S:=Z (b.blk ((aa.far R aG G).alloc _) bd);obtain rfl:=g;clear b;clear s t v w x y z A B C n m;clear j d i;have j:=ay S;have d:=aa.lt S;have i:=bb d;go_wp2_with fail
 refine aT aj a6 a5 (eJ e f a4 _ a7) aN ?_;intro X c c a9 ba g b be bf c;have I:=bn b a8;have c:=bn b S;obtain⟨rfl,bg⟩:=g;clear b;obtain⟨s,t,v,w,x,y,z,A,B⟩:=fg I;have C:=λq=>aa.frozen I q;have n:=aa.lt I;have m:=bb n;go_wp2;refine bodyPost_ret (results_none rfl _ _ _) rfl ?_;rw[ba.out];have b:=(I.aR 6 X);have c:=(Kp.aI (p:=(ac k 6)) aj (Kp.refl [f,k] a9) X);exact⟨(Kp.aI aj be X),_,rfl,⟨rfl,⟨none,0,0⟩,⟨none,0,0⟩,⟨b,aE.none_ _ 14 _,bc.none_ _ _ _,(λ_ h=>by cases h),kh _,bc.none_ _ _ _,a3,bg,⟨by show _<=l;omega,by show l<=_;omega⟩⟩⟩,(az.set aG bf.out _)⟩
def qA (a:Nat):Nat->Value
 |0=>.func (.func 300) #[] #[ak a]
 |1=>.func (.func 301) #[] #[ak a]
 |5=>.func (.func 302) #[] #[ak a]
 |6=>.func (.func 303) #[] #[ak a]
 |_=>.func (.func 299) #[] #[]
def ml (a:Nat):ByteArray:=gp.getD a e0
def no (b:Nat):List Value:=(List.range 7).flatMap λa=>[.string (ml a),.bool (m7 a),qA b a]
theorem CP (b a:Nat) (c:a<7):(no b)[a*3]?=some (.string (ml a))/\(no b)[a*3+1]?=some (.bool (m7 a))/\(no b)[a*3+2]?=some (qA b a):=by
 match a,c with
 |0,_=>exact⟨rfl,rfl,rfl⟩
 |1,_=>exact⟨rfl,rfl,rfl⟩
 |2,_=>exact⟨rfl,rfl,rfl⟩
 |3,_=>exact⟨rfl,rfl,rfl⟩
 |4,_=>exact⟨rfl,rfl,rfl⟩
 |5,_=>exact⟨rfl,rfl,rfl⟩
 |6,_=>exact⟨rfl,rfl,rfl⟩
 |n+7,h=>omega
theorem CQ (b:Nat) (a:ah):
 Calls prog 244 #[ak b] a λc d=>c=.returned (O (some ⟨a.heap.size+1,0,none⟩) 7 7)/\d=(a.alloc (.cells #[ak b] 127)).alloc (.cells (no a.heap.size).toArray 325):=by
 have a:∀(b:Fn) (first cap:aQ) (a:ah),(Instr.makeFunc b first cap).run prog a=.ok (.func b first cap) a:=λ_ _ _ _=>rfl;go_enter func244,ntmps244
 go_wp2;go_ret;exact⟨rfl,rfl⟩
theorem CR (b:Nat) (a:ah):Calls prog 299 #[ak b] a λb c=>b=.returned (.tuple #[])/\a=c:=by
 go_enter func299,ntmps299
 go_wp2;go_end0
 exact⟨rfl,rfl⟩
structure fU (w:ah) (base:Nat) (A:aU) (n c:Nat) (rs:List RE):Prop where
 own:w.ownsRow base 93 9 (O A n c) n (rs.flatMap RE.cells)
 len:rs.length=n
 few:n<=2
 sub:∀r∈rs,dK w (λb=>Bw base w.heap.size b/\∀g,A=some ⟨g,0,none⟩->b≠g) r
theorem fU.none_ (w:ah) (base:Nat):fU w base none 0 0 []:=⟨⟨rfl,.inl ⟨rfl,rfl⟩⟩,rfl,by omega,λ_ h=>by cases h⟩
theorem fU.keep {w c:ah} {base:Nat} {d:aU} {n e:Nat} {rs:List RE} (a:fU w base d n e rs) {l:List Nat} (k:Kp l w c) (f:∀b∈l,b<base):fU c base d n e rs:=
 ⟨bG a.own k f,a.len,a.few,λc d=>((a.sub c d).keep k (λb a h=>by have:=f b a;have:=h.1.1;omega)).mono (λb h=>⟨⟨h.1.1,aV h.1.2 k.size⟩,h.2⟩)⟩
def iG:List Value:=[.int .i64 0,.string ⟨#[]⟩,.slice none 0 0,.slice none 0 0,.slice none 0 0,.string ⟨#[]⟩,.string ⟨#[]⟩,.int .i64 0,.int .i64 0]
theorem o5 (rs:List RE):(rs.flatMap RE.cells).length=rs.length*9:=ng (λa=>RE.len a) rs
theorem fU.push {w c d:ah} {base P:Nat} {A j:aU} {n e c':Nat} {m:List RE} {r:RE} (a:fU w base A n e m) (k:Kp [P] w c) (G:P<base) (v:base<=w.heap.size) (G:n<=1)
 (y:dK c (Bw w.heap.size c.heap.size) r) (s:d.ownsRow base 93 9 (O j (n+1) c') (n+1) (m.flatMap RE.cells++iG)) (f:c.grownBy d (Value.slice A n e).ownBlock)
 (hat:(Value.slice j (n+1) c').ownBlock=(Value.slice A n e).ownBlock\/(Value.slice j (n+1) c').ownBlock=some c.heap.size):
 ∃g,j=some ⟨g,0,none⟩/\base<=g/\g<d.heap.size/\fU (bX d g (n*9) r.cells) base j (n+1) c' (m++[r]):=by
 rcases s.2 with⟨h,_⟩|⟨g,H,z,i,B,C,I,J,K,L⟩
 ·cases h
 injection i with e1 e2 e3
 subst e1 e3;have j:g<d.heap.size:=aa.lt (t:=93) (cs:=z) C;refine⟨g,rfl,B,j,?_⟩;have j:(m.flatMap RE.cells).length=n*9:=by rw[o5,a.len]
 have D:=v6 s j rfl (RE.len r);have u:Kp [g] d (bX d g (n*9) r.cells):=by
  have:∀(o:aP) (l:Nat) (q:ah),Kp [g] d q->Kp [g] d (bX q g l o):=by
   intro o;induction o with
   |nil=>intro l q h;exact h
   |cons E o F=>intro l q h;exact F (l+1) _ (h.setCell (p:=(ac g l)) (.inl aj) E)
  exact this _ _ _ (Kp.refl _ _)
 have hform:∀b,(Value.slice A n e).ownBlock=some b->A=some ⟨b,0,none⟩/\base<=b/\b<w.heap.size:=by
  intro b hb';rcases a.own.2 with⟨i,_⟩|⟨g',E,l,i,o,q,_⟩
  ·rw[i]at hb';cases hb'
  rw[i]at hb';injection hb' with hb'
  injection i with e1
  subst e1;have:g'=b:=hb';subst this;exact⟨rfl,o,aa.lt (t:=93) (cs:=l) q⟩
 have m:Kp ((Value.slice A n e).ownBlock.toList) c d:=⟨f.os,f.tape,f.output,f.size,λb hb' hne=>f.block b hb' (λhe=>hne (by rw[<-he];simp))⟩;have l:g<c.heap.size->(Value.slice A n e).ownBlock=some g:=by
  exact v7
 have hold:∀(i j:Nat->Prop) (x:RE),dK c i x->(∀b,i b->b<c.heap.size/\(Value.slice A n e).ownBlock≠some b)->(∀b,i b->j b)->dK (bX d g (n*9) r.cells) j x:=by
  intro i j x i hS o;have q:=i.keep m (λb hb' h=>(hS b h).2 (by
   cases fE:(Value.slice A n e).ownBlock with
   |none=>rw[fE]at hb';simp at hb'
   |some E=>rw[fE]at hb';simp at hb';rw[hb']))
  refine(q.keep u (λb hb' h=>?_)).mono o;rw[aC hb']at h;exact(hS g h).2 (l (hS g h).1)
 have d:c.heap.size<=(bX d g (n*9) r.cells).heap.size:=bJ f.size u.size;have sr:=k.size;have hne:∀b,b<c.heap.size->(Value.slice A n e).ownBlock≠some b->b≠g:=λb d f he=>f (he▸l (he▸d));refine⟨?_,by rw[List.length_append,a.len];rfl,by omega,λx q=>?_⟩
 ·rw[List.flatMap_append]
  simpa using D
 rcases cP q with h|h
 ·exact v8
 rw[aC h];have o:∀b,Bw w.heap.size c.heap.size b->b<c.heap.size/\(Value.slice A n e).ownBlock≠some b:=λb hS=>⟨hS.2,λhe=>by have:=(hform b he).2.2;have:=hS.1;omega⟩;refine hold _ _ r y o (λb hS=>⟨⟨bJ v hS.1,by have:=hS.2;omega⟩,λg' hg'=>?_⟩);injection hg' with hg'
 injection hg' with hg'
 subst hg';exact hne b hS.2 (o b hS).2
end Go.Proofs.YteamkimbmdgdbaaGreatDoor

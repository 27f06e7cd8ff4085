import Derived.Test.YteamkimbmdgdbaaGreatDoorK05
set_option linter.unusedSimpArgs false
set_option linter.unusedVariables false
set_option maxHeartbeats 16000000
set_option maxRecDepth 100000
namespace Go.Proofs.YteamkimbmdgdbaaGreatDoor
open Go.Proofs.Tryz
open Go.RowKit
theorem sw (a:ao) (b:List ao) (c:av):bB (a::b) c=gg a c:=by
 show(gg a c&&eJ b [])=gg a c;have:eJ b []=true:=by cases b<;>rfl
 rw[this,Bool.and_true]
theorem V.jy (a b:Int) (c:av) (d:0<=a/\a<=4) (d:-9999999999<=b/\b<=9999999999) (d:aJ c):V.fine ⟨a,b,c⟩:=⟨by show _<=a;omega,by show a<=_;omega,by show _<=b;omega,by show b<=_;omega,d⟩
def o7 (b:Option V) (v:aA) (_:ah):Prop:=(∃a:V,b=some a/\v=.tuple #[.agg #[a.k,a.n,a.s],.bool true]/\a.fine)\/(b=none/\v=.tuple #[.agg #[J 0,J 0,ai],.bool false])
def CK (a:V) (v:aA) (_:ah):Prop:=v=.agg #[a.k,a.n,a.s]/\a.fine
def CL (a:ByteArray×ByteArray) (b:aA) (_:ah):Prop:=b=.tuple #[a.1,a.2]/\aJ a.1/\aJ a.2
theorem CM (c:Int) (b:ao) (a:List ao) (f:b.k≠3) (g:b.k≠2):f6 c (b::a)=
 if bB (b::a) ⟨#[45]⟩then(cB c a).bind λd e=>.ok (some ⟨2,-d,⟨#[]⟩⟩) e else if bB (b::a) ⟨#[64]⟩then(cB c a).bind λd e=>.ok (some ⟨3,d,⟨#[]⟩⟩) e else if bB (b::a) ⟨#[116,114,117,101]⟩then .ok (some ⟨4,1,⟨#[]⟩⟩) a else if bB (b::a) ⟨#[102,97,108,115,101]⟩then .ok (some ⟨4,0,⟨#[]⟩⟩) a else if bB (b::a) ⟨#[110,117,108,108]⟩then .ok (some ⟨0,0,⟨#[]⟩⟩) a else .ok none (b::a):=by
 rw[f6,if_neg f,if_neg g];simp only[sw];rfl
theorem CN (d:Int) (a:Nat) (b:ah) (c:az b a d []):
 Calls prog 297 #[ak a] b λi j=>PP d a b (.ok none []) o7 i j:=by
 have d:=c.lt;have k:=Z c;obtain⟨⟨l,e,m⟩,f,g⟩:=c;have a:ae b (ac a 0) (O l e m):=aa.cell f 0;have n:0=e:=g.lies.1;subst n;clear g f;go_enter func297,ntmps297
 go_wp2;refine bodyPost_ret (v:=.tuple #[.agg #[J 0,J 0,ai],.bool false]) ?_ rfl ?_
 ·simp[results,results297,go_sem]
  try rfl
 exact⟨(Kp.refl _ _).alloc _,_,rfl,.inr ⟨rfl,rfl⟩,k.alloc _⟩
theorem CO (e:Int) (d:Nat) (b:ao) (i:List ao) (c:ah) (f:az c d e (b::i)) (o:b.k=3):
 Calls prog 297 #[ak d] c λB C=>PP e d c (((ez e (b::i) b.k).bind λj l=>.ok (some ⟨1,0,j.t⟩) l)) o7 B C:=by
 have B:=f.lt;have p:=Z f;have D:=Z (Kp.refl [d] c);have B:c.heap.size<=c.heap.size:=Nat.le_refl _;obtain⟨⟨E,m,F⟩,q,g⟩:=f;have B:=g.lies.2.1;have B:ae c (ac d 0) (O E m F):=aa.cell q 0;obtain⟨B,C,r,E,F,W,X,Y,ab⟩:=g.first;have G:=r;subst G;have B:((m:Int)==0)=false:=by have:=g.lies.1;simp at this;simp;omega
 have m:1<=m:=by have:=g.lies.1;simp at this;omega
 clear r g q;have g:(b.k==3)=true:=by simp[o]
 have g:∀(b:ao) c,(Instr.field 188 b.val 1).run prog c=.ok (.string b.t) c:=λ_ _=>by kernel_rfl
 clear o;have f:=trivial;clear f;obtain⟨f,f⟩:∃f:PO (Option V),f=((ez e (b::i) b.k).bind λj l=>.ok (some ⟨1,0,j.t⟩) l):=⟨_,rfl⟩;rw[<-f];have H:=Z f;clear f;go_enter func297,ntmps297
 have I:=Z (aa.new c 66 #[J 0,J 0,ai]);go_wp2_with fail
 refine aU aj ((D.alloc _).alloc _) H (sc e d (b::i) b.k _ ((p.alloc _).alloc _)) aN ?_;intro u b b b K L w M N b;have n:=b5 w I;obtain⟨rfl,x,P⟩:=L;clear w;have Q:=Z (p.fine x).s;clear x P;obtain⟨b,c,d⟩:=eT n;have b:=λb=>aa.frozen n b;go_wp2;have R:=eg n M N [.int .i64 1,.int .i64 0,.string u.t] rfl af af;obtain⟨y,z,A⟩:=R;simp only[bZ,Nat.zero_add,Nat.reduceAdd]at y z A;obtain⟨S,T,U⟩:=eT y;refine bodyPost_ret (v:=.tuple #[.agg #[J 1,J 0,u.t],.bool true]) ?_ rfl ?_
 ·simp[results,results297,go_sem,S,T,U]
 rw[K.out];exact⟨z,_,rfl,.inl ⟨_,rfl,rfl,V.jy _ _ _ af af Q⟩,A⟩
theorem CP (f:Int) (e:Nat) (c:ao) (j:List ao) (b:ah) (g:az b e f (c::j)) (m:c.k=2):
 Calls prog 297 #[ak e] b λy z=>PP f e b (((cB f (c::j)).bind λd n=>.ok (some ⟨2,d,⟨#[]⟩⟩) n)) o7 y z:=by
 have y:=g.lt;have A:=Z g;have B:=Z (Kp.refl [e] b);have y:b.heap.size<=b.heap.size:=Nat.le_refl _;obtain⟨⟨C,d,D⟩,q,i⟩:=g;have y:=i.lies.2.1;have y:ae b (ac e 0) (O C d D):=aa.cell q 0;obtain⟨y,z,r,C,D,R,S,T,U⟩:=i.first;have E:=r;subst E;have y:((d:Int)==0)=false:=by have:=i.lies.1;simp at this;simp;omega
 have o:1<=d:=by have:=i.lies.1;simp at this;omega
 clear r i q;have i:(c.k==3)=false:=by simp[m]
 have i:(c.k==2)=true:=by simp[m]
 clear m;have g:=trivial;clear g;obtain⟨g,d⟩:∃g:PO (Option V),g=((cB f (c::j)).bind λd n=>.ok (some ⟨2,d,⟨#[]⟩⟩) n):=⟨_,rfl⟩;rw[<-d];have F:=Z d;clear d;go_enter func297,ntmps297
 have G:=Z (aa.new b 66 #[J 0,J 0,ai]);go_wp2_with fail
 refine aU aj ((B.alloc _).alloc _) F (gi f e (c::j) _ ((A.alloc _).alloc _)) aN ?_;intro l b b b H I s K L b;have p:=b5 s G;obtain⟨rfl,t,o⟩:=I;clear s;have b:0<=l/\l<=9999999999:=⟨t,o⟩;clear t o;obtain⟨b,c,d⟩:=eT p;have b:=λb=>aa.frozen p b;go_wp2;have M:=eg p K L [.int .i64 2,.int .i64 l,.string ⟨#[]⟩] rfl af af;obtain⟨u,w,x⟩:=M;simp only[bZ,Nat.zero_add,Nat.reduceAdd]at u w x;obtain⟨N,P,Q⟩:=eT u;refine bodyPost_ret (v:=.tuple #[.agg #[J 2,l,ai],.bool true]) ?_ rfl ?_
 ·simp[results,results297,go_sem,N,P,Q]
 rw[H.out];exact⟨w,_,rfl,.inl ⟨_,rfl,rfl,V.jy _ _ _ af af (b2 _ ax)⟩,x⟩
theorem CQ (e:Int) (f:Nat) (d:ao) (g:List ao) (c:ah) (j:az c f e (d::g)) (q:d.k≠3) (r:d.k≠2):
 Calls prog 297 #[ak f] c λL M=>PP e f c ((f6 e (d::g))) o7 L M:=by
 have L:=j.lt;have N:=Z j;have P:=Z (Kp.refl [f] c);have L:c.heap.size<=c.heap.size:=Nat.le_refl _;obtain⟨⟨Q,s,R⟩,A,l⟩:=j;have L:=l.lies.2.1;have L:ae c (ac f 0) (O Q s R):=aa.cell A 0;obtain⟨L,M,B,Q,R,aK,aL,aM,aO⟩:=l.first;have S:=B;subst S;have L:((s:Int)==0)=false:=by have:=l.lies.1;simp at this;simp;omega
 have av:1<=s:=by have:=l.lies.1;simp at this;omega
 clear B l A;have l:(d.k==3)=false:=by simp[q]
 have l:(d.k==2)=false:=by simp[r]
 have C:=Z (CM e d g q r);clear q r;have j:=trivial;clear j;obtain⟨t,d⟩:∃t:PO (Option V),t=(f6 e (d::g)):=⟨_,rfl⟩;rw[<-d];have u:=Z d;clear d;go_enter func297,ntmps297
 have D:=Z (aa.new c 66 #[J 0,J 0,ai]);replace u:=Z (u.out.trans C.out);clear C;go_wp2_with fail
 refine ju ⟨#[45]⟩ aj ((P.alloc _).alloc _) u ((N.alloc _).alloc _) (b2 _ ax) ?av ?ay
 case av=>
  intro d K b T U d;have y:=b5 b D;clear b;go_wp2_with fail
  refine ju ⟨#[64]⟩ aj T K U (b2 _ ax) ?aA ?aB
  case aA=>
   intro d W b X Y d;have x:=bl b y;clear b;go_wp2_with fail
   refine ju ⟨_⟩ aj X W Y (b2 _ ax) ?aC ?aD
   case aC=>
    intro d ab b ad ag d;have z:=bl b x;clear b;go_wp2_with fail
    refine ju ⟨_⟩ aj ad ab ag (b2 _ ax) ?aF ?aG
    case aF=>
     intro d w b E F d;have m:=bl b z;clear b;go_wp2_with fail
     refine ju ⟨_⟩ aj E w F (b2 _ ax) ?aH ?aI
     case aH=>
      intro d G b H I d;have i:=bl b m;clear b;obtain⟨d,j,l⟩:=eT i;have d:=λd=>aa.frozen i d;go_wp2;have al:=eg i H I [.int .i64 0,.int .i64 0,.string ⟨#[]⟩] rfl af af;obtain⟨n,o,p⟩:=al;simp only[bZ,Nat.zero_add,Nat.reduceAdd]at n o p;obtain⟨am,an,ap⟩:=eT n;refine bodyPost_ret (v:=.tuple #[.agg #[J 0,J 0,ai],.bool false]) ?_ rfl ?_
      ·simp[results,results297,go_sem,am,an,ap]
      rw[G.out];exact⟨o,_,rfl,.inr ⟨rfl,rfl⟩,p⟩
     intro d G b H I d;have i:=bl b m;clear b;obtain⟨d,j,l⟩:=eT i;have d:=λd=>aa.frozen i d;go_wp2;have al:=eg i H I [.int .i64 0,.int .i64 0,.string ⟨#[]⟩] rfl af af;obtain⟨n,o,p⟩:=al;simp only[bZ,Nat.zero_add,Nat.reduceAdd]at n o p;obtain⟨am,an,ap⟩:=eT n;refine bodyPost_ret (v:=.tuple #[.agg #[J 0,J 0,ai],.bool true]) ?_ rfl ?_
     ·simp[results,results297,go_sem,am,an,ap]
     rw[G.out];exact⟨o,_,rfl,.inl ⟨_,rfl,rfl,V.jy _ _ _ af af (b2 _ ax)⟩,p⟩
    intro al am b an ap d;have o:=bl b z;clear b;obtain⟨E,F,G⟩:=eT o;have H:=λp=>aa.frozen o p;go_upto_region 19 with(fail)
    have i:=eg o an ap [.int .i64 4,.int .i64 0,.string ⟨#[]⟩] rfl af af;simp only[bZ,Nat.zero_add,Nat.reduceAdd]at i;generalize ((((al.setCell (aq c 0) (J 4)).setCell (aq c 1) (J 0)).setCell (aq c 2) ai))=aP at i⊢;obtain⟨w,m,n⟩:=i;have ar:=am;clear E F G H;obtain⟨E,F,G⟩:=eT w;have H:=λp=>aa.frozen w p;go_wp2;have i:=eg w m n [.int .i64 4,.int .i64 0,.string ⟨#[]⟩] rfl af af;obtain⟨I,m,n⟩:=i;simp only[bZ,Nat.zero_add,Nat.reduceAdd]at I m n;obtain⟨aw,aE,aJ⟩:=eT I;refine bodyPost_ret (v:=.tuple #[.agg #[J 4,J 0,ai],.bool true]) ?_ rfl ?_
    ·simp[results,results297,go_sem,aw,aE,aJ]
    rw[ar.out];exact⟨m,_,rfl,.inl ⟨_,rfl,rfl,V.jy _ _ _ af af (b2 _ ax)⟩,n⟩
   intro I ab b ad ag d;have o:=bl b x;clear b;obtain⟨z,E,F⟩:=eT o;have G:=λp=>aa.frozen o p;go_upto_region 19 with(fail)
   have i:=eg o ad ag [.int .i64 4,.int .i64 1,.string ⟨#[]⟩] rfl af af;simp only[bZ,Nat.zero_add,Nat.reduceAdd]at i;generalize ((((I.setCell (aq c 0) (J 4)).setCell (aq c 1) (J 1)).setCell (aq c 2) ai))=ar at i⊢;obtain⟨w,m,n⟩:=i;have al:=ab;clear z E F G;obtain⟨z,E,F⟩:=eT w;have G:=λp=>aa.frozen w p;go_wp2;have i:=eg w m n [.int .i64 4,.int .i64 1,.string ⟨#[]⟩] rfl af af;obtain⟨H,m,n⟩:=i;simp only[bZ,Nat.zero_add,Nat.reduceAdd]at H m n;obtain⟨am,an,ap⟩:=eT H;refine bodyPost_ret (v:=.tuple #[.agg #[J 4,J 1,ai],.bool true]) ?_ rfl ?_
   ·simp[results,results297,go_sem,am,an,ap]
   rw[al.out];exact⟨m,_,rfl,.inl ⟨_,rfl,rfl,V.jy _ _ _ af af (b2 _ ax)⟩,n⟩
  intro d W b X Y d;have ab:=bl b y;clear b;go_wp2_with fail
  refine aU aj X W (gi e f g _ Y) aN ?_;intro i d d ad ag al b am an d;have p:=bl b ab;obtain⟨rfl,z,av⟩:=al;clear b;have b:0<=i/\i<=9999999999:=⟨z,av⟩;clear z av;obtain⟨E,F,G⟩:=eT p;have H:=λw=>aa.frozen p w;go_upto_region 19 with(fail)
  have m:=eg p am an [.int .i64 3,.int .i64 i,.string ⟨#[]⟩] rfl af af;simp only[bZ,Nat.zero_add,Nat.reduceAdd]at m;generalize ((((ad.setCell (aq c 0) (J 3)).setCell (aq c 1) i).setCell (aq c 2) ai))=aJ at m⊢;obtain⟨x,n,o⟩:=m;have ap:=ag;clear E F G H;obtain⟨E,F,G⟩:=eT x;have H:=λw=>aa.frozen x w;go_wp2;have m:=eg x n o [.int .i64 3,.int .i64 i,.string ⟨#[]⟩] rfl af af;obtain⟨I,n,o⟩:=m;simp only[bZ,Nat.zero_add,Nat.reduceAdd]at I n o;obtain⟨ar,aw,aE⟩:=eT I;refine bodyPost_ret (v:=.tuple #[.agg #[J 3,i,ai],.bool true]) ?_ rfl ?_
  ·simp[results,results297,go_sem,ar,aw,aE]
  rw[ap.out];exact⟨n,_,rfl,.inl ⟨_,rfl,rfl,V.jy _ _ _ af af (b2 _ ax)⟩,o⟩
 intro d T i U W d;have X:=b5 i D;clear i;go_wp2_with fail
 refine aU aj U T (gi e f g _ W) aN ?_;intro n Y d ab w ad i ag al d;have x:=bl i X;obtain⟨rfl,E,av⟩:=ad;clear i;have d:0<=n/\n<=9999999999:=⟨E,av⟩;clear E av;obtain⟨b,d⟩:=au (-n);have e:IntKind.i64.wrap (-n)=b:=by rw[d];exact IntWalk.i64_in _ af
 have e:-9999999999<=b:=af
 have e:b<=9999999999:=af
 replace w:Hid (t=.ok (some ⟨2,b,⟨#[]⟩⟩) Y):=by rw[d];exact w
 clear d;obtain⟨F,G,H⟩:=eT x;have I:=λy=>aa.frozen x y;go_upto_region 19 with(fail)
 have m:=eg x ag al [.int .i64 2,.int .i64 b,.string ⟨#[]⟩] rfl af af;simp only[bZ,Nat.zero_add,Nat.reduceAdd]at m;generalize ((((ab.setCell (aq c 0) (J 2)).setCell (aq c 1) b).setCell (aq c 2) ai))=aw at m⊢;obtain⟨z,o,p⟩:=m;have am:=w;clear F G H I;obtain⟨F,G,H⟩:=eT z;have I:=λy=>aa.frozen z y;go_wp2;have m:=eg z o p [.int .i64 2,.int .i64 b,.string ⟨#[]⟩] rfl af af;obtain⟨K,o,p⟩:=m;simp only[bZ,Nat.zero_add,Nat.reduceAdd]at K o p;obtain⟨an,ap,ar⟩:=eT K;refine bodyPost_ret (v:=.tuple #[.agg #[J 2,b,ai],.bool true]) ?_ rfl ?_
 ·simp[results,results297,go_sem,an,ap,ar]
 rw[am.out];exact⟨o,_,rfl,.inl ⟨_,rfl,rfl,V.jy _ _ _ af af (b2 _ ax)⟩,p⟩
theorem v8 (a:Int) (c:Nat) (f:List ao) (d:ah) (g:az d c a f):
 Calls prog 297 #[ak c] d λi j=>PP a c d (f6 a f) o7 i j:=by
 cases f with
 |nil=>exact CN a c d g
 |cons b e=>
  by_cases i:b.k=3
  ·have:=CO a c b e d g i
   rwa[show f6 a (b::e)=(ez a (b::e) b.k).bind λj l=>.ok (some ⟨1,0,j.t⟩) l by rw[f6,if_pos i,ez,if_pos rfl];rfl]
  by_cases j:b.k=2
  ·have:=CP a c b e d g j
   rwa[show f6 a (b::e)=(cB a (b::e)).bind λl f=>.ok (some ⟨2,l,⟨#[]⟩⟩) f by simp only[f6,if_neg i,if_pos j,cB,ez];rfl]
  exact CQ a c b e d g i j
theorem wa (b:Int) (f:Nat) (c:List ao) (d:ah) (m:az d f b c):
 Calls prog 240 #[ak f] d λw x=>PP b f d (jo b c) CK w x:=by
 have w:=m.lt;have y:=Z m;have z:=Z (Kp.refl [f] d);have w:d.heap.size<=d.heap.size:=Nat.le_refl _;clear m;have n:=Z (show jo b c=(f6 b c).bind λe c=>match e with|some e=>.ok e c|none=>eQ b c 4 from rfl);generalize jo b c=o at n⊢;go_enter func240,ntmps240
 have A:=Z (aa.new d 66 #[J 0,J 0,ai]);go_wp2_with fail
 refine aU aj (z.alloc _) n (v8 b f c _ (y.alloc _)) aN ?_;intro c p c c e B c q r d;have g:=bl c A;clear c;rcases B with⟨C,rfl,rfl,s⟩|⟨rfl,rfl⟩
 ·
  obtain⟨i,j,k⟩:=C;have HX:=Z s;replace e:Hid (o=.ok ⟨i,j,k⟩ p):=e;clear s;obtain⟨c,d,f⟩:=eT g;have c:=λc=>aa.frozen g c;have c:=aa.lt g;go_wp2;have D:=eg g q r [.int .i64 i,.int .i64 j,.string k] rfl af af;obtain⟨l,t,u⟩:=D;simp only[bZ,Nat.zero_add,Nat.reduceAdd]at l t u;replace l:=l.alloc (.cells #[i,j,k] 66);obtain⟨E,F,G⟩:=eT l;refine bodyPost_ret (v:=.agg #[i,j,k]) ?_ rfl ?_
  ·simp[results,results240,go_sem,E,F,G]
  rw[e.out];exact⟨t.alloc _,_,rfl,⟨rfl,HX⟩,u.alloc _⟩
 replace e:Hid (o=eQ b p 4):=e;go_wp2_with fail
 refine sh 4 (q.alloc _) e (r.alloc _) ?au;intro er a wx HX KX;go_wp2;exact⟨rfl,by rw[HX.out];exact⟨KX.out,rfl⟩⟩
theorem wb (d:Int) (e:Nat) (b:List ao) (f:ah) (n:az f e d b):
 Calls prog 298 #[ak e] f λA B=>PP d e f (jp d b) (jt dl.cells dl.bW) A B:=by
 have A:=n.lt;have C:=Z n;have D:=Z (Kp.refl [e] f);have A:f.heap.size<=f.heap.size:=Nat.le_refl _;clear n;have p:=Z (show jp d b=(f6 d b).bind λc b=>match c with|some c=>.ok ⟨e0,e0,true,c⟩ b|none=>(bN d b).bind λa b=>if bB b ⟨#[46]⟩then(bN d b.tail).bind λc b=>.ok ⟨a,c,false,⟨0,0,e0⟩⟩ b else .ok ⟨e0,a,false,⟨0,0,e0⟩⟩ b from rfl);generalize jp d b=q at p⊢;go_enter func298,ntmps298
 have E:=Z (aa.new f 284 #[ai,ai,.bool false,J 0,J 0,ai]);go_wp2_with fail
 refine aU aj (D.alloc _) p (v8 d e b _ (C.alloc _)) aN ?_;intro f o f f g F c r s f;have i:=bl c E;clear c;rcases F with⟨G,rfl,rfl,t⟩|⟨rfl,rfl⟩
 ·
  obtain⟨j,k,l⟩:=G;have HX:=Z t;replace g:Hid (q=.ok ⟨e0,e0,true,⟨j,k,l⟩⟩ o):=g;clear t;obtain⟨f,n,p,t,A,B⟩:=nr i;have f:=λf=>aa.frozen i f;have f:=aa.lt i;go_wp2;have x:=eg i r s [.string ⟨#[]⟩,.string ⟨#[]⟩,.bool true,.int .i64 j,.int .i64 k,.string l] rfl af af;obtain⟨m,u,w⟩:=x;simp only[bZ,Nat.zero_add,Nat.reduceAdd]at m u w;replace m:=m.alloc (.cells #[j,k,l] 66);obtain⟨y,z,H,I,K,L⟩:=nr m;refine bodyPost_ret (v:=.agg #[ai,ai,.bool true,j,k,l]) ?_ rfl ?_
  ·simp[results,results298,go_sem,y,z,H,I,K,L]
  rw[g.out];exact⟨u.alloc _,_,rfl,⟨rfl,⟨b2 _ ax,b2 _ ax,HX⟩⟩,w.alloc _⟩
 replace g:Hid (q=((bN d o).bind λa b=>if bB b ⟨#[46]⟩then(bN d b.tail).bind λf b=>.ok ⟨a,f,false,⟨0,0,e0⟩⟩ b else .ok ⟨e0,a,false,⟨0,0,e0⟩⟩ b)):=g;go_wp2_with fail
 refine aU aj (r.alloc _) g (eM d e o _ (s.alloc _)) aN ?_;intro j H b b I l c K L b;have m:=b5 c i;obtain⟨rfl,u⟩:=l;clear c;go_wp2_with fail
 refine ju ⟨#[46]⟩ aj K I L (b2 _ ax) ?au ?av
 case au=>
  intro b z c M N b;have k:=bl c m;clear c;obtain⟨b,f,g,i,n,o⟩:=nr k;have b:=λb=>aa.frozen k b;have b:=aa.lt k;go_wp2;have O:=eg k M N [.string ⟨#[]⟩,.string j,.bool false,.int .i64 0,.int .i64 0,.string ⟨#[]⟩] rfl af af;obtain⟨w,x,y⟩:=O;simp only[bZ,Nat.zero_add,Nat.reduceAdd]at w x y;obtain⟨P,Q,R,S,T,U⟩:=nr w;refine bodyPost_ret (v:=.agg #[ai,j,.bool false,J 0,J 0,ai]) ?_ rfl ?_
  ·simp[results,results298,go_sem,P,Q,R,S,T,U]
  rw[z.out];exact⟨x,_,rfl,⟨rfl,⟨b2 _ ax,u,V.jy _ _ _ af af (b2 _ ax)⟩⟩,y⟩
 intro b M c N O b;have P:=bl c m;clear c;go_wp2_with fail
 refine aU aj N M (eM d e H.tail _ O) aN ?_;intro w b b b Q l c R S b;have k:=bl c P;obtain⟨rfl,T⟩:=l;clear c;obtain⟨b,c,d,e,f,g⟩:=nr k;have b:=λb=>aa.frozen k b;have b:=aa.lt k;go_wp2;have U:=eg k R S [.string j,.string w,.bool false,.int .i64 0,.int .i64 0,.string ⟨#[]⟩] rfl af af;obtain⟨x,y,z⟩:=U;simp only[bZ,Nat.zero_add,Nat.reduceAdd]at x y z;obtain⟨W,X,Y,ab,ac,ad⟩:=nr x;refine bodyPost_ret (v:=.agg #[j,w,.bool false,J 0,J 0,ai]) ?_ rfl ?_
 ·simp[results,results298,go_sem,W,X,Y,ab,ac,ad]
 rw[Q.out];exact⟨y,_,rfl,⟨rfl,⟨u,T,V.jy _ _ _ af af (b2 _ ax)⟩⟩,z⟩
theorem qF (c:Int) (d:Nat) (b:List ao) (g:ah) (i:az g d c b):
 Calls prog 168 #[ak d] g λk l=>PP c d g (gz c b) CL k l:=by
 have k:=i.lt;have m:=Z i;have n:=Z (Kp.refl [d] g);clear i;have j:=Z (show gz c b=(bN c b).bind λa b=>(aW c b [⟨#[46]⟩]).bind λ_ b=>(bN c b).bind λe b=>.ok (a,e) b from rfl);generalize gz c b=C at j⊢;go_enter func168,ntmps168
 go_wp2_with fail
 refine aU aj n j (eM c d b _ m) aN ?_;intro b o b p q e f r s b;obtain⟨rfl,t⟩:=e;clear f;go_wp2_with fail
 refine aU aj (r.alloc _) q (c6 c d o [⟨#[46]⟩] _ p _ (s.alloc _) (cG [⟨#[46]⟩] ax)) aN ?_;intro b u b b v e f w x b;obtain rfl:=e;clear f;go_wp2_with fail
 refine aU aj w v (eM c d u _ x) aN ?_;intro b b b b y e f z A b;obtain⟨rfl,B⟩:=e;clear f;go_wp2;go_ret2
 rw[y.out];exact⟨z,_,rfl,⟨rfl,t,B⟩,A⟩
theorem CR (c:Int) (e:Nat) (b:List ao) (f:ah) (i:az f e c b):
 Calls prog 172 #[ak e] f λs t=>PP c e f (j5 c b) (jt du.cells du.bW) s t:=by
 have s:=i.lt;have u:=Z i;have w:=Z (Kp.refl [e] f);have s:f.heap.size<=f.heap.size:=Nat.le_refl _;clear i;have k:=Z (show j5 c b=(bN c b).bind λa b=>(aW c b [⟨#[61]⟩]).bind λ_ b=>(jo c b).bind λd b=>.ok ⟨a,d⟩ b from rfl);generalize j5 c b=V at k⊢;go_enter func172,ntmps172
 have x:=Z (aa.new f 238 #[ai,J 0,J 0,ai]);go_wp2_with fail
 refine aU aj (w.alloc _) k (eM c e b _ (u.alloc _)) aN ?_;intro l y b z A g d B C b;have D:=bl d x;obtain⟨rfl,E⟩:=g;clear d;go_wp2_with fail
 refine aU aj (B.alloc _) A (c6 c e y [⟨#[61]⟩] _ z _ (C.alloc _) (cG [⟨#[61]⟩] ax)) aN ?_;intro b F b b G g d H I b;have K:=b5 d D;obtain rfl:=g;clear d;go_wp2_with fail
 refine aU aj H G (wa c e F _ I) aN ?_;intro L b b b M g d N O b;have j:=bl d K;obtain⟨rfl,P⟩:=g;clear d;obtain⟨m,n,o⟩:=L;obtain⟨b,c,d,e⟩:=vL j;have b:=λb=>aa.frozen j b;go_wp2;have Q:=eg j N O [.string l,.int .i64 m,.int .i64 n,.string o] rfl af af;obtain⟨p,q,r⟩:=Q;simp only[bZ,Nat.zero_add,Nat.reduceAdd]at p q r;obtain⟨R,S,T,U⟩:=vL p;refine bodyPost_ret (v:=.agg #[l,m,n,o]) ?_ rfl ?_
 ·simp[results,results172,go_sem,R,S,T,U]
 rw[M.out];exact⟨q,_,rfl,⟨rfl,⟨E,P⟩⟩,r⟩
theorem CS (c:Int) (e:Nat) (b:List ao) (d:ah) (g:az d e c b):
 Calls prog 174 #[ak e] d λq r=>PP c e d (k8 c b) (jt Vr.cells Vr.bW) q r:=by
 have q:=g.lt;have s:=Z g;have t:=Z (Kp.refl [e] d);have q:d.heap.size<=d.heap.size:=Nat.le_refl _;clear g;have k:=Z (show k8 c b=(bN c b).bind λf b=>(bN c b).bind λg b=>.ok ⟨g,f⟩ b from rfl);generalize k8 c b=J at k⊢;go_enter func174,ntmps174
 have u:=Z (aa.new d 133 #[ai,ai]);go_wp2_with fail
 refine aU aj (t.alloc _) k (eM c e b _ (s.alloc _)) aN ?_;intro l w b b x i f y z b;have A:=bl f u;obtain⟨rfl,B⟩:=i;clear f;go_wp2_with fail
 refine aU aj y x (eM c e w _ z) aN ?_;intro m b b b C i f D E b;have j:=bl f A;obtain⟨rfl,F⟩:=i;clear f;obtain⟨b,c⟩:=vK j;have b:=λb=>aa.frozen j b;go_wp2;have G:=eg j D E [.string m,.string l] rfl af af;obtain⟨n,o,p⟩:=G;simp only[bZ,Nat.zero_add,Nat.reduceAdd]at n o p;obtain⟨H,I⟩:=vK n;refine bodyPost_ret (v:=.agg #[m,l]) ?_ rfl ?_
 ·simp[results,results174,go_sem,H,I]
 rw[C.out];exact⟨o,_,rfl,⟨rfl,⟨F,B⟩⟩,p⟩
theorem CT (d:Int) (f:Nat) (c:List ao) (g:ah) (l:az g f d c):
 Calls prog 165 #[ak f] g λD E=>PP d f g (j4 d c) (jt dB.cells dB.bW) D E:=by
 have D:=l.lt;have F:=Z l;have G:=Z (Kp.refl [f] g);have D:g.heap.size<=g.heap.size:=Nat.le_refl _;clear l;have u:=Z (show j4 d c=(bN d c).bind λa c=>(dP d c [⟨_⟩,⟨_⟩,⟨_⟩,⟨_⟩]).bind λb c=>if bB c ⟨#[61]⟩then(jo d c.tail).bind λe c=>.ok ⟨a,b,e⟩ c else .ok ⟨a,b,⟨0,0,e0⟩⟩ c from rfl);generalize j4 d c=ay at u⊢;go_enter func165,ntmps165
 have H:=Z (aa.new g 208 #[ai,J 0,J 0,J 0,ai]);go_wp2_with fail
 refine aU aj (G.alloc _) u (eM d f c _ (F.alloc _)) aN ?_;intro i I c K L j b M N c;have O:=bl b H;obtain⟨rfl,w⟩:=j;clear b;go_wp2_with fail
 refine aU aj (M.alloc _) L (mo d f I [⟨_⟩,⟨_⟩,⟨_⟩,⟨_⟩] _ K _ (N.alloc _) (cG [⟨_⟩,⟨_⟩,⟨_⟩,⟨_⟩] ax) ax) aN ?_;intro e P c k Q j b R S c;have m:=b5 b O;obtain⟨rfl,x,y⟩:=j;clear b;have c:1<=e/\e<=100:=⟨x,y⟩;clear x y;have z:=Z (aa.new k 208 #[i,e,J 0,J 0,ai]);have c:=aa.lt m;go_wp2_with fail
 refine ju ⟨#[61]⟩ aj (R.alloc _) Q (S.alloc _) (b2 _ ax) ?au ?av
 case au=>
  intro c s b A B c;have n:=b5 b m;have c:=bl b z;clear b;obtain⟨g,l,u,x,y⟩:=np n;have l:=λg=>aa.frozen n g;obtain⟨l,u,x,y,D⟩:=np c;have g:=λg=>aa.frozen c g;have c:=aa.lt c;go_wp2;have C:=eg n A B [.string i,.int .i64 e,.int .i64 0,.int .i64 0,.string ⟨#[]⟩] rfl af af;obtain⟨o,q,r⟩:=C;simp only[bZ,Nat.zero_add,Nat.reduceAdd]at o q r;obtain⟨T,U,W,X,Y⟩:=np o;refine bodyPost_ret (v:=.agg #[i,e,J 0,J 0,ai]) ?_ rfl ?_
  ·simp[results,results165,go_sem,T,U,W,X,Y]
  rw[s.out];exact⟨q,_,rfl,⟨rfl,⟨w,⟨by show _<=e;omega,by show e<=_;omega⟩,V.jy _ _ _ af af (b2 _ ax)⟩⟩,r⟩
 intro c T b U W c;have X:=b5 b m;have Y:=bl b z;clear b;go_wp2_with fail
 refine aU aj U T (wa d f P.tail _ W) aN ?_;intro ab c c c ac j b ad ae c;have n:=bl b X;have o:=bl b Y;obtain⟨rfl,ag⟩:=j;clear b;obtain⟨q,r,s⟩:=ab;obtain⟨b,c,d,f,g⟩:=np n;have c:=λb=>aa.frozen n b;obtain⟨c,d,f,g,j⟩:=np o;have b:=λb=>aa.frozen o b;have b:=aa.lt o;go_wp2;have al:=eg (t:=208) (aa.far (aa.far (aa.far n (p:=(aq k 2)) aG q) (p:=(aq k 3)) aG r) (p:=(aq k 4)) aG s) (Kp.set aG (Kp.set aG (Kp.set aG ad _) _) _) (az.set aG (az.set aG (az.set aG ae _) _) _) [.string i,.int .i64 e,.int .i64 q,.int .i64 r,.string s] rfl af af;obtain⟨A,B,C⟩:=al;simp only[bZ,Nat.zero_add,Nat.reduceAdd]at A B C;obtain⟨am,an,ap,ar,aw⟩:=np A;refine bodyPost_ret (v:=.agg #[i,e,q,r,s]) ?_ rfl ?_
 ·simp[results,results165,go_sem,am,an,ap,ar,aw]
 rw[ac.out];exact⟨B,_,rfl,⟨rfl,⟨w,⟨by show _<=e;omega,by show e<=_;omega⟩,ag⟩⟩,C⟩
theorem CU (d:Int) (x:Nat) (e:List ao) (z:ah) (B:az z x d e):
 Calls prog 243 #[ak x] z λX Y=>PP d x z (j3 d e) (jt bv.cells bv.bW) X Y:=by
 have X:=B.lt;have ab:=Z B;have ac:=Z (Kp.refl [x] z);have X:z.heap.size<=z.heap.size:=Nat.le_refl _;clear B;have L:=Z (show j3 d e=(jp d e).bind λb e=>(dP d e [⟨#[61]⟩,⟨_⟩,⟨#[60]⟩,⟨_⟩]).bind λc e=>(jp d e).bind λf e=>(l8 d e).bind λg e=>.ok ⟨b,c,f,g⟩ e from rfl);generalize j3 d e=M at L⊢;go_enter func243,ntmps243
 have ad:=Z (aa.new z 286 #[ai,ai,.bool false,J 0,J 0,ai,J 0,ai,ai,.bool false,J 0,J 0,ai,J 0]);go_wp2_with fail
 refine aU aj (ac.alloc _) L (wb d x e _ (ab.alloc _)) aN ?_;intro ae ag al am an f b ap ar z;have aw:=bl b ad;obtain⟨f,C⟩:=f;clear b;obtain⟨g,i,j,⟨k,l,m⟩⟩:=ae;replace f:al=.agg #[g,i,j,k,l,m]:=f;subst f;go_wp2_with fail
 refine aU aj (ap.alloc _) an (mo d x ag [⟨#[61]⟩,⟨_⟩,⟨#[60]⟩,⟨_⟩] _ am _ (ar.alloc _) (cG [⟨#[61]⟩,⟨_⟩,⟨#[60]⟩,⟨_⟩] ax) ax) aN ?_;intro c aC z z aD f b aE aF z;have aH:=b5 b aw;obtain⟨rfl,N,O⟩:=f;clear b;have z:1<=c/\c<=100:=⟨N,O⟩;clear N O;go_wp2_with fail
 refine aU aj aE aD (wb d x aC _ aF) aN ?_;intro aI w aJ D E f b aK aL z;have F:=bl b aH;obtain⟨f,G⟩:=f;clear b;obtain⟨n,o,q,⟨r,s,u⟩⟩:=aI;replace f:aJ=.agg #[n,o,q,r,s,u]:=f;subst f;have P:=Z (aa.new D 286 #[g,i,j,k,l,m,c,n,o,q,r,s,u,J 0]);have z:=aa.lt F;replace E:Hid (M=(if bB w ⟨#[43]⟩then(cB d w.tail).bind λy e=>.ok ⟨⟨g,i,j,⟨k,l,m⟩⟩,c,⟨n,o,q,⟨r,s,u⟩⟩,y⟩ e else if bB w ⟨#[45]⟩then(cB d w.tail).bind λy e=>.ok ⟨⟨g,i,j,⟨k,l,m⟩⟩,c,⟨n,o,q,⟨r,s,u⟩⟩,-y⟩ e else .ok ⟨⟨g,i,j,⟨k,l,m⟩⟩,c,⟨n,o,q,⟨r,s,u⟩⟩,0⟩ w)):=by
  apply Z;rw[E.out];show(l8 d w).bind _=_;unfold l8;cases bB w ⟨#[43]⟩<;>cases bB w ⟨#[45]⟩<;>simp[PO.bind]<;>cases cB d w.tail<;>rfl
 go_wp2_with fail
 refine ju ⟨#[43]⟩ aj (aK.alloc _) E (aL.alloc _) (b2 _ ax) ?av ?ay
 case av=>
  intro e aM b aO aP e;have Q:=b5 b F;have R:=bl b P;clear b;go_wp2_with fail
  refine ju ⟨#[45]⟩ aj aO aM aP (b2 _ ax) ?aA ?aB
  case aA=>
   intro e K b S T e;have y:=bl b Q;have e:=bl b R;clear b;obtain⟨z,B,E,L,N,O,V,W,X,Y,ab,ac,ad,ae⟩:=kc y;have B:=λz=>aa.frozen y z;obtain⟨B,E,L,N,O,V,W,X,Y,ab,ac,ad,ae,ag⟩:=kc e;have z:=λz=>aa.frozen e z;have e:=aa.lt e;go_wp2;have U:=eg y S T [.string g,.string i,.bool j,.int .i64 k,.int .i64 l,.string m,.int .i64 c,.string n,.string o,.bool q,.int .i64 r,.int .i64 s,.string u,.int .i64 0] rfl af af;obtain⟨A,H,I⟩:=U;simp only[bZ,Nat.zero_add,Nat.reduceAdd]at A H I;obtain⟨x0,x1,x2,x3,x4,x5,x6,x7,x8,x9,x10,sy,sz,sA⟩:=kc A;refine bodyPost_ret (v:=.agg #[g,i,j,k,l,m,c,n,o,q,r,s,u,J 0]) ?_ rfl ?_
   ·exact sB
   rw[K.out];exact⟨H,_,rfl,⟨rfl,⟨C,⟨by show _<=c;omega,by show c<=_;omega⟩,G,⟨by show _<=(0:Int);omega,by show(0:Int)<=_;omega⟩⟩⟩,I⟩
  intro e aQ b aR aS e;have aT:=bl b Q;have aV:=bl b R;clear b;go_wp2_with fail
  refine aU aj aR aQ (gi d x w.tail _ aS) aN ?_;intro A aW e e H f b aX aY e;have I:=bl b aT;have K:=bl b aV;obtain⟨rfl,S,T⟩:=f;clear b;have e:0<=A/\A<=9999999999:=⟨S,T⟩;clear S T;obtain⟨y,e⟩:=au (-A);have z:IntKind.i64.wrap (-A)=y:=by rw[e];exact IntWalk.i64_in _ af
  have z:-9999999999<=y:=af
  have z:y<=9999999999:=af
  replace H:Hid (M=.ok ⟨⟨g,i,j,⟨k,l,m⟩⟩,c,⟨n,o,q,⟨r,s,u⟩⟩,y⟩ aW):=by rw[e];exact H
  clear e;obtain⟨e,z,A,B,E,L,M,N,O,Q,R,S,T,X⟩:=kc I;have z:=λe=>aa.frozen I e;obtain⟨z,A,B,E,L,M,N,O,Q,R,S,T,X,Y⟩:=kc K;have e:=λe=>aa.frozen K e;have e:=aa.lt K;go_wp2;have aZ:=eg (t:=286) (aa.far I (p:=(aq D 13)) aG y) (Kp.set aG aX _) (az.set aG aY _) [.string g,.string i,.bool j,.int .i64 k,.int .i64 l,.string m,.int .i64 c,.string n,.string o,.bool q,.int .i64 r,.int .i64 s,.string u,.int .i64 y] rfl af af;obtain⟨U,V,W⟩:=aZ;simp only[bZ,Nat.zero_add,Nat.reduceAdd]at U V W;obtain⟨x0,x1,x2,x3,x4,x5,x6,x7,x8,x9,x10,sy,sz,sA⟩:=kc U;refine bodyPost_ret (v:=.agg #[g,i,j,k,l,m,c,n,o,q,r,s,u,y]) ?_ rfl ?_
  ·exact sB
  rw[H.out];exact⟨V,_,rfl,⟨rfl,⟨C,⟨by show _<=c;omega,by show c<=_;omega⟩,G,⟨by show _<=y;omega,by show y<=_;omega⟩⟩⟩,W⟩
 intro e T b U V e;have W:=b5 b F;have aM:=bl b P;clear b;go_wp2_with fail
 refine aU aj U T (gi d x w.tail _ V) aN ?_;intro y d d d aO f b aP aQ d;have A:=bl b W;have H:=bl b aM;obtain⟨rfl,I,K⟩:=f;clear b;have b:0<=y/\y<=9999999999:=⟨I,K⟩;clear I K;obtain⟨b,d,e,f,w,x,z,B,E,F,I,K,L,M⟩:=kc A;have d:=λb=>aa.frozen A b;obtain⟨d,e,f,w,x,z,B,E,F,I,K,L,M,N⟩:=kc H;have b:=λb=>aa.frozen H b;have b:=aa.lt H;go_wp2;have aR:=eg (t:=286) (aa.far A (p:=(aq D 13)) aG y) (Kp.set aG aP _) (az.set aG aQ _) [.string g,.string i,.bool j,.int .i64 k,.int .i64 l,.string m,.int .i64 c,.string n,.string o,.bool q,.int .i64 r,.int .i64 s,.string u,.int .i64 y] rfl af af;obtain⟨Q,R,S⟩:=aR;simp only[bZ,Nat.zero_add,Nat.reduceAdd]at Q R S;obtain⟨x0,x1,x2,x3,x4,x5,x6,x7,x8,x9,x10,sy,sz,sA⟩:=kc Q;refine bodyPost_ret (v:=.agg #[g,i,j,k,l,m,c,n,o,q,r,s,u,y]) ?_ rfl ?_
 ·exact sB
 rw[aO.out];exact⟨R,_,rfl,⟨rfl,⟨C,⟨by show _<=c;omega,by show c<=_;omega⟩,G,⟨by show _<=y;omega,by show y<=_;omega⟩⟩⟩,S⟩
theorem wd (b:Int) (c:Nat) (e:List ao) (d:ah) (i:az d c b e):
 Calls prog 175 #[ak c] d λg j=>PP b c d (jq b e) (d3 d.heap.size 14 bv.cells bv.bW) g j:=by
 have g:=i.lt;have l:=Z i;have m:=Z (Kp.refl [c] d);have j:∀g d,(callFunc 243 g).run prog d=.ok (.enter 243 g) d:=enters_of func243 am rfl;have n:=Z (λf (g:ah) (h:az g c b f)=>B3 243 #[ak c] (j3 b) (vE b) j b c f ⟨#[97,110,100]⟩ g h (b2 _ ax) (λf g h=>CU b c f g h));clear j;clear i;have k:=Z (show jq b e=(aW b e [⟨_⟩]).bind λ_ e=>dC ⟨_⟩ (j3 b) e from rfl);generalize jq b e=y at k⊢;go_enter func175,ntmps175
 go_wp2_with fail
 refine aU aj (m.alloc _) k (c6 b c e [⟨_⟩] _ d _ (l.alloc _) (cG [⟨_⟩] ax)) aN ?_;intro b o b b p q f r s t;obtain rfl:=q;clear f;go_wp2_with fail
 refine aU aj r (p.trans (PO.bind_pure _).symm) (n o _ s) aN ?_;intro b b b b u v f w x b;clear f;go_wp2;go_ret;rw[u.out];exact⟨w,_,rfl,v.base t,x⟩
inductive RE where
 |mk (kind:Int) (table:av) (hk:Hd) (kids:List RE) (hc:Hd) (conds:List bv) (hn:Hd) (names:bk) (attr cN:av) (agg at_:Int)
def RE.cells:RE->List Value
 |.mk kind table hk _ hc _ hn _ attr cN agg at_=>[.int .i64 kind,.string table,hk.val,hc.val,hn.val,.string attr,.string cN,.int .i64 agg,.int .i64 at_]
mutual
def RE.ex:RE->Ex
 |.mk kind table _ kids _ conds _ names attr cN agg at_=>.mk kind table (RE.exs kids) conds names attr cN agg at_
def RE.exs:List RE->List Ex
 |[]=>[]
 |r::l=>r.ex::RE.exs l
end
def RE.zero:RE:=.mk 0 e0 ⟨none,0,0⟩ [] ⟨none,0,0⟩ [] ⟨none,0,0⟩ [] e0 e0 0 0
def aV (S:Nat->Prop) (h:Hd):Prop:=∀b c,h.a=some ⟨b,c,none⟩->S b
inductive dG (w:ah) (S:Nat->Prop):RE->Prop where
 |mk {kind:Int} {table:av} {hk:Hd} {kids:List RE} {hc:Hd} {conds:List bv} {hn:Hd} {names:bk} {attr cN:av} {agg at_:Int}
  (lk:aD w 9 hk RE.cells kids) (ik:aV S hk) (sub:∀k∈kids,dG w S k) (lc:aD w 14 hc bv.cells conds) (ic:aV S hc) (fc:∀c∈conds,c.bW) (ln:bV w hn names) (iN:aV S hn)
  (ot:aJ table) (oa:aJ attr) (os:aJ cN) (La:bY kind) (ig:bY agg) (ip:bY at_):dG w S (.mk kind table hk kids hc conds hn names attr cN agg at_)
theorem aV.mono {S S':Nat->Prop} {h:Hd} (a:aV S h) (c:∀b,S b->S' b):aV S' h:=λb d e=>c b (a b d e)
theorem aV.none_ (S:Nat->Prop) (n a:Nat):aV S ⟨none,n,a⟩:=λa a b=>by cases b
theorem aD.none_ {a:Type} (w:ah) (m:Nat) (enc:a->List Value):aD w m ⟨none,0,0⟩ enc []:=⟨rfl,by show 0<=_;omega,λa a=>absurd a aj⟩
theorem dG.mono {w:ah} {S S':Nat->Prop} {r:RE} (a:dG w S r) (b:∀c,S c->S' c):dG w S' r:=by
 induction a with
 |mk d e t f g i j k l m n o p q s=>exact .mk d (e.mono b) (λc d=>s c d) f (g.mono b) i j (k.mono b) l m n o p q
theorem dG.keep {w c:ah} {S:Nat->Prop} {d:RE} (j:dG w S d) {l:List Nat} (k:Kp l w c) (b:∀a∈l,¬S a):dG c S d:=by
 induction j with
 |mk m e x n f o g i p q r s t u v=>
  exact .mk (m.kp k (λa c d j=>b a j (e a c d))) e (λc d=>v c d) (n.kp k (λa c d e=>b a e (f a c d))) f o ⟨g.1.kp k (λa c d e=>b a e (i a c d)),g.2⟩ i p q r s t u
theorem RE.len (a:RE):a.cells.length=9:=by cases a;rfl
theorem RE.o8 (a:List RE):RE.exs a=a.map RE.ex:=by
 induction a with
 |nil=>rfl
 |cons c a b=>rw[RE.exs,b];rfl
def Bw (b c:Nat) (a:Nat):Prop:=b<=a/\a<c
def qG (base:Nat) (c:Ex) (v:aA) (b:ah):Prop:=∃a:RE,a.ex=c/\v=.agg a.cells.toArray/\dG b (Bw base b.heap.size) a
theorem we {w:ah} {j m a d e:Nat} {k:aX} {f ys vs:bg} (o:w.ownsRow j k m (O (some ⟨e,0,none⟩) (a+1) d) (a+1) (f++ys)) (g:f.length=a*m) (u:ys.length=m) (l:vs.length=m):
 (bZ w e (a*m) vs).ownsRow j k m (O (some ⟨e,0,none⟩) (a+1) d) (a+1) (f++vs):=by
 rcases o.2 with⟨h,_⟩|⟨v,x,b,p,q,r,n,s,y,t⟩
 ·cases h
 injection p with c i e3
 injection c with c
 injection c with c
 subst c e3;have j:a*m+vs.length<=b.size:=by
  have:(a+1)*m<=d*m:=Nat.mul_le_mul_right m n;rw[Nat.add_mul]at this;omega
 refine⟨by rw[List.length_append,g,l,Nat.add_mul];omega,.inr ⟨e,d,mn b (a*m) vs,rfl,q,aa.jv vs (a*m) w b r,n,s,?_,?_⟩⟩
 ·have:=congrArg List.length (qv vs (a*m) b j)
  simp only[Array.length_toList,List.length_append,List.length_take,List.length_drop]at this;omega
 rw[qv vs (a*m) b j];have c:(a+1)*m=a*m+vs.length:=by rw[Nat.add_mul,l];omega
 have i:b.toList.take (a*m)=f:=by
  have b:(b.toList.take ((a+1)*m)).take (a*m)=b.toList.take (a*m):=by
   have:a*m<=(a+1)*m:=oW
   rw[List.take_take,Nat.min_eq_left this]
  rw[<-b,t,List.take_append_of_le_length af,List.take_of_length_le af]
 rw[i,c,List.take_append_of_le_length (by rw[List.length_append,g];omega),List.take_of_length_le (by rw[List.length_append,g];omega)]
def PL {c:Type} (l:List Nat) (z:Int) (P:Nat) (w:ah) (e:PO c) (V:c->Value->World->Prop) (d:Ending) (b:ah):Prop:=
 Kp l w b/\match e with
 |.ok a ts=>∃c,d=.returned c/\V a c b/\az b P z ts
 |.bad er at_=>d=.panicked [{v:=gT er at_,recovered:=false}]
theorem PO.qH {b e:Type} {a:Prop} [Decidable a] (c d:PO b) (f:b->List ao->PO e):(if a then c else d).bind f=if a then c.bind f else d.bind f:=by split<;>rfl
section
variable {w W:ah} {P:Nat} {z:Int} {us:List ao} {f:FuncId} {args:aQ} {Q:Ending->World->Prop} {l:List Nat}
theorem o9 {i o:Type} {j:PO o} {k:PO i} {V:i->Value->World->Prop} {g:i->List ao->PO o} {l2:List Nat} (q:∀c∈l2,c∈l\/w.heap.size<=c) (o:Kp l w W) (d:j=k.bind g) (r:Calls prog f args W (λi b=>PL l2 z P W k V i b))
 (m:∀er a b,Hid (j=.bad er a)->Hid (Kp l w b)->Q (.panicked [{v:=gT er a,recovered:=false}]) b)
 (s:∀a e v b,Hid (j=g a e)->V a v b->Kp l2 W b->Hid (Kp l w b)->Hid (az b P z e)->w.heap.size<=b.heap.size->Q (.returned v) b):Calls prog f args W Q:=by
 refine r.mono ?_;rintro i b ⟨p,h⟩;have n:Kp l w b:=p.old o (λc m i=>by rcases q c m with h|h;exact h;omega);cases hr:k with
 |bad er a=>rw[hr]at h d;subst h;exact m er a b (Z d) (Z n)
 |ok a e=>rw[hr]at h d;obtain⟨v,rfl,t,u⟩:=h;exact s a e v b (Z d) t p (Z n) (Z u) n.size
theorem sC {o:Type} {g j k:PO o} (b:av) (i:ah) (c:Nat) (p:Kp l w W) (d:g=if bB us b=true then j else k) (m:az W P z us) (q:aJ b)
 (r:∀a,Hid (g=k)->Kp [] W a->Hid (Kp l w a)->Hid (az a P z us)->w.heap.size<=a.heap.size->Q (.returned (.bool false)) a)
 (s:∀a,Hid (g=j)->Kp [] W a->Hid (Kp l w a)->Hid (az a P z us)->w.heap.size<=a.heap.size->Q (.returned (.bool true)) a)
 (t:W=i.alloc (.cells #[b] 9):=by rfl) (u:c=i.heap.size:=by simp):
 Calls prog 169 #[ak P,O (some ⟨c,0,none⟩) 1 1] W Q:=by
 have v:bV W ⟨some ⟨c,0,none⟩,1,1⟩ [b]:=by subst t u;exact oU i [b] 9 aj (by simpa using q)
 refine(sb z P us ⟨some ⟨c,0,none⟩,1,1⟩ [b] W m v).mono ?_;rintro c a ⟨x,e⟩;have f:Kp l w a:=p.trans (Kp.of_same e);subst x;have n:=m.same e;cases hr:bB us b with
 |false=>rw[hr]at d;rw[show eJ us [b]=false from hr];exact r a (Z d) (Kp.of_same e) (Z f) (Z n) f.size
 |true=>rw[hr]at d;rw[show eJ us [b]=true from hr];exact s a (Z d) (Kp.of_same e) (Z f) (Z n) f.size
end
structure sD (lo X:Nat) (c0 c1 c2 c8:aA) (r:dv) (w:ah) (hc hn:Hd):Prop where
 blk:aa w X 93 #[c0,c1,c2,hc.val,hn.val,r.attr,r.cN,r.agg,c8]
 lc:aD w 14 hc bv.cells r.conds
 ic:aV (Bw lo w.heap.size) hc
 fc:∀c∈r.conds,c.bW
 ln:bV w hn r.names
 iN:aV (Bw lo w.heap.size) hn
 oa:aJ r.attr
 os:aJ r.cN
 og:bY r.agg
def qI (a b:Nat) (c d e f:aA) (g:dv) (i:aA) (w:ah):Prop:=i=.tuple #[]/\∃i j,sD a b c d e f g w i j
theorem d3.open_ {d:Type} {g i:Nat} {j:d->List Value} {k:d->Prop} {e:List d} {a:aT} {b c:Nat} {w:ah} (l:d3 g i j k e (O a b c) w):aD w i ⟨a,b,c⟩ j e/\(∀d∈e,k d)/\aV (Bw g w.heap.size) ⟨a,b,c⟩:=by
 obtain⟨⟨m,n,o⟩,f,p,q,r,_⟩:=l;replace f:Value.slice a b c=.slice m n o:=f;injection f with e1 e2 e3
 subst e1 e2 e3;exact⟨p,q,r⟩
theorem aV.low {a lo' b:Nat} {h:Hd} (c:aV (Bw a b) h) (d:lo'<=a):aV (Bw lo' b) h:=c.mono (λa a=>⟨bL d a.1,a.2⟩)
theorem kf (a:ah):bV a ⟨none,0,0⟩ []:=⟨aD.none_ a 1 dt,λa h=>by cases h⟩
theorem CV (g:Int) (d c q:Nat) (e:List ao) (b:ah) (u f v w:aA) (r:az b d g e) (s:aa b c 93 #[u,f,v,ab,ab,ai,ai,J 0,w]) (l:aa b q 127 #[ak d]) (I:d<c) (I:c<q):
 Calls prog 300 #[ak c,ak q] b λi q=>PL [d,c] g d b (eA g 0 e) (qI b.heap.size c u f v w) i q:=by
 have q:=r.lt;have A:=Z r;have B:=Z (Kp.refl [d,c] b);have q:b.heap.size<=b.heap.size:=Nat.le_refl _;have C:=Z s;have x:=Z l;have q:=l.lt;clear s l;clear r;have y:=Z (show eA g 0 e=(jq g e).bind λj e=>.ok {dv.zero with conds:=j} e from rfl);generalize eA g 0 e=K at y⊢;have q:=ay x;have q:=aa.lt x;have l:=aZ q;go_enter func300,ntmps300
 go_wp2_with fail
 refine aU aj B y (wd g d e _ A) aN ?_;intro e e m D E z e F G g;have n:=bl e C;clear e;obtain⟨⟨j,k,f⟩,t,H⟩:∃h:Hd,m=h.val/\m=m:=by obtain⟨h,i,_⟩:=z;exact⟨h,i,rfl⟩
 replace t:m=.slice j k f:=t;subst t;clear H;obtain⟨e,g,l,m,q,r,t,u,v⟩:=fh n;have e:=λe=>aa.frozen n e;have e:=aa.lt n;have s:=aZ e;have o:=z.open_;go_wp2;refine bodyPost_ret (results_none rfl _ _ _) rfl ?_;rw[E.out];have e:=(n.aP 3 (O j k f));have c:=(Kp.aH (p:=(ac c 3)) aj (Kp.refl [d,c] D) (O j k f));exact⟨(Kp.aH aj F (O j k f)),_,rfl,⟨rfl,⟨j,k,f⟩,⟨none,0,0⟩,⟨e,(o.1.kp c (λc d i e=>by have:=o.2.2 c d i;unfold Bw at this;simp at e;omega)),(by have h:=o.2.2.low (lo':=b.heap.size) (by omega);simpa using h),o.2.1,kf _,aV.none_ _ _ _,b2 _ ax,b2 _ ax,⟨by show _<=(0:Int);omega,by show(0:Int)<=_;omega⟩⟩⟩,(az.set aG G.out _)⟩
theorem CW (f:Int) (c d w:Nat) (e:List ao) (g:ah) (z A B C:aA) (x:az g c f e) (q:aa g d 93 #[z,A,B,ab,ab,ai,ai,J 0,C]) (i:aa g w 127 #[ak c]) (af:c<d) (af:d<w):
 Calls prog 301 #[ak d,ak w] g λk w=>PL [c,d] f c g (eA f 1 e) (qI g.heap.size d z A B C) k w:=by
 have w:=x.lt;have H:=Z x;have I:=Z (Kp.refl [c,d] g);have K:=Z q;have y:=Z i;clear q i;clear x;have D:=Z (show eA f 1 e=(aW f e [⟨_⟩]).bind λ_ e=>(k6 f ⟨#[41]⟩ e).bind λb e=>.ok {dv.zero with names:=b} e from rfl);generalize eA f 1 e=L at D⊢;have r:=ay y;have j:=aa.lt y;have i:=aZ j;go_enter func301,ntmps301
 go_wp2_with fail
 refine aU aj (I.alloc _) D (c6 f c e [⟨_⟩] _ g _ (H.alloc _) (cG [⟨_⟩] ax)) aN ?_;intro e E e M N l b P Q e;have F:=b5 b K;have s:=b5 b y;obtain rfl:=l;clear b;clear r j i;have r:=ay s;have j:=aa.lt s;have i:=aZ j;go_wp2_with fail
 refine sC ⟨#[41]⟩ M _ (P.alloc _) (N.trans (PO.qH _ _ _)) (Q.alloc _) (b2 _ ax) ?au ?av
 case au=>
  intro e R b S T e;have U:=b5 b F;have e:=b5 b s;clear b;clear r j i;have r:=ay e;have j:=aa.lt e;have i:=aZ j;go_wp2_with fail
  refine aU aj S R (qw f c E _ T) aN ?_;intro e e t V W G b X Y e;have u:=bl b U;clear b;obtain⟨⟨m,n,o⟩,l,ad⟩:∃h:Hd,t=h.val/\t=t:=by obtain⟨h,k,_⟩:=G;exact⟨h,k,rfl⟩
  replace l:t=.slice m n o:=l;subst l;clear ad;obtain⟨e,f,i,j,l,r,t,w,x⟩:=fh u;have e:=λe=>aa.frozen u e;have e:=aa.lt u;have q:=aZ e;have v:=G.open_;go_wp2;refine bodyPost_ret (results_none rfl _ _ _) rfl ?_;rw[W.out];have e:=(u.aP 4 (O m n o));have ae:=(Kp.aH (p:=(ac d 4)) aj (Kp.refl [c,d] V) (O m n o));exact⟨(Kp.aH aj X (O m n o)),_,rfl,⟨rfl,⟨none,0,0⟩,⟨m,n,o⟩,⟨e,aD.none_ _ 14 _,aV.none_ _ _ _,(λ_ h=>by cases h),⟨(v.1.kp ae (λe f k i=>by have:=v.2.2 e f k;unfold Bw at this;simp at i;omega)),v.2.1⟩,(by have h:=v.2.2.low (lo':=g.heap.size) (by omega);simpa using h),b2 _ ax,b2 _ ax,⟨by show _<=(0:Int);omega,by show(0:Int)<=_;omega⟩⟩⟩,(az.set aG Y.out _)⟩
 intro o n b t u e;have m:=b5 b F;have e:=b5 b s;clear b;replace n:Hid (L=.ok {dv.zero with names:=[]} E):=n;obtain⟨b,e,f,g,i,j,k,l,r⟩:=fh m;have b:=λb=>aa.frozen m b;have b:=aa.lt m;have q:=aZ b;go_wp2;refine bodyPost_ret (results_none rfl _ _ _) rfl ?_;rw[n.out];have b:=m.out;have c:=(Kp.refl [c,d] o);exact⟨t,_,rfl,⟨rfl,⟨none,0,0⟩,⟨none,0,0⟩,⟨b,aD.none_ _ 14 _,aV.none_ _ _ _,(λ_ h=>by cases h),kf _,aV.none_ _ _ _,b2 _ ax,b2 _ ax,⟨by show _<=(0:Int);omega,by show(0:Int)<=_;omega⟩⟩⟩,u.out⟩
theorem CX (d:Int) (e i r:Nat) (b:List ao) (j:ah) (x y z A:aA) (s:az j e d b) (m:aa j i 93 #[x,y,z,ab,ab,ai,ai,J 0,A]) (g:aa j r 127 #[ak e]) (P:e<i) (P:i<r):
 Calls prog 302 #[ak i,ak r] j λr P=>PL [e,i] d e j (eA d 5 b) (qI j.heap.size i x y z A) r P:=by
 have r:=s.lt;have Q:=Z s;have R:=Z (Kp.refl [e,i] j);have S:=Z m;have t:=Z g;clear m g;clear s;have B:=Z (show eA d 5 b=(aW d b [⟨#[44]⟩]).bind λ_ b=>(bN d b).bind λa b=>(aW d b [⟨_⟩]).bind λ_ b=>(bN d b).bind λc b=>.ok {dv.zero with attr:=a,cN:=c} b from rfl);generalize eA d 5 b=aC at B⊢;have l:=ay t;have f:=aa.lt t;have g:=aZ f;go_enter func302,ntmps302
 go_wp2_with fail
 refine aU aj (R.alloc _) B (c6 d e b [⟨#[44]⟩] _ j _ (Q.alloc _) (cG [⟨#[44]⟩] ax)) aN ?_;intro b T b b U k c V W b;have X:=b5 c S;have u:=b5 c t;obtain rfl:=k;clear c;clear l f g;have l:=ay u;have f:=aa.lt u;have g:=aZ f;go_wp2_with fail
 refine aU aj V U (eM d e T _ W) aN ?_;intro n Y b ad ae k c af ag b;have o:=bl c X;have v:=bl c u;obtain⟨rfl,al⟩:=k;clear c;clear l f g;have l:=ay v;have f:=aa.lt v;have g:=aZ f;obtain⟨C,D,E,F,G,H,I,K,L⟩:=fh o;have M:=λw=>aa.frozen o w;have p:=aa.lt o;have m:=aZ p;go_wp2_with fail
 refine aU aj ((Kp.aH aj af n).alloc _) ae (c6 d e Y [⟨_⟩] _ (ad.setCell (ac i 5) n) _ ((az.set aG ag _).alloc _) (cG [⟨_⟩] ax)) aN ?_;intro b am b b an k c ap aq b;have ar:=Z (c.blk ((j0 o n).alloc _) bb);have N:=Z (c.blk ((aa.far v aG n).alloc _) bb);obtain rfl:=k;clear c;clear C D E F G H I K L M p m;clear l f g;have l:=ay N;have f:=aa.lt N;have g:=aZ f;go_wp2_with fail
 refine aU aj ap an (eM d e am _ aq) aN ?_;intro O b b b au k c av aw b;have q:=bl c ar;obtain⟨rfl,aB⟩:=k;clear c;obtain⟨C,D,E,F,G,H,I,K,L⟩:=fh q;have M:=λw=>aa.frozen q w;have p:=aa.lt q;have m:=aZ p;go_wp2;refine bodyPost_ret (results_none rfl _ _ _) rfl ?_;rw[au.out];have b:=(q.aP 6 O);exact⟨(Kp.aH aj av O),_,rfl,⟨rfl,⟨none,0,0⟩,⟨none,0,0⟩,⟨b,aD.none_ _ 14 _,aV.none_ _ _ _,(λ_ h=>by cases h),kf _,aV.none_ _ _ _,al,aB,⟨by show _<=(0:Int);omega,by show(0:Int)<=_;omega⟩⟩⟩,(az.set aG aw.out _)⟩
theorem CY (e:Int) (f k T:Nat) (c:List ao) (o:ah) (an ap aq ar:aA) (U:az o f e c) (m:aa o k 93 #[an,ap,aq,ab,ab,ai,ai,J 0,ar]) (i:aa o T 127 #[ak f]) (bE:f<k) (bE:k<T):
 Calls prog 303 #[ak k,ak T] o λu T=>PL [f,k] e f o (eA e 6 c) (qI o.heap.size k an ap aq ar) u T:=by
 have T:=U.lt;have aT:=Z U;have aX:=Z (Kp.refl [f,k] o);have aY:=Z m;have V:=Z i;have T:=i.lt;clear m i;clear U;have aw:=Z (show eA e 6 c=(aW e c [⟨_⟩]).bind λ_ c=>(k6 e ⟨_⟩ c).bind λd c=>(aW e c [⟨_⟩]).bind λ_ c=>(dP e c [⟨_⟩,⟨_⟩,⟨_⟩,⟨_⟩]).bind λb c=>(if b=1 then .ok e0 c else bN e c).bind λa c=>(aW e c [⟨_⟩]).bind λ_ c=>(bN e c).bind λg c=>.ok {dv.zero with names:=d,attr:=a,cN:=g,agg:=b} c from rfl);generalize eA e 6 c=K at aw⊢;have j:=ay V;have d:=aa.lt V;have i:=aZ d;go_enter func303,ntmps303
 go_wp2_with fail
 refine aU aj (aX.alloc _) aw (c6 e f c [⟨_⟩] _ o _ (aT.alloc _) (cG [⟨_⟩] ax)) aN ?_;intro T W T a0 a1 g b a2 a3 T;have aB:=b5 b aY;have L:=b5 b V;obtain rfl:=g;clear b;clear j d i;have j:=ay L;have d:=aa.lt L;have i:=aZ d;go_wp2_with fail
 refine sC ⟨_⟩ a0 _ (a2.alloc _) (a1.trans (PO.qH _ _ _)) (a3.alloc _) (b2 _ ax) ?au ?av
 case au=>
  intro T a4 b a5 a6 T;have a7:=b5 b aB;have X:=b5 b L;clear b;clear j d i;have j:=ay X;have d:=aa.lt X;have i:=aZ d;go_wp2_with fail
  refine aU aj a5 a4 (qw e f W _ a6) aN ?_;intro aC aE M aF Y aI b a8 a9 T;have N:=bl b a7;have ad:=bl b X;clear b;obtain⟨⟨r,s,t⟩,g,ba⟩:∃h:Hd,M=h.val/\M=M:=by obtain⟨h,u,_⟩:=aI;exact⟨h,u,rfl⟩
  replace g:M=.slice r s t:=g;subst g;clear ba;obtain⟨v,w,x,y,z,A,B,C,D⟩:=fh N;have E:=λq=>aa.frozen N q;have n:=aa.lt N;have m:=aZ n;replace Y:Hid (K=(aW e aE [⟨#[119,105,116,104]⟩]).bind λ_ c=>(dP e c [⟨#[99,111,117,110,116]⟩,⟨#[115,117,109]⟩,⟨#[108,101,97,115,116]⟩,⟨#[103,114,101,97,116,101,115,116]⟩]).bind λl c=>(if l=1 then .ok e0 c else bN e c).bind λa c=>(aW e c [⟨#[97,115]⟩]).bind λ_ c=>(bN e c).bind λF c=>.ok {dv.zero with names:=aC,attr:=a,cN:=F,agg:=l} c):=Y;clear j d i;have j:=ay ad;have d:=aa.lt ad;have i:=aZ d;go_wp2_with fail
  refine aU aj ((Kp.aH aj a8 (O r s t)).alloc _) Y (c6 e f aE [⟨_⟩] _ (aF.setCell (ac k 4) (O r s t)) _ ((az.set aG a9 _).alloc _) (cG [⟨_⟩] ax)) aN ?_;intro M bc M aJ bd g b be bf M;have bg:=Z (b.blk ((l7 N (O r s t)).alloc _) bb);have ae:=Z (b.blk ((aa.far ad aG (O r s t)).alloc _) bb);have bh:=Z (aI.kp (((Kp.aH aj (Kp.refl [f,k] aF) (O r s t)).alloc _).trans (b.mono aj)) bb);obtain rfl:=g;clear b;clear j d i;have j:=ay ae;have d:=aa.lt ae;have i:=aZ d;go_wp2_with fail
  refine aU aj (be.alloc _) bd (mo e f bc [⟨_⟩,⟨_⟩,⟨_⟩,⟨_⟩] _ aJ _ (bf.alloc _) (cG [⟨_⟩,⟨_⟩,⟨_⟩,⟨_⟩] ax) ax) aN ?_;intro l af M ag F g b aK aL M;have H:=b5 b bg;have P:=b5 b ae;have aM:=Z (bh.kp (((Kp.refl [f,k] aJ).alloc _).trans (b.mono aj)) bb);obtain⟨rfl,aO,aQ⟩:=g;clear b;have M:1<=l/\l<=100:=⟨aO,aQ⟩;clear aO aQ;obtain⟨v,w,x,y,z,A,B,C,D⟩:=fh H;have E:=λq=>aa.frozen H q;have n:=aa.lt H;have m:=aZ n;clear j d i;have j:=ay P;have d:=aa.lt P;have i:=aZ d;by_cases G:l=1
  ·
   have M:(l !=1)=false:=by simp[G]
   replace F:Hid (K=(aW e af [⟨#[97,115]⟩]).bind λ_ c=>(bN e c).bind λI c=>.ok {dv.zero with names:=aC,attr:=e0,cN:=I,agg:=l} c):=Z (by rw[F.out,if_pos G];rfl);clear G;go_wp2_with fail
   refine aU aj ((Kp.aH aj aK l).alloc _) F (c6 e f af [⟨_⟩] _ (ag.setCell (ac k 7) l) _ ((az.set aG aL _).alloc _) (cG [⟨_⟩] ax)) aN ?_;intro M al M am aR g b aS bi M;have bj:=Z (b.blk ((gy H l).alloc _) bb);have R:=Z (b.blk ((aa.far P aG l).alloc _) bb);have bk:=Z (aM.kp (((Kp.aH aj (Kp.refl [f,k] ag) l).alloc _).trans (b.mono aj)) bb);obtain rfl:=g;clear b;clear v w x y z A B C D E n m;clear j d i;have j:=ay R;have d:=aa.lt R;have i:=aZ d;go_wp2_with fail
   refine aU aj aS aR (eM e f al _ bi) aN ?_;intro S M M bm bn g b bo bp M;have I:=bl b bj;have M:=bl b R;have bq:=Z (bk.kp ((Kp.refl [f,k] am).trans (b.mono aj)) bb);obtain⟨rfl,br⟩:=g;clear b;obtain⟨v,w,x,y,z,A,B,C,D⟩:=fh I;have E:=λq=>aa.frozen I q;have n:=aa.lt I;have m:=aZ n;have Q:=bq.open_;go_wp2;refine bodyPost_ret (results_none rfl _ _ _) rfl ?_;rw[bn.out];have I:=(I.aP 6 S);have bs:=(Kp.aH (p:=(ac k 6)) aj (Kp.refl [f,k] bm) S);exact⟨(Kp.aH aj bo S),_,rfl,⟨rfl,⟨none,0,0⟩,⟨r,s,t⟩,⟨I,aD.none_ _ 14 _,aV.none_ _ _ _,(λ_ h=>by cases h),⟨(Q.1.kp bs (λI M u N=>by have:=Q.2.2 I M u;unfold Bw at this;simp at N;omega)),Q.2.1⟩,(by have h:=Q.2.2.low (lo':=o.heap.size) (by omega);simpa using h),b2 _ ax,br,⟨by show _<=l;omega,by show l<=_;omega⟩⟩⟩,(az.set aG bp.out _)⟩
  have M:(l !=1)=true:=by simp[G]
  replace F:=Z (F.out.trans (congrArg (λI=>PO.bind I _) (if_neg G)));clear G;go_wp2_with fail
  refine aU aj (Kp.aH aj aK l) F (eM e f af _ (az.set aG aL _)) aN ?_;intro I bi F aR bj g b bk bm F;have Q:=Z (b.blk (gy H l) bb);have al:=Z (b.blk (aa.far P aG l) bb);have bn:=Z (aM.kp ((Kp.aH aj (Kp.refl [f,k] ag) l).trans (b.mono aj)) bb);obtain⟨rfl,bo⟩:=g;clear b;clear v w x y z A B C D E n m;obtain⟨v,w,x,y,z,A,B,C,D⟩:=fh Q;have E:=λq=>aa.frozen Q q;have n:=aa.lt Q;have m:=aZ n;clear j d i;have j:=ay al;have d:=aa.lt al;have i:=aZ d;go_wp2_with fail
  refine aU aj ((Kp.aH aj bk I).alloc _) bj (c6 e f bi [⟨_⟩] _ (aR.setCell (ac k 5) I) _ ((az.set aG bm _).alloc _) (cG [⟨_⟩] ax)) aN ?_;intro F bp F bq br g b bs bt F;have bu:=Z (b.blk ((j0 Q I).alloc _) bb);have aS:=Z (b.blk ((aa.far al aG I).alloc _) bb);have bv:=Z (bn.kp (((Kp.aH aj (Kp.refl [f,k] aR) I).alloc _).trans (b.mono aj)) bb);obtain rfl:=g;clear b;clear v w x y z A B C D E n m;clear j d i;have j:=ay aS;have d:=aa.lt aS;have i:=aZ d;go_wp2_with fail
  refine aU aj bs br (eM e f bp _ bt) aN ?_;intro am F F bw bx g b bz bA F;have R:=bl b bu;have bB:=Z (bv.kp ((Kp.refl [f,k] bq).trans (b.mono aj)) bb);obtain⟨rfl,bC⟩:=g;clear b;obtain⟨v,w,x,y,z,A,B,C,D⟩:=fh R;have E:=λq=>aa.frozen R q;have n:=aa.lt R;have m:=aZ n;have S:=bB.open_;go_wp2;refine bodyPost_ret (results_none rfl _ _ _) rfl ?_;rw[bx.out];have n:=(R.aP 6 am);have bD:=(Kp.aH (p:=(ac k 6)) aj (Kp.refl [f,k] bw) am);exact⟨(Kp.aH aj bz am),_,rfl,⟨rfl,⟨none,0,0⟩,⟨r,s,t⟩,⟨n,aD.none_ _ 14 _,aV.none_ _ _ _,(λ_ h=>by cases h),⟨(S.1.kp bD (λn q u r=>by have:=S.2.2 n q u;unfold Bw at this;simp at r;omega)),S.2.1⟩,(by have h:=S.2.2.low (lo':=o.heap.size) (by omega);simpa using h),bo,bC,⟨by show _<=l;omega,by show l<=_;omega⟩⟩⟩,(az.set aG bA.out _)⟩
 intro ag M b al am o;have aC:=b5 b aB;have N:=b5 b L;clear b;replace M:Hid (K=(aW e W [⟨#[119,105,116,104]⟩]).bind λ_ c=>(dP e c [⟨#[99,111,117,110,116]⟩,⟨#[115,117,109]⟩,⟨#[108,101,97,115,116]⟩,⟨#[103,114,101,97,116,101,115,116]⟩]).bind λl c=>(if l=1 then .ok e0 c else bN e c).bind λa c=>(aW e c [⟨#[97,115]⟩]).bind λ_ c=>(bN e c).bind λn c=>.ok {dv.zero with names:=[],attr:=a,cN:=n,agg:=l} c):=M;clear j d i;have j:=ay N;have d:=aa.lt N;have i:=aZ d;go_wp2_with fail
 refine aU aj (al.alloc _) M (c6 e f W [⟨_⟩] _ ag _ (am.alloc _) (cG [⟨_⟩] ax)) aN ?_;intro o aE o aF aI g b aJ aK o;have aL:=b5 b aC;have P:=b5 b N;obtain rfl:=g;clear b;clear j d i;have j:=ay P;have d:=aa.lt P;have i:=aZ d;go_wp2_with fail
 refine aU aj (aJ.alloc _) aI (mo e f aE [⟨_⟩,⟨_⟩,⟨_⟩,⟨_⟩] _ aF _ (aK.alloc _) (cG [⟨_⟩,⟨_⟩,⟨_⟩,⟨_⟩] ax) ax) aN ?_;intro l Q o aM r g b Y ad o;have E:=b5 b aL;have F:=b5 b P;obtain⟨rfl,ae,af⟩:=g;clear b;have o:1<=l/\l<=100:=⟨ae,af⟩;clear ae af;obtain⟨s,t,v,w,x,y,z,A,B⟩:=fh E;have C:=λq=>aa.frozen E q;have n:=aa.lt E;have m:=aZ n;clear j d i;have j:=ay F;have d:=aa.lt F;have i:=aZ d;by_cases D:l=1
 ·
  have o:(l !=1)=false:=by simp[D]
  replace r:Hid (K=(aW e Q [⟨#[97,115]⟩]).bind λ_ c=>(bN e c).bind λo c=>.ok {dv.zero with names:=[],attr:=e0,cN:=o,agg:=l} c):=Z (by rw[r.out,if_pos D];rfl);clear D;go_wp2_with fail
  refine aU aj ((Kp.aH aj Y l).alloc _) r (c6 e f Q [⟨_⟩] _ (aM.setCell (ac k 7) l) _ ((az.set aG ad _).alloc _) (cG [⟨_⟩] ax)) aN ?_;intro c R c c S g b X aO c;have aQ:=Z (b.blk ((gy E l).alloc _) bb);have H:=Z (b.blk ((aa.far F aG l).alloc _) bb);obtain rfl:=g;clear b;clear s t v w x y z A B C n m;clear j d i;have j:=ay H;have d:=aa.lt H;have i:=aZ d;go_wp2_with fail
  refine aU aj X S (eM e f R _ aO) aN ?_;intro I c c aR aS g b a4 a5 c;have G:=bl b aQ;have c:=bl b H;obtain⟨rfl,a6⟩:=g;clear b;obtain⟨s,t,v,w,x,y,z,A,B⟩:=fh G;have C:=λq=>aa.frozen G q;have n:=aa.lt G;have m:=aZ n;go_wp2;refine bodyPost_ret (results_none rfl _ _ _) rfl ?_;rw[aS.out];have c:=(G.aP 6 I);have o:=(Kp.aH (p:=(ac k 6)) aj (Kp.refl [f,k] aR) I);exact⟨(Kp.aH aj a4 I),_,rfl,⟨rfl,⟨none,0,0⟩,⟨none,0,0⟩,⟨c,aD.none_ _ 14 _,aV.none_ _ _ _,(λ_ h=>by cases h),kf _,aV.none_ _ _ _,b2 _ ax,a6,⟨by show _<=l;omega,by show l<=_;omega⟩⟩⟩,(az.set aG a5.out _)⟩
 have c:(l !=1)=true:=by simp[D]
 replace r:=Z (r.out.trans (congrArg (λc=>PO.bind c _) (if_neg D)));clear D;go_wp2_with fail
 refine aU aj (Kp.aH aj Y l) r (eM e f Q _ (az.set aG ad _)) aN ?_;intro G aO c aQ aR g b aS a4 c;have H:=Z (b.blk (gy E l) bb);have R:=Z (b.blk (aa.far F aG l) bb);obtain⟨rfl,a5⟩:=g;clear b;clear s t v w x y z A B C n m;obtain⟨s,t,v,w,x,y,z,A,B⟩:=fh H;have C:=λq=>aa.frozen H q;have n:=aa.lt H;have m:=aZ n;clear j d i;have j:=ay R;have d:=aa.lt R;have i:=aZ d;go_wp2_with fail
 refine aU aj ((Kp.aH aj aS G).alloc _) aR (c6 e f aO [⟨_⟩] _ (aQ.setCell (ac k 5) G) _ ((az.set aG a4 _).alloc _) (cG [⟨_⟩] ax)) aN ?_;intro c a6 c c a7 g b a8 a9 c;have ba:=Z (b.blk ((j0 H G).alloc _) bb);have S:=Z (b.blk ((aa.far R aG G).alloc _) bb);obtain rfl:=g;clear b;clear s t v w x y z A B C n m;clear j d i;have j:=ay S;have d:=aa.lt S;have i:=aZ d;go_wp2_with fail
 refine aU aj a8 a7 (eM e f a6 _ a9) aN ?_;intro X c c bc bd g b be bf c;have I:=bl b ba;have c:=bl b S;obtain⟨rfl,bg⟩:=g;clear b;obtain⟨s,t,v,w,x,y,z,A,B⟩:=fh I;have C:=λq=>aa.frozen I q;have n:=aa.lt I;have m:=aZ n;go_wp2;refine bodyPost_ret (results_none rfl _ _ _) rfl ?_;rw[bd.out];have b:=(I.aP 6 X);have c:=(Kp.aH (p:=(ac k 6)) aj (Kp.refl [f,k] bc) X);exact⟨(Kp.aH aj be X),_,rfl,⟨rfl,⟨none,0,0⟩,⟨none,0,0⟩,⟨b,aD.none_ _ 14 _,aV.none_ _ _ _,(λ_ h=>by cases h),kf _,aV.none_ _ _ _,a5,bg,⟨by show _<=l;omega,by show l<=_;omega⟩⟩⟩,(az.set aG bf.out _)⟩
def qJ (a:Nat):Nat->Value
 |0=>.func (.func 300) #[] #[ak a]
 |1=>.func (.func 301) #[] #[ak a]
 |5=>.func (.func 302) #[] #[ak a]
 |6=>.func (.func 303) #[] #[ak a]
 |_=>.func (.func 299) #[] #[]
def mv (a:Nat):ByteArray:=f8.getD a e0
def ny (b:Nat):List Value:=(List.range 7).flatMap λa=>[.string (mv a),.bool (nk a),qJ b a]
theorem CZ (b a:Nat) (c:a<7):(ny b)[a*3]?=some (.string (mv a))/\(ny b)[a*3+1]?=some (.bool (nk a))/\(ny b)[a*3+2]?=some (qJ b a):=by
 match a,c with
 |0,_=>exact⟨rfl,rfl,rfl⟩
 |1,_=>exact⟨rfl,rfl,rfl⟩
 |2,_=>exact⟨rfl,rfl,rfl⟩
 |3,_=>exact⟨rfl,rfl,rfl⟩
 |4,_=>exact⟨rfl,rfl,rfl⟩
 |5,_=>exact⟨rfl,rfl,rfl⟩
 |6,_=>exact⟨rfl,rfl,rfl⟩
 |n+7,h=>omega
theorem C0 (b:Nat) (a:ah):
 Calls prog 244 #[ak b] a λc d=>c=.returned (O (some ⟨a.heap.size+1,0,none⟩) 7 7)/\d=(a.alloc (.cells #[ak b] 127)).alloc (.cells (ny a.heap.size).toArray 325):=by
 have a:∀(b:Fn) (first cap:aQ) (a:ah),(Instr.makeFunc b first cap).run prog a=.ok (.func b first cap) a:=λ_ _ _ _=>rfl;go_enter func244,ntmps244
 go_wp2;go_ret;exact⟨rfl,rfl⟩
theorem C1 (b:Nat) (a:ah):Calls prog 299 #[ak b] a λb c=>b=.returned (.tuple #[])/\a=c:=by
 go_enter func299,ntmps299
 go_wp2;go_end0
 exact⟨rfl,rfl⟩
structure fQ (w:ah) (base:Nat) (A:aT) (n c:Nat) (rs:List RE):Prop where
 own:w.ownsRow base 93 9 (O A n c) n (rs.flatMap RE.cells)
 len:rs.length=n
 few:n<=2
 sub:∀r∈rs,dG w (λb=>Bw base w.heap.size b/\∀g,A=some ⟨g,0,none⟩->b≠g) r
theorem fQ.none_ (w:ah) (base:Nat):fQ w base none 0 0 []:=⟨⟨rfl,.inl ⟨rfl,rfl⟩⟩,rfl,by omega,λ_ h=>by cases h⟩
theorem fQ.keep {w c:ah} {base:Nat} {d:aT} {n e:Nat} {rs:List RE} (a:fQ w base d n e rs) {l:List Nat} (k:Kp l w c) (f:∀b∈l,b<base):fQ c base d n e rs:=
 ⟨bD a.own k f,a.len,a.few,λc d=>((a.sub c d).keep k (λb a h=>by have:=f b a;have:=h.1.1;omega)).mono (λb h=>⟨⟨h.1.1,aR h.1.2 k.size⟩,h.2⟩)⟩
def iM:List Value:=[.int .i64 0,.string ⟨#[]⟩,.slice none 0 0,.slice none 0 0,.slice none 0 0,.string ⟨#[]⟩,.string ⟨#[]⟩,.int .i64 0,.int .i64 0]
theorem pa (rs:List RE):(rs.flatMap RE.cells).length=rs.length*9:=no (λa=>RE.len a) rs
theorem fQ.push {w c d:ah} {base P:Nat} {A j:aT} {n e c':Nat} {m:List RE} {r:RE} (a:fQ w base A n e m) (k:Kp [P] w c) (G:P<base) (v:base<=w.heap.size) (G:n<=1)
 (y:dG c (Bw w.heap.size c.heap.size) r) (s:d.ownsRow base 93 9 (O j (n+1) c') (n+1) (m.flatMap RE.cells++iM)) (f:c.grownBy d (Value.slice A n e).ownBlock)
 (hat:(Value.slice j (n+1) c').ownBlock=(Value.slice A n e).ownBlock\/(Value.slice j (n+1) c').ownBlock=some c.heap.size):
 ∃g,j=some ⟨g,0,none⟩/\base<=g/\g<d.heap.size/\fQ (bZ d g (n*9) r.cells) base j (n+1) c' (m++[r]):=by
 rcases s.2 with⟨h,_⟩|⟨g,H,z,i,B,C,I,J,K,L⟩
 ·cases h
 injection i with e1 e2 e3
 subst e1 e3;have j:g<d.heap.size:=aa.lt (t:=93) (cs:=z) C;refine⟨g,rfl,B,j,?_⟩;have j:(m.flatMap RE.cells).length=n*9:=by rw[pa,a.len]
 have D:=we s j rfl (RE.len r);have u:Kp [g] d (bZ d g (n*9) r.cells):=by
  have:∀(o:bg) (l:Nat) (q:ah),Kp [g] d q->Kp [g] d (bZ q g l o):=by
   intro o;induction o with
   |nil=>intro l q h;exact h
   |cons E o F=>intro l q h;exact F (l+1) _ (h.setCell (p:=(ac g l)) (.inl aj) E)
  exact this _ _ _ (Kp.refl _ _)
 have hform:∀b,(Value.slice A n e).ownBlock=some b->A=some ⟨b,0,none⟩/\base<=b/\b<w.heap.size:=by
  intro b hb';rcases a.own.2 with⟨i,_⟩|⟨g',E,l,i,o,q,_⟩
  ·rw[i]at hb';cases hb'
  rw[i]at hb';injection hb' with hb'
  injection i with e1
  subst e1;have:g'=b:=hb';subst this;exact⟨rfl,o,aa.lt (t:=93) (cs:=l) q⟩
 have m:Kp ((Value.slice A n e).ownBlock.toList) c d:=⟨f.os,f.tape,f.output,f.size,λb hb' hne=>f.block b hb' (λhe=>hne (by rw[<-he];simp))⟩;have l:g<c.heap.size->(Value.slice A n e).ownBlock=some g:=by
  exact wg
 have hold:∀(i j:Nat->Prop) (x:RE),dG c i x->(∀b,i b->b<c.heap.size/\(Value.slice A n e).ownBlock≠some b)->(∀b,i b->j b)->dG (bZ d g (n*9) r.cells) j x:=by
  intro i j x i hS o;have q:=i.keep m (λb hb' h=>(hS b h).2 (by
   cases fD:(Value.slice A n e).ownBlock with
   |none=>rw[fD]at hb';simp at hb'
   |some E=>rw[fD]at hb';simp at hb';rw[hb']))
  refine(q.keep u (λb hb' h=>?_)).mono o;rw[aB hb']at h;exact(hS g h).2 (l (hS g h).1)
 have d:c.heap.size<=(bZ d g (n*9) r.cells).heap.size:=bL f.size u.size;have sE:=k.size;have hne:∀b,b<c.heap.size->(Value.slice A n e).ownBlock≠some b->b≠g:=λb d f he=>f (he▸l (he▸d));refine⟨?_,by rw[List.length_append,a.len];rfl,by omega,λx q=>?_⟩
 ·rw[List.flatMap_append]
  simpa using D
 rcases cP q with h|h
 ·exact wh
 rw[aB h];have o:∀b,Bw w.heap.size c.heap.size b->b<c.heap.size/\(Value.slice A n e).ownBlock≠some b:=λb hS=>⟨hS.2,λhe=>by have:=(hform b he).2.2;have:=hS.1;omega⟩;refine hold _ _ r y o (λb hS=>⟨⟨bL v hS.1,by have:=hS.2;omega⟩,λg' hg'=>?_⟩);injection hg' with hg'
 injection hg' with hg'
 subst hg';exact hne b hS.2 (o b hS).2
end Go.Proofs.YteamkimbmdgdbaaGreatDoor

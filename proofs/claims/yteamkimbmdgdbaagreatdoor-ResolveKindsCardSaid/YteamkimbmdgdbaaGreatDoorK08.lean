import Derived.Test.YteamkimbmdgdbaaGreatDoorK05
set_option linter.unusedSimpArgs false
set_option linter.unusedVariables false
set_option maxHeartbeats 16000000
set_option maxRecDepth 100000
namespace Go.Proofs.YteamkimbmdgdbaaGreatDoor
open Go.RowKit
theorem q2 (a:ao) (b:List ao) (c:aw):bu (a::b) c=fN a c:=by
 show(fN a c&&el b [])=fN a c;have:el b []=true:=by cases b<;>rfl
 rw[this,Bool.and_true]
theorem V.jc (a b:Int) (c:aw) (d:0<=a/\a<=4) (d:-9999999999<=b/\b<=9999999999) (d:aG c):V.fine ⟨a,b,c⟩:=⟨by show _<=a;omega,by show a<=_;omega,by show _<=b;omega,by show b<=_;omega,d⟩
def nW (b:Option V) (v:ay) (_:af):Prop:=(∃a:V,b=some a/\v=.tuple #[.agg #[a.k,a.n,a.s],.bool true]/\a.fine)\/(b=none/\v=.tuple #[.agg #[O 0,O 0,ah],.bool false])
def zv (a:V) (v:ay) (_:af):Prop:=v=.agg #[a.k,a.n,a.s]/\a.fine
def zw (a:ByteArray×ByteArray) (b:ay) (_:af):Prop:=b=.tuple #[a.1,a.2]/\aG a.1/\aG a.2
theorem zx (c:Int) (b:ao) (a:List ao) (f:b.k≠3) (g:b.k≠2):fO c (b::a)=
 if bu (b::a) ⟨#[45]⟩then(cq c a).bind λd e=>.ok (some ⟨2,-d,⟨#[]⟩⟩) e else if bu (b::a) ⟨#[64]⟩then(cq c a).bind λd e=>.ok (some ⟨3,d,⟨#[]⟩⟩) e else if bu (b::a) ⟨#[116,114,117,101]⟩then .ok (some ⟨4,1,⟨#[]⟩⟩) a else if bu (b::a) ⟨#[102,97,108,115,101]⟩then .ok (some ⟨4,0,⟨#[]⟩⟩) a else if bu (b::a) ⟨#[110,117,108,108]⟩then .ok (some ⟨0,0,⟨#[]⟩⟩) a else .ok none (b::a):=by
 rw[fO,if_neg f,if_neg g];simp only[q2];rfl
theorem zy (d:Int) (a:Nat) (b:af) (c:ax b a d []):
 Calls Tryz.prog 297 #[aj a] b λi j=>PP d a b (.ok none []) nW i j:=by
 have d:=c.lt;have k:=Z c;obtain⟨⟨l,e,m⟩,f,g⟩:=c;have a:ac b (ab a 0) (U l e m):=J.cell f 0;have n:0=e:=g.lies.1;subst n;clear g f;go_enter Tryz.func297,Tryz.ntmps297
 go_wp2;refine bodyPost_ret (v:=.tuple #[.agg #[O 0,O 0,ah],.bool false]) ?_ rfl ?_
 ·simp[results,Tryz.results297,go_sem]
  try rfl
 exact⟨(Kp.refl _ _).alloc _,_,rfl,.inr ⟨rfl,rfl⟩,k.alloc _⟩
theorem zz (e:Int) (d:Nat) (b:ao) (i:List ao) (c:af) (f:ax c d e (b::i)) (o:b.k=3):
 Calls Tryz.prog 297 #[aj d] c λB C=>PP e d c (((ey e (b::i) b.k).bind λj l=>.ok (some ⟨1,0,j.t⟩) l)) nW B C:=by
 have B:=f.lt;have p:=Z f;have D:=Z (Kp.refl [d] c);have B:c.heap.size<=c.heap.size:=Nat.le_refl _;obtain⟨⟨E,m,F⟩,q,g⟩:=f;have B:=g.lies.2.1;have B:ac c (ab d 0) (U E m F):=J.cell q 0;obtain⟨B,C,r,E,F,X,Y,aa,ad⟩:=g.first;have G:=r;subst G;have B:((m:Int)==0)=false:=by have:=g.lies.1;simp at this;simp;omega
 have m:1<=m:=by have:=g.lies.1;simp at this;omega
 clear r g q;have g:(b.k==3)=true:=by simp[o]
 have g:∀(b:ao) c,(Instr.field 188 b.val 1).run Tryz.prog c=.ok (.string b.t) c:=λ_ _=>by kernel_rfl
 clear o;have f:=trivial;clear f;obtain⟨f,f⟩:∃f:PO (Option V),f=((ey e (b::i) b.k).bind λj l=>.ok (some ⟨1,0,j.t⟩) l):=⟨_,rfl⟩;rw[<-f];have H:=Z f;clear f;go_enter Tryz.func297,Tryz.ntmps297
 have I:=Z (J.new c 66 #[O 0,O 0,ah]);go_wp2_with fail
 refine aQ ai ((D.alloc _).alloc _) H (qO e d (b::i) b.k _ ((p.alloc _).alloc _)) aM ?_;intro u b b b K L w M N b;have n:=b0 w I;obtain⟨rfl,x,P⟩:=L;clear w;have Q:=Z (p.fine x).s;clear x P;obtain⟨b,c,d⟩:=eA n;have b:=λb=>J.frozen n b;go_wp2;have R:=dW n M N [.int .i64 1,.int .i64 0,.string u.t] rfl ae ae;obtain⟨y,z,A⟩:=R;simp only[bX,Nat.zero_add,Nat.reduceAdd]at y z A;obtain⟨S,T,W⟩:=eA y;refine bodyPost_ret (v:=.tuple #[.agg #[O 1,O 0,u.t],.bool true]) ?_ rfl ?_
 ·simp[results,Tryz.results297,go_sem,S,T,W]
 rw[K.out];exact⟨z,_,rfl,.inl ⟨_,rfl,rfl,V.jc _ _ _ ae ae Q⟩,A⟩
theorem zA (f:Int) (e:Nat) (c:ao) (j:List ao) (b:af) (g:ax b e f (c::j)) (m:c.k=2):
 Calls Tryz.prog 297 #[aj e] b λy z=>PP f e b (((cq f (c::j)).bind λd n=>.ok (some ⟨2,d,⟨#[]⟩⟩) n)) nW y z:=by
 have y:=g.lt;have A:=Z g;have B:=Z (Kp.refl [e] b);have y:b.heap.size<=b.heap.size:=Nat.le_refl _;obtain⟨⟨C,d,D⟩,q,i⟩:=g;have y:=i.lies.2.1;have y:ac b (ab e 0) (U C d D):=J.cell q 0;obtain⟨y,z,r,C,D,R,S,T,W⟩:=i.first;have E:=r;subst E;have y:((d:Int)==0)=false:=by have:=i.lies.1;simp at this;simp;omega
 have o:1<=d:=by have:=i.lies.1;simp at this;omega
 clear r i q;have i:(c.k==3)=false:=by simp[m]
 have i:(c.k==2)=true:=by simp[m]
 clear m;have g:=trivial;clear g;obtain⟨g,d⟩:∃g:PO (Option V),g=((cq f (c::j)).bind λd n=>.ok (some ⟨2,d,⟨#[]⟩⟩) n):=⟨_,rfl⟩;rw[<-d];have F:=Z d;clear d;go_enter Tryz.func297,Tryz.ntmps297
 have G:=Z (J.new b 66 #[O 0,O 0,ah]);go_wp2_with fail
 refine aQ ai ((B.alloc _).alloc _) F (fT f e (c::j) _ ((A.alloc _).alloc _)) aM ?_;intro l b b b H I s K L b;have p:=b0 s G;obtain⟨rfl,t,o⟩:=I;clear s;have b:0<=l/\l<=9999999999:=⟨t,o⟩;clear t o;obtain⟨b,c,d⟩:=eA p;have b:=λb=>J.frozen p b;go_wp2;have M:=dW p K L [.int .i64 2,.int .i64 l,.string ⟨#[]⟩] rfl ae ae;obtain⟨u,w,x⟩:=M;simp only[bX,Nat.zero_add,Nat.reduceAdd]at u w x;obtain⟨N,P,Q⟩:=eA u;refine bodyPost_ret (v:=.tuple #[.agg #[O 2,l,ah],.bool true]) ?_ rfl ?_
 ·simp[results,Tryz.results297,go_sem,N,P,Q]
 rw[H.out];exact⟨w,_,rfl,.inl ⟨_,rfl,rfl,V.jc _ _ _ ae ae (bZ _ au)⟩,x⟩
theorem zB (e:Int) (f:Nat) (d:ao) (g:List ao) (c:af) (j:ax c f e (d::g)) (q:d.k≠3) (r:d.k≠2):
 Calls Tryz.prog 297 #[aj f] c λL M=>PP e f c ((fO e (d::g))) nW L M:=by
 have L:=j.lt;have N:=Z j;have P:=Z (Kp.refl [f] c);have L:c.heap.size<=c.heap.size:=Nat.le_refl _;obtain⟨⟨Q,s,R⟩,A,l⟩:=j;have L:=l.lies.2.1;have L:ac c (ab f 0) (U Q s R):=J.cell A 0;obtain⟨L,M,B,Q,R,aK,aL,aN,aO⟩:=l.first;have S:=B;subst S;have L:((s:Int)==0)=false:=by have:=l.lies.1;simp at this;simp;omega
 have ak:1<=s:=by have:=l.lies.1;simp at this;omega
 clear B l A;have l:(d.k==3)=false:=by simp[q]
 have l:(d.k==2)=false:=by simp[r]
 have C:=Z (zx e d g q r);clear q r;have j:=trivial;clear j;obtain⟨t,d⟩:∃t:PO (Option V),t=(fO e (d::g)):=⟨_,rfl⟩;rw[<-d];have u:=Z d;clear d;go_enter Tryz.func297,Tryz.ntmps297
 have D:=Z (J.new c 66 #[O 0,O 0,ah]);replace u:=Z (u.out.trans C.out);clear C;go_wp2_with fail
 refine i7 ⟨#[45]⟩ ai ((P.alloc _).alloc _) u ((N.alloc _).alloc _) (bZ _ au) ?ak ?av
 case ak=>
  intro d K b T W d;have y:=b0 b D;clear b;go_wp2_with fail
  refine i7 ⟨#[64]⟩ ai T K W (bZ _ au) ?ay ?aA
  case ay=>
   intro d X b Y aa d;have x:=bk b y;clear b;go_wp2_with fail
   refine i7 ⟨_⟩ ai Y X aa (bZ _ au) ?aB ?aC
   case aB=>
    intro d ad b ag al d;have z:=bk b x;clear b;go_wp2_with fail
    refine i7 ⟨_⟩ ai ag ad al (bZ _ au) ?aD ?aF
    case aD=>
     intro d w b E F d;have m:=bk b z;clear b;go_wp2_with fail
     refine i7 ⟨_⟩ ai E w F (bZ _ au) ?aG ?aH
     case aG=>
      intro d G b H I d;have i:=bk b m;clear b;obtain⟨d,j,l⟩:=eA i;have d:=λd=>J.frozen i d;go_wp2;have an:=dW i H I [.int .i64 0,.int .i64 0,.string ⟨#[]⟩] rfl ae ae;obtain⟨n,o,p⟩:=an;simp only[bX,Nat.zero_add,Nat.reduceAdd]at n o p;obtain⟨ap,ar,aw⟩:=eA n;refine bodyPost_ret (v:=.tuple #[.agg #[O 0,O 0,ah],.bool false]) ?_ rfl ?_
      ·simp[results,Tryz.results297,go_sem,ap,ar,aw]
      rw[G.out];exact⟨o,_,rfl,.inr ⟨rfl,rfl⟩,p⟩
     intro d G b H I d;have i:=bk b m;clear b;obtain⟨d,j,l⟩:=eA i;have d:=λd=>J.frozen i d;go_wp2;have an:=dW i H I [.int .i64 0,.int .i64 0,.string ⟨#[]⟩] rfl ae ae;obtain⟨n,o,p⟩:=an;simp only[bX,Nat.zero_add,Nat.reduceAdd]at n o p;obtain⟨ap,ar,aw⟩:=eA n;refine bodyPost_ret (v:=.tuple #[.agg #[O 0,O 0,ah],.bool true]) ?_ rfl ?_
     ·simp[results,Tryz.results297,go_sem,ap,ar,aw]
     rw[G.out];exact⟨o,_,rfl,.inl ⟨_,rfl,rfl,V.jc _ _ _ ae ae (bZ _ au)⟩,p⟩
    intro an ap b ar aw d;have o:=bk b z;clear b;obtain⟨E,F,G⟩:=eA o;have H:=λp=>J.frozen o p;go_upto_region 19 with(fail)
    have i:=dW o ar aw [.int .i64 4,.int .i64 0,.string ⟨#[]⟩] rfl ae ae;simp only[bX,Nat.zero_add,Nat.reduceAdd]at i;generalize ((((an.setCell (am c 0) (O 4)).setCell (am c 1) (O 0)).setCell (am c 2) ah))=aP at i⊢;obtain⟨w,m,n⟩:=i;have az:=ap;clear E F G H;obtain⟨E,F,G⟩:=eA w;have H:=λp=>J.frozen w p;go_wp2;have i:=dW w m n [.int .i64 4,.int .i64 0,.string ⟨#[]⟩] rfl ae ae;obtain⟨I,m,n⟩:=i;simp only[bX,Nat.zero_add,Nat.reduceAdd]at I m n;obtain⟨aE,aI,aJ⟩:=eA I;refine bodyPost_ret (v:=.tuple #[.agg #[O 4,O 0,ah],.bool true]) ?_ rfl ?_
    ·simp[results,Tryz.results297,go_sem,aE,aI,aJ]
    rw[az.out];exact⟨m,_,rfl,.inl ⟨_,rfl,rfl,V.jc _ _ _ ae ae (bZ _ au)⟩,n⟩
   intro I ad b ag al d;have o:=bk b x;clear b;obtain⟨z,E,F⟩:=eA o;have G:=λp=>J.frozen o p;go_upto_region 19 with(fail)
   have i:=dW o ag al [.int .i64 4,.int .i64 1,.string ⟨#[]⟩] rfl ae ae;simp only[bX,Nat.zero_add,Nat.reduceAdd]at i;generalize ((((I.setCell (am c 0) (O 4)).setCell (am c 1) (O 1)).setCell (am c 2) ah))=az at i⊢;obtain⟨w,m,n⟩:=i;have an:=ad;clear z E F G;obtain⟨z,E,F⟩:=eA w;have G:=λp=>J.frozen w p;go_wp2;have i:=dW w m n [.int .i64 4,.int .i64 1,.string ⟨#[]⟩] rfl ae ae;obtain⟨H,m,n⟩:=i;simp only[bX,Nat.zero_add,Nat.reduceAdd]at H m n;obtain⟨ap,ar,aw⟩:=eA H;refine bodyPost_ret (v:=.tuple #[.agg #[O 4,O 1,ah],.bool true]) ?_ rfl ?_
   ·simp[results,Tryz.results297,go_sem,ap,ar,aw]
   rw[an.out];exact⟨m,_,rfl,.inl ⟨_,rfl,rfl,V.jc _ _ _ ae ae (bZ _ au)⟩,n⟩
  intro d X b Y aa d;have ad:=bk b y;clear b;go_wp2_with fail
  refine aQ ai Y X (fT e f g _ aa) aM ?_;intro i d d ag al an b ap ar d;have p:=bk b ad;obtain⟨rfl,z,ak⟩:=an;clear b;have b:0<=i/\i<=9999999999:=⟨z,ak⟩;clear z ak;obtain⟨E,F,G⟩:=eA p;have H:=λw=>J.frozen p w;go_upto_region 19 with(fail)
  have m:=dW p ap ar [.int .i64 3,.int .i64 i,.string ⟨#[]⟩] rfl ae ae;simp only[bX,Nat.zero_add,Nat.reduceAdd]at m;generalize ((((ag.setCell (am c 0) (O 3)).setCell (am c 1) i).setCell (am c 2) ah))=aJ at m⊢;obtain⟨x,n,o⟩:=m;have aw:=al;clear E F G H;obtain⟨E,F,G⟩:=eA x;have H:=λw=>J.frozen x w;go_wp2;have m:=dW x n o [.int .i64 3,.int .i64 i,.string ⟨#[]⟩] rfl ae ae;obtain⟨I,n,o⟩:=m;simp only[bX,Nat.zero_add,Nat.reduceAdd]at I n o;obtain⟨az,aE,aI⟩:=eA I;refine bodyPost_ret (v:=.tuple #[.agg #[O 3,i,ah],.bool true]) ?_ rfl ?_
  ·simp[results,Tryz.results297,go_sem,az,aE,aI]
  rw[aw.out];exact⟨n,_,rfl,.inl ⟨_,rfl,rfl,V.jc _ _ _ ae ae (bZ _ au)⟩,o⟩
 intro d T i W X d;have Y:=b0 i D;clear i;go_wp2_with fail
 refine aQ ai W T (fT e f g _ X) aM ?_;intro n aa d ad w ag i al an d;have x:=bk i Y;obtain⟨rfl,E,ak⟩:=ag;clear i;have d:0<=n/\n<=9999999999:=⟨E,ak⟩;clear E ak;obtain⟨b,d⟩:=aq (-n);have e:IntKind.i64.wrap (-n)=b:=by rw[d];exact IntWalk.i64_in _ ae
 have e:-9999999999<=b:=ae
 have e:b<=9999999999:=ae
 replace w:Hid (t=.ok (some ⟨2,b,⟨#[]⟩⟩) aa):=by rw[d];exact w
 clear d;obtain⟨F,G,H⟩:=eA x;have I:=λy=>J.frozen x y;go_upto_region 19 with(fail)
 have m:=dW x al an [.int .i64 2,.int .i64 b,.string ⟨#[]⟩] rfl ae ae;simp only[bX,Nat.zero_add,Nat.reduceAdd]at m;generalize ((((ad.setCell (am c 0) (O 2)).setCell (am c 1) b).setCell (am c 2) ah))=aE at m⊢;obtain⟨z,o,p⟩:=m;have ap:=w;clear F G H I;obtain⟨F,G,H⟩:=eA z;have I:=λy=>J.frozen z y;go_wp2;have m:=dW z o p [.int .i64 2,.int .i64 b,.string ⟨#[]⟩] rfl ae ae;obtain⟨K,o,p⟩:=m;simp only[bX,Nat.zero_add,Nat.reduceAdd]at K o p;obtain⟨ar,aw,az⟩:=eA K;refine bodyPost_ret (v:=.tuple #[.agg #[O 2,b,ah],.bool true]) ?_ rfl ?_
 ·simp[results,Tryz.results297,go_sem,ar,aw,az]
 rw[ap.out];exact⟨o,_,rfl,.inl ⟨_,rfl,rfl,V.jc _ _ _ ae ae (bZ _ au)⟩,p⟩
theorem tM (a:Int) (c:Nat) (f:List ao) (d:af) (g:ax d c a f):
 Calls Tryz.prog 297 #[aj c] d λi j=>PP a c d (fO a f) nW i j:=by
 cases f with
 |nil=>exact zy a c d g
 |cons b e=>
  by_cases i:b.k=3
  ·have:=zz a c b e d g i
   rwa[show fO a (b::e)=(ey a (b::e) b.k).bind λj l=>.ok (some ⟨1,0,j.t⟩) l by rw[fO,if_pos i,ey,if_pos rfl];rfl]
  by_cases j:b.k=2
  ·have:=zA a c b e d g j
   rwa[show fO a (b::e)=(cq a (b::e)).bind λl f=>.ok (some ⟨2,l,⟨#[]⟩⟩) f by simp only[fO,if_neg i,if_pos j,cq,ey];rfl]
  exact zB a c b e d g i j
theorem tO (b:Int) (f:Nat) (c:List ao) (d:af) (m:ax d f b c):
 Calls Tryz.prog 240 #[aj f] d λw x=>PP b f d (jF b c) zv w x:=by
 have w:=m.lt;have y:=Z m;have z:=Z (Kp.refl [f] d);have w:d.heap.size<=d.heap.size:=Nat.le_refl _;clear m;have n:=Z (show jF b c=(fO b c).bind λe c=>match e with|some e=>.ok e c|none=>e8 b c 4 from rfl);generalize jF b c=o at n⊢;go_enter Tryz.func240,Tryz.ntmps240
 have A:=Z (J.new d 66 #[O 0,O 0,ah]);go_wp2_with fail
 refine aQ ai (z.alloc _) n (tM b f c _ (y.alloc _)) aM ?_;intro c p c c e B c q r d;have g:=bk c A;clear c;rcases B with⟨C,rfl,rfl,s⟩|⟨rfl,rfl⟩
 ·
  obtain⟨i,j,k⟩:=C;have HX:=Z s;replace e:Hid (o=.ok ⟨i,j,k⟩ p):=e;clear s;obtain⟨c,d,f⟩:=eA g;have c:=λc=>J.frozen g c;have c:=J.lt g;go_wp2;have D:=dW g q r [.int .i64 i,.int .i64 j,.string k] rfl ae ae;obtain⟨l,t,u⟩:=D;simp only[bX,Nat.zero_add,Nat.reduceAdd]at l t u;replace l:=l.alloc (.cells #[i,j,k] 66);obtain⟨E,F,G⟩:=eA l;refine bodyPost_ret (v:=.agg #[i,j,k]) ?_ rfl ?_
  ·simp[results,Tryz.results240,go_sem,E,F,G]
  rw[e.out];exact⟨t.alloc _,_,rfl,⟨rfl,HX⟩,u.alloc _⟩
 replace e:Hid (o=e8 b p 4):=e;go_wp2_with fail
 refine qT 4 (q.alloc _) e (r.alloc _) ?ak;intro er a wx HX KX;go_wp2;exact⟨rfl,by rw[HX.out];exact⟨KX.out,rfl⟩⟩
theorem tP (d:Int) (e:Nat) (b:List ao) (f:af) (n:ax f e d b):
 Calls Tryz.prog 298 #[aj e] f λA B=>PP d e f (jG d b) (iZ dG.cells dG.bY) A B:=by
 have A:=n.lt;have C:=Z n;have D:=Z (Kp.refl [e] f);have A:f.heap.size<=f.heap.size:=Nat.le_refl _;clear n;have p:=Z (show jG d b=(fO d b).bind λc b=>match c with|some c=>.ok ⟨e0,e0,true,c⟩ b|none=>(bW d b).bind λa b=>if bu b ⟨#[46]⟩then(bW d b.tail).bind λc b=>.ok ⟨a,c,false,⟨0,0,e0⟩⟩ b else .ok ⟨e0,a,false,⟨0,0,e0⟩⟩ b from rfl);generalize jG d b=q at p⊢;go_enter Tryz.func298,Tryz.ntmps298
 have E:=Z (J.new f 284 #[ah,ah,.bool false,O 0,O 0,ah]);go_wp2_with fail
 refine aQ ai (D.alloc _) p (tM d e b _ (C.alloc _)) aM ?_;intro f o f f g F c r s f;have i:=bk c E;clear c;rcases F with⟨G,rfl,rfl,t⟩|⟨rfl,rfl⟩
 ·
  obtain⟨j,k,l⟩:=G;have HX:=Z t;replace g:Hid (q=.ok ⟨e0,e0,true,⟨j,k,l⟩⟩ o):=g;clear t;obtain⟨f,n,p,t,A,B⟩:=mC i;have f:=λf=>J.frozen i f;have f:=J.lt i;go_wp2;have x:=dW i r s [.string ⟨#[]⟩,.string ⟨#[]⟩,.bool true,.int .i64 j,.int .i64 k,.string l] rfl ae ae;obtain⟨m,u,w⟩:=x;simp only[bX,Nat.zero_add,Nat.reduceAdd]at m u w;replace m:=m.alloc (.cells #[j,k,l] 66);obtain⟨y,z,H,I,K,L⟩:=mC m;refine bodyPost_ret (v:=.agg #[ah,ah,.bool true,j,k,l]) ?_ rfl ?_
  ·simp[results,Tryz.results298,go_sem,y,z,H,I,K,L]
  rw[g.out];exact⟨u.alloc _,_,rfl,⟨rfl,⟨bZ _ au,bZ _ au,HX⟩⟩,w.alloc _⟩
 replace g:Hid (q=((bW d o).bind λa b=>if bu b ⟨#[46]⟩then(bW d b.tail).bind λf b=>.ok ⟨a,f,false,⟨0,0,e0⟩⟩ b else .ok ⟨e0,a,false,⟨0,0,e0⟩⟩ b)):=g;go_wp2_with fail
 refine aQ ai (r.alloc _) g (eq d e o _ (s.alloc _)) aM ?_;intro j H b b I l c K L b;have m:=b0 c i;obtain⟨rfl,u⟩:=l;clear c;go_wp2_with fail
 refine i7 ⟨#[46]⟩ ai K I L (bZ _ au) ?ak ?av
 case ak=>
  intro b z c M N b;have k:=bk c m;clear c;obtain⟨b,f,g,i,n,o⟩:=mC k;have b:=λb=>J.frozen k b;have b:=J.lt k;go_wp2;have P:=dW k M N [.string ⟨#[]⟩,.string j,.bool false,.int .i64 0,.int .i64 0,.string ⟨#[]⟩] rfl ae ae;obtain⟨w,x,y⟩:=P;simp only[bX,Nat.zero_add,Nat.reduceAdd]at w x y;obtain⟨Q,R,S,T,U,W⟩:=mC w;refine bodyPost_ret (v:=.agg #[ah,j,.bool false,O 0,O 0,ah]) ?_ rfl ?_
  ·simp[results,Tryz.results298,go_sem,Q,R,S,T,U,W]
  rw[z.out];exact⟨x,_,rfl,⟨rfl,⟨bZ _ au,u,V.jc _ _ _ ae ae (bZ _ au)⟩⟩,y⟩
 intro b M c N P b;have Q:=bk c m;clear c;go_wp2_with fail
 refine aQ ai N M (eq d e H.tail _ P) aM ?_;intro w b b b R l c S T b;have k:=bk c Q;obtain⟨rfl,U⟩:=l;clear c;obtain⟨b,c,d,e,f,g⟩:=mC k;have b:=λb=>J.frozen k b;have b:=J.lt k;go_wp2;have W:=dW k S T [.string j,.string w,.bool false,.int .i64 0,.int .i64 0,.string ⟨#[]⟩] rfl ae ae;obtain⟨x,y,z⟩:=W;simp only[bX,Nat.zero_add,Nat.reduceAdd]at x y z;obtain⟨X,Y,aa,ab,ac,ad⟩:=mC x;refine bodyPost_ret (v:=.agg #[j,w,.bool false,O 0,O 0,ah]) ?_ rfl ?_
 ·simp[results,Tryz.results298,go_sem,X,Y,aa,ab,ac,ad]
 rw[R.out];exact⟨y,_,rfl,⟨rfl,⟨u,U,V.jc _ _ _ ae ae (bZ _ au)⟩⟩,z⟩
theorem pw (c:Int) (d:Nat) (b:List ao) (g:af) (i:ax g d c b):
 Calls Tryz.prog 168 #[aj d] g λk l=>PP c d g (gF c b) zw k l:=by
 have k:=i.lt;have m:=Z i;have n:=Z (Kp.refl [d] g);clear i;have j:=Z (show gF c b=(bW c b).bind λa b=>(aR c b [⟨#[46]⟩]).bind λ_ b=>(bW c b).bind λe b=>.ok (a,e) b from rfl);generalize gF c b=C at j⊢;go_enter Tryz.func168,Tryz.ntmps168
 go_wp2_with fail
 refine aQ ai n j (eq c d b _ m) aM ?_;intro b o b p q e f r s b;obtain⟨rfl,t⟩:=e;clear f;go_wp2_with fail
 refine aQ ai (r.alloc _) q (cU c d o [⟨#[46]⟩] _ p _ (s.alloc _) (cA [⟨#[46]⟩] au)) aM ?_;intro b u b b v e f w x b;obtain rfl:=e;clear f;go_wp2_with fail
 refine aQ ai w v (eq c d u _ x) aM ?_;intro b b b b y e f z A b;obtain⟨rfl,B⟩:=e;clear f;go_wp2;go_ret2
 rw[y.out];exact⟨z,_,rfl,⟨rfl,t,B⟩,A⟩
theorem zC (c:Int) (e:Nat) (b:List ao) (f:af) (i:ax f e c b):
 Calls Tryz.prog 172 #[aj e] f λs t=>PP c e f (kD c b) (iZ du.cells du.bY) s t:=by
 have s:=i.lt;have u:=Z i;have w:=Z (Kp.refl [e] f);have s:f.heap.size<=f.heap.size:=Nat.le_refl _;clear i;have k:=Z (show kD c b=(bW c b).bind λa b=>(aR c b [⟨#[61]⟩]).bind λ_ b=>(jF c b).bind λd b=>.ok ⟨a,d⟩ b from rfl);generalize kD c b=W at k⊢;go_enter Tryz.func172,Tryz.ntmps172
 have x:=Z (J.new f 238 #[ah,O 0,O 0,ah]);go_wp2_with fail
 refine aQ ai (w.alloc _) k (eq c e b _ (u.alloc _)) aM ?_;intro l y b z A g d B C b;have D:=bk d x;obtain⟨rfl,E⟩:=g;clear d;go_wp2_with fail
 refine aQ ai (B.alloc _) A (cU c e y [⟨#[61]⟩] _ z _ (C.alloc _) (cA [⟨#[61]⟩] au)) aM ?_;intro b F b b G g d H I b;have K:=b0 d D;obtain rfl:=g;clear d;go_wp2_with fail
 refine aQ ai H G (tO c e F _ I) aM ?_;intro L b b b M g d N P b;have j:=bk d K;obtain⟨rfl,Q⟩:=g;clear d;obtain⟨m,n,o⟩:=L;obtain⟨b,c,d,e⟩:=tp j;have b:=λb=>J.frozen j b;go_wp2;have R:=dW j N P [.string l,.int .i64 m,.int .i64 n,.string o] rfl ae ae;obtain⟨p,q,r⟩:=R;simp only[bX,Nat.zero_add,Nat.reduceAdd]at p q r;obtain⟨S,T,U,V⟩:=tp p;refine bodyPost_ret (v:=.agg #[l,m,n,o]) ?_ rfl ?_
 ·simp[results,Tryz.results172,go_sem,S,T,U,V]
 rw[M.out];exact⟨q,_,rfl,⟨rfl,⟨E,Q⟩⟩,r⟩
theorem zD (c:Int) (e:Nat) (b:List ao) (d:af) (g:ax d e c b):
 Calls Tryz.prog 174 #[aj e] d λq r=>PP c e d (kE c b) (iZ Vr.cells Vr.bY) q r:=by
 have q:=g.lt;have s:=Z g;have t:=Z (Kp.refl [e] d);have q:d.heap.size<=d.heap.size:=Nat.le_refl _;clear g;have k:=Z (show kE c b=(bW c b).bind λf b=>(bW c b).bind λg b=>.ok ⟨g,f⟩ b from rfl);generalize kE c b=K at k⊢;go_enter Tryz.func174,Tryz.ntmps174
 have u:=Z (J.new d 133 #[ah,ah]);go_wp2_with fail
 refine aQ ai (t.alloc _) k (eq c e b _ (s.alloc _)) aM ?_;intro l w b b x i f y z b;have A:=bk f u;obtain⟨rfl,B⟩:=i;clear f;go_wp2_with fail
 refine aQ ai y x (eq c e w _ z) aM ?_;intro m b b b C i f D E b;have j:=bk f A;obtain⟨rfl,F⟩:=i;clear f;obtain⟨b,c⟩:=tn j;have b:=λb=>J.frozen j b;go_wp2;have G:=dW j D E [.string m,.string l] rfl ae ae;obtain⟨n,o,p⟩:=G;simp only[bX,Nat.zero_add,Nat.reduceAdd]at n o p;obtain⟨H,I⟩:=tn n;refine bodyPost_ret (v:=.agg #[m,l]) ?_ rfl ?_
 ·simp[results,Tryz.results174,go_sem,H,I]
 rw[C.out];exact⟨o,_,rfl,⟨rfl,⟨F,B⟩⟩,p⟩
theorem zE (d:Int) (f:Nat) (c:List ao) (g:af) (l:ax g f d c):
 Calls Tryz.prog 165 #[aj f] g λD E=>PP d f g (kC d c) (iZ dl.cells dl.bY) D E:=by
 have D:=l.lt;have F:=Z l;have G:=Z (Kp.refl [f] g);have D:g.heap.size<=g.heap.size:=Nat.le_refl _;clear l;have u:=Z (show kC d c=(bW d c).bind λa c=>(dK d c [⟨_⟩,⟨_⟩,⟨_⟩,⟨_⟩]).bind λb c=>if bu c ⟨#[61]⟩then(jF d c.tail).bind λe c=>.ok ⟨a,b,e⟩ c else .ok ⟨a,b,⟨0,0,e0⟩⟩ c from rfl);generalize kC d c=az at u⊢;go_enter Tryz.func165,Tryz.ntmps165
 have H:=Z (J.new g 208 #[ah,O 0,O 0,O 0,ah]);go_wp2_with fail
 refine aQ ai (G.alloc _) u (eq d f c _ (F.alloc _)) aM ?_;intro i I c K L j b M N c;have P:=bk b H;obtain⟨rfl,w⟩:=j;clear b;go_wp2_with fail
 refine aQ ai (M.alloc _) L (lJ d f I [⟨_⟩,⟨_⟩,⟨_⟩,⟨_⟩] _ K _ (N.alloc _) (cA [⟨_⟩,⟨_⟩,⟨_⟩,⟨_⟩] au) au) aM ?_;intro e Q c k R j b S T c;have m:=b0 b P;obtain⟨rfl,x,y⟩:=j;clear b;have c:1<=e/\e<=100:=⟨x,y⟩;clear x y;have z:=Z (J.new k 208 #[i,e,O 0,O 0,ah]);have c:=J.lt m;go_wp2_with fail
 refine i7 ⟨#[61]⟩ ai (S.alloc _) R (T.alloc _) (bZ _ au) ?ak ?av
 case ak=>
  intro c s b A B c;have n:=b0 b m;have c:=bk b z;clear b;obtain⟨g,l,u,x,y⟩:=mB n;have l:=λg=>J.frozen n g;obtain⟨l,u,x,y,D⟩:=mB c;have g:=λg=>J.frozen c g;have c:=J.lt c;go_wp2;have C:=dW n A B [.string i,.int .i64 e,.int .i64 0,.int .i64 0,.string ⟨#[]⟩] rfl ae ae;obtain⟨o,q,r⟩:=C;simp only[bX,Nat.zero_add,Nat.reduceAdd]at o q r;obtain⟨U,W,X,Y,aa⟩:=mB o;refine bodyPost_ret (v:=.agg #[i,e,O 0,O 0,ah]) ?_ rfl ?_
  ·simp[results,Tryz.results165,go_sem,U,W,X,Y,aa]
  rw[s.out];exact⟨q,_,rfl,⟨rfl,⟨w,⟨by show _<=e;omega,by show e<=_;omega⟩,V.jc _ _ _ ae ae (bZ _ au)⟩⟩,r⟩
 intro c U b W X c;have Y:=b0 b m;have aa:=bk b z;clear b;go_wp2_with fail
 refine aQ ai W U (tO d f Q.tail _ X) aM ?_;intro ab c c c ac j b ad ag c;have n:=bk b Y;have o:=bk b aa;obtain⟨rfl,al⟩:=j;clear b;obtain⟨q,r,s⟩:=ab;obtain⟨b,c,d,f,g⟩:=mB n;have c:=λb=>J.frozen n b;obtain⟨c,d,f,g,j⟩:=mB o;have b:=λb=>J.frozen o b;have b:=J.lt o;go_wp2;have an:=dW (t:=208) (J.far (J.far (J.far n (p:=(am k 2)) aD q) (p:=(am k 3)) aD r) (p:=(am k 4)) aD s) (Kp.set aD (Kp.set aD (Kp.set aD ad _) _) _) (ax.set aD (ax.set aD (ax.set aD ag _) _) _) [.string i,.int .i64 e,.int .i64 q,.int .i64 r,.string s] rfl ae ae;obtain⟨A,B,C⟩:=an;simp only[bX,Nat.zero_add,Nat.reduceAdd]at A B C;obtain⟨ap,aq,ar,aw,ay⟩:=mB A;refine bodyPost_ret (v:=.agg #[i,e,q,r,s]) ?_ rfl ?_
 ·simp[results,Tryz.results165,go_sem,ap,aq,ar,aw,ay]
 rw[ac.out];exact⟨B,_,rfl,⟨rfl,⟨w,⟨by show _<=e;omega,by show e<=_;omega⟩,al⟩⟩,C⟩
theorem zF (d:Int) (x:Nat) (e:List ao) (z:af) (B:ax z x d e):
 Calls Tryz.prog 243 #[aj x] z λY aa=>PP d x z (kB d e) (iZ bB.cells bB.bY) Y aa:=by
 have Y:=B.lt;have ab:=Z B;have ac:=Z (Kp.refl [x] z);have Y:z.heap.size<=z.heap.size:=Nat.le_refl _;clear B;have L:=Z (show kB d e=(jG d e).bind λb e=>(dK d e [⟨#[61]⟩,⟨_⟩,⟨#[60]⟩,⟨_⟩]).bind λc e=>(jG d e).bind λf e=>(mn d e).bind λg e=>.ok ⟨b,c,f,g⟩ e from rfl);generalize kB d e=M at L⊢;go_enter Tryz.func243,Tryz.ntmps243
 have ad:=Z (J.new z 286 #[ah,ah,.bool false,O 0,O 0,ah,O 0,ah,ah,.bool false,O 0,O 0,ah,O 0]);go_wp2_with fail
 refine aQ ai (ac.alloc _) L (tP d x e _ (ab.alloc _)) aM ?_;intro ag al an ap ar f b aw az z;have aB:=bk b ad;obtain⟨f,C⟩:=f;clear b;obtain⟨g,i,j,⟨k,l,m⟩⟩:=ag;replace f:an=.agg #[g,i,j,k,l,m]:=f;subst f;go_wp2_with fail
 refine aQ ai (aw.alloc _) ar (lJ d x al [⟨#[61]⟩,⟨_⟩,⟨#[60]⟩,⟨_⟩] _ ap _ (az.alloc _) (cA [⟨#[61]⟩,⟨_⟩,⟨#[60]⟩,⟨_⟩] au) au) aM ?_;intro c aC z z aE f b aF aG z;have aH:=b0 b aB;obtain⟨rfl,N,P⟩:=f;clear b;have z:1<=c/\c<=100:=⟨N,P⟩;clear N P;go_wp2_with fail
 refine aQ ai aF aE (tP d x aC _ aG) aM ?_;intro aI w aJ D E f b aK aL z;have F:=bk b aH;obtain⟨f,G⟩:=f;clear b;obtain⟨n,o,q,⟨r,s,u⟩⟩:=aI;replace f:aJ=.agg #[n,o,q,r,s,u]:=f;subst f;have Q:=Z (J.new D 286 #[g,i,j,k,l,m,c,n,o,q,r,s,u,O 0]);have z:=J.lt F;replace E:Hid (M=(if bu w ⟨#[43]⟩then(cq d w.tail).bind λy e=>.ok ⟨⟨g,i,j,⟨k,l,m⟩⟩,c,⟨n,o,q,⟨r,s,u⟩⟩,y⟩ e else if bu w ⟨#[45]⟩then(cq d w.tail).bind λy e=>.ok ⟨⟨g,i,j,⟨k,l,m⟩⟩,c,⟨n,o,q,⟨r,s,u⟩⟩,-y⟩ e else .ok ⟨⟨g,i,j,⟨k,l,m⟩⟩,c,⟨n,o,q,⟨r,s,u⟩⟩,0⟩ w)):=by
  apply Z;rw[E.out];show(mn d w).bind _=_;unfold mn;cases bu w ⟨#[43]⟩<;>cases bu w ⟨#[45]⟩<;>simp[PO.bind]<;>cases cq d w.tail<;>rfl
 go_wp2_with fail
 refine i7 ⟨#[43]⟩ ai (aK.alloc _) E (aL.alloc _) (bZ _ au) ?ak ?av
 case ak=>
  intro e aN b aO aP e;have R:=b0 b F;have S:=bk b Q;clear b;go_wp2_with fail
  refine i7 ⟨#[45]⟩ ai aO aN aP (bZ _ au) ?ay ?aA
  case ay=>
   intro e K b T U e;have y:=bk b R;have e:=bk b S;clear b;obtain⟨z,B,E,L,N,P,W,X,Y,aa,ab,ac,ad,ag⟩:=jP y;have B:=λz=>J.frozen y z;obtain⟨B,E,L,N,P,W,X,Y,aa,ab,ac,ad,ag,al⟩:=jP e;have z:=λz=>J.frozen e z;have e:=J.lt e;go_wp2;have V:=dW y T U [.string g,.string i,.bool j,.int .i64 k,.int .i64 l,.string m,.int .i64 c,.string n,.string o,.bool q,.int .i64 r,.int .i64 s,.string u,.int .i64 0] rfl ae ae;obtain⟨A,H,I⟩:=V;simp only[bX,Nat.zero_add,Nat.reduceAdd]at A H I;obtain⟨x0,x1,x2,x3,x4,x5,x6,x7,x8,x9,x10,q3,q4,q5⟩:=jP A;refine bodyPost_ret (v:=.agg #[g,i,j,k,l,m,c,n,o,q,r,s,u,O 0]) ?_ rfl ?_
   ·exact wn
   rw[K.out];exact⟨H,_,rfl,⟨rfl,⟨C,⟨by show _<=c;omega,by show c<=_;omega⟩,G,⟨by show _<=(0:Int);omega,by show(0:Int)<=_;omega⟩⟩⟩,I⟩
  intro e aR b aS aT e;have aU:=bk b R;have aV:=bk b S;clear b;go_wp2_with fail
  refine aQ ai aS aR (fT d x w.tail _ aT) aM ?_;intro A aW e e H f b aX aY e;have I:=bk b aU;have K:=bk b aV;obtain⟨rfl,T,U⟩:=f;clear b;have e:0<=A/\A<=9999999999:=⟨T,U⟩;clear T U;obtain⟨y,e⟩:=aq (-A);have z:IntKind.i64.wrap (-A)=y:=by rw[e];exact IntWalk.i64_in _ ae
  have z:-9999999999<=y:=ae
  have z:y<=9999999999:=ae
  replace H:Hid (M=.ok ⟨⟨g,i,j,⟨k,l,m⟩⟩,c,⟨n,o,q,⟨r,s,u⟩⟩,y⟩ aW):=by rw[e];exact H
  clear e;obtain⟨e,z,A,B,E,L,M,N,P,R,S,T,U,Y⟩:=jP I;have z:=λe=>J.frozen I e;obtain⟨z,A,B,E,L,M,N,P,R,S,T,U,Y,aa⟩:=jP K;have e:=λe=>J.frozen K e;have e:=J.lt K;go_wp2;have aZ:=dW (t:=286) (J.far I (p:=(am D 13)) aD y) (Kp.set aD aX _) (ax.set aD aY _) [.string g,.string i,.bool j,.int .i64 k,.int .i64 l,.string m,.int .i64 c,.string n,.string o,.bool q,.int .i64 r,.int .i64 s,.string u,.int .i64 y] rfl ae ae;obtain⟨V,W,X⟩:=aZ;simp only[bX,Nat.zero_add,Nat.reduceAdd]at V W X;obtain⟨x0,x1,x2,x3,x4,x5,x6,x7,x8,x9,x10,q3,q4,q5⟩:=jP V;refine bodyPost_ret (v:=.agg #[g,i,j,k,l,m,c,n,o,q,r,s,u,y]) ?_ rfl ?_
  ·exact wn
  rw[H.out];exact⟨W,_,rfl,⟨rfl,⟨C,⟨by show _<=c;omega,by show c<=_;omega⟩,G,⟨by show _<=y;omega,by show y<=_;omega⟩⟩⟩,X⟩
 intro e U b V W e;have X:=b0 b F;have aN:=bk b Q;clear b;go_wp2_with fail
 refine aQ ai V U (fT d x w.tail _ W) aM ?_;intro y d d d aO f b aP aR d;have A:=bk b X;have H:=bk b aN;obtain⟨rfl,I,K⟩:=f;clear b;have b:0<=y/\y<=9999999999:=⟨I,K⟩;clear I K;obtain⟨b,d,e,f,w,x,z,B,E,F,I,K,L,M⟩:=jP A;have d:=λb=>J.frozen A b;obtain⟨d,e,f,w,x,z,B,E,F,I,K,L,M,N⟩:=jP H;have b:=λb=>J.frozen H b;have b:=J.lt H;go_wp2;have aS:=dW (t:=286) (J.far A (p:=(am D 13)) aD y) (Kp.set aD aP _) (ax.set aD aR _) [.string g,.string i,.bool j,.int .i64 k,.int .i64 l,.string m,.int .i64 c,.string n,.string o,.bool q,.int .i64 r,.int .i64 s,.string u,.int .i64 y] rfl ae ae;obtain⟨R,S,T⟩:=aS;simp only[bX,Nat.zero_add,Nat.reduceAdd]at R S T;obtain⟨x0,x1,x2,x3,x4,x5,x6,x7,x8,x9,x10,q3,q4,q5⟩:=jP R;refine bodyPost_ret (v:=.agg #[g,i,j,k,l,m,c,n,o,q,r,s,u,y]) ?_ rfl ?_
 ·exact wn
 rw[aO.out];exact⟨S,_,rfl,⟨rfl,⟨C,⟨by show _<=c;omega,by show c<=_;omega⟩,G,⟨by show _<=y;omega,by show y<=_;omega⟩⟩⟩,T⟩
theorem tR (b:Int) (c:Nat) (e:List ao) (d:af) (i:ax d c b e):
 Calls Tryz.prog 175 #[aj c] d λg j=>PP b c d (jH b e) (dM d.heap.size 14 bB.cells bB.bY) g j:=by
 have g:=i.lt;have l:=Z i;have m:=Z (Kp.refl [c] d);have j:∀g d,(callFunc 243 g).run Tryz.prog d=.ok (.enter 243 g) d:=enters_of Tryz.func243 ak rfl;have n:=Z (λf (g:af) (h:ax g c b f)=>yN 243 #[aj c] (kB b) (tg b) j b c f ⟨#[97,110,100]⟩ g h (bZ _ au) (λf g h=>zF b c f g h));clear j;clear i;have k:=Z (show jH b e=(aR b e [⟨_⟩]).bind λ_ e=>dA ⟨_⟩ (kB b) e from rfl);generalize jH b e=y at k⊢;go_enter Tryz.func175,Tryz.ntmps175
 go_wp2_with fail
 refine aQ ai (m.alloc _) k (cU b c e [⟨_⟩] _ d _ (l.alloc _) (cA [⟨_⟩] au)) aM ?_;intro b o b b p q f r s t;obtain rfl:=q;clear f;go_wp2_with fail
 refine aQ ai r (p.trans (PO.bind_pure _).symm) (n o _ s) aM ?_;intro b b b b u v f w x b;clear f;go_wp2;go_ret;rw[u.out];exact⟨w,_,rfl,v.base t,x⟩
inductive RE where
 |mk (kind:Int) (table:aw) (hk:Hd) (kids:List RE) (hc:Hd) (conds:List bB) (hn:Hd) (names:bm) (attr cN:aw) (agg at_:Int)
def RE.cells:RE->List Value
 |.mk kind table hk _ hc _ hn _ attr cN agg at_=>[.int .i64 kind,.string table,hk.val,hc.val,hn.val,.string attr,.string cN,.int .i64 agg,.int .i64 at_]
mutual
def RE.ex:RE->Ex
 |.mk kind table _ kids _ conds _ names attr cN agg at_=>.mk kind table (RE.exs kids) conds names attr cN agg at_
def RE.exs:List RE->List Ex
 |[]=>[]
 |r::l=>r.ex::RE.exs l
end
def RE.zero:RE:=.mk 0 e0 ⟨none,0,0⟩ [] ⟨none,0,0⟩ [] ⟨none,0,0⟩ [] e0 e0 0 0
def aS (S:Nat->Prop) (h:Hd):Prop:=∀b c,h.a=some ⟨b,c,none⟩->S b
inductive dX (w:af) (S:Nat->Prop):RE->Prop where
 |mk {kind:Int} {table:aw} {hk:Hd} {kids:List RE} {hc:Hd} {conds:List bB} {hn:Hd} {names:bm} {attr cN:aw} {agg at_:Int}
  (lk:aF w 9 hk RE.cells kids) (ik:aS S hk) (sub:∀k∈kids,dX w S k) (lc:aF w 14 hc bB.cells conds) (ic:aS S hc) (fc:∀c∈conds,c.bY) (ln:b4 w hn names) (iN:aS S hn)
  (ot:aG table) (oa:aG attr) (os:aG cN) (Gd:b8 kind) (ig:b8 agg) (ip:b8 at_):dX w S (.mk kind table hk kids hc conds hn names attr cN agg at_)
theorem aS.mono {S S':Nat->Prop} {h:Hd} (a:aS S h) (c:∀b,S b->S' b):aS S' h:=λb d e=>c b (a b d e)
theorem aS.none_ (S:Nat->Prop) (n a:Nat):aS S ⟨none,n,a⟩:=λa a b=>by cases b
theorem aF.none_ {a:Type} (w:af) (m:Nat) (enc:a->List Value):aF w m ⟨none,0,0⟩ enc []:=⟨rfl,by show 0<=_;omega,λa a=>absurd a ai⟩
theorem dX.mono {w:af} {S S':Nat->Prop} {r:RE} (a:dX w S r) (b:∀c,S c->S' c):dX w S' r:=by
 induction a with
 |mk d e t f g i j k l m n o p q s=>exact .mk d (e.mono b) (λc d=>s c d) f (g.mono b) i j (k.mono b) l m n o p q
theorem dX.keep {w c:af} {S:Nat->Prop} {d:RE} (j:dX w S d) {l:List Nat} (k:Kp l w c) (b:∀a∈l,¬S a):dX c S d:=by
 induction j with
 |mk m e x n f o g i p q r s t u v=>
  exact .mk (m.kp k (λa c d j=>b a j (e a c d))) e (λc d=>v c d) (n.kp k (λa c d e=>b a e (f a c d))) f o ⟨g.1.kp k (λa c d e=>b a e (i a c d)),g.2⟩ i p q r s t u
theorem RE.len (a:RE):a.cells.length=9:=by cases a;rfl
theorem RE.zG (a:List RE):RE.exs a=a.map RE.ex:=by
 induction a with
 |nil=>rfl
 |cons c a b=>rw[RE.exs,b];rfl
def Bw (b c:Nat) (a:Nat):Prop:=b<=a/\a<c
def px (base:Nat) (c:Ex) (v:ay) (b:af):Prop:=∃a:RE,a.ex=c/\v=.agg a.cells.toArray/\dX b (Bw base b.heap.size) a
theorem tS {w:af} {j m a d e:Nat} {k:bb} {f ys vs:bg} (o:w.ownsRow j k m (U (some ⟨e,0,none⟩) (a+1) d) (a+1) (f++ys)) (g:f.length=a*m) (u:ys.length=m) (l:vs.length=m):
 (bX w e (a*m) vs).ownsRow j k m (U (some ⟨e,0,none⟩) (a+1) d) (a+1) (f++vs):=by
 rcases o.2 with⟨h,_⟩|⟨v,x,b,p,q,r,n,s,y,t⟩
 ·cases h
 injection p with c i e3
 injection c with c
 injection c with c
 subst c e3;have j:a*m+vs.length<=b.size:=by
  have:(a+1)*m<=d*m:=Nat.mul_le_mul_right m n;rw[Nat.add_mul]at this;omega
 refine⟨by rw[List.length_append,g,l,Nat.add_mul];omega,.inr ⟨e,d,lI b (a*m) vs,rfl,q,J.i8 vs (a*m) w b r,n,s,?_,?_⟩⟩
 ·have:=congrArg List.length (pk vs (a*m) b j)
  simp only[Array.length_toList,List.length_append,List.length_take,List.length_drop]at this;omega
 rw[pk vs (a*m) b j];have c:(a+1)*m=a*m+vs.length:=by rw[Nat.add_mul,l];omega
 have i:b.toList.take (a*m)=f:=by
  have b:(b.toList.take ((a+1)*m)).take (a*m)=b.toList.take (a*m):=by
   have:a*m<=(a+1)*m:=nK
   rw[List.take_take,Nat.min_eq_left this]
  rw[<-b,t,List.take_append_of_le_length ae,List.take_of_length_le ae]
 rw[i,c,List.take_append_of_le_length (by rw[List.length_append,g];omega),List.take_of_length_le (by rw[List.length_append,g];omega)]
def PL {c:Type} (l:List Nat) (z:Int) (P:Nat) (w:af) (e:PO c) (V:c->Value->World->Prop) (d:Ending) (b:af):Prop:=
 Kp l w b/\match e with
 |.ok a ts=>∃c,d=.returned c/\V a c b/\ax b P z ts
 |.bad er at_=>d=.panicked [{v:=gI er at_,recovered:=false}]
theorem PO.py {b e:Type} {a:Prop} [Decidable a] (c d:PO b) (f:b->List ao->PO e):(if a then c else d).bind f=if a then c.bind f else d.bind f:=by split<;>rfl
section
variable {w W:af} {P:Nat} {z:Int} {us:List ao} {f:FuncId} {args:aO} {Q:Ending->World->Prop} {l:List Nat}
theorem nX {i o:Type} {j:PO o} {k:PO i} {V:i->Value->World->Prop} {g:i->List ao->PO o} {l2:List Nat} (q:∀c∈l2,c∈l\/w.heap.size<=c) (o:Kp l w W) (d:j=k.bind g) (r:Calls Tryz.prog f args W (λi b=>PL l2 z P W k V i b))
 (m:∀er a b,Hid (j=.bad er a)->Hid (Kp l w b)->Q (.panicked [{v:=gI er a,recovered:=false}]) b)
 (s:∀a e v b,Hid (j=g a e)->V a v b->Kp l2 W b->Hid (Kp l w b)->Hid (ax b P z e)->w.heap.size<=b.heap.size->Q (.returned v) b):Calls Tryz.prog f args W Q:=by
 refine r.mono ?_;rintro i b ⟨p,h⟩;have n:Kp l w b:=p.old o (λc m i=>by rcases q c m with h|h;exact h;omega);cases hr:k with
 |bad er a=>rw[hr]at h d;subst h;exact m er a b (Z d) (Z n)
 |ok a e=>rw[hr]at h d;obtain⟨v,rfl,t,u⟩:=h;exact s a e v b (Z d) t p (Z n) (Z u) n.size
theorem q7 {o:Type} {g j k:PO o} (b:aw) (i:af) (c:Nat) (p:Kp l w W) (d:g=if bu us b=true then j else k) (m:ax W P z us) (q:aG b)
 (r:∀a,Hid (g=k)->Kp [] W a->Hid (Kp l w a)->Hid (ax a P z us)->w.heap.size<=a.heap.size->Q (.returned (.bool false)) a)
 (s:∀a,Hid (g=j)->Kp [] W a->Hid (Kp l w a)->Hid (ax a P z us)->w.heap.size<=a.heap.size->Q (.returned (.bool true)) a)
 (t:W=i.alloc (.cells #[b] 9):=by rfl) (u:c=i.heap.size:=by simp):
 Calls Tryz.prog 169 #[aj P,U (some ⟨c,0,none⟩) 1 1] W Q:=by
 have v:b4 W ⟨some ⟨c,0,none⟩,1,1⟩ [b]:=by subst t u;exact nI i [b] 9 ai (by simpa using q)
 refine(qN z P us ⟨some ⟨c,0,none⟩,1,1⟩ [b] W m v).mono ?_;rintro c a ⟨x,e⟩;have f:Kp l w a:=p.trans (Kp.of_same e);subst x;have n:=m.same e;cases hr:bu us b with
 |false=>rw[hr]at d;rw[show el us [b]=false from hr];exact r a (Z d) (Kp.of_same e) (Z f) (Z n) f.size
 |true=>rw[hr]at d;rw[show el us [b]=true from hr];exact s a (Z d) (Kp.of_same e) (Z f) (Z n) f.size
end
structure q8 (lo X:Nat) (c0 c1 c2 c8:ay) (r:dc) (w:af) (hc hn:Hd):Prop where
 blk:J w X 93 #[c0,c1,c2,hc.val,hn.val,r.attr,r.cN,r.agg,c8]
 lc:aF w 14 hc bB.cells r.conds
 ic:aS (Bw lo w.heap.size) hc
 fc:∀c∈r.conds,c.bY
 ln:b4 w hn r.names
 iN:aS (Bw lo w.heap.size) hn
 oa:aG r.attr
 os:aG r.cN
 og:b8 r.agg
def pz (a b:Nat) (c d e f:ay) (g:dc) (i:ay) (w:af):Prop:=i=.tuple #[]/\∃i j,q8 a b c d e f g w i j
theorem dM.open_ {d:Type} {g i:Nat} {j:d->List Value} {k:d->Prop} {e:List d} {a:aX} {b c:Nat} {w:af} (l:dM g i j k e (U a b c) w):aF w i ⟨a,b,c⟩ j e/\(∀d∈e,k d)/\aS (Bw g w.heap.size) ⟨a,b,c⟩:=by
 obtain⟨⟨m,n,o⟩,f,p,q,r,_⟩:=l;replace f:Value.slice a b c=.slice m n o:=f;injection f with e1 e2 e3
 subst e1 e2 e3;exact⟨p,q,r⟩
theorem aS.low {a lo' b:Nat} {h:Hd} (c:aS (Bw a b) h) (d:lo'<=a):aS (Bw lo' b) h:=c.mono (λa a=>⟨bR d a.1,a.2⟩)
theorem jU (a:af):b4 a ⟨none,0,0⟩ []:=⟨aF.none_ a 1 dF,λa h=>by cases h⟩
theorem zH (g:Int) (d c q:Nat) (e:List ao) (b:af) (u f v w:ay) (r:ax b d g e) (s:J b c 93 #[u,f,v,aa,aa,ah,ah,O 0,w]) (l:J b q 127 #[aj d]) (I:d<c) (I:c<q):
 Calls Tryz.prog 300 #[aj c,aj q] b λi q=>PL [d,c] g d b (em g 0 e) (pz b.heap.size c u f v w) i q:=by
 have q:=r.lt;have A:=Z r;have B:=Z (Kp.refl [d,c] b);have q:b.heap.size<=b.heap.size:=Nat.le_refl _;have C:=Z s;have x:=Z l;have q:=l.lt;clear s l;clear r;have y:=Z (show em g 0 e=(jH g e).bind λj e=>.ok {dc.zero with conds:=j} e from rfl);generalize em g 0 e=K at y⊢;have q:=az x;have q:=J.lt x;have l:=aW q;go_enter Tryz.func300,Tryz.ntmps300
 go_wp2_with fail
 refine aQ ai B y (tR g d e _ A) aM ?_;intro e e m D E z e F G g;have n:=bk e C;clear e;obtain⟨⟨j,k,f⟩,t,H⟩:∃h:Hd,m=h.val/\m=m:=by obtain⟨h,i,_⟩:=z;exact⟨h,i,rfl⟩
 replace t:m=.slice j k f:=t;subst t;clear H;obtain⟨e,g,l,m,q,r,t,u,v⟩:=eO n;have e:=λe=>J.frozen n e;have e:=J.lt n;have s:=aW e;have o:=z.open_;go_wp2;refine bodyPost_ret (results_none rfl _ _ _) rfl ?_;rw[E.out];have e:=(n.aP 3 (U j k f));have c:=(Kp.aE (p:=(ab c 3)) ai (Kp.refl [d,c] D) (U j k f));exact⟨(Kp.aE ai F (U j k f)),_,rfl,⟨rfl,⟨j,k,f⟩,⟨none,0,0⟩,⟨e,(o.1.kp c (λc d i e=>by have:=o.2.2 c d i;unfold Bw at this;simp at e;omega)),(by have h:=o.2.2.low (lo':=b.heap.size) (by omega);simpa using h),o.2.1,jU _,aS.none_ _ _ _,bZ _ au,bZ _ au,⟨by show _<=(0:Int);omega,by show(0:Int)<=_;omega⟩⟩⟩,(ax.set aD G.out _)⟩
theorem zI (f:Int) (c d w:Nat) (e:List ao) (g:af) (z A B C:ay) (x:ax g c f e) (q:J g d 93 #[z,A,B,aa,aa,ah,ah,O 0,C]) (i:J g w 127 #[aj c]) (ag:c<d) (ag:d<w):
 Calls Tryz.prog 301 #[aj d,aj w] g λk w=>PL [c,d] f c g (em f 1 e) (pz g.heap.size d z A B C) k w:=by
 have w:=x.lt;have H:=Z x;have I:=Z (Kp.refl [c,d] g);have K:=Z q;have y:=Z i;clear q i;clear x;have D:=Z (show em f 1 e=(aR f e [⟨_⟩]).bind λ_ e=>(lx f ⟨#[41]⟩ e).bind λb e=>.ok {dc.zero with names:=b} e from rfl);generalize em f 1 e=L at D⊢;have r:=az y;have j:=J.lt y;have i:=aW j;go_enter Tryz.func301,Tryz.ntmps301
 go_wp2_with fail
 refine aQ ai (I.alloc _) D (cU f c e [⟨_⟩] _ g _ (H.alloc _) (cA [⟨_⟩] au)) aM ?_;intro e E e M N l b P Q e;have F:=b0 b K;have s:=b0 b y;obtain rfl:=l;clear b;clear r j i;have r:=az s;have j:=J.lt s;have i:=aW j;go_wp2_with fail
 refine q7 ⟨#[41]⟩ M _ (P.alloc _) (N.trans (PO.py _ _ _)) (Q.alloc _) (bZ _ au) ?ak ?av
 case ak=>
  intro e R b S T e;have V:=b0 b F;have e:=b0 b s;clear b;clear r j i;have r:=az e;have j:=J.lt e;have i:=aW j;go_wp2_with fail
  refine aQ ai S R (pm f c E _ T) aM ?_;intro e e t W X G b Y ac e;have u:=bk b V;clear b;obtain⟨⟨m,n,o⟩,l,ad⟩:∃h:Hd,t=h.val/\t=t:=by obtain⟨h,k,_⟩:=G;exact⟨h,k,rfl⟩
  replace l:t=.slice m n o:=l;subst l;clear ad;obtain⟨e,f,i,j,l,r,t,w,x⟩:=eO u;have e:=λe=>J.frozen u e;have e:=J.lt u;have q:=aW e;have v:=G.open_;go_wp2;refine bodyPost_ret (results_none rfl _ _ _) rfl ?_;rw[X.out];have e:=(u.aP 4 (U m n o));have ae:=(Kp.aE (p:=(ab d 4)) ai (Kp.refl [c,d] W) (U m n o));exact⟨(Kp.aE ai Y (U m n o)),_,rfl,⟨rfl,⟨none,0,0⟩,⟨m,n,o⟩,⟨e,aF.none_ _ 14 _,aS.none_ _ _ _,(λ_ h=>by cases h),⟨(v.1.kp ae (λe f k i=>by have:=v.2.2 e f k;unfold Bw at this;simp at i;omega)),v.2.1⟩,(by have h:=v.2.2.low (lo':=g.heap.size) (by omega);simpa using h),bZ _ au,bZ _ au,⟨by show _<=(0:Int);omega,by show(0:Int)<=_;omega⟩⟩⟩,(ax.set aD ac.out _)⟩
 intro o n b t u e;have m:=b0 b F;have e:=b0 b s;clear b;replace n:Hid (L=.ok {dc.zero with names:=[]} E):=n;obtain⟨b,e,f,g,i,j,k,l,r⟩:=eO m;have b:=λb=>J.frozen m b;have b:=J.lt m;have q:=aW b;go_wp2;refine bodyPost_ret (results_none rfl _ _ _) rfl ?_;rw[n.out];have b:=m.out;have c:=(Kp.refl [c,d] o);exact⟨t,_,rfl,⟨rfl,⟨none,0,0⟩,⟨none,0,0⟩,⟨b,aF.none_ _ 14 _,aS.none_ _ _ _,(λ_ h=>by cases h),jU _,aS.none_ _ _ _,bZ _ au,bZ _ au,⟨by show _<=(0:Int);omega,by show(0:Int)<=_;omega⟩⟩⟩,u.out⟩
theorem zJ (d:Int) (e i r:Nat) (b:List ao) (j:af) (x y z A:ay) (s:ax j e d b) (m:J j i 93 #[x,y,z,aa,aa,ah,ah,O 0,A]) (g:J j r 127 #[aj e]) (Q:e<i) (Q:i<r):
 Calls Tryz.prog 302 #[aj i,aj r] j λr Q=>PL [e,i] d e j (em d 5 b) (pz j.heap.size i x y z A) r Q:=by
 have r:=s.lt;have R:=Z s;have S:=Z (Kp.refl [e,i] j);have T:=Z m;have t:=Z g;clear m g;clear s;have B:=Z (show em d 5 b=(aR d b [⟨#[44]⟩]).bind λ_ b=>(bW d b).bind λa b=>(aR d b [⟨_⟩]).bind λ_ b=>(bW d b).bind λc b=>.ok {dc.zero with attr:=a,cN:=c} b from rfl);generalize em d 5 b=aC at B⊢;have l:=az t;have f:=J.lt t;have g:=aW f;go_enter Tryz.func302,Tryz.ntmps302
 go_wp2_with fail
 refine aQ ai (S.alloc _) B (cU d e b [⟨#[44]⟩] _ j _ (R.alloc _) (cA [⟨#[44]⟩] au)) aM ?_;intro b U b b V k c W X b;have Y:=b0 c T;have u:=b0 c t;obtain rfl:=k;clear c;clear l f g;have l:=az u;have f:=J.lt u;have g:=aW f;go_wp2_with fail
 refine aQ ai W V (eq d e U _ X) aM ?_;intro n ac b ad ae k c ag ak b;have o:=bk c Y;have v:=bk c u;obtain⟨rfl,al⟩:=k;clear c;clear l f g;have l:=az v;have f:=J.lt v;have g:=aW f;obtain⟨C,D,E,F,G,H,I,K,L⟩:=eO o;have M:=λw=>J.frozen o w;have p:=J.lt o;have m:=aW p;go_wp2_with fail
 refine aQ ai ((Kp.aE ai ag n).alloc _) ae (cU d e ac [⟨_⟩] _ (ad.setCell (ab i 5) n) _ ((ax.set aD ak _).alloc _) (cA [⟨_⟩] au)) aM ?_;intro b am b b an k c ap aq b;have ar:=Z (c.blk ((jC o n).alloc _) aU);have N:=Z (c.blk ((J.far v aD n).alloc _) aU);obtain rfl:=k;clear c;clear C D E F G H I K L M p m;clear l f g;have l:=az N;have f:=J.lt N;have g:=aW f;go_wp2_with fail
 refine aQ ai ap an (eq d e am _ aq) aM ?_;intro P b b b av k c aw aA b;have q:=bk c ar;obtain⟨rfl,aB⟩:=k;clear c;obtain⟨C,D,E,F,G,H,I,K,L⟩:=eO q;have M:=λw=>J.frozen q w;have p:=J.lt q;have m:=aW p;go_wp2;refine bodyPost_ret (results_none rfl _ _ _) rfl ?_;rw[av.out];have b:=(q.aP 6 P);exact⟨(Kp.aE ai aw P),_,rfl,⟨rfl,⟨none,0,0⟩,⟨none,0,0⟩,⟨b,aF.none_ _ 14 _,aS.none_ _ _ _,(λ_ h=>by cases h),jU _,aS.none_ _ _ _,al,aB,⟨by show _<=(0:Int);omega,by show(0:Int)<=_;omega⟩⟩⟩,(ax.set aD aA.out _)⟩
theorem zK (e:Int) (f k T:Nat) (c:List ao) (o:af) (ap aq ar aw:ay) (V:ax o f e c) (m:J o k 93 #[ap,aq,ar,aa,aa,ah,ah,O 0,aw]) (i:J o T 127 #[aj f]) (bE:f<k) (bE:k<T):
 Calls Tryz.prog 303 #[aj k,aj T] o λu T=>PL [f,k] e f o (em e 6 c) (pz o.heap.size k ap aq ar aw) u T:=by
 have T:=V.lt;have aY:=Z V;have aZ:=Z (Kp.refl [f,k] o);have a0:=Z m;have W:=Z i;have T:=i.lt;clear m i;clear V;have aA:=Z (show em e 6 c=(aR e c [⟨_⟩]).bind λ_ c=>(lx e ⟨_⟩ c).bind λd c=>(aR e c [⟨_⟩]).bind λ_ c=>(dK e c [⟨_⟩,⟨_⟩,⟨_⟩,⟨_⟩]).bind λb c=>(if b=1 then .ok e0 c else bW e c).bind λa c=>(aR e c [⟨_⟩]).bind λ_ c=>(bW e c).bind λg c=>.ok {dc.zero with names:=d,attr:=a,cN:=g,agg:=b} c from rfl);generalize em e 6 c=K at aA⊢;have j:=az W;have d:=J.lt W;have i:=aW d;go_enter Tryz.func303,Tryz.ntmps303
 go_wp2_with fail
 refine aQ ai (aZ.alloc _) aA (cU e f c [⟨_⟩] _ o _ (aY.alloc _) (cA [⟨_⟩] au)) aM ?_;intro T X T a1 a2 g b a3 a4 T;have aB:=b0 b a0;have L:=b0 b W;obtain rfl:=g;clear b;clear j d i;have j:=az L;have d:=J.lt L;have i:=aW d;go_wp2_with fail
 refine q7 ⟨_⟩ a1 _ (a3.alloc _) (a2.trans (PO.py _ _ _)) (a4.alloc _) (bZ _ au) ?ak ?av
 case ak=>
  intro T a5 b a6 a7 T;have a8:=b0 b aB;have Y:=b0 b L;clear b;clear j d i;have j:=az Y;have d:=J.lt Y;have i:=aW d;go_wp2_with fail
  refine aQ ai a6 a5 (pm e f X _ a7) aM ?_;intro aC aG M aH ac aI b a9 ba T;have N:=bk b a8;have ad:=bk b Y;clear b;obtain⟨⟨r,s,t⟩,g,bb⟩:∃h:Hd,M=h.val/\M=M:=by obtain⟨h,u,_⟩:=aI;exact⟨h,u,rfl⟩
  replace g:M=.slice r s t:=g;subst g;clear bb;obtain⟨v,w,x,y,z,A,B,C,D⟩:=eO N;have E:=λq=>J.frozen N q;have n:=J.lt N;have m:=aW n;replace ac:Hid (K=(aR e aG [⟨#[119,105,116,104]⟩]).bind λ_ c=>(dK e c [⟨#[99,111,117,110,116]⟩,⟨#[115,117,109]⟩,⟨#[108,101,97,115,116]⟩,⟨#[103,114,101,97,116,101,115,116]⟩]).bind λl c=>(if l=1 then .ok e0 c else bW e c).bind λa c=>(aR e c [⟨#[97,115]⟩]).bind λ_ c=>(bW e c).bind λF c=>.ok {dc.zero with names:=aC,attr:=a,cN:=F,agg:=l} c):=ac;clear j d i;have j:=az ad;have d:=J.lt ad;have i:=aW d;go_wp2_with fail
  refine aQ ai ((Kp.aE ai a9 (U r s t)).alloc _) ac (cU e f aG [⟨_⟩] _ (aH.setCell (ab k 4) (U r s t)) _ ((ax.set aD ba _).alloc _) (cA [⟨_⟩] au)) aM ?_;intro M bc M aJ bd g b be bf M;have bg:=Z (b.blk ((lu N (U r s t)).alloc _) aU);have ae:=Z (b.blk ((J.far ad aD (U r s t)).alloc _) aU);have bh:=Z (aI.kp (((Kp.aE ai (Kp.refl [f,k] aH) (U r s t)).alloc _).trans (b.mono ai)) aU);obtain rfl:=g;clear b;clear j d i;have j:=az ae;have d:=J.lt ae;have i:=aW d;go_wp2_with fail
  refine aQ ai (be.alloc _) bd (lJ e f bc [⟨_⟩,⟨_⟩,⟨_⟩,⟨_⟩] _ aJ _ (bf.alloc _) (cA [⟨_⟩,⟨_⟩,⟨_⟩,⟨_⟩] au) au) aM ?_;intro l ag M al F g b aK aL M;have H:=b0 b bg;have P:=b0 b ae;have aN:=Z (bh.kp (((Kp.refl [f,k] aJ).alloc _).trans (b.mono ai)) aU);obtain⟨rfl,aO,aT⟩:=g;clear b;have M:1<=l/\l<=100:=⟨aO,aT⟩;clear aO aT;obtain⟨v,w,x,y,z,A,B,C,D⟩:=eO H;have E:=λq=>J.frozen H q;have n:=J.lt H;have m:=aW n;clear j d i;have j:=az P;have d:=J.lt P;have i:=aW d;by_cases G:l=1
  ·
   have M:(l !=1)=false:=by simp[G]
   replace F:Hid (K=(aR e ag [⟨#[97,115]⟩]).bind λ_ c=>(bW e c).bind λI c=>.ok {dc.zero with names:=aC,attr:=e0,cN:=I,agg:=l} c):=Z (by rw[F.out,if_pos G];rfl);clear G;go_wp2_with fail
   refine aQ ai ((Kp.aE ai aK l).alloc _) F (cU e f ag [⟨_⟩] _ (al.setCell (ab k 7) l) _ ((ax.set aD aL _).alloc _) (cA [⟨_⟩] au)) aM ?_;intro M am M an aV g b aX bi M;have bj:=Z (b.blk ((gp H l).alloc _) aU);have R:=Z (b.blk ((J.far P aD l).alloc _) aU);have bl:=Z (aN.kp (((Kp.aE ai (Kp.refl [f,k] al) l).alloc _).trans (b.mono ai)) aU);obtain rfl:=g;clear b;clear v w x y z A B C D E n m;clear j d i;have j:=az R;have d:=J.lt R;have i:=aW d;go_wp2_with fail
   refine aQ ai aX aV (eq e f am _ bi) aM ?_;intro S M M bm bn g b bo bp M;have I:=bk b bj;have M:=bk b R;have bq:=Z (bl.kp ((Kp.refl [f,k] an).trans (b.mono ai)) aU);obtain⟨rfl,br⟩:=g;clear b;obtain⟨v,w,x,y,z,A,B,C,D⟩:=eO I;have E:=λq=>J.frozen I q;have n:=J.lt I;have m:=aW n;have Q:=bq.open_;go_wp2;refine bodyPost_ret (results_none rfl _ _ _) rfl ?_;rw[bn.out];have I:=(I.aP 6 S);have bs:=(Kp.aE (p:=(ab k 6)) ai (Kp.refl [f,k] bm) S);exact⟨(Kp.aE ai bo S),_,rfl,⟨rfl,⟨none,0,0⟩,⟨r,s,t⟩,⟨I,aF.none_ _ 14 _,aS.none_ _ _ _,(λ_ h=>by cases h),⟨(Q.1.kp bs (λI M u N=>by have:=Q.2.2 I M u;unfold Bw at this;simp at N;omega)),Q.2.1⟩,(by have h:=Q.2.2.low (lo':=o.heap.size) (by omega);simpa using h),bZ _ au,br,⟨by show _<=l;omega,by show l<=_;omega⟩⟩⟩,(ax.set aD bp.out _)⟩
  have M:(l !=1)=true:=by simp[G]
  replace F:=Z (F.out.trans (congrArg (λI=>PO.bind I _) (if_neg G)));clear G;go_wp2_with fail
  refine aQ ai (Kp.aE ai aK l) F (eq e f ag _ (ax.set aD aL _)) aM ?_;intro I bi F aV bj g b bl bm F;have Q:=Z (b.blk (gp H l) aU);have am:=Z (b.blk (J.far P aD l) aU);have bn:=Z (aN.kp ((Kp.aE ai (Kp.refl [f,k] al) l).trans (b.mono ai)) aU);obtain⟨rfl,bo⟩:=g;clear b;clear v w x y z A B C D E n m;obtain⟨v,w,x,y,z,A,B,C,D⟩:=eO Q;have E:=λq=>J.frozen Q q;have n:=J.lt Q;have m:=aW n;clear j d i;have j:=az am;have d:=J.lt am;have i:=aW d;go_wp2_with fail
  refine aQ ai ((Kp.aE ai bl I).alloc _) bj (cU e f bi [⟨_⟩] _ (aV.setCell (ab k 5) I) _ ((ax.set aD bm _).alloc _) (cA [⟨_⟩] au)) aM ?_;intro F bp F bq br g b bs bt F;have bu:=Z (b.blk ((jC Q I).alloc _) aU);have aX:=Z (b.blk ((J.far am aD I).alloc _) aU);have bv:=Z (bn.kp (((Kp.aE ai (Kp.refl [f,k] aV) I).alloc _).trans (b.mono ai)) aU);obtain rfl:=g;clear b;clear v w x y z A B C D E n m;clear j d i;have j:=az aX;have d:=J.lt aX;have i:=aW d;go_wp2_with fail
  refine aQ ai bs br (eq e f bp _ bt) aM ?_;intro an F F bw bx g b bz bA F;have R:=bk b bu;have bB:=Z (bv.kp ((Kp.refl [f,k] bq).trans (b.mono ai)) aU);obtain⟨rfl,bC⟩:=g;clear b;obtain⟨v,w,x,y,z,A,B,C,D⟩:=eO R;have E:=λq=>J.frozen R q;have n:=J.lt R;have m:=aW n;have S:=bB.open_;go_wp2;refine bodyPost_ret (results_none rfl _ _ _) rfl ?_;rw[bx.out];have n:=(R.aP 6 an);have bD:=(Kp.aE (p:=(ab k 6)) ai (Kp.refl [f,k] bw) an);exact⟨(Kp.aE ai bz an),_,rfl,⟨rfl,⟨none,0,0⟩,⟨r,s,t⟩,⟨n,aF.none_ _ 14 _,aS.none_ _ _ _,(λ_ h=>by cases h),⟨(S.1.kp bD (λn q u r=>by have:=S.2.2 n q u;unfold Bw at this;simp at r;omega)),S.2.1⟩,(by have h:=S.2.2.low (lo':=o.heap.size) (by omega);simpa using h),bo,bC,⟨by show _<=l;omega,by show l<=_;omega⟩⟩⟩,(ax.set aD bA.out _)⟩
 intro al M b am an o;have aC:=b0 b aB;have N:=b0 b L;clear b;replace M:Hid (K=(aR e X [⟨#[119,105,116,104]⟩]).bind λ_ c=>(dK e c [⟨#[99,111,117,110,116]⟩,⟨#[115,117,109]⟩,⟨#[108,101,97,115,116]⟩,⟨#[103,114,101,97,116,101,115,116]⟩]).bind λl c=>(if l=1 then .ok e0 c else bW e c).bind λa c=>(aR e c [⟨#[97,115]⟩]).bind λ_ c=>(bW e c).bind λn c=>.ok {dc.zero with names:=[],attr:=a,cN:=n,agg:=l} c):=M;clear j d i;have j:=az N;have d:=J.lt N;have i:=aW d;go_wp2_with fail
 refine aQ ai (am.alloc _) M (cU e f X [⟨_⟩] _ al _ (an.alloc _) (cA [⟨_⟩] au)) aM ?_;intro o aG o aH aI g b aJ aK o;have aL:=b0 b aC;have P:=b0 b N;obtain rfl:=g;clear b;clear j d i;have j:=az P;have d:=J.lt P;have i:=aW d;go_wp2_with fail
 refine aQ ai (aJ.alloc _) aI (lJ e f aG [⟨_⟩,⟨_⟩,⟨_⟩,⟨_⟩] _ aH _ (aK.alloc _) (cA [⟨_⟩,⟨_⟩,⟨_⟩,⟨_⟩] au) au) aM ?_;intro l Q o aN r g b ac ad o;have E:=b0 b aL;have F:=b0 b P;obtain⟨rfl,ae,ag⟩:=g;clear b;have o:1<=l/\l<=100:=⟨ae,ag⟩;clear ae ag;obtain⟨s,t,v,w,x,y,z,A,B⟩:=eO E;have C:=λq=>J.frozen E q;have n:=J.lt E;have m:=aW n;clear j d i;have j:=az F;have d:=J.lt F;have i:=aW d;by_cases D:l=1
 ·
  have o:(l !=1)=false:=by simp[D]
  replace r:Hid (K=(aR e Q [⟨#[97,115]⟩]).bind λ_ c=>(bW e c).bind λo c=>.ok {dc.zero with names:=[],attr:=e0,cN:=o,agg:=l} c):=Z (by rw[r.out,if_pos D];rfl);clear D;go_wp2_with fail
  refine aQ ai ((Kp.aE ai ac l).alloc _) r (cU e f Q [⟨_⟩] _ (aN.setCell (ab k 7) l) _ ((ax.set aD ad _).alloc _) (cA [⟨_⟩] au)) aM ?_;intro c R c c S g b Y aO c;have aT:=Z (b.blk ((gp E l).alloc _) aU);have H:=Z (b.blk ((J.far F aD l).alloc _) aU);obtain rfl:=g;clear b;clear s t v w x y z A B C n m;clear j d i;have j:=az H;have d:=J.lt H;have i:=aW d;go_wp2_with fail
  refine aQ ai Y S (eq e f R _ aO) aM ?_;intro I c c aV aX g b a5 a6 c;have G:=bk b aT;have c:=bk b H;obtain⟨rfl,a7⟩:=g;clear b;obtain⟨s,t,v,w,x,y,z,A,B⟩:=eO G;have C:=λq=>J.frozen G q;have n:=J.lt G;have m:=aW n;go_wp2;refine bodyPost_ret (results_none rfl _ _ _) rfl ?_;rw[aX.out];have c:=(G.aP 6 I);have o:=(Kp.aE (p:=(ab k 6)) ai (Kp.refl [f,k] aV) I);exact⟨(Kp.aE ai a5 I),_,rfl,⟨rfl,⟨none,0,0⟩,⟨none,0,0⟩,⟨c,aF.none_ _ 14 _,aS.none_ _ _ _,(λ_ h=>by cases h),jU _,aS.none_ _ _ _,bZ _ au,a7,⟨by show _<=l;omega,by show l<=_;omega⟩⟩⟩,(ax.set aD a6.out _)⟩
 have c:(l !=1)=true:=by simp[D]
 replace r:=Z (r.out.trans (congrArg (λc=>PO.bind c _) (if_neg D)));clear D;go_wp2_with fail
 refine aQ ai (Kp.aE ai ac l) r (eq e f Q _ (ax.set aD ad _)) aM ?_;intro G aO c aT aV g b aX a5 c;have H:=Z (b.blk (gp E l) aU);have R:=Z (b.blk (J.far F aD l) aU);obtain⟨rfl,a6⟩:=g;clear b;clear s t v w x y z A B C n m;obtain⟨s,t,v,w,x,y,z,A,B⟩:=eO H;have C:=λq=>J.frozen H q;have n:=J.lt H;have m:=aW n;clear j d i;have j:=az R;have d:=J.lt R;have i:=aW d;go_wp2_with fail
 refine aQ ai ((Kp.aE ai aX G).alloc _) aV (cU e f aO [⟨_⟩] _ (aT.setCell (ab k 5) G) _ ((ax.set aD a5 _).alloc _) (cA [⟨_⟩] au)) aM ?_;intro c a7 c c a8 g b a9 ba c;have bb:=Z (b.blk ((jC H G).alloc _) aU);have S:=Z (b.blk ((J.far R aD G).alloc _) aU);obtain rfl:=g;clear b;clear s t v w x y z A B C n m;clear j d i;have j:=az S;have d:=J.lt S;have i:=aW d;go_wp2_with fail
 refine aQ ai a9 a8 (eq e f a7 _ ba) aM ?_;intro Y c c bc bd g b be bf c;have I:=bk b bb;have c:=bk b S;obtain⟨rfl,bg⟩:=g;clear b;obtain⟨s,t,v,w,x,y,z,A,B⟩:=eO I;have C:=λq=>J.frozen I q;have n:=J.lt I;have m:=aW n;go_wp2;refine bodyPost_ret (results_none rfl _ _ _) rfl ?_;rw[bd.out];have b:=(I.aP 6 Y);have c:=(Kp.aE (p:=(ab k 6)) ai (Kp.refl [f,k] bc) Y);exact⟨(Kp.aE ai be Y),_,rfl,⟨rfl,⟨none,0,0⟩,⟨none,0,0⟩,⟨b,aF.none_ _ 14 _,aS.none_ _ _ _,(λ_ h=>by cases h),jU _,aS.none_ _ _ _,a6,bg,⟨by show _<=l;omega,by show l<=_;omega⟩⟩⟩,(ax.set aD bf.out _)⟩
def pA (a:Nat):Nat->Value
 |0=>.func (.func 300) #[] #[aj a]
 |1=>.func (.func 301) #[] #[aj a]
 |5=>.func (.func 302) #[] #[aj a]
 |6=>.func (.func 303) #[] #[aj a]
 |_=>.func (.func 299) #[] #[]
def lM (a:Nat):ByteArray:=fP.getD a e0
def mH (b:Nat):List Value:=(List.range 7).flatMap λa=>[.string (lM a),.bool (mo a),pA b a]
theorem zL (b a:Nat) (c:a<7):(mH b)[a*3]?=some (.string (lM a))/\(mH b)[a*3+1]?=some (.bool (mo a))/\(mH b)[a*3+2]?=some (pA b a):=by
 match a,c with
 |0,_=>exact⟨rfl,rfl,rfl⟩
 |1,_=>exact⟨rfl,rfl,rfl⟩
 |2,_=>exact⟨rfl,rfl,rfl⟩
 |3,_=>exact⟨rfl,rfl,rfl⟩
 |4,_=>exact⟨rfl,rfl,rfl⟩
 |5,_=>exact⟨rfl,rfl,rfl⟩
 |6,_=>exact⟨rfl,rfl,rfl⟩
 |n+7,h=>omega
theorem zM (b:Nat) (a:af):
 Calls Tryz.prog 244 #[aj b] a λc d=>c=.returned (U (some ⟨a.heap.size+1,0,none⟩) 7 7)/\d=(a.alloc (.cells #[aj b] 127)).alloc (.cells (mH a.heap.size).toArray 325):=by
 have a:∀(b:Fn) (first cap:aO) (a:af),(Instr.makeFunc b first cap).run Tryz.prog a=.ok (.func b first cap) a:=λ_ _ _ _=>rfl;go_enter Tryz.func244,Tryz.ntmps244
 go_wp2;go_ret;exact⟨rfl,rfl⟩
theorem zN (b:Nat) (a:af):Calls Tryz.prog 299 #[aj b] a λb c=>b=.returned (.tuple #[])/\a=c:=by
 go_enter Tryz.func299,Tryz.ntmps299
 go_wp2;go_end0
 exact⟨rfl,rfl⟩
structure fA (w:af) (base:Nat) (A:aX) (n c:Nat) (rs:List RE):Prop where
 own:w.ownsRow base 93 9 (U A n c) n (rs.flatMap RE.cells)
 len:rs.length=n
 few:n<=2
 sub:∀r∈rs,dX w (λb=>Bw base w.heap.size b/\∀g,A=some ⟨g,0,none⟩->b≠g) r
theorem fA.none_ (w:af) (base:Nat):fA w base none 0 0 []:=⟨⟨rfl,.inl ⟨rfl,rfl⟩⟩,rfl,by omega,λ_ h=>by cases h⟩
theorem fA.keep {w c:af} {base:Nat} {d:aX} {n e:Nat} {rs:List RE} (a:fA w base d n e rs) {l:List Nat} (k:Kp l w c) (f:∀b∈l,b<base):fA c base d n e rs:=
 ⟨bC a.own k f,a.len,a.few,λc d=>((a.sub c d).keep k (λb a h=>by have:=f b a;have:=h.1.1;omega)).mono (λb h=>⟨⟨h.1.1,aT h.1.2 k.size⟩,h.2⟩)⟩
def ii:List Value:=[.int .i64 0,.string ⟨#[]⟩,.slice none 0 0,.slice none 0 0,.slice none 0 0,.string ⟨#[]⟩,.string ⟨#[]⟩,.int .i64 0,.int .i64 0]
theorem nY (rs:List RE):(rs.flatMap RE.cells).length=rs.length*9:=mA (λa=>RE.len a) rs
theorem fA.push {w c d:af} {base P:Nat} {A j:aX} {n e c':Nat} {m:List RE} {r:RE} (a:fA w base A n e m) (k:Kp [P] w c) (G:P<base) (v:base<=w.heap.size) (G:n<=1)
 (y:dX c (Bw w.heap.size c.heap.size) r) (s:d.ownsRow base 93 9 (U j (n+1) c') (n+1) (m.flatMap RE.cells++ii)) (f:c.grownBy d (Value.slice A n e).ownBlock)
 (hat:(Value.slice j (n+1) c').ownBlock=(Value.slice A n e).ownBlock\/(Value.slice j (n+1) c').ownBlock=some c.heap.size):
 ∃g,j=some ⟨g,0,none⟩/\base<=g/\g<d.heap.size/\fA (bX d g (n*9) r.cells) base j (n+1) c' (m++[r]):=by
 rcases s.2 with⟨h,_⟩|⟨g,H,z,i,B,C,I,K,L,M⟩
 ·cases h
 injection i with e1 e2 e3
 subst e1 e3;have j:g<d.heap.size:=J.lt (t:=93) (cs:=z) C;refine⟨g,rfl,B,j,?_⟩;have j:(m.flatMap RE.cells).length=n*9:=by rw[nY,a.len]
 have D:=tS s j rfl (RE.len r);have u:Kp [g] d (bX d g (n*9) r.cells):=by
  have:∀(o:bg) (l:Nat) (q:af),Kp [g] d q->Kp [g] d (bX q g l o):=by
   intro o;induction o with
   |nil=>intro l q h;exact h
   |cons E o F=>intro l q h;exact F (l+1) _ (h.setCell (p:=(ab g l)) (.inl ai) E)
  exact this _ _ _ (Kp.refl _ _)
 have hform:∀b,(Value.slice A n e).ownBlock=some b->A=some ⟨b,0,none⟩/\base<=b/\b<w.heap.size:=by
  intro b hb';rcases a.own.2 with⟨i,_⟩|⟨g',E,l,i,o,q,_⟩
  ·rw[i]at hb';cases hb'
  rw[i]at hb';injection hb' with hb'
  injection i with e1
  subst e1;have:g'=b:=hb';subst this;exact⟨rfl,o,J.lt (t:=93) (cs:=l) q⟩
 have m:Kp ((Value.slice A n e).ownBlock.toList) c d:=⟨f.os,f.tape,f.output,f.size,λb hb' hne=>f.block b hb' (λhe=>hne (by rw[<-he];simp))⟩;have l:g<c.heap.size->(Value.slice A n e).ownBlock=some g:=by
  exact vq
 have hold:∀(i j:Nat->Prop) (x:RE),dX c i x->(∀b,i b->b<c.heap.size/\(Value.slice A n e).ownBlock≠some b)->(∀b,i b->j b)->dX (bX d g (n*9) r.cells) j x:=by
  intro i j x i hS o;have q:=i.keep m (λb hb' h=>(hS b h).2 (by
   cases gs:(Value.slice A n e).ownBlock with
   |none=>rw[gs]at hb';simp at hb'
   |some E=>rw[gs]at hb';simp at hb';rw[hb']))
  refine(q.keep u (λb hb' h=>?_)).mono o;rw[aA hb']at h;exact(hS g h).2 (l (hS g h).1)
 have d:c.heap.size<=(bX d g (n*9) r.cells).heap.size:=bR f.size u.size;have q9:=k.size;have hne:∀b,b<c.heap.size->(Value.slice A n e).ownBlock≠some b->b≠g:=λb d f he=>f (he▸l (he▸d));refine⟨?_,by rw[List.length_append,a.len];rfl,by omega,λx q=>?_⟩
 ·rw[List.flatMap_append]
  simpa using D
 rcases cY q with h|h
 ·exact nO
 rw[aA h];have o:∀b,Bw w.heap.size c.heap.size b->b<c.heap.size/\(Value.slice A n e).ownBlock≠some b:=λb hS=>⟨hS.2,λhe=>by have:=(hform b he).2.2;have:=hS.1;omega⟩;refine hold _ _ r y o (λb hS=>⟨⟨bR v hS.1,by have:=hS.2;omega⟩,λg' hg'=>?_⟩);injection hg' with hg'
 injection hg' with hg'
 subst hg';exact hne b hS.2 (o b hS).2
end Go.Proofs.YteamkimbmdgdbaaGreatDoor

import Derived.Test.YteamkimbmdgdbaaGreatDoorK05
set_option linter.unusedSimpArgs false
set_option linter.unusedVariables false
set_option maxHeartbeats 16000000
set_option maxRecDepth 100000
namespace Go.Proofs.YteamkimbmdgdbaaGreatDoor
open Go.RowKit
theorem q2 (a:ao) (b:List ao) (c:aw):bu (a::b) c=fN a c:=by
 show(fN a c&&el b [])=fN a c;have:el b []=true:=by cases b<;>rfl
 rw[this,Bool.and_true]
theorem V.jc (a b:Int) (c:aw) (d:0<=a/\a<=4) (d:-9999999999<=b/\b<=9999999999) (d:aG c):V.fine ⟨a,b,c⟩:=⟨by show _<=a;omega,by show a<=_;omega,by show _<=b;omega,by show b<=_;omega,d⟩
def nW (b:Option V) (v:ay) (_:af):Prop:=(∃a:V,b=some a/\v=.tuple #[.agg #[a.k,a.n,a.s],.bool true]/\a.fine)\/(b=none/\v=.tuple #[.agg #[O 0,O 0,ah],.bool false])
def zv (a:V) (v:ay) (_:af):Prop:=v=.agg #[a.k,a.n,a.s]/\a.fine
def zw (a:ByteArray×ByteArray) (b:ay) (_:af):Prop:=b=.tuple #[a.1,a.2]/\aG a.1/\aG a.2
theorem zx (c:Int) (b:ao) (a:List ao) (f:b.k≠3) (g:b.k≠2):fO c (b::a)=
 if bu (b::a) ⟨#[45]⟩then(cq c a).bind λd e=>.ok (some ⟨2,-d,⟨#[]⟩⟩) e else if bu (b::a) ⟨#[64]⟩then(cq c a).bind λd e=>.ok (some ⟨3,d,⟨#[]⟩⟩) e else if bu (b::a) ⟨#[116,114,117,101]⟩then .ok (some ⟨4,1,⟨#[]⟩⟩) a else if bu (b::a) ⟨#[102,97,108,115,101]⟩then .ok (some ⟨4,0,⟨#[]⟩⟩) a else if bu (b::a) ⟨#[110,117,108,108]⟩then .ok (some ⟨0,0,⟨#[]⟩⟩) a else .ok none (b::a):=by
 rw[fO,if_neg f,if_neg g];simp only[q2];rfl
theorem zy (d:Int) (a:Nat) (b:af) (c:ax b a d []):
 Calls Tryz.prog 297 #[aj a] b λg i=>PP d a b (.ok none []) nW g i:=by
 have d:=c.lt;have j:=Z c;obtain⟨⟨d,c,g⟩,e,f⟩:=c;have a:ac b (ab a 0) (U d c g):=J.cell e 0;have k:0=c:=f.lies.1;subst k;clear f e;go_enter Tryz.func297,Tryz.ntmps297
 go_wp2;refine bodyPost_ret (v:=.tuple #[.agg #[O 0,O 0,ah],.bool false]) ?_ rfl ?_
 ·simp[results,Tryz.results297,go_sem]
  try rfl
 exact⟨(Kp.refl _ _).alloc _,_,rfl,.inr ⟨rfl,rfl⟩,j.alloc _⟩
theorem zz (e:Int) (d:Nat) (b:ao) (i:List ao) (c:af) (f:ax c d e (b::i)) (o:b.k=3):
 Calls Tryz.prog 297 #[aj d] c λA B=>PP e d c (((ey e (b::i) b.k).bind λj l=>.ok (some ⟨1,0,j.t⟩) l)) nW A B:=by
 have A:=f.lt;have p:=Z f;have C:=Z (Kp.refl [d] c);have A:c.heap.size<=c.heap.size:=Nat.le_refl _;obtain⟨⟨A,m,B⟩,q,g⟩:=f;have R:=g.lies.2.1;have A:ac c (ab d 0) (U A m B):=J.cell q 0;obtain⟨A,B,r,R,bne,S,T,W,X⟩:=g.first;have D:=r;subst D;have A:((m:Int)==0)=false:=by have:=g.lies.1;simp at this;simp;omega
 have m:1<=m:=by have:=g.lies.1;simp at this;omega
 clear r g q;have g:(b.k==3)=true:=by simp[o]
 have g:∀(b:ao) c,(Instr.field 188 b.val 1).run Tryz.prog c=.ok (.string b.t) c:=λ_ _=>by kernel_rfl
 clear o;have f:=trivial;clear f;obtain⟨f,f⟩:∃f:PO (Option V),f=((ey e (b::i) b.k).bind λj l=>.ok (some ⟨1,0,j.t⟩) l):=⟨_,rfl⟩;rw[<-f];have E:=Z f;clear f;go_enter Tryz.func297,Tryz.ntmps297
 have F:=Z (J.new c 66 #[O 0,O 0,ah]);go_wp2_with fail
 refine aQ ai ((C.alloc _).alloc _) E (qO e d (b::i) b.k _ ((p.alloc _).alloc _)) aM ?_;intro u b b b G H w I K b;have n:=b0 w F;obtain⟨rfl,x,L⟩:=H;clear w;have M:=Z (p.fine x).s;clear x L;obtain⟨b,c,d⟩:=eA n;have b:=λb=>J.frozen n b;go_wp2;have b:=dW n I K [.int .i64 1,.int .i64 0,.string u.t] rfl ae ae;obtain⟨b,y,z⟩:=b;simp only[bX,Nat.zero_add,Nat.reduceAdd]at b y z;obtain⟨N,P,Q⟩:=eA b;refine bodyPost_ret (v:=.tuple #[.agg #[O 1,O 0,u.t],.bool true]) ?_ rfl ?_
 ·simp[results,Tryz.results297,go_sem,N,P,Q]
 rw[G.out];exact⟨y,_,rfl,.inl ⟨_,rfl,rfl,V.jc _ _ _ ae ae M⟩,z⟩
theorem zA (f:Int) (e:Nat) (c:ao) (j:List ao) (b:af) (g:ax b e f (c::j)) (m:c.k=2):
 Calls Tryz.prog 297 #[aj e] b λx y=>PP f e b (((cq f (c::j)).bind λd n=>.ok (some ⟨2,d,⟨#[]⟩⟩) n)) nW x y:=by
 have x:=g.lt;have z:=Z g;have A:=Z (Kp.refl [e] b);have x:b.heap.size<=b.heap.size:=Nat.le_refl _;obtain⟨⟨x,d,y⟩,q,i⟩:=g;have M:=i.lies.2.1;have x:ac b (ab e 0) (U x d y):=J.cell q 0;obtain⟨x,y,r,M,bne,N,P,Q,R⟩:=i.first;have B:=r;subst B;have x:((d:Int)==0)=false:=by have:=i.lies.1;simp at this;simp;omega
 have o:1<=d:=by have:=i.lies.1;simp at this;omega
 clear r i q;have i:(c.k==3)=false:=by simp[m]
 have i:(c.k==2)=true:=by simp[m]
 clear m;have g:=trivial;clear g;obtain⟨g,d⟩:∃g:PO (Option V),g=((cq f (c::j)).bind λd n=>.ok (some ⟨2,d,⟨#[]⟩⟩) n):=⟨_,rfl⟩;rw[<-d];have C:=Z d;clear d;go_enter Tryz.func297,Tryz.ntmps297
 have D:=Z (J.new b 66 #[O 0,O 0,ah]);go_wp2_with fail
 refine aQ ai ((A.alloc _).alloc _) C (fT f e (c::j) _ ((z.alloc _).alloc _)) aM ?_;intro l b b b E F s G H b;have p:=b0 s D;obtain⟨rfl,t,o⟩:=F;clear s;have b:0<=l/\l<=9999999999:=⟨t,o⟩;clear t o;obtain⟨b,c,d⟩:=eA p;have b:=λb=>J.frozen p b;go_wp2;have b:=dW p G H [.int .i64 2,.int .i64 l,.string ⟨#[]⟩] rfl ae ae;obtain⟨b,u,w⟩:=b;simp only[bX,Nat.zero_add,Nat.reduceAdd]at b u w;obtain⟨I,K,L⟩:=eA b;refine bodyPost_ret (v:=.tuple #[.agg #[O 2,l,ah],.bool true]) ?_ rfl ?_
 ·simp[results,Tryz.results297,go_sem,I,K,L]
 rw[E.out];exact⟨u,_,rfl,.inl ⟨_,rfl,rfl,V.jc _ _ _ ae ae (bZ _ au)⟩,w⟩
theorem zB (e:Int) (f:Nat) (d:ao) (g:List ao) (c:af) (j:ax c f e (d::g)) (q:d.k≠3) (r:d.k≠2):
 Calls Tryz.prog 297 #[aj f] c λK L=>PP e f c ((fO e (d::g))) nW K L:=by
 have K:=j.lt;have M:=Z j;have N:=Z (Kp.refl [f] c);have K:c.heap.size<=c.heap.size:=Nat.le_refl _;obtain⟨⟨K,s,L⟩,A,l⟩:=j;have aE:=l.lies.2.1;have K:ac c (ab f 0) (U K s L):=J.cell A 0;obtain⟨K,L,B,aE,bne,aI,aJ,aK,aL⟩:=l.first;have P:=B;subst P;have K:((s:Int)==0)=false:=by have:=l.lies.1;simp at this;simp;omega
 have ak:1<=s:=by have:=l.lies.1;simp at this;omega
 clear B l A;have l:(d.k==3)=false:=by simp[q]
 have l:(d.k==2)=false:=by simp[r]
 have C:=Z (zx e d g q r);clear q r;have j:=trivial;clear j;obtain⟨t,d⟩:∃t:PO (Option V),t=(fO e (d::g)):=⟨_,rfl⟩;rw[<-d];have u:=Z d;clear d;go_enter Tryz.func297,Tryz.ntmps297
 have D:=Z (J.new c 66 #[O 0,O 0,ah]);replace u:=Z (u.out.trans C.out);clear C;go_wp2_with fail
 refine i7 ⟨#[45]⟩ ai ((N.alloc _).alloc _) u ((M.alloc _).alloc _) (bZ _ au) ?ak ?av
 case ak=>
  intro d I b Q R d;have y:=b0 b D;clear b;go_wp2_with fail
  refine i7 ⟨#[64]⟩ ai Q I R (bZ _ au) ?ay ?aA
  case ay=>
   intro d S b T W d;have x:=bk b y;clear b;go_wp2_with fail
   refine i7 ⟨_⟩ ai T S W (bZ _ au) ?aB ?aC
   case aB=>
    intro d X b Y aa d;have z:=bk b x;clear b;go_wp2_with fail
    refine i7 ⟨_⟩ ai Y X aa (bZ _ au) ?aD ?aF
    case aD=>
     intro d p b w E d;have m:=bk b z;clear b;go_wp2_with fail
     refine i7 ⟨_⟩ ai w p E (bZ _ au) ?aG ?aH
     case aG=>
      intro d F b G H d;have i:=bk b m;clear b;obtain⟨d,j,l⟩:=eA i;have d:=λd=>J.frozen i d;go_wp2;have d:=dW i G H [.int .i64 0,.int .i64 0,.string ⟨#[]⟩] rfl ae ae;obtain⟨d,n,o⟩:=d;simp only[bX,Nat.zero_add,Nat.reduceAdd]at d n o;obtain⟨ad,ag,al⟩:=eA d;refine bodyPost_ret (v:=.tuple #[.agg #[O 0,O 0,ah],.bool false]) ?_ rfl ?_
      ·simp[results,Tryz.results297,go_sem,ad,ag,al]
      rw[F.out];exact⟨n,_,rfl,.inr ⟨rfl,rfl⟩,o⟩
     intro d F b G H d;have i:=bk b m;clear b;obtain⟨d,j,l⟩:=eA i;have d:=λd=>J.frozen i d;go_wp2;have d:=dW i G H [.int .i64 0,.int .i64 0,.string ⟨#[]⟩] rfl ae ae;obtain⟨d,n,o⟩:=d;simp only[bX,Nat.zero_add,Nat.reduceAdd]at d n o;obtain⟨ad,ag,al⟩:=eA d;refine bodyPost_ret (v:=.tuple #[.agg #[O 0,O 0,ah],.bool true]) ?_ rfl ?_
     ·simp[results,Tryz.results297,go_sem,ad,ag,al]
     rw[F.out];exact⟨n,_,rfl,.inl ⟨_,rfl,rfl,V.jc _ _ _ ae ae (bZ _ au)⟩,o⟩
    intro ad ag b al an d;have o:=bk b z;clear b;obtain⟨E,F,G⟩:=eA o;have H:=λp=>J.frozen o p;go_upto_region 19 with(fail)
    have i:=dW o al an [.int .i64 4,.int .i64 0,.string ⟨#[]⟩] rfl ae ae;simp only[bX,Nat.zero_add,Nat.reduceAdd]at i;generalize ((((ad.setCell (am c 0) (O 4)).setCell (am c 1) (O 0)).setCell (am c 2) ah))=aN at i⊢;obtain⟨w,m,n⟩:=i;have ap:=ag;clear E F G H;obtain⟨E,F,G⟩:=eA w;have H:=λp=>J.frozen w p;go_wp2;have i:=dW w m n [.int .i64 4,.int .i64 0,.string ⟨#[]⟩] rfl ae ae;obtain⟨d,m,n⟩:=i;simp only[bX,Nat.zero_add,Nat.reduceAdd]at d m n;obtain⟨ar,aw,az⟩:=eA d;refine bodyPost_ret (v:=.tuple #[.agg #[O 4,O 0,ah],.bool true]) ?_ rfl ?_
    ·simp[results,Tryz.results297,go_sem,ar,aw,az]
    rw[ap.out];exact⟨m,_,rfl,.inl ⟨_,rfl,rfl,V.jc _ _ _ ae ae (bZ _ au)⟩,n⟩
   intro H X b Y aa d;have o:=bk b x;clear b;obtain⟨z,E,F⟩:=eA o;have G:=λp=>J.frozen o p;go_upto_region 19 with(fail)
   have i:=dW o Y aa [.int .i64 4,.int .i64 1,.string ⟨#[]⟩] rfl ae ae;simp only[bX,Nat.zero_add,Nat.reduceAdd]at i;generalize ((((H.setCell (am c 0) (O 4)).setCell (am c 1) (O 1)).setCell (am c 2) ah))=ap at i⊢;obtain⟨w,m,n⟩:=i;have ad:=X;clear z E F G;obtain⟨z,E,F⟩:=eA w;have G:=λp=>J.frozen w p;go_wp2;have i:=dW w m n [.int .i64 4,.int .i64 1,.string ⟨#[]⟩] rfl ae ae;obtain⟨d,m,n⟩:=i;simp only[bX,Nat.zero_add,Nat.reduceAdd]at d m n;obtain⟨ag,al,an⟩:=eA d;refine bodyPost_ret (v:=.tuple #[.agg #[O 4,O 1,ah],.bool true]) ?_ rfl ?_
   ·simp[results,Tryz.results297,go_sem,ag,al,an]
   rw[ad.out];exact⟨m,_,rfl,.inl ⟨_,rfl,rfl,V.jc _ _ _ ae ae (bZ _ au)⟩,n⟩
  intro d S b T W d;have X:=bk b y;clear b;go_wp2_with fail
  refine aQ ai T S (fT e f g _ W) aM ?_;intro i d d Y aa ad b ag al d;have p:=bk b X;obtain⟨rfl,z,ak⟩:=ad;clear b;have b:0<=i/\i<=9999999999:=⟨z,ak⟩;clear z ak;obtain⟨E,F,G⟩:=eA p;have H:=λw=>J.frozen p w;go_upto_region 19 with(fail)
  have m:=dW p ag al [.int .i64 3,.int .i64 i,.string ⟨#[]⟩] rfl ae ae;simp only[bX,Nat.zero_add,Nat.reduceAdd]at m;generalize ((((Y.setCell (am c 0) (O 3)).setCell (am c 1) i).setCell (am c 2) ah))=az at m⊢;obtain⟨x,n,o⟩:=m;have an:=aa;clear E F G H;obtain⟨E,F,G⟩:=eA x;have H:=λw=>J.frozen x w;go_wp2;have m:=dW x n o [.int .i64 3,.int .i64 i,.string ⟨#[]⟩] rfl ae ae;obtain⟨b,n,o⟩:=m;simp only[bX,Nat.zero_add,Nat.reduceAdd]at b n o;obtain⟨ap,ar,aw⟩:=eA b;refine bodyPost_ret (v:=.tuple #[.agg #[O 3,i,ah],.bool true]) ?_ rfl ?_
  ·simp[results,Tryz.results297,go_sem,ap,ar,aw]
  rw[an.out];exact⟨n,_,rfl,.inl ⟨_,rfl,rfl,V.jc _ _ _ ae ae (bZ _ au)⟩,o⟩
 intro d Q i R S d;have T:=b0 i D;clear i;go_wp2_with fail
 refine aQ ai R Q (fT e f g _ S) aM ?_;intro n W d X w Y i aa ad d;have x:=bk i T;obtain⟨rfl,E,ak⟩:=Y;clear i;have d:0<=n/\n<=9999999999:=⟨E,ak⟩;clear E ak;obtain⟨b,d⟩:=aq (-n);have e:IntKind.i64.wrap (-n)=b:=by rw[d];exact IntWalk.i64_in _ ae
 have e:-9999999999<=b:=ae
 have e:b<=9999999999:=ae
 replace w:Hid (t=.ok (some ⟨2,b,⟨#[]⟩⟩) W):=by rw[d];exact w
 clear d;obtain⟨F,G,H⟩:=eA x;have I:=λy=>J.frozen x y;go_upto_region 19 with(fail)
 have m:=dW x aa ad [.int .i64 2,.int .i64 b,.string ⟨#[]⟩] rfl ae ae;simp only[bX,Nat.zero_add,Nat.reduceAdd]at m;generalize ((((X.setCell (am c 0) (O 2)).setCell (am c 1) b).setCell (am c 2) ah))=ar at m⊢;obtain⟨z,o,p⟩:=m;have ag:=w;clear F G H I;obtain⟨F,G,H⟩:=eA z;have I:=λy=>J.frozen z y;go_wp2;have m:=dW z o p [.int .i64 2,.int .i64 b,.string ⟨#[]⟩] rfl ae ae;obtain⟨c,o,p⟩:=m;simp only[bX,Nat.zero_add,Nat.reduceAdd]at c o p;obtain⟨al,an,ap⟩:=eA c;refine bodyPost_ret (v:=.tuple #[.agg #[O 2,b,ah],.bool true]) ?_ rfl ?_
 ·simp[results,Tryz.results297,go_sem,al,an,ap]
 rw[ag.out];exact⟨o,_,rfl,.inl ⟨_,rfl,rfl,V.jc _ _ _ ae ae (bZ _ au)⟩,p⟩
theorem tM (a:Int) (c:Nat) (f:List ao) (d:af) (g:ax d c a f):
 Calls Tryz.prog 297 #[aj c] d λb e=>PP a c d (fO a f) nW b e:=by
 cases f with
 |nil=>exact zy a c d g
 |cons b e=>
  by_cases i:b.k=3
  ·have:=zz a c b e d g i
   rwa[show fO a (b::e)=(ey a (b::e) b.k).bind λj l=>.ok (some ⟨1,0,j.t⟩) l by rw[fO,if_pos i,ey,if_pos rfl];rfl]
  by_cases j:b.k=2
  ·have:=zA a c b e d g j
   rwa[show fO a (b::e)=(cq a (b::e)).bind λl f=>.ok (some ⟨2,l,⟨#[]⟩⟩) f by simp only[fO,if_neg i,if_pos j,cq,ey];rfl]
  exact zB a c b e d g i j
theorem tO (b:Int) (f:Nat) (c:List ao) (d:af) (l:ax d f b c):
 Calls Tryz.prog 240 #[aj f] d λu w=>PP b f d (jF b c) zv u w:=by
 have u:=l.lt;have x:=Z l;have y:=Z (Kp.refl [f] d);have u:d.heap.size<=d.heap.size:=Nat.le_refl _;clear l;have m:=Z (show jF b c=(fO b c).bind λe c=>match e with|some e=>.ok e c|none=>e8 b c 4 from rfl);generalize jF b c=n at m⊢;go_enter Tryz.func240,Tryz.ntmps240
 have z:=Z (J.new d 66 #[O 0,O 0,ah]);go_wp2_with fail
 refine aQ ai (y.alloc _) m (tM b f c _ (x.alloc _)) aM ?_;intro c o c c e A c p q d;have g:=bk c z;clear c;rcases A with⟨B,rfl,rfl,r⟩|⟨rfl,rfl⟩
 ·
  obtain⟨i,j,k⟩:=B;have HX:=Z r;replace e:Hid (n=.ok ⟨i,j,k⟩ o):=e;clear r;obtain⟨c,d,f⟩:=eA g;have c:=λc=>J.frozen g c;have c:=J.lt g;go_wp2;have c:=dW g p q [.int .i64 i,.int .i64 j,.string k] rfl ae ae;obtain⟨c,s,t⟩:=c;simp only[bX,Nat.zero_add,Nat.reduceAdd]at c s t;replace c:=c.alloc (.cells #[i,j,k] 66);obtain⟨C,D,E⟩:=eA c;refine bodyPost_ret (v:=.agg #[i,j,k]) ?_ rfl ?_
  ·simp[results,Tryz.results240,go_sem,C,D,E]
  rw[e.out];exact⟨s.alloc _,_,rfl,⟨rfl,HX⟩,t.alloc _⟩
 replace e:Hid (n=e8 b o 4):=e;go_wp2_with fail
 refine qT 4 (p.alloc _) e (q.alloc _) ?ak;intro er a wx HX KX;go_wp2;exact⟨rfl,by rw[HX.out];exact⟨KX.out,rfl⟩⟩
theorem tP (d:Int) (e:Nat) (b:List ao) (f:af) (m:ax f e d b):
 Calls Tryz.prog 298 #[aj e] f λz A=>PP d e f (jG d b) (iZ dG.cells dG.bY) z A:=by
 have z:=m.lt;have B:=Z m;have C:=Z (Kp.refl [e] f);have z:f.heap.size<=f.heap.size:=Nat.le_refl _;clear m;have o:=Z (show jG d b=(fO d b).bind λc b=>match c with|some c=>.ok ⟨e0,e0,true,c⟩ b|none=>(bW d b).bind λa b=>if bu b ⟨#[46]⟩then(bW d b.tail).bind λc b=>.ok ⟨a,c,false,⟨0,0,e0⟩⟩ b else .ok ⟨e0,a,false,⟨0,0,e0⟩⟩ b from rfl);generalize jG d b=p at o⊢;go_enter Tryz.func298,Tryz.ntmps298
 have D:=Z (J.new f 284 #[ah,ah,.bool false,O 0,O 0,ah]);go_wp2_with fail
 refine aQ ai (C.alloc _) o (tM d e b _ (B.alloc _)) aM ?_;intro f n f f g E c q r f;have i:=bk c D;clear c;rcases E with⟨F,rfl,rfl,s⟩|⟨rfl,rfl⟩
 ·
  obtain⟨j,k,l⟩:=F;have HX:=Z s;replace g:Hid (p=.ok ⟨e0,e0,true,⟨j,k,l⟩⟩ n):=g;clear s;obtain⟨f,m,o,s,z,A⟩:=mC i;have f:=λf=>J.frozen i f;have f:=J.lt i;go_wp2;have f:=dW i q r [.string ⟨#[]⟩,.string ⟨#[]⟩,.bool true,.int .i64 j,.int .i64 k,.string l] rfl ae ae;obtain⟨f,t,u⟩:=f;simp only[bX,Nat.zero_add,Nat.reduceAdd]at f t u;replace f:=f.alloc (.cells #[j,k,l] 66);obtain⟨w,x,y,G,H,I⟩:=mC f;refine bodyPost_ret (v:=.agg #[ah,ah,.bool true,j,k,l]) ?_ rfl ?_
  ·simp[results,Tryz.results298,go_sem,w,x,y,G,H,I]
  rw[g.out];exact⟨t.alloc _,_,rfl,⟨rfl,⟨bZ _ au,bZ _ au,HX⟩⟩,u.alloc _⟩
 replace g:Hid (p=((bW d n).bind λa b=>if bu b ⟨#[46]⟩then(bW d b.tail).bind λf b=>.ok ⟨a,f,false,⟨0,0,e0⟩⟩ b else .ok ⟨e0,a,false,⟨0,0,e0⟩⟩ b)):=g;go_wp2_with fail
 refine aQ ai (q.alloc _) g (eq d e n _ (r.alloc _)) aM ?_;intro j G b b H l c I K b;have t:=b0 c i;obtain⟨rfl,u⟩:=l;clear c;go_wp2_with fail
 refine i7 ⟨#[46]⟩ ai I H K (bZ _ au) ?ak ?av
 case ak=>
  intro b y c L M b;have k:=bk c t;clear c;obtain⟨b,f,g,i,m,n⟩:=mC k;have b:=λb=>J.frozen k b;have b:=J.lt k;go_wp2;have b:=dW k L M [.string ⟨#[]⟩,.string j,.bool false,.int .i64 0,.int .i64 0,.string ⟨#[]⟩] rfl ae ae;obtain⟨b,w,x⟩:=b;simp only[bX,Nat.zero_add,Nat.reduceAdd]at b w x;obtain⟨N,P,Q,R,S,T⟩:=mC b;refine bodyPost_ret (v:=.agg #[ah,j,.bool false,O 0,O 0,ah]) ?_ rfl ?_
  ·simp[results,Tryz.results298,go_sem,N,P,Q,R,S,T]
  rw[y.out];exact⟨w,_,rfl,⟨rfl,⟨bZ _ au,u,V.jc _ _ _ ae ae (bZ _ au)⟩⟩,x⟩
 intro b L c M N b;have P:=bk c t;clear c;go_wp2_with fail
 refine aQ ai M L (eq d e G.tail _ N) aM ?_;intro w b b b Q l c R S b;have k:=bk c P;obtain⟨rfl,T⟩:=l;clear c;obtain⟨b,c,d,e,f,g⟩:=mC k;have b:=λb=>J.frozen k b;have b:=J.lt k;go_wp2;have b:=dW k R S [.string j,.string w,.bool false,.int .i64 0,.int .i64 0,.string ⟨#[]⟩] rfl ae ae;obtain⟨b,x,y⟩:=b;simp only[bX,Nat.zero_add,Nat.reduceAdd]at b x y;obtain⟨U,W,X,Y,aa,ab⟩:=mC b;refine bodyPost_ret (v:=.agg #[j,w,.bool false,O 0,O 0,ah]) ?_ rfl ?_
 ·simp[results,Tryz.results298,go_sem,U,W,X,Y,aa,ab]
 rw[Q.out];exact⟨x,_,rfl,⟨rfl,⟨u,T,V.jc _ _ _ ae ae (bZ _ au)⟩⟩,y⟩
theorem pw (c:Int) (d:Nat) (b:List ao) (g:af) (i:ax g d c b):
 Calls Tryz.prog 168 #[aj d] g λk l=>PP c d g (gF c b) zw k l:=by
 have k:=i.lt;have m:=Z i;have n:=Z (Kp.refl [d] g);clear i;have j:=Z (show gF c b=(bW c b).bind λa b=>(aR c b [⟨#[46]⟩]).bind λ_ b=>(bW c b).bind λe b=>.ok (a,e) b from rfl);generalize gF c b=C at j⊢;go_enter Tryz.func168,Tryz.ntmps168
 go_wp2_with fail
 refine aQ ai n j (eq c d b _ m) aM ?_;intro b o b p q e f r s b;obtain⟨rfl,t⟩:=e;clear f;go_wp2_with fail
 refine aQ ai (r.alloc _) q (cU c d o [⟨#[46]⟩] _ p _ (s.alloc _) (cA [⟨#[46]⟩] au)) aM ?_;intro b u b b v e f w x b;obtain rfl:=e;clear f;go_wp2_with fail
 refine aQ ai w v (eq c d u _ x) aM ?_;intro b b b b y e f z A b;obtain⟨rfl,B⟩:=e;clear f;go_wp2;go_ret2
 rw[y.out];exact⟨z,_,rfl,⟨rfl,t,B⟩,A⟩
theorem zC (c:Int) (e:Nat) (b:List ao) (f:af) (i:ax f e c b):
 Calls Tryz.prog 172 #[aj e] f λr s=>PP c e f (kD c b) (iZ du.cells du.bY) r s:=by
 have r:=i.lt;have t:=Z i;have u:=Z (Kp.refl [e] f);have r:f.heap.size<=f.heap.size:=Nat.le_refl _;clear i;have k:=Z (show kD c b=(bW c b).bind λa b=>(aR c b [⟨#[61]⟩]).bind λ_ b=>(jF c b).bind λd b=>.ok ⟨a,d⟩ b from rfl);generalize kD c b=U at k⊢;go_enter Tryz.func172,Tryz.ntmps172
 have w:=Z (J.new f 238 #[ah,O 0,O 0,ah]);go_wp2_with fail
 refine aQ ai (u.alloc _) k (eq c e b _ (t.alloc _)) aM ?_;intro l x b y z g d A B b;have C:=bk d w;obtain⟨rfl,D⟩:=g;clear d;go_wp2_with fail
 refine aQ ai (A.alloc _) z (cU c e x [⟨#[61]⟩] _ y _ (B.alloc _) (cA [⟨#[61]⟩] au)) aM ?_;intro b E b b F g d G H b;have I:=b0 d C;obtain rfl:=g;clear d;go_wp2_with fail
 refine aQ ai G F (tO c e E _ H) aM ?_;intro K b b b L g d M N b;have j:=bk d I;obtain⟨rfl,P⟩:=g;clear d;obtain⟨m,n,o⟩:=K;obtain⟨b,c,d,e⟩:=tp j;have b:=λb=>J.frozen j b;go_wp2;have b:=dW j M N [.string l,.int .i64 m,.int .i64 n,.string o] rfl ae ae;obtain⟨b,p,q⟩:=b;simp only[bX,Nat.zero_add,Nat.reduceAdd]at b p q;obtain⟨Q,R,S,T⟩:=tp b;refine bodyPost_ret (v:=.agg #[l,m,n,o]) ?_ rfl ?_
 ·simp[results,Tryz.results172,go_sem,Q,R,S,T]
 rw[L.out];exact⟨p,_,rfl,⟨rfl,⟨D,P⟩⟩,q⟩
theorem zD (c:Int) (e:Nat) (b:List ao) (d:af) (g:ax d e c b):
 Calls Tryz.prog 174 #[aj e] d λp q=>PP c e d (kE c b) (iZ Vr.cells Vr.bY) p q:=by
 have p:=g.lt;have r:=Z g;have s:=Z (Kp.refl [e] d);have p:d.heap.size<=d.heap.size:=Nat.le_refl _;clear g;have k:=Z (show kE c b=(bW c b).bind λf b=>(bW c b).bind λg b=>.ok ⟨g,f⟩ b from rfl);generalize kE c b=H at k⊢;go_enter Tryz.func174,Tryz.ntmps174
 have t:=Z (J.new d 133 #[ah,ah]);go_wp2_with fail
 refine aQ ai (s.alloc _) k (eq c e b _ (r.alloc _)) aM ?_;intro l u b b w i f x y b;have z:=bk f t;obtain⟨rfl,A⟩:=i;clear f;go_wp2_with fail
 refine aQ ai x w (eq c e u _ y) aM ?_;intro m b b b B i f C D b;have j:=bk f z;obtain⟨rfl,E⟩:=i;clear f;obtain⟨b,c⟩:=tn j;have b:=λb=>J.frozen j b;go_wp2;have b:=dW j C D [.string m,.string l] rfl ae ae;obtain⟨b,n,o⟩:=b;simp only[bX,Nat.zero_add,Nat.reduceAdd]at b n o;obtain⟨F,G⟩:=tn b;refine bodyPost_ret (v:=.agg #[m,l]) ?_ rfl ?_
 ·simp[results,Tryz.results174,go_sem,F,G]
 rw[B.out];exact⟨n,_,rfl,⟨rfl,⟨E,A⟩⟩,o⟩
theorem zE (d:Int) (f:Nat) (c:List ao) (g:af) (l:ax g f d c):
 Calls Tryz.prog 165 #[aj f] g λC D=>PP d f g (kC d c) (iZ dl.cells dl.bY) C D:=by
 have C:=l.lt;have E:=Z l;have F:=Z (Kp.refl [f] g);have C:g.heap.size<=g.heap.size:=Nat.le_refl _;clear l;have u:=Z (show kC d c=(bW d c).bind λa c=>(dK d c [⟨_⟩,⟨_⟩,⟨_⟩,⟨_⟩]).bind λb c=>if bu c ⟨#[61]⟩then(jF d c.tail).bind λe c=>.ok ⟨a,b,e⟩ c else .ok ⟨a,b,⟨0,0,e0⟩⟩ c from rfl);generalize kC d c=aw at u⊢;go_enter Tryz.func165,Tryz.ntmps165
 have G:=Z (J.new g 208 #[ah,O 0,O 0,O 0,ah]);go_wp2_with fail
 refine aQ ai (F.alloc _) u (eq d f c _ (E.alloc _)) aM ?_;intro i H c I K j b L M c;have N:=bk b G;obtain⟨rfl,w⟩:=j;clear b;go_wp2_with fail
 refine aQ ai (L.alloc _) K (lJ d f H [⟨_⟩,⟨_⟩,⟨_⟩,⟨_⟩] _ I _ (M.alloc _) (cA [⟨_⟩,⟨_⟩,⟨_⟩,⟨_⟩] au) au) aM ?_;intro e P c k Q j b R S c;have m:=b0 b N;obtain⟨rfl,x,y⟩:=j;clear b;have c:1<=e/\e<=100:=⟨x,y⟩;clear x y;have z:=Z (J.new k 208 #[i,e,O 0,O 0,ah]);have c:=J.lt m;go_wp2_with fail
 refine i7 ⟨#[61]⟩ ai (R.alloc _) Q (S.alloc _) (bZ _ au) ?ak ?av
 case ak=>
  intro c r b s A c;have n:=b0 b m;have c:=bk b z;clear b;obtain⟨g,l,u,x,y⟩:=mB n;have l:=λg=>J.frozen n g;obtain⟨l,u,x,y,C⟩:=mB c;have g:=λg=>J.frozen c g;have c:=J.lt c;go_wp2;have c:=dW n s A [.string i,.int .i64 e,.int .i64 0,.int .i64 0,.string ⟨#[]⟩] rfl ae ae;obtain⟨c,o,q⟩:=c;simp only[bX,Nat.zero_add,Nat.reduceAdd]at c o q;obtain⟨B,T,U,W,X⟩:=mB c;refine bodyPost_ret (v:=.agg #[i,e,O 0,O 0,ah]) ?_ rfl ?_
  ·simp[results,Tryz.results165,go_sem,B,T,U,W,X]
  rw[r.out];exact⟨o,_,rfl,⟨rfl,⟨w,⟨by show _<=e;omega,by show e<=_;omega⟩,V.jc _ _ _ ae ae (bZ _ au)⟩⟩,q⟩
 intro c T b U W c;have X:=b0 b m;have Y:=bk b z;clear b;go_wp2_with fail
 refine aQ ai U T (tO d f P.tail _ W) aM ?_;intro aa c c c ab j b ac ad c;have n:=bk b X;have o:=bk b Y;obtain⟨rfl,ag⟩:=j;clear b;obtain⟨q,r,s⟩:=aa;obtain⟨b,c,d,f,g⟩:=mB n;have c:=λb=>J.frozen n b;obtain⟨c,d,f,g,j⟩:=mB o;have b:=λb=>J.frozen o b;have b:=J.lt o;go_wp2;have b:=dW (t:=208) (J.far (J.far (J.far n (p:=(am k 2)) aD q) (p:=(am k 3)) aD r) (p:=(am k 4)) aD s) (Kp.set aD (Kp.set aD (Kp.set aD ac _) _) _) (ax.set aD (ax.set aD (ax.set aD ad _) _) _) [.string i,.int .i64 e,.int .i64 q,.int .i64 r,.string s] rfl ae ae;obtain⟨b,A,B⟩:=b;simp only[bX,Nat.zero_add,Nat.reduceAdd]at b A B;obtain⟨al,an,ap,aq,ar⟩:=mB b;refine bodyPost_ret (v:=.agg #[i,e,q,r,s]) ?_ rfl ?_
 ·simp[results,Tryz.results165,go_sem,al,an,ap,aq,ar]
 rw[ab.out];exact⟨A,_,rfl,⟨rfl,⟨w,⟨by show _<=e;omega,by show e<=_;omega⟩,ag⟩⟩,B⟩
theorem zF (d:Int) (x:Nat) (e:List ao) (z:af) (B:ax z x d e):
 Calls Tryz.prog 243 #[aj x] z λV W=>PP d x z (kB d e) (iZ bB.cells bB.bY) V W:=by
 have V:=B.lt;have X:=Z B;have Y:=Z (Kp.refl [x] z);have V:z.heap.size<=z.heap.size:=Nat.le_refl _;clear B;have L:=Z (show kB d e=(jG d e).bind λb e=>(dK d e [⟨#[61]⟩,⟨_⟩,⟨#[60]⟩,⟨_⟩]).bind λc e=>(jG d e).bind λf e=>(mn d e).bind λg e=>.ok ⟨b,c,f,g⟩ e from rfl);generalize kB d e=M at L⊢;go_enter Tryz.func243,Tryz.ntmps243
 have aa:=Z (J.new z 286 #[ah,ah,.bool false,O 0,O 0,ah,O 0,ah,ah,.bool false,O 0,O 0,ah,O 0]);go_wp2_with fail
 refine aQ ai (Y.alloc _) L (tP d x e _ (X.alloc _)) aM ?_;intro z ab B ac ad f b ag al L;have an:=bk b aa;obtain⟨f,C⟩:=f;clear b;obtain⟨g,i,j,⟨k,l,m⟩⟩:=z;replace f:B=.agg #[g,i,j,k,l,m]:=f;subst f;go_wp2_with fail
 refine aQ ai (ag.alloc _) ad (lJ d x ab [⟨#[61]⟩,⟨_⟩,⟨#[60]⟩,⟨_⟩] _ ac _ (al.alloc _) (cA [⟨#[61]⟩,⟨_⟩,⟨#[60]⟩,⟨_⟩] au) au) aM ?_;intro c ap z z ar f b aw az z;have aB:=b0 b an;obtain⟨rfl,N,P⟩:=f;clear b;have z:1<=c/\c<=100:=⟨N,P⟩;clear N P;go_wp2_with fail
 refine aQ ai aw ar (tP d x ap _ az) aM ?_;intro z w B D E f b aC aE L;have F:=bk b aB;obtain⟨f,G⟩:=f;clear b;obtain⟨n,o,q,⟨r,s,u⟩⟩:=z;replace f:B=.agg #[n,o,q,r,s,u]:=f;subst f;have Q:=Z (J.new D 286 #[g,i,j,k,l,m,c,n,o,q,r,s,u,O 0]);have z:=J.lt F;replace E:Hid (M=(if bu w ⟨#[43]⟩then(cq d w.tail).bind λy e=>.ok ⟨⟨g,i,j,⟨k,l,m⟩⟩,c,⟨n,o,q,⟨r,s,u⟩⟩,y⟩ e else if bu w ⟨#[45]⟩then(cq d w.tail).bind λy e=>.ok ⟨⟨g,i,j,⟨k,l,m⟩⟩,c,⟨n,o,q,⟨r,s,u⟩⟩,-y⟩ e else .ok ⟨⟨g,i,j,⟨k,l,m⟩⟩,c,⟨n,o,q,⟨r,s,u⟩⟩,0⟩ w)):=by
  apply Z;rw[E.out];show(mn d w).bind _=_;unfold mn;cases bu w ⟨#[43]⟩<;>cases bu w ⟨#[45]⟩<;>simp[PO.bind]<;>cases cq d w.tail<;>rfl
 go_wp2_with fail
 refine i7 ⟨#[43]⟩ ai (aC.alloc _) E (aE.alloc _) (bZ _ au) ?ak ?av
 case ak=>
  intro e aF b aG aH e;have R:=b0 b F;have S:=bk b Q;clear b;go_wp2_with fail
  refine i7 ⟨#[45]⟩ ai aG aF aH (bZ _ au) ?ay ?aA
  case ay=>
   intro e A b H I e;have y:=bk b R;have e:=bk b S;clear b;obtain⟨z,B,E,K,L,N,P,T,U,V,W,X,Y,aa⟩:=jP y;have B:=λz=>J.frozen y z;obtain⟨B,E,K,L,N,P,T,U,V,W,X,Y,aa,ab⟩:=jP e;have z:=λz=>J.frozen e z;have e:=J.lt e;go_wp2;have e:=dW y H I [.string g,.string i,.bool j,.int .i64 k,.int .i64 l,.string m,.int .i64 c,.string n,.string o,.bool q,.int .i64 r,.int .i64 s,.string u,.int .i64 0] rfl ae ae;obtain⟨e,y,z⟩:=e;simp only[bX,Nat.zero_add,Nat.reduceAdd]at e y z;obtain⟨x0,x1,x2,x3,x4,x5,x6,x7,x8,x9,x10,q3,q4,q5⟩:=jP e;refine bodyPost_ret (v:=.agg #[g,i,j,k,l,m,c,n,o,q,r,s,u,O 0]) ?_ rfl ?_
   ·exact uT
   rw[A.out];exact⟨y,_,rfl,⟨rfl,⟨C,⟨by show _<=c;omega,by show c<=_;omega⟩,G,⟨by show _<=(0:Int);omega,by show(0:Int)<=_;omega⟩⟩⟩,z⟩
  intro e aI b aJ aK e;have aL:=bk b R;have aN:=bk b S;clear b;go_wp2_with fail
  refine aQ ai aJ aI (fT d x w.tail _ aK) aM ?_;intro A aO e e H f b aP aR e;have I:=bk b aL;have K:=bk b aN;obtain⟨rfl,T,U⟩:=f;clear b;have e:0<=A/\A<=9999999999:=⟨T,U⟩;clear T U;obtain⟨y,e⟩:=aq (-A);have z:IntKind.i64.wrap (-A)=y:=by rw[e];exact IntWalk.i64_in _ ae
  have z:-9999999999<=y:=ae
  have z:y<=9999999999:=ae
  replace H:Hid (M=.ok ⟨⟨g,i,j,⟨k,l,m⟩⟩,c,⟨n,o,q,⟨r,s,u⟩⟩,y⟩ aO):=by rw[e];exact H
  clear e;obtain⟨e,z,A,B,E,L,M,N,P,R,S,T,U,V⟩:=jP I;have z:=λe=>J.frozen I e;obtain⟨z,A,B,E,L,M,N,P,R,S,T,U,V,W⟩:=jP K;have e:=λe=>J.frozen K e;have e:=J.lt K;go_wp2;have e:=dW (t:=286) (J.far I (p:=(am D 13)) aD y) (Kp.set aD aP _) (ax.set aD aR _) [.string g,.string i,.bool j,.int .i64 k,.int .i64 l,.string m,.int .i64 c,.string n,.string o,.bool q,.int .i64 r,.int .i64 s,.string u,.int .i64 y] rfl ae ae;obtain⟨e,z,A⟩:=e;simp only[bX,Nat.zero_add,Nat.reduceAdd]at e z A;obtain⟨x0,x1,x2,x3,x4,x5,x6,x7,x8,x9,x10,q3,q4,q5⟩:=jP e;refine bodyPost_ret (v:=.agg #[g,i,j,k,l,m,c,n,o,q,r,s,u,y]) ?_ rfl ?_
  ·exact uT
  rw[H.out];exact⟨z,_,rfl,⟨rfl,⟨C,⟨by show _<=c;omega,by show c<=_;omega⟩,G,⟨by show _<=y;omega,by show y<=_;omega⟩⟩⟩,A⟩
 intro e R b S T e;have U:=b0 b F;have aF:=bk b Q;clear b;go_wp2_with fail
 refine aQ ai S R (fT d x w.tail _ T) aM ?_;intro y d d d aG f b aH aI d;have A:=bk b U;have H:=bk b aF;obtain⟨rfl,I,K⟩:=f;clear b;have b:0<=y/\y<=9999999999:=⟨I,K⟩;clear I K;obtain⟨b,d,e,f,w,x,z,B,E,F,I,K,L,M⟩:=jP A;have d:=λb=>J.frozen A b;obtain⟨d,e,f,w,x,z,B,E,F,I,K,L,M,N⟩:=jP H;have b:=λb=>J.frozen H b;have b:=J.lt H;go_wp2;have b:=dW (t:=286) (J.far A (p:=(am D 13)) aD y) (Kp.set aD aH _) (ax.set aD aI _) [.string g,.string i,.bool j,.int .i64 k,.int .i64 l,.string m,.int .i64 c,.string n,.string o,.bool q,.int .i64 r,.int .i64 s,.string u,.int .i64 y] rfl ae ae;obtain⟨b,d,e⟩:=b;simp only[bX,Nat.zero_add,Nat.reduceAdd]at b d e;obtain⟨x0,x1,x2,x3,x4,x5,x6,x7,x8,x9,x10,q3,q4,q5⟩:=jP b;refine bodyPost_ret (v:=.agg #[g,i,j,k,l,m,c,n,o,q,r,s,u,y]) ?_ rfl ?_
 ·exact uT
 rw[aG.out];exact⟨d,_,rfl,⟨rfl,⟨C,⟨by show _<=c;omega,by show c<=_;omega⟩,G,⟨by show _<=y;omega,by show y<=_;omega⟩⟩⟩,e⟩
theorem tR (b:Int) (c:Nat) (e:List ao) (d:af) (i:ax d c b e):
 Calls Tryz.prog 175 #[aj c] d λg j=>PP b c d (jH b e) (dM d.heap.size 14 bB.cells bB.bY) g j:=by
 have g:=i.lt;have l:=Z i;have m:=Z (Kp.refl [c] d);have j:∀g d,(callFunc 243 g).run Tryz.prog d=.ok (.enter 243 g) d:=enters_of Tryz.func243 ak rfl;have n:=Z (λf (g:af) (h:ax g c b f)=>yN 243 #[aj c] (kB b) (tg b) j b c f ⟨#[97,110,100]⟩ g h (bZ _ au) (λf g h=>zF b c f g h));clear j;clear i;have k:=Z (show jH b e=(aR b e [⟨_⟩]).bind λ_ e=>dA ⟨_⟩ (kB b) e from rfl);generalize jH b e=y at k⊢;go_enter Tryz.func175,Tryz.ntmps175
 go_wp2_with fail
 refine aQ ai (m.alloc _) k (cU b c e [⟨_⟩] _ d _ (l.alloc _) (cA [⟨_⟩] au)) aM ?_;intro b o b b p q f r s t;obtain rfl:=q;clear f;go_wp2_with fail
 refine aQ ai r (p.trans (PO.bind_pure _).symm) (n o _ s) aM ?_;intro b b b b u v f w x b;clear f;go_wp2;go_ret;rw[u.out];exact⟨w,_,rfl,v.base t,x⟩
inductive RE where
 |mk (kind:Int) (table:aw) (hk:Hd) (kids:List RE) (hc:Hd) (conds:List bB) (hn:Hd) (names:bm) (attr cN:aw) (agg at_:Int)
def RE.cells:RE->List Value
 |.mk kind table hk _ hc _ hn _ attr cN agg at_=>[.int .i64 kind,.string table,hk.val,hc.val,hn.val,.string attr,.string cN,.int .i64 agg,.int .i64 at_]
mutual
def RE.ex:RE->Ex
 |.mk kind table _ kids _ conds _ names attr cN agg at_=>.mk kind table (RE.exs kids) conds names attr cN agg at_
def RE.exs:List RE->List Ex
 |[]=>[]
 |r::l=>r.ex::RE.exs l
end
def RE.zero:RE:=.mk 0 e0 ⟨none,0,0⟩ [] ⟨none,0,0⟩ [] ⟨none,0,0⟩ [] e0 e0 0 0
def aS (S:Nat->Prop) (h:Hd):Prop:=∀b c,h.a=some ⟨b,c,none⟩->S b
inductive dX (w:af) (S:Nat->Prop):RE->Prop where
 |mk {kind:Int} {table:aw} {hk:Hd} {kids:List RE} {hc:Hd} {conds:List bB} {hn:Hd} {names:bm} {attr cN:aw} {agg at_:Int}
  (lk:aF w 9 hk RE.cells kids) (ik:aS S hk) (sub:∀k∈kids,dX w S k) (lc:aF w 14 hc bB.cells conds) (ic:aS S hc) (fc:∀c∈conds,c.bY) (ln:b4 w hn names) (iN:aS S hn)
  (ot:aG table) (oa:aG attr) (os:aG cN) (Gd:b8 kind) (ig:b8 agg) (ip:b8 at_):dX w S (.mk kind table hk kids hc conds hn names attr cN agg at_)
theorem aS.mono {S S':Nat->Prop} {h:Hd} (a:aS S h) (c:∀b,S b->S' b):aS S' h:=λb d e=>c b (a b d e)
theorem aS.none_ (S:Nat->Prop) (n a:Nat):aS S ⟨none,n,a⟩:=λa a b=>by cases b
theorem aF.none_ {a:Type} (w:af) (m:Nat) (enc:a->List Value):aF w m ⟨none,0,0⟩ enc []:=⟨rfl,by show 0<=_;omega,λa a=>absurd a ai⟩
theorem dX.mono {w:af} {S S':Nat->Prop} {r:RE} (a:dX w S r) (b:∀c,S c->S' c):dX w S' r:=by
 induction a with
 |mk c d e e f g i j k l m n o p q=>exact .mk c (d.mono b) (λc d=>q c d) e (f.mono b) g i (j.mono b) k l m n o p
theorem dX.keep {w c:af} {S:Nat->Prop} {d:RE} (e:dX w S d) {l:List Nat} (k:Kp l w c) (b:∀a∈l,¬S a):dX c S d:=by
 induction e with
 |mk g c d i d j e f m n o p q r s=>
  exact .mk (g.kp k (λa g t u=>b a u (c a g t))) c (λc g=>s c g) (i.kp k (λa c g i=>b a i (d a c g))) d j ⟨e.1.kp k (λa c d g=>b a g (f a c d)),e.2⟩ f m n o p q r
theorem RE.len (a:RE):a.cells.length=9:=by cases a;rfl
theorem RE.zG (a:List RE):RE.exs a=a.map RE.ex:=by
 induction a with
 |nil=>rfl
 |cons b a a=>rw[RE.exs,a];rfl
def Bw (b c:Nat) (a:Nat):Prop:=b<=a/\a<c
def px (base:Nat) (c:Ex) (v:ay) (b:af):Prop:=∃a:RE,a.ex=c/\v=.agg a.cells.toArray/\dX b (Bw base b.heap.size) a
theorem tS {w:af} {j m a d e:Nat} {k:bb} {f ys vs:bg} (o:w.ownsRow j k m (U (some ⟨e,0,none⟩) (a+1) d) (a+1) (f++ys)) (g:f.length=a*m) (u:ys.length=m) (l:vs.length=m):
 (bX w e (a*m) vs).ownsRow j k m (U (some ⟨e,0,none⟩) (a+1) d) (a+1) (f++vs):=by
 rcases o.2 with⟨h,_⟩|⟨v,x,b,p,q,r,n,s,y,t⟩
 ·cases h
 injection p with c i e3
 injection c with c
 injection c with c
 subst c e3;have j:a*m+vs.length<=b.size:=by
  have:(a+1)*m<=d*m:=Nat.mul_le_mul_right m n;rw[Nat.add_mul]at this;omega
 refine⟨by rw[List.length_append,g,l,Nat.add_mul];omega,.inr ⟨e,d,lI b (a*m) vs,rfl,q,J.i8 vs (a*m) w b r,n,s,?_,?_⟩⟩
 ·have:=congrArg List.length (pk vs (a*m) b j)
  simp only[Array.length_toList,List.length_append,List.length_take,List.length_drop]at this;omega
 rw[pk vs (a*m) b j];have c:(a+1)*m=a*m+vs.length:=by rw[Nat.add_mul,l];omega
 have i:b.toList.take (a*m)=f:=by
  have b:(b.toList.take ((a+1)*m)).take (a*m)=b.toList.take (a*m):=by
   have:a*m<=(a+1)*m:=nK
   rw[List.take_take,Nat.min_eq_left this]
  rw[<-b,t,List.take_append_of_le_length ae,List.take_of_length_le ae]
 rw[i,c,List.take_append_of_le_length (by rw[List.length_append,g];omega),List.take_of_length_le (by rw[List.length_append,g];omega)]
def PL {b:Type} (l:List Nat) (z:Int) (P:Nat) (w:af) (d:PO b) (V:b->Value->World->Prop) (c:Ending) (b:af):Prop:=
 Kp l w b/\match d with
 |.ok a ts=>∃d,c=.returned d/\V a d b/\ax b P z ts
 |.bad er at_=>c=.panicked [{v:=gI er at_,recovered:=false}]
theorem PO.py {b e:Type} {a:Prop} [Decidable a] (c d:PO b) (f:b->List ao->PO e):(if a then c else d).bind f=if a then c.bind f else d.bind f:=by split<;>rfl
section
variable {w W:af} {P:Nat} {z:Int} {us:List ao} {f:FuncId} {args:aO} {Q:Ending->World->Prop} {l:List Nat}
theorem nX {i o:Type} {j:PO o} {k:PO i} {V:i->Value->World->Prop} {g:i->List ao->PO o} {l2:List Nat} (q:∀c∈l2,c∈l\/w.heap.size<=c) (o:Kp l w W) (d:j=k.bind g) (r:Calls Tryz.prog f args W (λi b=>PL l2 z P W k V i b))
 (m:∀er a b,Hid (j=.bad er a)->Hid (Kp l w b)->Q (.panicked [{v:=gI er a,recovered:=false}]) b)
 (s:∀a e v b,Hid (j=g a e)->V a v b->Kp l2 W b->Hid (Kp l w b)->Hid (ax b P z e)->w.heap.size<=b.heap.size->Q (.returned v) b):Calls Tryz.prog f args W Q:=by
 refine r.mono ?_;rintro i b ⟨p,h⟩;have n:Kp l w b:=p.old o (λc m i=>by rcases q c m with h|h;exact h;omega);cases hr:k with
 |bad er a=>rw[hr]at h d;subst h;exact m er a b (Z d) (Z n)
 |ok a e=>rw[hr]at h d;obtain⟨v,rfl,t,u⟩:=h;exact s a e v b (Z d) t p (Z n) (Z u) n.size
theorem q7 {o:Type} {g j k:PO o} (b:aw) (i:af) (c:Nat) (p:Kp l w W) (d:g=if bu us b=true then j else k) (m:ax W P z us) (q:aG b)
 (r:∀a,Hid (g=k)->Kp [] W a->Hid (Kp l w a)->Hid (ax a P z us)->w.heap.size<=a.heap.size->Q (.returned (.bool false)) a)
 (s:∀a,Hid (g=j)->Kp [] W a->Hid (Kp l w a)->Hid (ax a P z us)->w.heap.size<=a.heap.size->Q (.returned (.bool true)) a)
 (t:W=i.alloc (.cells #[b] 9):=by rfl) (u:c=i.heap.size:=by simp):
 Calls Tryz.prog 169 #[aj P,U (some ⟨c,0,none⟩) 1 1] W Q:=by
 have v:b4 W ⟨some ⟨c,0,none⟩,1,1⟩ [b]:=by subst t u;exact nI i [b] 9 ai (by simpa using q)
 refine(qN z P us ⟨some ⟨c,0,none⟩,1,1⟩ [b] W m v).mono ?_;rintro c a ⟨x,e⟩;have f:Kp l w a:=p.trans (Kp.of_same e);subst x;have n:=m.same e;cases hr:bu us b with
 |false=>rw[hr]at d;rw[show el us [b]=false from hr];exact r a (Z d) (Kp.of_same e) (Z f) (Z n) f.size
 |true=>rw[hr]at d;rw[show el us [b]=true from hr];exact s a (Z d) (Kp.of_same e) (Z f) (Z n) f.size
end
structure q8 (lo X:Nat) (c0 c1 c2 c8:ay) (r:dc) (w:af) (hc hn:Hd):Prop where
 blk:J w X 93 #[c0,c1,c2,hc.val,hn.val,r.attr,r.cN,r.agg,c8]
 lc:aF w 14 hc bB.cells r.conds
 ic:aS (Bw lo w.heap.size) hc
 fc:∀c∈r.conds,c.bY
 ln:b4 w hn r.names
 iN:aS (Bw lo w.heap.size) hn
 oa:aG r.attr
 os:aG r.cN
 og:b8 r.agg
def pz (a b:Nat) (c d e f:ay) (g:dc) (i:ay) (w:af):Prop:=i=.tuple #[]/\∃i j,q8 a b c d e f g w i j
theorem dM.open_ {a:Type} {f g:Nat} {i:a->List Value} {j:a->Prop} {d:List a} {a:aX} {b c:Nat} {w:af} (k:dM f g i j d (U a b c) w):aF w g ⟨a,b,c⟩ i d/\(∀g∈d,j g)/\aS (Bw f w.heap.size) ⟨a,b,c⟩:=by
 obtain⟨⟨d,f,g⟩,e,l,m,n,_⟩:=k;replace e:Value.slice a b c=.slice d f g:=e;injection e with e1 e2 e3
 subst e1 e2 e3;exact⟨l,m,n⟩
theorem aS.low {a lo' b:Nat} {h:Hd} (c:aS (Bw a b) h) (d:lo'<=a):aS (Bw lo' b) h:=c.mono (λa a=>⟨bR d a.1,a.2⟩)
theorem jU (a:af):b4 a ⟨none,0,0⟩ []:=⟨aF.none_ a 1 dF,λa h=>by cases h⟩
theorem zH (g:Int) (d c o:Nat) (e:List ao) (b:af) (t f u v:ay) (q:ax b d g e) (r:J b c 93 #[t,f,u,aa,aa,ah,ah,O 0,v]) (l:J b o 127 #[aj d]) (H:d<c) (H:c<o):
 Calls Tryz.prog 300 #[aj c,aj o] b λi o=>PL [d,c] g d b (em g 0 e) (pz b.heap.size c t f u v) i o:=by
 have o:=q.lt;have z:=Z q;have A:=Z (Kp.refl [d,c] b);have o:b.heap.size<=b.heap.size:=Nat.le_refl _;have B:=Z r;have w:=Z l;have o:=l.lt;clear r l;clear q;have x:=Z (show em g 0 e=(jH g e).bind λj e=>.ok {dc.zero with conds:=j} e from rfl);generalize em g 0 e=I at x⊢;have o:=az w;have o:=J.lt w;have l:=aW o;go_enter Tryz.func300,Tryz.ntmps300
 go_wp2_with fail
 refine aQ ai A x (tR g d e _ z) aM ?_;intro e e e C D y g E F l;have m:=bk g B;clear g;obtain⟨⟨j,k,f⟩,s,G⟩:∃h:Hd,e=h.val/\e=e:=by obtain⟨h,i,_⟩:=y;exact⟨h,i,rfl⟩
 replace s:e=.slice j k f:=s;subst s;clear G;obtain⟨e,g,l,o,q,s,t,u,v⟩:=eO m;have e:=λe=>J.frozen m e;have e:=J.lt m;have r:=aW e;have n:=y.open_;go_wp2;refine bodyPost_ret (results_none rfl _ _ _) rfl ?_;rw[D.out];have e:=(m.aP 3 (U j k f));have c:=(Kp.aE (p:=(ab c 3)) ai (Kp.refl [d,c] C) (U j k f));exact⟨(Kp.aE ai E (U j k f)),_,rfl,⟨rfl,⟨j,k,f⟩,⟨none,0,0⟩,⟨e,(n.1.kp c (λc d i e=>by have:=n.2.2 c d i;unfold Bw at this;simp at e;omega)),(by have h:=n.2.2.low (lo':=b.heap.size) (by omega);simpa using h),n.2.1,jU _,aS.none_ _ _ _,bZ _ au,bZ _ au,⟨by show _<=(0:Int);omega,by show(0:Int)<=_;omega⟩⟩⟩,(ax.set aD F.out _)⟩
theorem zI (f:Int) (c d v:Nat) (e:List ao) (g:af) (y z A B:ay) (w:ax g c f e) (q:J g d 93 #[y,z,A,aa,aa,ah,ah,O 0,B]) (i:J g v 127 #[aj c]) (ae:c<d) (ae:d<v):
 Calls Tryz.prog 301 #[aj d,aj v] g λk v=>PL [c,d] f c g (em f 1 e) (pz g.heap.size d y z A B) k v:=by
 have v:=w.lt;have G:=Z w;have H:=Z (Kp.refl [c,d] g);have I:=Z q;have x:=Z i;clear q i;clear w;have C:=Z (show em f 1 e=(aR f e [⟨_⟩]).bind λ_ e=>(lx f ⟨#[41]⟩ e).bind λb e=>.ok {dc.zero with names:=b} e from rfl);generalize em f 1 e=K at C⊢;have r:=az x;have j:=J.lt x;have i:=aW j;go_enter Tryz.func301,Tryz.ntmps301
 go_wp2_with fail
 refine aQ ai (H.alloc _) C (cU f c e [⟨_⟩] _ g _ (G.alloc _) (cA [⟨_⟩] au)) aM ?_;intro e D e L M l b N P e;have E:=b0 b I;have s:=b0 b x;obtain rfl:=l;clear b;clear r j i;have r:=az s;have j:=J.lt s;have i:=aW j;go_wp2_with fail
 refine q7 ⟨#[41]⟩ L _ (N.alloc _) (M.trans (PO.py _ _ _)) (P.alloc _) (bZ _ au) ?ak ?av
 case ak=>
  intro e Q b R S e;have T:=b0 b E;have e:=b0 b s;clear b;clear r j i;have r:=az e;have j:=J.lt e;have i:=aW j;go_wp2_with fail
  refine aQ ai R Q (pm f c D _ S) aM ?_;intro e e e V W F b X Y f;have t:=bk b T;clear b;obtain⟨⟨m,n,o⟩,l,ac⟩:∃h:Hd,e=h.val/\e=e:=by obtain⟨h,k,_⟩:=F;exact⟨h,k,rfl⟩
  replace l:e=.slice m n o:=l;subst l;clear ac;obtain⟨e,f,i,j,l,r,v,w,x⟩:=eO t;have e:=λe=>J.frozen t e;have e:=J.lt t;have q:=aW e;have u:=F.open_;go_wp2;refine bodyPost_ret (results_none rfl _ _ _) rfl ?_;rw[W.out];have e:=(t.aP 4 (U m n o));have ad:=(Kp.aE (p:=(ab d 4)) ai (Kp.refl [c,d] V) (U m n o));exact⟨(Kp.aE ai X (U m n o)),_,rfl,⟨rfl,⟨none,0,0⟩,⟨m,n,o⟩,⟨e,aF.none_ _ 14 _,aS.none_ _ _ _,(λ_ h=>by cases h),⟨(u.1.kp ad (λe f k i=>by have:=u.2.2 e f k;unfold Bw at this;simp at i;omega)),u.2.1⟩,(by have h:=u.2.2.low (lo':=g.heap.size) (by omega);simpa using h),bZ _ au,bZ _ au,⟨by show _<=(0:Int);omega,by show(0:Int)<=_;omega⟩⟩⟩,(ax.set aD Y.out _)⟩
 intro o n b t u e;have m:=b0 b E;have e:=b0 b s;clear b;replace n:Hid (K=.ok {dc.zero with names:=[]} D):=n;obtain⟨b,e,f,g,i,j,k,l,r⟩:=eO m;have b:=λb=>J.frozen m b;have b:=J.lt m;have q:=aW b;go_wp2;refine bodyPost_ret (results_none rfl _ _ _) rfl ?_;rw[n.out];have b:=m.out;have c:=(Kp.refl [c,d] o);exact⟨t,_,rfl,⟨rfl,⟨none,0,0⟩,⟨none,0,0⟩,⟨b,aF.none_ _ 14 _,aS.none_ _ _ _,(λ_ h=>by cases h),jU _,aS.none_ _ _ _,bZ _ au,bZ _ au,⟨by show _<=(0:Int);omega,by show(0:Int)<=_;omega⟩⟩⟩,u.out⟩
theorem zJ (d:Int) (e i r:Nat) (b:List ao) (j:af) (x y z A:ay) (s:ax j e d b) (m:J j i 93 #[x,y,z,aa,aa,ah,ah,O 0,A]) (g:J j r 127 #[aj e]) (Q:e<i) (Q:i<r):
 Calls Tryz.prog 302 #[aj i,aj r] j λr Q=>PL [e,i] d e j (em d 5 b) (pz j.heap.size i x y z A) r Q:=by
 have r:=s.lt;have R:=Z s;have S:=Z (Kp.refl [e,i] j);have T:=Z m;have t:=Z g;clear m g;clear s;have B:=Z (show em d 5 b=(aR d b [⟨#[44]⟩]).bind λ_ b=>(bW d b).bind λa b=>(aR d b [⟨_⟩]).bind λ_ b=>(bW d b).bind λc b=>.ok {dc.zero with attr:=a,cN:=c} b from rfl);generalize em d 5 b=aC at B⊢;have l:=az t;have f:=J.lt t;have g:=aW f;go_enter Tryz.func302,Tryz.ntmps302
 go_wp2_with fail
 refine aQ ai (S.alloc _) B (cU d e b [⟨#[44]⟩] _ j _ (R.alloc _) (cA [⟨#[44]⟩] au)) aM ?_;intro b U b b V k c W X b;have Y:=b0 c T;have u:=b0 c t;obtain rfl:=k;clear c;clear l f g;have l:=az u;have f:=J.lt u;have g:=aW f;go_wp2_with fail
 refine aQ ai W V (eq d e U _ X) aM ?_;intro n ac b ad ae k c ag ak b;have o:=bk c Y;have v:=bk c u;obtain⟨rfl,al⟩:=k;clear c;clear l f g;have l:=az v;have f:=J.lt v;have g:=aW f;obtain⟨C,D,E,F,G,H,I,K,L⟩:=eO o;have M:=λw=>J.frozen o w;have p:=J.lt o;have m:=aW p;go_wp2_with fail
 refine aQ ai ((Kp.aE ai ag n).alloc _) ae (cU d e ac [⟨_⟩] _ (ad.setCell (ab i 5) n) _ ((ax.set aD ak _).alloc _) (cA [⟨_⟩] au)) aM ?_;intro b am b b an k c ap aq b;have ar:=Z (c.blk ((jC o n).alloc _) aU);have N:=Z (c.blk ((J.far v aD n).alloc _) aU);obtain rfl:=k;clear c;clear C D E F G H I K L M p m;clear l f g;have l:=az N;have f:=J.lt N;have g:=aW f;go_wp2_with fail
 refine aQ ai ap an (eq d e am _ aq) aM ?_;intro P b b b av k c aw aA b;have q:=bk c ar;obtain⟨rfl,aB⟩:=k;clear c;obtain⟨C,D,E,F,G,H,I,K,L⟩:=eO q;have M:=λw=>J.frozen q w;have p:=J.lt q;have m:=aW p;go_wp2;refine bodyPost_ret (results_none rfl _ _ _) rfl ?_;rw[av.out];have b:=(q.aP 6 P);exact⟨(Kp.aE ai aw P),_,rfl,⟨rfl,⟨none,0,0⟩,⟨none,0,0⟩,⟨b,aF.none_ _ 14 _,aS.none_ _ _ _,(λ_ h=>by cases h),jU _,aS.none_ _ _ _,al,aB,⟨by show _<=(0:Int);omega,by show(0:Int)<=_;omega⟩⟩⟩,(ax.set aD aA.out _)⟩
theorem zK (e:Int) (f k M:Nat) (c:List ao) (o:af) (an ap aq ar:ay) (T:ax o f e c) (m:J o k 93 #[an,ap,aq,aa,aa,ah,ah,O 0,ar]) (i:J o M 127 #[aj f]) (bD:f<k) (bD:k<M):
 Calls Tryz.prog 303 #[aj k,aj M] o λu M=>PL [f,k] e f o (em e 6 c) (pz o.heap.size k an ap aq ar) u M:=by
 have M:=T.lt;have aX:=Z T;have aY:=Z (Kp.refl [f,k] o);have aZ:=Z m;have V:=Z i;have M:=i.lt;clear m i;clear T;have aw:=Z (show em e 6 c=(aR e c [⟨_⟩]).bind λ_ c=>(lx e ⟨_⟩ c).bind λd c=>(aR e c [⟨_⟩]).bind λ_ c=>(dK e c [⟨_⟩,⟨_⟩,⟨_⟩,⟨_⟩]).bind λb c=>(if b=1 then .ok e0 c else bW e c).bind λa c=>(aR e c [⟨_⟩]).bind λ_ c=>(bW e c).bind λg c=>.ok {dc.zero with names:=d,attr:=a,cN:=g,agg:=b} c from rfl);generalize em e 6 c=K at aw⊢;have j:=az V;have d:=J.lt V;have i:=aW d;go_enter Tryz.func303,Tryz.ntmps303
 go_wp2_with fail
 refine aQ ai (aY.alloc _) aw (cU e f c [⟨_⟩] _ o _ (aX.alloc _) (cA [⟨_⟩] au)) aM ?_;intro M W M a0 a1 g b a2 a3 M;have aA:=b0 b aZ;have L:=b0 b V;obtain rfl:=g;clear b;clear j d i;have j:=az L;have d:=J.lt L;have i:=aW d;go_wp2_with fail
 refine q7 ⟨_⟩ a0 _ (a2.alloc _) (a1.trans (PO.py _ _ _)) (a3.alloc _) (bZ _ au) ?ak ?av
 case ak=>
  intro M a4 b a5 a6 M;have a7:=b0 b aA;have X:=b0 b L;clear b;clear j d i;have j:=az X;have d:=J.lt X;have i:=aW d;go_wp2_with fail
  refine aQ ai a5 a4 (pm e f W _ a6) aM ?_;intro aB aC M aG Y aH b a8 a9 T;have N:=bk b a7;have ac:=bk b X;clear b;obtain⟨⟨r,s,t⟩,g,ba⟩:∃h:Hd,M=h.val/\M=M:=by obtain⟨h,u,_⟩:=aH;exact⟨h,u,rfl⟩
  replace g:M=.slice r s t:=g;subst g;clear ba;obtain⟨v,w,x,y,z,A,B,C,D⟩:=eO N;have E:=λq=>J.frozen N q;have n:=J.lt N;have m:=aW n;replace Y:Hid (K=(aR e aC [⟨#[119,105,116,104]⟩]).bind λ_ c=>(dK e c [⟨#[99,111,117,110,116]⟩,⟨#[115,117,109]⟩,⟨#[108,101,97,115,116]⟩,⟨#[103,114,101,97,116,101,115,116]⟩]).bind λl c=>(if l=1 then .ok e0 c else bW e c).bind λa c=>(aR e c [⟨#[97,115]⟩]).bind λ_ c=>(bW e c).bind λF c=>.ok {dc.zero with names:=aB,attr:=a,cN:=F,agg:=l} c):=Y;clear j d i;have j:=az ac;have d:=J.lt ac;have i:=aW d;go_wp2_with fail
  refine aQ ai ((Kp.aE ai a8 (U r s t)).alloc _) Y (cU e f aC [⟨_⟩] _ (aG.setCell (ab k 4) (U r s t)) _ ((ax.set aD a9 _).alloc _) (cA [⟨_⟩] au)) aM ?_;intro M bb M aI bc g b bd be M;have bf:=Z (b.blk ((lu N (U r s t)).alloc _) aU);have ad:=Z (b.blk ((J.far ac aD (U r s t)).alloc _) aU);have bg:=Z (aH.kp (((Kp.aE ai (Kp.refl [f,k] aG) (U r s t)).alloc _).trans (b.mono ai)) aU);obtain rfl:=g;clear b;clear j d i;have j:=az ad;have d:=J.lt ad;have i:=aW d;go_wp2_with fail
  refine aQ ai (bd.alloc _) bc (lJ e f bb [⟨_⟩,⟨_⟩,⟨_⟩,⟨_⟩] _ aI _ (be.alloc _) (cA [⟨_⟩,⟨_⟩,⟨_⟩,⟨_⟩] au) au) aM ?_;intro l ae M ag F g b aJ aK M;have H:=b0 b bf;have P:=b0 b ad;have aL:=Z (bg.kp (((Kp.refl [f,k] aI).alloc _).trans (b.mono ai)) aU);obtain⟨rfl,aN,aO⟩:=g;clear b;have M:1<=l/\l<=100:=⟨aN,aO⟩;clear aN aO;obtain⟨v,w,x,y,z,A,B,C,D⟩:=eO H;have E:=λq=>J.frozen H q;have n:=J.lt H;have m:=aW n;clear j d i;have j:=az P;have d:=J.lt P;have i:=aW d;by_cases G:l=1
  ·
   have M:(l !=1)=false:=by simp[G]
   replace F:Hid (K=(aR e ae [⟨#[97,115]⟩]).bind λ_ c=>(bW e c).bind λI c=>.ok {dc.zero with names:=aB,attr:=e0,cN:=I,agg:=l} c):=Z (by rw[F.out,if_pos G];rfl);clear G;go_wp2_with fail
   refine aQ ai ((Kp.aE ai aJ l).alloc _) F (cU e f ae [⟨_⟩] _ (ag.setCell (ab k 7) l) _ ((ax.set aD aK _).alloc _) (cA [⟨_⟩] au)) aM ?_;intro M al M am aT g b aV bh M;have bi:=Z (b.blk ((gp H l).alloc _) aU);have R:=Z (b.blk ((J.far P aD l).alloc _) aU);have bj:=Z (aL.kp (((Kp.aE ai (Kp.refl [f,k] ag) l).alloc _).trans (b.mono ai)) aU);obtain rfl:=g;clear b;clear v w x y z A B C D E n m;clear j d i;have j:=az R;have d:=J.lt R;have i:=aW d;go_wp2_with fail
   refine aQ ai aV aT (eq e f al _ bh) aM ?_;intro S M M bl bm g b bn bo M;have I:=bk b bi;have M:=bk b R;have bp:=Z (bj.kp ((Kp.refl [f,k] am).trans (b.mono ai)) aU);obtain⟨rfl,bq⟩:=g;clear b;obtain⟨v,w,x,y,z,A,B,C,D⟩:=eO I;have E:=λq=>J.frozen I q;have n:=J.lt I;have m:=aW n;have Q:=bp.open_;go_wp2;refine bodyPost_ret (results_none rfl _ _ _) rfl ?_;rw[bm.out];have I:=(I.aP 6 S);have br:=(Kp.aE (p:=(ab k 6)) ai (Kp.refl [f,k] bl) S);exact⟨(Kp.aE ai bn S),_,rfl,⟨rfl,⟨none,0,0⟩,⟨r,s,t⟩,⟨I,aF.none_ _ 14 _,aS.none_ _ _ _,(λ_ h=>by cases h),⟨(Q.1.kp br (λI M u N=>by have:=Q.2.2 I M u;unfold Bw at this;simp at N;omega)),Q.2.1⟩,(by have h:=Q.2.2.low (lo':=o.heap.size) (by omega);simpa using h),bZ _ au,bq,⟨by show _<=l;omega,by show l<=_;omega⟩⟩⟩,(ax.set aD bo.out _)⟩
  have M:(l !=1)=true:=by simp[G]
  replace F:=Z (F.out.trans (congrArg (λI=>PO.bind I _) (if_neg G)));clear G;go_wp2_with fail
  refine aQ ai (Kp.aE ai aJ l) F (eq e f ae _ (ax.set aD aK _)) aM ?_;intro I bh F aT bi g b bj bl F;have Q:=Z (b.blk (gp H l) aU);have al:=Z (b.blk (J.far P aD l) aU);have bm:=Z (aL.kp ((Kp.aE ai (Kp.refl [f,k] ag) l).trans (b.mono ai)) aU);obtain⟨rfl,bn⟩:=g;clear b;clear v w x y z A B C D E n m;obtain⟨v,w,x,y,z,A,B,C,D⟩:=eO Q;have E:=λq=>J.frozen Q q;have n:=J.lt Q;have m:=aW n;clear j d i;have j:=az al;have d:=J.lt al;have i:=aW d;go_wp2_with fail
  refine aQ ai ((Kp.aE ai bj I).alloc _) bi (cU e f bh [⟨_⟩] _ (aT.setCell (ab k 5) I) _ ((ax.set aD bl _).alloc _) (cA [⟨_⟩] au)) aM ?_;intro F bo F bp bq g b br bs F;have bt:=Z (b.blk ((jC Q I).alloc _) aU);have aV:=Z (b.blk ((J.far al aD I).alloc _) aU);have bu:=Z (bm.kp (((Kp.aE ai (Kp.refl [f,k] aT) I).alloc _).trans (b.mono ai)) aU);obtain rfl:=g;clear b;clear v w x y z A B C D E n m;clear j d i;have j:=az aV;have d:=J.lt aV;have i:=aW d;go_wp2_with fail
  refine aQ ai br bq (eq e f bo _ bs) aM ?_;intro am F F bv bw g b bx bz F;have R:=bk b bt;have bA:=Z (bu.kp ((Kp.refl [f,k] bp).trans (b.mono ai)) aU);obtain⟨rfl,bB⟩:=g;clear b;obtain⟨v,w,x,y,z,A,B,C,D⟩:=eO R;have E:=λq=>J.frozen R q;have n:=J.lt R;have m:=aW n;have S:=bA.open_;go_wp2;refine bodyPost_ret (results_none rfl _ _ _) rfl ?_;rw[bw.out];have n:=(R.aP 6 am);have bC:=(Kp.aE (p:=(ab k 6)) ai (Kp.refl [f,k] bv) am);exact⟨(Kp.aE ai bx am),_,rfl,⟨rfl,⟨none,0,0⟩,⟨r,s,t⟩,⟨n,aF.none_ _ 14 _,aS.none_ _ _ _,(λ_ h=>by cases h),⟨(S.1.kp bC (λn q u r=>by have:=S.2.2 n q u;unfold Bw at this;simp at r;omega)),S.2.1⟩,(by have h:=S.2.2.low (lo':=o.heap.size) (by omega);simpa using h),bn,bB,⟨by show _<=l;omega,by show l<=_;omega⟩⟩⟩,(ax.set aD bz.out _)⟩
 intro al N b am aB o;have aC:=b0 b aA;have P:=b0 b L;clear b;replace N:Hid (K=(aR e W [⟨#[119,105,116,104]⟩]).bind λ_ c=>(dK e c [⟨#[99,111,117,110,116]⟩,⟨#[115,117,109]⟩,⟨#[108,101,97,115,116]⟩,⟨#[103,114,101,97,116,101,115,116]⟩]).bind λl c=>(if l=1 then .ok e0 c else bW e c).bind λa c=>(aR e c [⟨#[97,115]⟩]).bind λ_ c=>(bW e c).bind λn c=>.ok {dc.zero with names:=[],attr:=a,cN:=n,agg:=l} c):=N;clear j d i;have j:=az P;have d:=J.lt P;have i:=aW d;go_wp2_with fail
 refine aQ ai (am.alloc _) N (cU e f W [⟨_⟩] _ al _ (aB.alloc _) (cA [⟨_⟩] au)) aM ?_;intro o aG o aH aI g b aJ aK o;have aL:=b0 b aC;have Q:=b0 b P;obtain rfl:=g;clear b;clear j d i;have j:=az Q;have d:=J.lt Q;have i:=aW d;go_wp2_with fail
 refine aQ ai (aJ.alloc _) aI (lJ e f aG [⟨_⟩,⟨_⟩,⟨_⟩,⟨_⟩] _ aH _ (aK.alloc _) (cA [⟨_⟩,⟨_⟩,⟨_⟩,⟨_⟩] au) au) aM ?_;intro l R o aN r g b ac ad o;have E:=b0 b aL;have F:=b0 b Q;obtain⟨rfl,ae,ag⟩:=g;clear b;have o:1<=l/\l<=100:=⟨ae,ag⟩;clear ae ag;obtain⟨s,t,v,w,x,y,z,A,B⟩:=eO E;have C:=λq=>J.frozen E q;have n:=J.lt E;have m:=aW n;clear j d i;have j:=az F;have d:=J.lt F;have i:=aW d;by_cases D:l=1
 ·
  have o:(l !=1)=false:=by simp[D]
  replace r:Hid (K=(aR e R [⟨#[97,115]⟩]).bind λ_ c=>(bW e c).bind λo c=>.ok {dc.zero with names:=[],attr:=e0,cN:=o,agg:=l} c):=Z (by rw[r.out,if_pos D];rfl);clear D;go_wp2_with fail
  refine aQ ai ((Kp.aE ai ac l).alloc _) r (cU e f R [⟨_⟩] _ (aN.setCell (ab k 7) l) _ ((ax.set aD ad _).alloc _) (cA [⟨_⟩] au)) aM ?_;intro c S c c X g b Y aO c;have aT:=Z (b.blk ((gp E l).alloc _) aU);have H:=Z (b.blk ((J.far F aD l).alloc _) aU);obtain rfl:=g;clear b;clear s t v w x y z A B C n m;clear j d i;have j:=az H;have d:=J.lt H;have i:=aW d;go_wp2_with fail
  refine aQ ai Y X (eq e f S _ aO) aM ?_;intro I c c aV a4 g b a5 a6 c;have G:=bk b aT;have c:=bk b H;obtain⟨rfl,a7⟩:=g;clear b;obtain⟨s,t,v,w,x,y,z,A,B⟩:=eO G;have C:=λq=>J.frozen G q;have n:=J.lt G;have m:=aW n;go_wp2;refine bodyPost_ret (results_none rfl _ _ _) rfl ?_;rw[a4.out];have c:=(G.aP 6 I);have o:=(Kp.aE (p:=(ab k 6)) ai (Kp.refl [f,k] aV) I);exact⟨(Kp.aE ai a5 I),_,rfl,⟨rfl,⟨none,0,0⟩,⟨none,0,0⟩,⟨c,aF.none_ _ 14 _,aS.none_ _ _ _,(λ_ h=>by cases h),jU _,aS.none_ _ _ _,bZ _ au,a7,⟨by show _<=l;omega,by show l<=_;omega⟩⟩⟩,(ax.set aD a6.out _)⟩
 have c:(l !=1)=true:=by simp[D]
 replace r:=Z (r.out.trans (congrArg (λc=>PO.bind c _) (if_neg D)));clear D;go_wp2_with fail
 refine aQ ai (Kp.aE ai ac l) r (eq e f R _ (ax.set aD ad _)) aM ?_;intro G aO c aT aV g b a4 a5 c;have H:=Z (b.blk (gp E l) aU);have S:=Z (b.blk (J.far F aD l) aU);obtain⟨rfl,a6⟩:=g;clear b;clear s t v w x y z A B C n m;obtain⟨s,t,v,w,x,y,z,A,B⟩:=eO H;have C:=λq=>J.frozen H q;have n:=J.lt H;have m:=aW n;clear j d i;have j:=az S;have d:=J.lt S;have i:=aW d;go_wp2_with fail
 refine aQ ai ((Kp.aE ai a4 G).alloc _) aV (cU e f aO [⟨_⟩] _ (aT.setCell (ab k 5) G) _ ((ax.set aD a5 _).alloc _) (cA [⟨_⟩] au)) aM ?_;intro c a7 c c a8 g b a9 ba c;have bb:=Z (b.blk ((jC H G).alloc _) aU);have X:=Z (b.blk ((J.far S aD G).alloc _) aU);obtain rfl:=g;clear b;clear s t v w x y z A B C n m;clear j d i;have j:=az X;have d:=J.lt X;have i:=aW d;go_wp2_with fail
 refine aQ ai a9 a8 (eq e f a7 _ ba) aM ?_;intro Y c c bc bd g b be bf c;have I:=bk b bb;have c:=bk b X;obtain⟨rfl,bg⟩:=g;clear b;obtain⟨s,t,v,w,x,y,z,A,B⟩:=eO I;have C:=λq=>J.frozen I q;have n:=J.lt I;have m:=aW n;go_wp2;refine bodyPost_ret (results_none rfl _ _ _) rfl ?_;rw[bd.out];have b:=(I.aP 6 Y);have c:=(Kp.aE (p:=(ab k 6)) ai (Kp.refl [f,k] bc) Y);exact⟨(Kp.aE ai be Y),_,rfl,⟨rfl,⟨none,0,0⟩,⟨none,0,0⟩,⟨b,aF.none_ _ 14 _,aS.none_ _ _ _,(λ_ h=>by cases h),jU _,aS.none_ _ _ _,a6,bg,⟨by show _<=l;omega,by show l<=_;omega⟩⟩⟩,(ax.set aD bf.out _)⟩
def pA (a:Nat):Nat->Value
 |0=>.func (.func 300) #[] #[aj a]
 |1=>.func (.func 301) #[] #[aj a]
 |5=>.func (.func 302) #[] #[aj a]
 |6=>.func (.func 303) #[] #[aj a]
 |_=>.func (.func 299) #[] #[]
def lM (a:Nat):ByteArray:=fP.getD a e0
def mH (b:Nat):List Value:=(List.range 7).flatMap λa=>[.string (lM a),.bool (mo a),pA b a]
theorem zL (b a:Nat) (c:a<7):(mH b)[a*3]?=some (.string (lM a))/\(mH b)[a*3+1]?=some (.bool (mo a))/\(mH b)[a*3+2]?=some (pA b a):=by
 match a,c with
 |0,_=>exact⟨rfl,rfl,rfl⟩
 |1,_=>exact⟨rfl,rfl,rfl⟩
 |2,_=>exact⟨rfl,rfl,rfl⟩
 |3,_=>exact⟨rfl,rfl,rfl⟩
 |4,_=>exact⟨rfl,rfl,rfl⟩
 |5,_=>exact⟨rfl,rfl,rfl⟩
 |6,_=>exact⟨rfl,rfl,rfl⟩
 |n+7,h=>omega
theorem zM (b:Nat) (a:af):
 Calls Tryz.prog 244 #[aj b] a λc d=>c=.returned (U (some ⟨a.heap.size+1,0,none⟩) 7 7)/\d=(a.alloc (.cells #[aj b] 127)).alloc (.cells (mH a.heap.size).toArray 325):=by
 have a:∀(b:Fn) (first cap:aO) (a:af),(Instr.makeFunc b first cap).run Tryz.prog a=.ok (.func b first cap) a:=λ_ _ _ _=>rfl;go_enter Tryz.func244,Tryz.ntmps244
 go_wp2;go_ret;exact⟨rfl,rfl⟩
theorem zN (b:Nat) (a:af):Calls Tryz.prog 299 #[aj b] a λb c=>b=.returned (.tuple #[])/\a=c:=by
 go_enter Tryz.func299,Tryz.ntmps299
 go_wp2;go_end0
 exact⟨rfl,rfl⟩
structure fA (w:af) (base:Nat) (A:aX) (n c:Nat) (rs:List RE):Prop where
 own:w.ownsRow base 93 9 (U A n c) n (rs.flatMap RE.cells)
 len:rs.length=n
 few:n<=2
 sub:∀r∈rs,dX w (λb=>Bw base w.heap.size b/\∀g,A=some ⟨g,0,none⟩->b≠g) r
theorem fA.none_ (w:af) (base:Nat):fA w base none 0 0 []:=⟨⟨rfl,.inl ⟨rfl,rfl⟩⟩,rfl,by omega,λ_ h=>by cases h⟩
theorem fA.keep {w c:af} {base:Nat} {d:aX} {n e:Nat} {rs:List RE} (a:fA w base d n e rs) {l:List Nat} (k:Kp l w c) (f:∀b∈l,b<base):fA c base d n e rs:=
 ⟨bC a.own k f,a.len,a.few,λc d=>((a.sub c d).keep k (λb a h=>by have:=f b a;have:=h.1.1;omega)).mono (λb h=>⟨⟨h.1.1,aT h.1.2 k.size⟩,h.2⟩)⟩
def ii:List Value:=[.int .i64 0,.string ⟨#[]⟩,.slice none 0 0,.slice none 0 0,.slice none 0 0,.string ⟨#[]⟩,.string ⟨#[]⟩,.int .i64 0,.int .i64 0]
theorem nY (rs:List RE):(rs.flatMap RE.cells).length=rs.length*9:=mA (λa=>RE.len a) rs
theorem fA.push {w c d:af} {base P:Nat} {A j:aX} {n e c':Nat} {m:List RE} {r:RE} (a:fA w base A n e m) (k:Kp [P] w c) (F:P<base) (y:base<=w.heap.size) (F:n<=1)
 (z:dX c (Bw w.heap.size c.heap.size) r) (u:d.ownsRow base 93 9 (U j (n+1) c') (n+1) (m.flatMap RE.cells++ii)) (f:c.grownBy d (Value.slice A n e).ownBlock)
 (hat:(Value.slice j (n+1) c').ownBlock=(Value.slice A n e).ownBlock\/(Value.slice j (n+1) c').ownBlock=some c.heap.size):
 ∃g,j=some ⟨g,0,none⟩/\base<=g/\g<d.heap.size/\fA (bX d g (n*9) r.cells) base j (n+1) c' (m++[r]):=by
 rcases u.2 with⟨h,_⟩|⟨g,G,B,i,C,D,H,I,K,L⟩
 ·cases h
 injection i with e1 e2 e3
 subst e1 e3;have j:g<d.heap.size:=J.lt (t:=93) (cs:=B) D;refine⟨g,rfl,C,j,?_⟩;have j:(m.flatMap RE.cells).length=n*9:=by rw[nY,a.len]
 have E:=tS u j rfl (RE.len r);have v:Kp [g] d (bX d g (n*9) r.cells):=by
  have:∀(o:bg) (l:Nat) (q:af),Kp [g] d q->Kp [g] d (bX q g l o):=by
   intro o;induction o with
   |nil=>intro l q h;exact h
   |cons j o m=>intro l q h;exact m (l+1) _ (h.setCell (p:=(ab g l)) (.inl ai) j)
  exact this _ _ _ (Kp.refl _ _)
 have hform:∀b,(Value.slice A n e).ownBlock=some b->A=some ⟨b,0,none⟩/\base<=b/\b<w.heap.size:=by
  intro b hb';rcases a.own.2 with⟨i,_⟩|⟨g',M,l,i,o,q,_⟩
  ·rw[i]at hb';cases hb'
  rw[i]at hb';injection hb' with hb'
  injection i with e1
  subst e1;have:g'=b:=hb';subst this;exact⟨rfl,o,J.lt (t:=93) (cs:=l) q⟩
 have m:Kp ((Value.slice A n e).ownBlock.toList) c d:=⟨f.os,f.tape,f.output,f.size,λb hb' hne=>f.block b hb' (λhe=>hne (by rw[<-he];simp))⟩;have l:g<c.heap.size->(Value.slice A n e).ownBlock=some g:=by
  exact vn
 have hold:∀(i j:Nat->Prop) (x:RE),dX c i x->(∀b,i b->b<c.heap.size/\(Value.slice A n e).ownBlock≠some b)->(∀b,i b->j b)->dX (bX d g (n*9) r.cells) j x:=by
  intro i j x s hS o;have q:=s.keep m (λb hb' h=>(hS b h).2 (by
   cases gs:(Value.slice A n e).ownBlock with
   |none=>rw[gs]at hb';simp at hb'
   |some i=>rw[gs]at hb';simp at hb';rw[hb']))
  refine(q.keep v (λb hb' h=>?_)).mono o;rw[aA hb']at h;exact(hS g h).2 (l (hS g h).1)
 have d:c.heap.size<=(bX d g (n*9) r.cells).heap.size:=bR f.size v.size;have q9:=k.size;have hne:∀b,b<c.heap.size->(Value.slice A n e).ownBlock≠some b->b≠g:=λb d f he=>f (he▸l (he▸d));refine⟨?_,by rw[List.length_append,a.len];rfl,by omega,λx s=>?_⟩
 ·rw[List.flatMap_append]
  simpa using E
 rcases cY s with h|h
 ·exact nO
 rw[aA h];have o:∀b,Bw w.heap.size c.heap.size b->b<c.heap.size/\(Value.slice A n e).ownBlock≠some b:=λb hS=>⟨hS.2,λhe=>by have:=(hform b he).2.2;have:=hS.1;omega⟩;refine hold _ _ r z o (λb hS=>⟨⟨bR y hS.1,by have:=hS.2;omega⟩,λg' hg'=>?_⟩);injection hg' with hg'
 injection hg' with hg'
 subst hg';exact hne b hS.2 (o b hS).2
end Go.Proofs.YteamkimbmdgdbaaGreatDoor

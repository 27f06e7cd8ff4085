import Derived.Test.YteamkimbmdgdbaaGreatDoorK28
import Derived.Test.YteamkimbmdgdbaaGreatDoorK30
import Derived.Test.YteamkimbmdgdbaaGreatDoorK31
set_option linter.unusedSimpArgs false
set_option linter.unusedVariables false
set_option maxHeartbeats 16000000
set_option maxRecDepth 100000
namespace Go.Proofs.YteamkimbmdgdbaaGreatDoor
open Go.Proofs.Tryz
open Go.RowKit
theorem iq.same {b:Nat} {w c:ah} {v:aA} {d:List (Int×Int)} (a:iq b w v d) (k:ag w c):iq b c v d:=by
 obtain⟨h,e,f,g⟩:=a;exact⟨h,e,f.same k,g⟩
theorem iq.kp {a g:Nat} {w c:ah} {v:aA} {d:List (Int×Int)} (f:iq a w v d) (j:g<a) (k:Kp [g] w c):iq a c v d:=by
 obtain⟨h,b,i,e⟩:=f;exact⟨h,b,i.kp k (λa c b d=>by have:=e a c b;rw[aB d]at this;omega),e⟩
theorem iq.low {a l2:Nat} {w:ah} {v:aA} {b:List (Int×Int)} (c:iq a w v b) (d:l2<=a):iq l2 w v b:=by
 obtain⟨h,e,f,g⟩:=c;exact⟨h,e,f,g.mono (λa a=>bL d a)⟩
def bm (h:Hd) (a:cd):Array Value:=#[h.val,a.h1.val,a.h2.val,a.h3.val,a.h4.val,a.h5.val,a.h6.val]
theorem jk (h:Hd) (a:cd):(bm h a).all (·.oneCell')=true:=by simp[bm,Hd.val,Value.oneCell']
theorem oe {w b:ah} {e a:Nat} {g:aQ} {h:Hd} {i:List RT} {c:cd} (d:aa b a 37 g) (j:∀(k:Nat) (v:aA),g[k]?=some v->∃g k l,v=Value.slice g k l) (m:eO e b h i c) (n:a<e) (o:w.heap.size<=a) (p:ag w b):
 ag w (b.setRow a (bm h c))/\Kp [a] b (b.setRow a (bm h c))/\aa (b.setRow a (bm h c)) a 37 (bm h c)/\eO e (b.setRow a (bm h c)) h i c:=by
 have f:=(Kp.refl [a] _).grown (ih b a (bm h c)) (λd f=>.inl (by injection f with f;simp[f]));exact⟨f.eD p (λd a=>by rw[aB a];exact o),f,jG d _,m.kp n (λa v b=>by rw[aa.cell d a]at b;exact j a v b) f⟩
theorem ue (h:Hd) (e:List RI) (w:ah) (r:aD w 25 h RI.cells e) (s:∀g∈e,cz w (λt=>t<w.heap.size) g) (x:∀g∈e,g.it.cW):
 Calls prog 14 #[.agg #[h.val]] w (gd w (cT (e.map RI.it) [])):=by
 obtain⟨a,b,c⟩:=h;obtain⟨m,y⟩:∃m,m=cT (e.map RI.it) []:=⟨_,rfl⟩;have e:=Z (λi (d:ag w i)=>zF ⟨a,b,c⟩ aL e [] i (r.same d) (λg e=>cz.mono ((s g e).keep (Kp.of_same (l:=[]) d) aj) (λt e=>aR e d.size)) x jU aj aj);rw[<-y]at e⊢;clear r s x y;have M:Hid (∀d,ag w d->Calls prog 37 #[.agg #[O a b c],ab] d (gd d m)):=e;clear e;have i:=Z (show ag w ((w.alloc (.cells #[O a b c] 24)).alloc (.cells cb 37))from((ag.refl w).alloc _).alloc _);have j:=Z (aa.new (w.alloc (.cells #[O a b c] 24)) 37 cb);have k:((w.alloc (.cells #[O a b c] 24)).alloc (.cells cb 37)).heap.size=w.heap.size+1+1:=aj
 rw[show(w.alloc (.cells #[O a b c] 24)).heap.size=w.heap.size+1 by simp]at j;show Calls prog 14 #[.agg #[O a b c]] w _;go_enter func14,ntmps14
 go_upto_region 1 with(fail)
 unfold cb at i j k;have e:=Z ((aa.new w 24 #[O a b c]).alloc (.cells zab 37));obtain⟨n,g⟩:∃d,d=((w.alloc (.cells #[O a b c] 24)).alloc (.cells zab 37)):=⟨_,rfl⟩;rw[<-g]at i j k e⊢;clear g;have z:w.heap.size+1<n.heap.size:=af
 have A:=Z k;clear k;have a:ae n (aq w 0) (O a b c):=aa.cell e.out 0;have B:=Tryz.lS;go_wp2_with (first|(go_at_call 37;refine(M.out n i.out).mono ?_;rintro a a ⟨o,a,F,N,⟨f,G,d,P,C,D⟩,E⟩;subst N P;have H:=Z o;have I:=Z D;have J:=Z C;have K:=Z E;have q:=Z ((Kp.of_same (l:=[]) o).blk j.out aj);have L:=jk f d;clear o D C E)|(refine wpList_store_row rfl 37 (.tmp 2) (.tmp 6) rfl (w.heap.size+1) (bm f d) rfl rfl 37 cb q.out B rfl L ?_)|fail)
 obtain⟨a,b,c,e⟩:=oe q.out m1 I.out z (Nat.le_succ _) (i.out.trans H.out);refine bodyPost_end (v:=.tuple #[.agg (bm f d),F]) (jW (p:=2) (u:=3) rfl _ _ (w.heap.size+1) 37 (bm f d) _ rfl c underlying37 rfl B) rfl ?_;exact⟨a,_,_,rfl,⟨f,G,d,rfl,J.out,e.low (omg A)⟩,(K.out.kp z b).low (omg A)⟩
def pW (c:PO (List aE)) (b:List Cg):Su×List (Int×Int):=
 match c with
 |.bad e a=>(Su.zero,[(e,a)])
 |.ok xs _=>if(cT xs []).2≠[]\/b=[]then cT xs []else cT xs b
def gM (l:bw) (a:List Cg):Su×List (Int×Int):=pW (fS l) a
theorem Jg (o:av) (A:Hd) (a:List Cg) (b:ah) (N:Ending->World->Prop) (ax:Hid (N=gd b (gM (ba o) a))) (az:aJ o) (aA:bV b ⟨some ⟨0,0,none⟩,10,10⟩ fF) (a1:0<b.heap.size) (T:aD b 8 A Cg.cells a) (aC:∀aE∈a,aJ aE.name/\aJ aE.dflt.s) (a2:a.length<=1000):
 Calls prog 20 #[o,A.val] b N:=by
 obtain⟨U,a3,V⟩:=A;have a4:a.length=a3:=T.1;subst a4;have e:=Tryz.lS;have a5:=ud;have a6:=Z T;have a7:=Z aC;obtain⟨W,A⟩:=au (fS (ba o));have HW:Hid (N=gd b (pW W a)):=Z (by rw[ax.out,A];rfl);have X:=Z (λc (f:ag b c)=>zG o c az (aA.same f) (aR a1 f.size));rw[<-A]at X;have Y:=Z (A▸zO (ba o));have ac:=Z (λc f (h:W=.ok c f)=>(zD (A.symm.trans h)).1);clear A ax T aC az aA;have B:=Z (show ag b (b.alloc (.cells zab 37))from(ag.refl b).alloc _);have ad:Hid (aa (b.alloc (.cells zab 37)) b.heap.size 37 cb):=Z (aa.new b 37 cb);have ae:(b.alloc (.cells zab 37)).heap.size=b.heap.size+1:=by simp
 show Calls prog 20 #[o,O U a.length V] b N;go_enter func20,ntmps20
 go_upto_region 1 with(fail)
 obtain⟨ai,o⟩:=au (b.alloc (.cells zab 37));rw[<-o]at B ad ae⊢;clear o;have a8:b.heap.size<ai.heap.size:=af
 have o:=Z ae;clear ae;cases W with
 |bad c f=>
  have k:=Y c f rfl;have o:(c==0)=false:=by simpa using k
  have o:=Z k;clear k ac Y;go_wp2_with (first|(go_at_call 26;refine(X.out ai B.out).mono ?_;rintro k d ⟨m,q⟩;subst q;have n:=Z m;have aw:=Z ((((Kp.of_same (l:=[]) m).blk ad.out aj).alloc (.cells #[ab] 24)).alloc (.cells #[c,f] 97));clear m)|(refine wpList_store_row rfl 37 (.tmp 4) (.tmp 19) rfl b.heap.size cb rfl rfl 37 cb aw.out e rfl a5 ?_)|fail)
  have q:=jG aw cb;have k:=ih ((d.alloc (.cells #[ab] 24)).alloc (.cells #[c,f] 97)) b.heap.size cb;have m:=(Kp.refl [b.heap.size] _).grown k (λk m=>.inl (by injection m with m;simp[m]));have k:=n.size;have e1:(d.alloc (.cells #[ab] 24)).heap.size=d.heap.size+1:=by simp
  have k:=iI (d.alloc (.cells #[ab] 24)) #[c,f] 97 2 0 rfl (Nat.zero_le _);rw[e1]at k;have c:=cI (h:=⟨some ⟨d.heap.size+1,0,none⟩,1,1⟩) (xs:=[(c,f)]) q9 rfl aj k;refine bodyPost_ret (v:=.tuple #[.agg cb,O (some ⟨d.heap.size+1,0,none⟩) 1 1]) (jW (p:=4) (u:=5) rfl _ _ b.heap.size 37 cb _ rfl q underlying37 rfl e) rfl ?_;rw[HW.out];exact⟨m.eD (((B.out.trans n.out).alloc _).alloc _) (λf f=>by rw[aB f];exact Nat.le_refl _),_,_,rfl,ry _ _,⟨_,rfl,c.kp m (λc f f k=>by
   have e1:d.heap.size+1=c:=congrArg Addr.block (Option.some.inj f);have:=aB k;omega),λc f f=>by
   have e1:d.heap.size+1=c:=congrArg Addr.block (Option.some.inj f);omega⟩⟩
 |ok c P=>
  have a9:=Z (ac c P rfl);clear ac Y;go_upto_region 2 with(first|(go_at_call 26;refine(X.out ai B.out).mono ?_;rintro o d ⟨f,⟨g,i,j⟩,R,k,m,q,r,t⟩;have w:o=.returned (.tuple #[.agg #[O g i j],J 0,J 0]):=k;clear k;subst w;have n:=Z f;have aZ:=Z q;have a0:=Z r;have S:=Z m;clear f q r t m)|fail)
  have o:=n.size;have q:=Z (show ag d (d.alloc (.cells #[O g i j] 24))from(ag.refl d).alloc _);have Q:=Z (aa.new d 24 #[O g i j]);obtain⟨C,o⟩:=au (d.alloc (.cells #[O g i j] 24));rw[<-o]at q Q⊢;clear o;have aG:=Z (B.trans (n.trans q));have aH:=Z (aZ.same q);have aI:=Z (λf k=>cz.mono (S':=λm=>m<C.heap.size) ((a0 f k).keep (Kp.of_same (l:=[]) q) aj) (λf f=>aR f.2 q.size));have aK:=Z (λf (k:f∈R)=>a9 f.it (by rw[<-S.out];exact List.mem_map.2 ⟨f,k,rfl⟩));have aL:Hid (Calls prog 14 #[.agg #[O g i j]] C (gd C (cT c []))):=Z (by
   have h:=ue ⟨g,i,j⟩ R C aH aI aK;rw[S.out]at h;exact h)
  obtain⟨r,o⟩:=au (cT c []);rw[<-o]at aL;have ak:=Z o;clear o;have bb:=ay Q;have o:=aa.lt Q;have o:(zab:Array Value).size=7:=rfl;go_wp2_with fail
  refine aL.mono ?_;rintro al f ⟨t,bc,bd,D,⟨hh,ts,x,E,aM,be⟩,⟨⟨F,k,G⟩,H,FL,bf⟩⟩;have am:al=.returned (.tuple #[.agg (bm hh x),O F k G]):=by
   rw[D,E,H];rfl
  clear D H E;subst am;have Jh:=Z aM;have an:=jk hh x;have aN:=fP f (.cells zab 37);have aO:=World.setRow_alloc_new f zab (bm hh x) 37;clear aM bb;go_upto_region 5 with(first|(refine wpList_store_row rfl 37 (.tmp 9) (.tmp 27) rfl f.heap.size (bm hh x) rfl rfl 37 zab aN e rfl an ?_;rw[aO])|fail)
  have o:=aG.size;have hle3:=aR a8 (n.trans q).size;have m:=Z (show ag f (f.alloc (.cells (bm hh x) 37))from(ag.refl f).alloc _);have y:=Z (((Kp.of_same (l:=[]) (n.trans (q.trans t))).blk ad aj).alloc (.cells (bm hh x) 37));have ao:=Z (aa.new f 37 (bm hh x));have aP:=Z (((Kp.of_same (l:=[]) t).blk Q aj).alloc (.cells (bm hh x) 37));obtain⟨I,o⟩:=au (f.alloc (.cells (bm hh x) 37));rw[<-o]at m y ao aP⊢;clear o aN aO;have K:=Z (aG.trans (t.trans m));have aQ:=Z (be.same m);have Ji:Hid (iq C.heap.size I (O F k G) r.2):=Z ⟨⟨F,k,G⟩,rfl,FL.same m,bf⟩;have o:r.2.length=k:=FL.1;have aS:=Z o;clear o;by_cases w:r.2=[]
  case neg=>
   have o:0<k:=by rw[<-aS.out];exact List.length_pos_iff.2 w
   have o:decide ((0:Int)<(k:Int))=true:=aF
   have o:pW (.ok c P) a=r:=by
    show(if(cT c []).2≠[]\/a=[]then cT c []else cT c a)=r;rw[<-ak.out,if_pos (.inl w)]
   have rM:=Z o;clear o w;go_wp2_with (first|(refine gX rfl 37 (.tmp 9) rfl f.heap.size (bm hh x) rfl 37 ao.out _ underlying37 rfl e ?_)|(refine wpList_store_row rfl 37 (.tmp 4) (.tmp 37) rfl b.heap.size (bm hh x) rfl rfl 37 cb y.out e rfl an ?_)|fail)
   obtain⟨e1,e2,o,e4⟩:=oe y m1 aQ hle3 (Nat.le_refl _) K;refine bodyPost_ret (v:=.tuple #[.agg (bm hh x),O F k G]) (jW (p:=4) (u:=5) rfl _ _ b.heap.size 37 (bm hh x) _ rfl o underlying37 rfl e) rfl ?_;exact zP
  have bg:k=0:=by rw[<-aS.out,w];rfl
  subst bg;by_cases z:a=[]
  case pos=>
   have k:pW (.ok c P) a=r:=by
    show(if(cT c []).2≠[]\/a=[]then cT c []else cT c a)=r;rw[<-ak.out,if_pos (.inr z)]
   have rM:=Z k;have o:a.length=0:=by rw[z];rfl
   have q:((a.length:Int)==0)=true:=by rw[o];rfl
   have o:decide ((a.length:Int)=0)=true:=by rw[o];rfl
   clear k w z;go_wp2_with (first|(refine gX rfl 37 (.tmp 9) rfl f.heap.size (bm hh x) rfl 37 ao.out _ underlying37 rfl e ?_)|(refine wpList_store_row rfl 37 (.tmp 4) (.tmp 37) rfl b.heap.size (bm hh x) rfl rfl 37 cb y.out e rfl an ?_)|fail)
   obtain⟨e1,e2,f,e4⟩:=oe y m1 aQ hle3 (Nat.le_refl _) K;refine bodyPost_ret (v:=.tuple #[.agg (bm hh x),O F 0 G]) (jW (p:=4) (u:=5) rfl _ _ b.heap.size 37 (bm hh x) _ rfl f underlying37 rfl e) rfl ?_;exact zP
  have aT:pW (.ok c P) a=cT c a:=by
   show(if(cT c []).2≠[]\/a=[]then cT c []else cT c a)=cT c a;rw[<-ak.out,if_neg (by rintro(h|h);exact h w;exact z h)]
  have rM:=Z aT;have f:=List.length_pos_iff.2 z;have k:((a.length:Int)==0)=false:=aF
  have bh:Hid (Calls prog 37 #[.agg #[O g i j],O U a.length V] I (gd I (cT c a))):=Z (by
   have h:=zF ⟨g,i,j⟩ ⟨U,a.length,V⟩ R a I (aH.same (t.trans m)) (λk o=>cz.mono ((aI k o).keep (Kp.of_same (l:=[]) (t.trans m)) aj) (λk k=>aR k (t.trans m).size)) aK (a6.same K) a7 a2;rw[S.out]at h;exact h)
  have bi:=ay aP;clear aT w z f;go_wp2_with fail
  refine bh.mono ?_;rintro al bj ⟨aU,bc,bd,D,⟨L,bk,M,E,aV,bl⟩,⟨⟨ap,aq,ar⟩,H,aW,aX⟩⟩;have am:al=.returned (.tuple #[.agg (bm L M),O ap aq ar]):=by
   rw[D,E,H];rfl
  clear D H E bi;subst am;have bn:=Z aV;have bo:=jk L M;have bp:Hid (iq I.heap.size bj (O ap aq ar) (cT c a).2):=Z ⟨⟨ap,aq,ar⟩,rfl,aW,aX⟩;have aY:=Z ((Kp.of_same (l:=[]) aU).blk y aj);clear aV aW aX;go_wp2_with (first|(refine wpList_store_row rfl 37 (.tmp 4) (.tmp 42) rfl b.heap.size (bm L M) rfl rfl 37 cb aY.out e rfl bo ?_)|fail)
  have a:=K.size;have a:=aR hle3 (t.trans m).size;obtain⟨e1,e2,c,e4⟩:=oe aY m1 bl a (Nat.le_refl _) (K.trans aU);refine bodyPost_end (v:=.tuple _) (jW (p:=4) (u:=5) rfl _ _ b.heap.size 37 (bm L M) _ rfl c underlying37 rfl e) rfl ?_;rw[HW.out,rM.out];exact⟨e1,_,_,rfl,⟨L,bk,M,rfl,bn,e4.low (Nat.le_of_lt a)⟩,(bp.kp a e2).low (Nat.le_of_lt a)⟩
theorem zQ (c:av) (d:Hd) (b:List Cg) (a:ah) (f:aJ c) (g:bV a ⟨some ⟨0,0,none⟩,10,10⟩ fF) (i:0<a.heap.size) (j:aD a 8 d Cg.cells b) (k:∀e∈b,aJ e.name/\aJ e.dflt.s) (e:b.length<=1000):
 Calls prog 20 #[c,d.val] a (gd a (gM (ba c) b)):=Jg c d b a _ (Z rfl) f g i j k e
theorem rN (b:av) (a:ah) (j:aJ b) (k:bV a ⟨some ⟨0,0,none⟩,10,10⟩ fF) (m:0<a.heap.size):
 Calls prog 18 #[b] a (gd a (gM (ba b) [])):=by
 obtain⟨t,f⟩:=au (gM (ba b) []);have n:=Tryz.lS;have w:Hid (∀c,ag a c->Calls prog 20 #[b,ab] c (gd c t)):=Z (λd c=>by
  rw[f];exact zQ b aL [] d j (k.same c) (aR m c.size) jU aj aj)
 rw[<-f];clear j k m f;have g:=Z (show ag a (a.alloc (.cells zab 37))from(ag.refl a).alloc _);have i:Hid (aa (a.alloc (.cells zab 37)) a.heap.size 37 cb):=Z (aa.new a 37 cb);go_enter func18,ntmps18
 go_upto_region 1 with(fail)
 obtain⟨x,b⟩:=au (a.alloc (.cells zab 37));rw[<-b]at g i⊢;clear b;have e:=aa.lt i;go_wp2_with fail
 refine(w x g).mono ?_;rintro j b ⟨o,b,k,b,⟨c,y,d,f,q,z⟩,r⟩;have A:j=.returned (.tuple #[.agg (bm c d),k]):=by
  rw[b,f];rfl
 clear b f;subst A;have B:=Z q;have C:=Z r;have s:=Z ((Kp.of_same (l:=[]) o).blk i aj);have D:=jk c d;clear q r;go_wp2_with (first|(refine wpList_store_row rfl 37 (.tmp 2) (.tmp 6) rfl a.heap.size (bm c d) rfl rfl 37 cb s.out n rfl D ?_)|fail)
 obtain⟨b,f,g,i⟩:=oe s m1 z e (Nat.le_refl _) (g.trans o);refine bodyPost_end (v:=.tuple _) (jW (p:=2) (u:=3) rfl _ _ a.heap.size 37 (bm c d) _ rfl g underlying37 rfl n) rfl ?_;exact⟨b,_,_,rfl,⟨c,y,d,rfl,B,i.low (Nat.le_of_lt e)⟩,(C.kp e f).low (Nat.le_of_lt e)⟩
def tB:ByteArray:=⟨#[116,97,98,108,101,32,116,40,97,32,116,101,120,116,44,32,110,32,110,117,109,98,101,114,41,32,107,101,121,32,97,59,32,117,110,105,113,117,101,32,107,32,111,110,32,116,40,110,41,59]⟩
def tD:ByteArray:=⟨#[32,100,101,110,121,32,100,32,116,32,120,44,32,116,32,121,32,119,104,101,114,101,32,120,46,110,32,60,32,121,46,110,32,43,32,50,59]⟩
def tU:ByteArray:=⟨#[32,117,110,105,113,117,101,32,107,32,111,110,32,116,40,97,41,59]⟩
def tQ:ByteArray:=⟨#[113,117,101,114,121,32,113,32,61,32,115,101,108,101,99,116,40,116,32,119,104,101,114,101,32,97,32,60,32,51,41,59,32,116,97,98,108,101,32,116,40,97,32,116,101,120,116,41,32,107,101,121,32,97,59]⟩
def tK:ByteArray:=⟨#[32,107,101,101,112,32,116,46,110,32,98,121,32,108,111,110,103,101,115,116,59]⟩
def cM:Cg:=⟨3,⟨#[116]⟩,⟨#[110]⟩,⟨#[109]⟩,0,V.zero⟩
def ug (a:cF):List Int:=[a.l.var,a.l.col,a.l.v.k,a.l.v.n,(a.l.v.s.size:Int),a.r.var,a.r.col,a.r.v.k,a.r.v.n,(a.r.v.s.size:Int),a.add]
def uh (a:Ru):List (List Int):=a.cH::a.tables::a.tests.map ug
def gs (p:Su×List (Int×Int)):List (Int×Int)×List (List (List Int)):=(p.2,p.1.rules.map uh)
theorem Jo:gs (gM (ba (tB++tD)) [])=([],[[[1],[]],[[],[0,0],[0,1,0,0,0,1,1,0,0,0,2]]]):=jx
theorem Jp:gs (gM (ba (tB++tU)) [])=([(9,51)],[]):=jx
theorem Jq:gs (gM (ba tQ) [])=([(10,10)],[]):=jx
theorem Jr:gs (gM (ba (tB++tK)) [])=([(10,51)],[]):=jx
theorem Js:gs (gM (ba tB) [cM])=([],[[[1],[]]]):=jx
theorem lT {a:Su×List (Int×Int)} {b:List (Int×Int)} {c:List (List (List Int))} (h:gs a=(b,c)):a.2=b:=congrArg Prod.fst h
theorem Jt {a:Su×List (Int×Int)} {c:List (Int×Int)} {b:List (List (List Int))} (h:gs a=(c,b)):a.1.rules.map uh=b:=congrArg Prod.snd h
theorem zS {a:av} (h:(a.size:Int)=0):a=⟨#[]⟩:=by
 obtain⟨⟨b⟩⟩:=a;have:b.length=0:=by
  have h:((b.length:Nat):Int)=0:=h;omega
 rw[List.length_eq_zero_iff]at this;subst this;rfl
theorem zT {b c:Type} {d:b->c} {l:List b} {b:c} (h:l.map d=[b]):∃a,l=[a]/\d a=b:=by
 match l,h with
 |[a],h=>exact⟨a,rfl,by simpa using h⟩
theorem Ju {c d:Type} {b:c->d} {l:List c} {c e:d} (h:l.map b=[c,e]):∃a y,l=[a,y]/\b a=c/\b y=e:=by
 match l,h with
 |[a,y],h=>exact⟨a,y,rfl,by simpa using h⟩
theorem zU {a:cd} {d:List Tb} {b:Su×List (Int×Int)} {e:List (Int×Int)} {c:List (List (List Int))} (f:a.su d=b.1) (h:gs b=(e,c)):a.rs.map (λy=>uh y.ru)=c:=by
 have:=Jt h;rw[<-f]at this;simpa[cd.su,Function.comp_def]using this
theorem ui {h:Hd} {b:Nat} (d:b=h.n):h.val=.slice h.a b h.c:=by
 obtain⟨f,e,g⟩:=h;have d:b=e:=d;subst d;rfl
theorem uj {b:ah} {h:Hd} {l m:List Int} (d:cX b h l) (e:l=m):h.val=.slice h.a m.length h.c/\cX b ⟨h.a,m.length,h.c⟩ m:=by
 subst e;obtain⟨i,f,j⟩:=h;have g:l.length=f:=d.1;subst g;exact⟨rfl,d⟩
theorem eO.rule {i:Nat} {c:ah} {h:Hd} {b:List RT} {e:cd} (j:eO i c h b e) (g:Nat) {y:cj} (k:e.rs[g]?=some y):∃b d,e.h5.a=some ⟨b,d,none⟩/\b<c.heap.size/\(∀e f,y.cells[e]?=some f->ae c (ac b (d+g*10+e)) f)/\eV c (λb=>i<=b) y:=by
 obtain⟨c,i⟩:=List.getElem?_eq_some_iff.1 k;obtain⟨b,d,g,k,l⟩:=j.l5.2.2 g c;exact⟨b,d,g,k,λe f b=>l e f (by rw[i];exact b),j.r y (i▸List.getElem_mem c)⟩
theorem Jv {a:cF} (h:ug a=[0,1,0,0,0,1,1,0,0,0,2]):∃b,a=⟨⟨0,1,⟨0,0,⟨#[]⟩⟩⟩,b,⟨1,1,⟨0,0,⟨#[]⟩⟩⟩,2⟩:=by
 obtain⟨⟨q,r,⟨s,t,u⟩⟩,b,⟨v,w,⟨x,y,z⟩⟩,A⟩:=a;simp only[ug,List.cons.injEq,and_true]at h;obtain⟨c,d,e,f,g,i,j,k,l,m,n⟩:=h;have o:=zS g;have p:=zS m;subst c d e f o i j k l p n;exact⟨b,rfl⟩
def tC (a:Int):List Value:=[.int .i64 0,.int .i64 1,.int .i64 0,.int .i64 0,.string ⟨#[]⟩,.int .i64 a,.int .i64 1,.int .i64 1,.int .i64 0,.int .i64 0,.string ⟨#[]⟩,.int .i64 2]
theorem Jw {f:Nat} {a:ah} {h:Hd} {r:List RT} {e:cd} {s:List Tb} {b:Su×List (Int×Int)} {t:List (Int×Int)} (k:eO f a h r e) (D:e.su s=b.1) (E:gs b=(t,[[[1],[]],[[],[0,0],[0,1,0,0,0,1,1,0,0,0,2]]])):
 ∃(b f F:Nat) (r:aT) (s:Nat) (t:aT) (u d g G:Nat) (n:Int),e.h5.val=.slice (some ⟨b,f,none⟩) 2 F/\b<a.heap.size/\ae a (ac b (f+3)) (O r 1 s)/\cX a ⟨r,1,s⟩ [1]/\
  ae a (ac b (f+10+8)) (O t 2 u)/\cX a ⟨t,2,u⟩ [0,0]/\ae a (ac b (f+10+9)) (O (some ⟨d,g,none⟩) 1 G)/\d<a.heap.size/\∀i j,(tC n)[i]?=some j->ae a (ac d (g+i)) j:=by
 obtain⟨a,o,p,e0,v⟩:=Ju (zU D E);obtain⟨w,x,hA1,H,I,u0⟩:=k.rule 0 (y:=a) (by rw[p];rfl);obtain⟨a,b,hA2,_,z,u1⟩:=k.rule 1 (y:=o) (by rw[p];rfl);rw[hA1]at hA2;have J:w=a:=congrArg Addr.block (Option.some.inj hA2);have K:x=b:=congrArg Addr.off (Option.some.inj hA2);subst J K;have A:=k.l5.1;rw[p]at A;have B:=uj u0.lc (m:=[1]) (List.cons.inj e0).1;have C:=uj u1.lb (m:=[0,0]) (List.cons.inj (List.cons.inj v).2).1;obtain⟨a,q,L⟩:=zT (l:=o.tests) (List.cons.inj (List.cons.inj v).2).2;obtain⟨n,rfl⟩:=Jv L;have a:=u1.ls.1;obtain⟨d,g,b,f,k⟩:=u1.ls.2.2 0 (by rw[q];exact Nat.zero_lt_one);refine⟨w,x,e.h5.c,_,_,_,_,d,g,o.hs.c,n,by rw[ui A,hA1];rfl,H,?_,B.2,?_,C.2,?_,f,λi j d=>?_⟩
 ·have h:=I 3 _ rfl
  rw[B.1]at h;simpa using h
 ·have h:=z 8 _ rfl
  rw[C.1]at h;simpa using h
 ·have h:=z 9 _ rfl
  rw[ui a,b,q]at h;simpa using h
 have h:=k i j (by simp only[q];exact d);simpa using h
theorem Jx {f:Nat} {a:ah} {h:Hd} {g:List RT} {b:cd} {i:List Tb} {d:Su×List (Int×Int)} {j:List (Int×Int)} (e:eO f a h g b) (k:b.su i=d.1) (l:gs d=(j,[[[1],[]]])):
 ∃(d f j:Nat) (g:aT) (i:Nat),b.h5.val=.slice (some ⟨d,f,none⟩) 1 j/\d<a.heap.size/\ae a (ac d (f+3)) (O g 1 i)/\cX a ⟨g,1,i⟩ [1]:=by
 obtain⟨d,a,e0⟩:=zT (zU k l);obtain⟨f,g,hA1,i,j,u0⟩:=e.rule 0 (y:=d) (by rw[a];rfl);have d:=e.l5.1;rw[a]at d;have a:=uj u0.lc (m:=[1]) (List.cons.inj e0).1;refine⟨f,g,b.h5.c,_,_,by rw[ui d,hA1];rfl,i,?_,a.2⟩;have h:=j 3 _ rfl;rw[a.1]at h;simpa using h
theorem uk {c:ah} {d:aT} {a:Nat} {p:Int×Int} (l:aD c 2 ⟨d,1,a⟩ dS [p]):∃a b,d=some ⟨a,b,none⟩/\a<c.heap.size/\ae c (ac a b) p.1/\ae c (ac a (b+1)) p.2:=by
 obtain⟨a,b,d,e,c⟩:=l.2.2 0 Nat.zero_lt_one;exact⟨a,b,d,e,by simpa using c 0 _ rfl,by simpa using c 1 _ rfl⟩
theorem Jy (w:ah) (B:bV w ⟨some ⟨0,0,none⟩,10,10⟩ fF) (C:0<w.heap.size):
 Calls prog 12 #[] w λc ac=>c=.returned (.bool true)/\ag w ac:=by
 have D:=Tryz.lS;have aM:∀a,(Op.stringOp .add ({data:=#[116,97,98,108,101,32,116,40,97,32,116,101,120,116,44,32,110,32,110,117,109,98,101,114,41,32,107,101,121,32,97,59,32,117,110,105,113,117,101,32,107,32,111,110,32,116,40,110,41,59]}:ByteArray) {data:=#[32,100,101,110,121,32,100,32,116,32,120,44,32,116,32,121,32,119,104,101,114,101,32,120,46,110,32,60,32,121,46,110,32,43,32,50,59]}).run prog a=.ok (.string (tB++tD)) a:=λa=>run_string_add_sum a tB tD (by show tB.size+tD.size<=_;decide+kernel);obtain⟨ad,N⟩:=au (tB++tD);simp only[<-N]at aM;have aN:aJ ad:=by rw[N];unfold aJ;try decide+kernel
 obtain⟨aO,af⟩:=au (gM (ba ad) []);have aP:=Z (show gs aO=([],[[[1],[]],[[],[0,0],[0,1,0,0,0,1,1,0,0,0,2]]]) by rw[af,N];exact Jo);have aQ:=Z (λa (b:ag w a)=>rN ad a aN (B.same b) (aR C b.size));simp only[<-af]at aQ;clear af N aN;have aT:∀a,(Op.stringOp .add ({data:=#[116,97,98,108,101,32,116,40,97,32,116,101,120,116,44,32,110,32,110,117,109,98,101,114,41,32,107,101,121,32,97,59,32,117,110,105,113,117,101,32,107,32,111,110,32,116,40,110,41,59]}:ByteArray) {data:=#[32,117,110,105,113,117,101,32,107,32,111,110,32,116,40,97,41,59]}).run prog a=.ok (.string (tB++tU)) a:=λa=>run_string_add_sum a tB tU (by show tB.size+tU.size<=_;decide+kernel);obtain⟨ad,N⟩:=au (tB++tU);simp only[<-N]at aT;have aN:aJ ad:=by rw[N];unfold aJ;try decide+kernel
 obtain⟨aU,af⟩:=au (gM (ba ad) []);have aV:=Z (show gs aU=([(9,51)],[]) by rw[af,N];exact Jp);have aW:=Z (λa (b:ag w a)=>rN ad a aN (B.same b) (aR C b.size));simp only[<-af]at aW;clear af N aN;obtain⟨ad,N⟩:=au tQ;have aN:aJ ad:=by rw[N];unfold aJ;try decide+kernel
 obtain⟨ak,af⟩:=au (gM (ba ad) []);have aX:=Z (show gs ak=([(10,10)],[]) by rw[af,N];exact Jq);have ad:=Z (λa (b:ag w a)=>rN ad a aN (B.same b) (aR C b.size));simp only[<-af]at ad;have bQ:Hid (∀a,ag w a->Calls prog 18 #[.string {data:=#[113,117,101,114,121,32,113,32,61,32,115,101,108,101,99,116,40,116,32,119,104,101,114,101,32,97,32,60,32,51,41,59,32,116,97,98,108,101,32,116,40,97,32,116,101,120,116,41,32,107,101,121,32,97,59]}] a (gd a ak)):=Z (by have h:=ad.out;rw[N]at h;exact h);clear af N aN;have aY:∀a,(Op.stringOp .add ({data:=#[116,97,98,108,101,32,116,40,97,32,116,101,120,116,44,32,110,32,110,117,109,98,101,114,41,32,107,101,121,32,97,59,32,117,110,105,113,117,101,32,107,32,111,110,32,116,40,110,41,59]}:ByteArray) {data:=#[32,107,101,101,112,32,116,46,110,32,98,121,32,108,111,110,103,101,115,116,59]}).run prog a=.ok (.string (tB++tK)) a:=λa=>run_string_add_sum a tB tK (by show tB.size+tK.size<=_;decide+kernel);obtain⟨ad,N⟩:=au (tB++tK);simp only[<-N]at aY;have aN:aJ ad:=by rw[N];unfold aJ;try decide+kernel
 obtain⟨aZ,af⟩:=au (gM (ba ad) []);have a0:=Z (show gs aZ=([(10,51)],[]) by rw[af,N];exact Jr);have a1:=Z (λa (b:ag w a)=>rN ad a aN (B.same b) (aR C b.size));simp only[<-af]at a1;clear af N aN;obtain⟨al,N⟩:=au (gM (ba tB) [cM]);have a2:=Z (show gs al=([],[[[1],[]]]) by rw[N];exact Js);have bR:Hid (∀a,ag w a->∀b d,aD a 8 ⟨b,1,d⟩ Cg.cells [cM]->Calls prog 20 #[.string {data:=#[116,97,98,108,101,32,116,40,97,32,116,101,120,116,44,32,110,32,110,117,109,98,101,114,41,32,107,101,121,32,97,59,32,117,110,105,113,117,101,32,107,32,111,110,32,116,40,110,41,59]},O b 1 d] a (gd a al)):=Z (λa b e d f=>by
  rw[N];exact zQ tB ⟨e,1,d⟩ [cM] a (by unfold aJ;try decide+kernel) (B.same b) (aR C b.size) f (λd b=>by rw[aB b];constructor<;>(unfold aJ;try decide+kernel)) aj)
 clear N B C;have a3:=Z (ag.refl w);obtain⟨B,bS⟩:=au w;go_enter func12,ntmps12
 go_wp2_with fail
 refine(aQ w a3).mono ?_;rintro c j ⟨a4,P,Q,d,⟨b,B,u,e,a5,a6⟩,⟨⟨bT,f,bU⟩,g,a7,n⟩⟩;have o:f=0:=by
  have b:aO.2.length=f:=a7.1;rw[lT aP.out]at b;exact b.symm
 subst o;have q:c=.returned (.tuple #[.agg (bm b u),O bT 0 bU]):=by
  rw[d,e,g];rfl
 clear d g e n;subst q;have a8:=jk b u;have a9:=fP j (.cells zab 37);have bb:=World.setRow_alloc_new j zab (bm b u) 37;have am:=Z (show ag j (j.alloc (.cells (bm b u) 37))from(ag.refl j).alloc _);have bd:=Z (aa.new j 37 (bm b u));go_upto_region 3 with(first|(refine wpList_store_row rfl 37 (.tmp 2) (.tmp 18) rfl j.heap.size (bm b u) rfl rfl 37 zab a9 D rfl a8 ?_;rw[bb])|fail)
 obtain⟨bW,u⟩:=au (j.alloc (.cells (bm b u) 37));rw[<-u]at am bd⊢;clear u a9 bb a8;have be:=Z (a3.trans (a4.trans am));clear aM;go_wp2_with fail
 refine(aW bW be).mono ?_;rintro c v ⟨an,P,Q,d,⟨t,u,E,e,bX,bY⟩,⟨⟨bZ,f,b0⟩,g,ao,n⟩⟩;have o:f=1:=by
  have b:aU.2.length=f:=ao.1;rw[lT aV.out]at b;exact b.symm
 subst o;have q:c=.returned (.tuple #[.agg (bm t E),O bZ 1 b0]):=by
  rw[d,e,g];rfl
 clear d g e n;subst q;have bf:=jk t E;have bg:=fP v (.cells zab 37);have bh:=World.setRow_alloc_new v zab (bm t E) 37;have R:=Z (show ag v (v.alloc (.cells (bm t E) 37))from(ag.refl v).alloc _);go_upto_region 4 with(first|(refine wpList_store_row rfl 37 (.tmp 4) (.tmp 24) rfl v.heap.size (bm t E) rfl rfl 37 zab bg D rfl bf ?_;rw[bh])|fail)
 obtain⟨b1,u⟩:=au (v.alloc (.cells (bm t E) 37));rw[<-u]at R⊢;clear u bg bh bf;have bi:=Z (be.trans (an.trans R));clear aT;go_wp2_with fail
 refine(bQ b1 bi).mono ?_;rintro c x ⟨ap,P,Q,d,⟨F,u,G,e,b2,b3⟩,⟨⟨b5,f,b6⟩,g,ar,n⟩⟩;have o:f=1:=by
  have b:ak.2.length=f:=ar.1;rw[lT aX.out]at b;exact b.symm
 subst o;have q:c=.returned (.tuple #[.agg (bm F G),O b5 1 b6]):=by
  rw[d,e,g];rfl
 clear d g e n;subst q;have bk:=jk F G;have bl:=fP x (.cells zab 37);have bn:=World.setRow_alloc_new x zab (bm F G) 37;have S:=Z (show ag x (x.alloc (.cells (bm F G) 37))from(ag.refl x).alloc _);go_upto_region 5 with(first|(refine wpList_store_row rfl 37 (.tmp 6) (.tmp 28) rfl x.heap.size (bm F G) rfl rfl 37 zab bl D rfl bk ?_;rw[bn])|fail)
 obtain⟨b8,u⟩:=au (x.alloc (.cells (bm F G) 37));rw[<-u]at S⊢;clear u bl bn bk;have bp:=Z (bi.trans (ap.trans S));go_wp2_with fail
 refine(a1 b8 bp).mono ?_;rintro c y ⟨av,P,Q,d,⟨H,u,I,e,b9,ca⟩,⟨⟨cb,f,cd⟩,g,ax,n⟩⟩;have o:f=1:=by
  have b:aZ.2.length=f:=ax.1;rw[lT a0.out]at b;exact b.symm
 subst o;have q:c=.returned (.tuple #[.agg (bm H I),O cb 1 cd]):=by
  rw[d,e,g];rfl
 clear d g e n;subst q;have bq:=jk H I;have br:=fP y (.cells zab 37);have bs:=World.setRow_alloc_new y zab (bm H I) 37;have T:=Z (show ag y (y.alloc (.cells (bm H I) 37))from(ag.refl y).alloc _);go_upto_region 6 with(first|(refine wpList_store_row rfl 37 (.tmp 8) (.tmp 34) rfl y.heap.size (bm H I) rfl rfl 37 zab br D rfl bq ?_;rw[bs])|fail)
 obtain⟨U,u⟩:=au (y.alloc (.cells (bm H I) 37));rw[<-u]at T⊢;clear u br bs bq;have u:=Z (bp.trans (av.trans T));clear aY;have bt:=Z (show ag w (U.alloc (.cells cM.cells.toArray 99))from u.alloc _);have V:=Z (cI (enc:=Cg.cells) (m:=8) (h:=⟨some ⟨U.heap.size,0,none⟩,1,1⟩) (xs:=[cM]) (λ_=>rfl) rfl aj (iI U cM.cells.toArray 99 8 0 rfl (Nat.zero_le _)));go_wp2_with fail
 refine(bR _ bt _ _ V).mono ?_;rintro c k ⟨az,P,Q,d,⟨z,u,A,e,bu,bv⟩,⟨⟨ce,f,cf⟩,g,bw,n⟩⟩;have o:f=0:=by
  have b:al.2.length=f:=bw.1;rw[lT a2.out]at b;exact b.symm
 subst o;have q:c=.returned (.tuple #[.agg (bm z A),O ce 0 cf]):=by
  rw[d,e,g];rfl
 clear d g e n;subst q;have bx:=jk z A;have bz:=fP k (.cells zab 37);have bA:=World.setRow_alloc_new k zab (bm z A) 37;have W:=Z (show ag k (k.alloc (.cells (bm z A) 37))from(ag.refl k).alloc _);have bB:=Z (aa.new k 37 (bm z A));go_upto_region 7 with(first|(refine wpList_store_row rfl 37 (.tmp 10) (.tmp 41) rfl k.heap.size (bm z A) rfl rfl 37 zab bz D rfl bx ?_;rw[bA])|fail)
 obtain⟨i,d⟩:=au (k.alloc (.cells (bm z A) 37));rw[<-d]at W bB⊢;clear d bz bA bx;have cg:=Z (bt.trans (az.trans W));have d:=Z (((ag.refl U).alloc (.cells cM.cells.toArray 99)).trans (az.trans W));have e:=Z (av.trans (T.trans d));have f:=Z (ap.trans (S.trans e));have g:=Z (an.trans (R.trans f));have n:=Z (a6.same (am.trans g));have o:=Z (bv.same W);have bC:=Z ((Kp.of_same (l:=[]) g).blk bd aj);have aA:=bB;have f:=Z (by have h:=ao.same (R.out.trans f.out);rw[lT aV.out]at h;exact h);have e:=Z (by have h:=ar.same (S.out.trans e.out);rw[lT aX.out]at h;exact h);have d:=Z (by have h:=ax.same (T.out.trans d.out);rw[lT a0.out]at h;exact h);obtain⟨L,aC,aE,K,ch,ci,cj,ck,cl,g,r,bD,L1,cm,cn,co,cp,n,q,cq⟩:=Jw n a5 aP;obtain⟨aF,bE,bF,cr,cs,bG,ct,cv,cw⟩:=Jx o bu a2;obtain⟨bH,f,cx,bI,cy,cz⟩:=uk f;obtain⟨bJ,e,cA,bK,cB,cC⟩:=uk e;obtain⟨cD,d,cE,cF,cG,_⟩:=uk d;subst cx cA cE;clear a4 an ap av az a6 bY b3 ca bv a5 bX b2 b9 bu a7 ao ar ax bw;have d:ae i (aq j 5) (O (some ⟨L,aC,none⟩) 2 aE):=by rw[<-bD];exact aa.cell bC.out 5
 have e:ae i (aq k 5) (O (some ⟨aF,bE,none⟩) 1 bF):=by rw[<-bG];exact aa.cell aA.out 5
 have V:=Z bI;have bL:=Z d;have cH:=Z e;have bM:=Z (aa.lt bC);have cJ:=Z (aa.lt aA);clear bD bG bI D bS aA;go_upto_region 9 with(fail)
 have cK:=Z (fP i (.cells #[J 0,J 0,J 0,J 0,ai,J 0,J 0,J 0,J 0,J 0,ai,J 0] 73));have cL:=Z (World.setRow_alloc_new i #[J 0,J 0,J 0,J 0,ai,J 0,J 0,J 0,J 0,J 0,ai,J 0] #[J 0,J 1,J 0,J 0,ai,r,J 1,J 1,J 0,J 0,ai,J 2] 73);have cN:=Z (show(#[J 0,J 1,J 0,J 0,ai,r,J 1,J 1,J 0,J 0,ai,J 2]:Array Value).all (·.oneCell')=true by simp[Value.oneCell']);have cO:=Z (show(some 12:Option Nat)=some (tC r).length from rfl);have bN:(some 12:Option Nat)=some (#[J 0,J 1,J 0,J 0,ai,r,J 1,J 1,J 0,J 0,ai,J 2]:Array Value).size:=rfl;go_upto_region 10 with(first|(refine mW rfl 73 (.tmp 92) rfl ck cl [.int .i64 0,.int .i64 1,.int .i64 0,.int .i64 0,.string ⟨#[]⟩,.int .i64 r,.int .i64 1,.int .i64 1,.int .i64 0,.int .i64 0,.string ⟨#[]⟩,.int .i64 2] rfl cq _ underlying73 rfl cO.out ?_)|(refine wpList_store_row rfl 73 (.tmp 12) (.tmp 93) rfl i.heap.size #[J 0,J 1,J 0,J 0,ai,r,J 1,J 1,J 0,J 0,ai,J 2] rfl rfl 73 #[J 0,J 0,J 0,J 0,ai,J 0,J 0,J 0,J 0,J 0,ai,J 0] cK.out bN.out rfl cN.out ?_;rw[cL.out])|fail)
 clear bN;try rw[jj]
 refine aw ?_;have M:=Z (show ag i (i.alloc (.cells #[J 0,J 1,J 0,J 0,ai,r,J 1,J 1,J 0,J 0,ai,J 2] 73))from(ag.refl i).alloc _);have bO:=Z (aa.new i 73 #[J 0,J 1,J 0,J 0,ai,r,J 1,J 1,J 0,J 0,ai,J 2]);obtain⟨aG,d⟩:=au (i.alloc (.cells #[J 0,J 1,J 0,J 0,ai,r,J 1,J 1,J 0,J 0,ai,J 2] 73));rw[<-d]at M bO⊢;clear d;have aH:Hid (∀a,ag i a->∀K e f g (d:List Int),cX i ⟨K,d.length,e⟩ d->cX a ⟨f,d.length,g⟩ d->Calls prog 34 #[O K d.length e,O f d.length g] a λc ac=>c=.returned (.bool true)/\ag a ac):=Z (λa e K f g i d b t=>by
  have h:=zR ⟨K,d.length,f⟩ ⟨g,d.length,i⟩ d d a (b.same e) t;simp only[decide_true]at h;exact h)
 have a:ae aG (aq j 5) (O (some ⟨L,aC,none⟩) 2 aE):=(M.cell (p:=⟨_,5,none⟩) bM).trans bL;have cP:=(M.cell (p:=⟨L,_,none⟩) L1).trans cm;go_wp2_with fail
 clear cP;refine(aH _ (M.alloc _) K ch _ 1 [1] cn (cI (enc:=cu) (m:=1) (h:=⟨some ⟨aG.heap.size,0,none⟩,1,1⟩) (xs:=[(1:Int)]) (λ_=>rfl) rfl aj (iI aG _ 3 1 0 rfl (Nat.zero_le _)))).mono ?_;rintro c X ⟨rfl,aI⟩;have Y:=Z ((M.alloc (.cells #[J 1] 3)).trans aI);have cQ:=Z ((Kp.of_same (l:=[]) aI).blk (bO.alloc (.cells #[J 1] 3)) aj);clear aI;have a:ae X (aq j 5) (O (some ⟨L,aC,none⟩) 2 aE):=(Y.cell (p:=⟨_,5,none⟩) bM).trans bL;have cR:=(Y.cell (p:=⟨L,_,none⟩) L1).trans co;go_wp2_with fail
 clear cR;refine(aH _ (Y.alloc _) ci cj _ 2 [0,0] cp (cI (enc:=cu) (m:=1) (h:=⟨some ⟨X.heap.size,0,none⟩,2,2⟩) (xs:=[(0:Int),0]) (λ_=>rfl) rfl aj ⟨rfl,.inr ⟨X.heap.size,2,_,rfl,Nat.zero_le _,aa.new X 3 _,Nat.le_refl _,by unfold maxLen;omega,by simp,rfl⟩⟩)).mono ?_;rintro c aK ⟨rfl,aL⟩;have s:=Z ((Y.alloc (.cells #[J 0,J 0] 3)).trans aL);have a:=Z ((Kp.of_same (l:=[]) aL).blk (cQ.alloc (.cells #[J 0,J 0] 3)) aj);clear aL;have b:=ay a;have b:=aS a;have b:=bc a;have b:=bj a;have b:=bo a;have b:=cc a;have b:=b7 a;have b:=b4 a;have b:=jn a;have b:=nj a;have a:=oB a;have cS:=(s.cell (p:=⟨bH,_,none⟩) V).trans cy;have cT:=(s.cell (p:=⟨bH,_,none⟩) V).trans cz;have cU:=(s.cell (p:=⟨bJ,_,none⟩) bK).trans cB;have cV:=(s.cell (p:=⟨bJ,_,none⟩) bK).trans cC;have cW:=(s.cell (p:=⟨cD,_,none⟩) cF).trans cG;have a:ae aK (aq k 5) (O (some ⟨aF,bE,none⟩) 1 bF):=(s.cell (p:=⟨_,5,none⟩) cJ).trans cH;have cY:=(s.cell (p:=⟨aF,_,none⟩) ct).trans cv;go_wp2_with fail
 refine(aH _ (s.alloc _) cr cs _ 1 [1] cw (cI (enc:=cu) (m:=1) (h:=⟨some ⟨aK.heap.size,0,none⟩,1,1⟩) (xs:=[(1:Int)]) (λ_=>rfl) rfl aj (iI aK _ 3 1 0 rfl (Nat.zero_le _)))).mono ?_;rintro c a ⟨rfl,bP⟩;have cZ:=Z (cg.trans ((s.alloc (.cells #[J 1] 3)).trans bP));clear bP cS cT cU cV cW cY;go_wp2;go_ret;exact⟨rfl,cZ⟩
theorem ol:∀(b:List ((Int×Int)×aE)) (a:Su) (c:List (Int×Int)),(dg a c b).1.tabs=a.tabs
 |[],a,c=>rfl
 |(g,x)::b,a,c=>by
  rw[dg];split
  ·cases hp:ci a x with
   |ok d=>exact(ol b d c).trans (rv hp).tabs
   |bad d e=>
    dsimp only;split
    ·exact ol b a c
    exact ol b a _
  exact ol b a _
theorem kR.refl (a:List At):kR a a:=λ_ _=>⟨rfl,rfl⟩
theorem zV {a:List Tb} {b:Nat} (h:b<a.length):co a (b:Int)=a[b]:=by
 unfold co;rw[Int.toNat_natCast,List.getElem?_eq_getElem h];rfl
theorem rO (a b:av):ba (a++b)=ba a++ba b:=by
 unfold ba;rw[ByteArray.data_append,Array.toList_append]
theorem pX (a b:av):(a++b).size=a.size+b.size:=by
 rw[<-dU,rO,List.length_append,dU,dU]
theorem zW {a b c:av} (h:a++c=b++c):a=b:=by
 refine kV ?_;have a:=congrArg ba h;rw[rO,rO]at a;exact List.append_cancel_right a
theorem zX (b:Int):∀(a:List dB) (c:List At),(fV b c a).Nz
 |[],_=>.ok
 |_::a,_=>.ap (.ap (.ap (.ap (zX b a _))))
theorem zY (a:List Tb) (b:aE):(ea a b).Nz:=.ap ((zX _ _ _).bind λ_=>.ap ((tL _ _ _ _).bind λ_=>.ok))
def lU (a:av):Bool:=(ba a).all gt&&decide (a.size<=4)
theorem Jz {a c:av} (h:bz a=true) (d:lU c=true) (i:a.size<=20):bz (a++c)=true:=by
 unfold bz lU at*;simp only[Bool.and_eq_true,decide_eq_true_eq]at h d⊢;refine⟨?_,by rw[pX];omega,by rw[pX];omega⟩;rw[rO];have e:(ba a).length≠0:=by rw[dU];exact h.2.1
 have b:=h.1;cases hb:ba a with
 |nil=>rw[hb]at e;exact absurd rfl e
 |cons f g=>
  rw[hb]at b;unfold fT at b;simp only[Bool.and_eq_true]at b;show(gN f&&(g++ba c).all gt)=true;rw[List.all_append,b.1,b.2,d.1];rfl
def gf (b:av) (a:Tb):Tb:={a with name:=a.name++b}
theorem zZ (c:List Tb) (a b:av):cA (c.map (gf b)) (a++b)=cA c a:=by
 unfold cA ce;rw[List.findIdx?_map];have d:((λc:Tb=>decide (c.name=a++b))∘gf b)=λc=>decide (c.name=a):=by
  funext c
  show decide (c.name++b=a++b)=decide (c.name=a);by_cases h:c.name=a
  ·rw[h];simp
  rw[decide_eq_false h,decide_eq_false (λa=>h (zW a))]
 rw[d]
theorem z1 (a:List Tb) (d:av) (b:Int) (c:0<=b/\b<a.length):(co (a.map (gf d)) b).attrs=(co a b).attrs:=by
 obtain⟨e,rfl⟩:=Int.eq_ofNat_of_zero_le c.1;have a:e<a.length:=by have:=c.2;omega
 rw[zV a,zV (by simpa using a),List.getElem_map];rfl
theorem JA {a:List Tb} (e:∀b∈a,jS b) (c:av):m4 (·++c) a (a.map (gf c)):=by
 refine⟨λd _=>zZ a d c,λd f=>?_,λb g=>by rw[z1 a c b g];exact .refl _⟩;unfold fM;split
 ·rename_i g
  subst g;unfold cA at f;rcases kZ (λb:Tb=>decide (b.name=e0)) a with⟨h,_⟩|⟨k,i,_,j,_⟩
  ·omega
  have b:=(e _ (List.getElem_mem i)).nm;rw[of_decide_eq_true j]at b;exact absurd b jx
 exact zZ a d c
def gU (b:av) (a:Int×ByteArray):Int×ByteArray:=if a.1=1 then(a.1,a.2++b)else a
theorem JB (d:ch) (a:Int) (c b:av):dD (d.map (gU b)) a (if a=1 then c++b else c)=dD d a c:=by
 unfold dD;rw[List.any_map];congr 1
 funext p
 show(decide ((gU b p).1=a)&&decide ((gU b p).2=_))=_;unfold gU;by_cases e:p.1=1
 ·rw[if_pos e]
  by_cases d:p.1=a
  ·rw[if_pos af]
   by_cases h:p.2=c
   ·rw[h];simp
   rw[decide_eq_false h,decide_eq_false (show¬p.2++b=c++b from λd=>h (zW d))]
  simp[d]
 rw[if_neg e];by_cases b:p.1=a
 ·rw[if_neg af]
 rw[decide_eq_false b];rfl
theorem JC {a:aE} (h:aY a.kind 1 10=true):(eK a.kind=1)=(a.kind=1):=by
 unfold eK;split
 ·exact propext ⟨λh=>by omega,λh=>by omega⟩
 rfl
theorem z6 {c:ch} {a:aE} {b:av} (k:lU b=true) (d:(dm c a).2=0) (l:a.kind=1->a.name.size<=20):dm (c.map (gU b)) (cZ (·++b) a)=((dm c a).1.map (gU b),0):=by
 have g:(cZ (·++b) a).name=if a.kind=1 then a.name++b else a.name:=rfl
 unfold dm at*;show(if aY a.kind 1 10=true then _ else _)=_;split at d
 ·rename_i i
  rw[if_pos i,if_pos i];by_cases e:a.kind=5
  ·rw[if_pos (show(cZ (·++b) a).kind=5 from e),if_pos e]
  rw[if_neg e]at d;rw[if_neg (show¬(cZ (·++b) a).kind=5 from e),if_neg e];by_cases f:bz a.name=true
  ·rw[if_pos f]at d
   have m:bz (cZ (·++b) a).name=true:=by
    rw[g];split
    ·rename_i e;exact Jz f k (l e)
    exact f
   rw[if_pos m,if_pos f];by_cases j:dD c (eK a.kind) a.name=true
   ·rw[if_pos j]at d;cases d
   have e:=JC i;have i:dD (c.map (gU b)) (eK a.kind) (cZ (·++b) a).name=dD c (eK a.kind) a.name:=by
    rw[g,<-JB c (eK a.kind) a.name b];simp only[e]
   show(if dD (c.map (gU b)) (eK a.kind) (cZ (·++b) a).name=true then _ else _)=_;rw[i,if_neg j,if_neg j,g];refine Prod.ext ?_ rfl;show(eK a.kind,_)::_=List.map _ (_::_);rw[List.map_cons];congr 1
   unfold gU;simp only[e];split<;>rfl
  rw[if_neg f]at d;cases d
 cases d
theorem JD {c:List Tb} {a:aE} {b:av} (f:a.kind=1) {d:Tb} (h:ea c a=.ok d):ea (c.map (gf b)) (cZ (·++b) a)=.ok (gf b d):=by
 have g:(cZ (·++b) a).name=a.name++b:=if_pos f;unfold ea at*;obtain⟨i,h⟩:=RO.bH h;obtain⟨e,j,h⟩:=RO.bM h;obtain⟨k,h⟩:=RO.bH h;obtain⟨l,m,h⟩:=RO.bM h;injection h with h
 rw[List.length_map];show RO.ap (decide (c.length<20)&&aY a.cH.length 1 12) 3 a.at_ ((fV a.at_ [] a.cH).bind _)=_;rw[i,j];show RO.ap (decide (0<a.names.length)) 1 a.at_ ((dc a.at_ e [] a.names).bind _)=_;rw[k,m,<-h];show RO.ok (⟨(cZ (·++b) a).name,e,d9 l⟩:Tb)=_;rw[g];rfl
theorem rP {b:List Tb} {d:ch} {c:aE} (f:(dm d c).2=0):ge b d c=if c.kind=1 then(match ea b c with|.ok t=>(b++[t],((0:Int),(0:Int)))|.bad e a=>(b,(e,a)))else(b,(0,0)):=by
 unfold ge;rw[if_neg (by rw[f];simp)];by_cases h:c.kind=1
 ·rw[if_pos h,if_pos h]
  cases ea b c<;>rfl
 rw[if_neg h,if_neg h]
theorem JE {d:List Tb} {f:ch} {a:aE} {b:av} (g:lU b=true) (c:(ge d f a).2.1=0) (i:a.kind=1->a.name.size<=20):
 ge (d.map (gf b)) (f.map (gU b)) (cZ (·++b) a)=((ge d f a).1.map (gf b),(ge d f a).2):=by
 have f:=tY c;have g:=z6 g f i;rw[rP f]at c⊢;rw[rP (by rw[g])];by_cases e:a.kind=1
 ·rw[if_pos e]at c
  rw[if_pos (show(cZ (·++b) a).kind=1 from e),if_pos e];cases ht:ea d a with
  |ok j=>
   rw[JD e ht];simp
  |bad j k=>
   rw[ht]at c;have c:j=0:=c;subst c;exact absurd ht (zY d a k)
 rw[if_neg (show¬(cZ (·++b) a).kind=1 from e),if_neg e]
theorem JF (b:List Tb) (e:ch) (c:aE):∀d∈b,d∈(ge b e c).1:=by
 intro d a;unfold ge;split
 ·exact a
 split
 ·cases ea b c with
  |ok f=>exact ie (.inl a)
  |bad f g=>exact a
 exact a
theorem z8:∀(d:List aE) (a:List Tb) (c:ch),∀b∈a,b∈(cy a c [] d).1
 |[],a,c,b,ht=>by rw[cy];exact ht
 |x::d,a,c,b,ht=>by
  rw[m6,m7];exact z8 d _ _ b (JF a c x b ht)
theorem Aa {g:av} (i:lU g=true):∀(d:List aE) (b:List Tb) (c:ch),(∀j∈(cy b c [] d).2,j.1=0)->(∀f∈(cy b c [] d).1,f.name.size<=20)->
 cy (b.map (gf g)) (c.map (gU g)) [] (d.map (cZ (·++g)))=((cy b c [] d).1.map (gf g),(cy b c [] d).2)
 |[],b,c,_,_=>by rw[List.map_nil,cy,cy]
 |x::d,b,c,h0,hs=>by
  rw[m6,m7]at h0 hs;rw[List.map_cons,m6,m7];rw[m6 b c,m7 d];have e:(ge b c x).2.1=0:=h0 _ (ie (.inl aj));have l:x.kind=1->x.name.size<=20:=λk=>by
   have m:=tY e;cases a:ea b x with
   |bad n o=>
    rw[rP m,if_pos k,a]at e;have e:n=0:=e;subst e;exact absurd a (zY b x o)
   |ok f=>
    have n:f.name=x.name:=by
     unfold ea at a;obtain⟨_,a⟩:=RO.bH a;obtain⟨_,_,a⟩:=RO.bM a;obtain⟨_,a⟩:=RO.bH a;obtain⟨_,_,a⟩:=RO.bM a;injection a with a
     rw[<-a]
    have g:f∈(ge b c x).1:=by
     rw[rP m,if_pos k,a];simp
    rw[<-n];exact hs f (z8 d _ _ f g)
  rw[JE i e l,z6 i (tY e) l];have b:=Aa i d (ge b c x).1 (dm c x).1 (λj b=>h0 j (ie (.inr b))) hs;dsimp only;rw[b]
theorem ul:∀(b:List ((Int×Int)×aE)) (d:Su),(dg d [] b).2=[]->∀c∈b,c.1.1=0
 |[],_,_,c,a=>by cases a
 |(k,x)::b,d,h,c,a=>by
  rw[dg]at h;by_cases e:k.1=0
  case neg=>
   rw[if_neg e]at h;exact absurd (lQ _ _ _ h) aj
  rw[if_pos e]at h;rcases dh a with rfl|a
  ·exact e
  cases hp:ci d x with
  |ok f=>rw[hp]at h;exact ul b f h c a
  |bad f g=>
   rw[hp]at h;dsimp only at h;split at h
   ·exact ul b d h c a
   exact absurd (lQ _ _ _ h) aj
theorem JG {xs:List aE} {e:av} (j:lU e=true) (h:(cT xs []).2=[]) (a:∀d∈(cT xs []).1.tabs,d.name.size<=20):
 cT (xs.map (cZ (·++e))) []=({(cT xs []).1 with tabs:=(cT xs []).1.tabs.map (gf e)},[]):=by
 unfold cT at*;rw[List.length_map];split
 case isFalse b=>rw[if_neg b]at h;cases h
 rename_i g
 rw[if_pos g]at h a;dsimp only at h a⊢;rw[gh]at h a⊢;dsimp only at h a⊢;obtain⟨g,f⟩:=n9.first xs [] [] [] ⟨by simp,by simp,by simp,by simp⟩;have b:(dg {Su.zero with tabs:=(cy [] [] [] xs).1} [] ((cy [] [] [] xs).2.zip xs)).2=[]:=by
  split at h
  ·assumption
  exact h
 rw[if_pos b]at a;dsimp only at a;rw[ol]at a;dsimp only at a;have l:∀g∈(cy [] [] [] xs).2,g.1=0:=λg k=>by
  obtain⟨c,i,rfl⟩:=List.mem_iff_getElem.1 k;have g:c<xs.length:=by rw[zk]at i;exact i
  have g:((cy [] [] [] xs).2[c],xs[c])∈(cy [] [] [] xs).2.zip xs:=by
   rw[List.mem_iff_getElem];exact⟨c,by rw[List.length_zip];omega,by rw[List.getElem_zip]⟩
  exact ul _ _ b _ g
 have a:=Aa j xs [] [] l a;simp only[List.map_nil]at a;rw[a,gh];dsimp only;have a:=tS (JA f.r e) (λd f=>by rw[z1 _ e d f]) ((cy [] [] [] xs).2.zip xs) {Su.zero with tabs:=(cy [] [] [] xs).1} rfl b;have c:(cy [] [] [] xs).2.zip (xs.map (cZ (·++e)))=((cy [] [] [] xs).2.zip xs).map (λc=>(c.1,cZ (·++e) c.2)):=by
  rw[List.zip_map_right];rfl
 rw[c];dsimp only at a;rw[a,if_pos b,ol];rfl
theorem FL.len {b:Int} {xs ys:List aE} {a:List (Int×Int)} (f:FL b xs a ys):a.length<=xs.length:=by
 induction f with
 |nil=>exact Nat.le_refl _
 |bad _ _ _ c=>exact Nat.succ_le_succ c
 |good _ c=>exact Nat.le_succ_of_le c
theorem pQ.drop {a:Int}:∀(n:Nat) {b:List aE},pQ a b->pQ a (b.drop n)
 |0,_,h=>h
 |_+1,[],_=>trivial
 |n+1,_::_,h=>pQ.drop n h.2.2
structure oo (w5 wr:ah) (rs:List RI) (A:aT) (n c:Nat) (zs:List RI):Prop where
 k:ag w5 wr
 bx:aa wr w5.heap.size 24 #[O A n c]
 own:wr.ownsRow (w5.heap.size+1) 95 25 (O A n c) n (zs.flatMap RI.cells)
 len:zs.length=n
 sub:∀r∈zs,r∈rs
theorem oo.same {b wr d:ah} {rs:List RI} {e:aT} {n c:Nat} {f:List RI} (a:oo b wr rs e n c f) (s:ag wr d):oo b d rs e n c f:=
 ⟨a.k.trans s,(Kp.of_same (l:=[]) s).blk a.bx aj,aK s a.own,a.len,a.sub⟩
theorem oo.push {b wr g c:ah} {n:List RI} {d i:aT} {a e j:Nat} {o:List RI} {q:RI} (f:oo b wr n d a e o) (u:q∈n) (s:ag wr g) (l:g.grownBy c (Value.slice d a e).ownBlock)
 (v:c.ownsRow (b.heap.size+1) 95 25 (O i (a+1) j) (a+1) (o.flatMap RI.cells++q.cells)):oo b (c.setCell (aq b 0) (O i (a+1) j)) n i (a+1) j (o++[q]):=by
 have t:∀m,(Value.slice d a e).ownBlock=some m->b.heap.size+1<=m:=λm h=>by
  obtain⟨n,o,q,w⟩:=bu f.own;rcases w with r|⟨x,r,y⟩
  ·rw[r]at h;cases h
  rw[r]at h;injection h with h;omega
 have g:Kp ((Value.slice d a e).ownBlock.toList) g c:=(Kp.refl _ g).grown l (λm l=>.inl (by rw[l];simp));have n:ag b c:=g.eD (f.k.trans s) (λg m=>by
  have h:(Value.slice d a e).ownBlock=some g:=by simpa using m
  have:=t g h;omega)
 have d:=aa.grown ((f.same s).bx) l (λd=>by have:=t _ d.symm;omega);have a:Kp [b.heap.size] c (c.setCell (aq b 0) (O i (a+1) j)):=Kp.aH (p:=(aq b 0)) aj (Kp.refl _ c) _;refine⟨a.eD n aj,d.aP 0 _,bD ?_ a aj,by simp[f.len],λr w=>?_⟩
 ·rw[List.flatMap_append]
  simpa using v
 rcases cP w with h|h
 ·exact f.sub r h
 rw[aB h];exact u
def JQ (B base:Nat) (b:ah) (c:aA) (a:Nat):Prop:=a<B\/(Bw base b.heap.size a/\c.ownBlock≠some a)
structure eh {α:Type} (At:World->(Nat->Prop)->α->Prop) (B:Nat) (t:aX) (m:Nat) (enc:α->List Value) (base:Nat) (wA wq:ah) (A:aT) (n c:Nat) (zs:List α):Prop where
 k:ag wA wq
 own:wq.ownsRow base t m (O A n c) n (zs.flatMap enc)
 len:zs.length=n
 sub:∀z∈zs,At wq (JQ B base wq (O A n c)) z
structure oq {α:Type} (At:World->(Nat->Prop)->α->Prop):Prop where
 mono:∀{w:ah} {S S':Nat->Prop} {z:α},At w S z->(∀b,S b->S' b)->At w S' z
 keep:∀{w w':ah} {S:Nat->Prop} {z:α},At w S z->∀{l:List Nat},Kp l w w'->(∀b∈l,¬S b)->At w' S z
theorem lV:oq dG:=⟨λa h=>a.mono h,λa _ b h=>a.keep b h⟩
theorem lW:oq cz:=⟨λa h=>a.mono h,λa _ b h=>a.keep b h⟩
section
variable {α:Type} {At:World->(Nat->Prop)->α->Prop} {B:Nat} {t:aX} {m:Nat} {enc:α->List Value} {base:Nat} {wA wq wr:ah} {A:aT} {n c:Nat} {zs:List α}
theorem eh.zero (wA:ah):eh At B t m enc base wA wA none 0 0 []:=⟨ag.refl wA,⟨by simp,.inl ⟨rfl,rfl⟩⟩,rfl,λa h=>by cases h⟩
theorem eh.same (b:oq At) (a:eh At B t m enc base wA wq A n c zs) (s:ag wq wr):eh At B t m enc base wA wr A n c zs:=
 ⟨a.k.trans s,aK s a.own,a.len,λd e=>b.mono (b.keep (a.sub d e) (Kp.of_same (l:=[]) s) aj) (λa a=>a.imp id (λh=>⟨⟨h.1.1,aR h.1.2 s.size⟩,h.2⟩))⟩
theorem eh.row (b:eh At B t m enc base wA wq A n c zs):∀a,(Value.slice A n c).ownBlock=some a->base<=a/\a<wq.heap.size:=b6 b.own
theorem eh.push (e:oq At) (d:B<=base) (a:wA.heap.size<=base) (d:base<=wq.heap.size) (f:eh At B t m enc base wA wq A n c zs) {d j:ah} {l:aT} {o:Nat} {x:α} (r:ag wq d) (y:At d (λb=>b<B\/Bw wq.heap.size d.heap.size b) x) (s:d.grownBy j (Value.slice A n c).ownBlock)
 (v:(Value.slice l (n+1) o).ownBlock=(Value.slice A n c).ownBlock\/(Value.slice l (n+1) o).ownBlock=some d.heap.size) (z:j.ownsRow base t m (O l (n+1) o) (n+1) (zs.flatMap enc++enc x)):eh At B t m enc base wA j l (n+1) o (zs++[x]):=by
 have C:=f.same e r;have p:=f.row;have q:Kp ((Value.slice A n c).ownBlock.toList) d j:=(Kp.refl _ d).grown s (λd s=>.inl (by rw[s];simp));have d:=f.k.size;have d:=r.size;have w:=q.size;refine⟨q.eD (f.k.trans r) (λb a=>bL ‹wA.heap.size<=base› (p b (by simpa using a)).1),by rw[List.flatMap_append];simpa using z,by simp[f.len],λD g=>?_⟩;rcases cP g with g|g
 ·refine e.mono (e.keep (C.sub D g) q (λb a E=>?_)) (λb a=>?_)
  ·have a:(Value.slice A n c).ownBlock=some b:=by simpa using a
   rcases E with h|h
   ·have:=(p b a).1;omega
   exact h.2 a
  refine a.imp id (λh=>⟨⟨h.1.1,aR h.1.2 w⟩,λi=>?_⟩);rcases v with u|u
  ·exact h.2 (u▸i)
  rw[u]at i;injection i with i
  have:=h.1.2;omega
 rw[aB g];refine e.mono (e.keep y q (λb a E=>?_)) (λb a=>?_)
 ·have a:(Value.slice A n c).ownBlock=some b:=by simpa using a
  have:=p b a;rcases E with h|h
  ·omega
  have:=h.1;omega
 refine a.imp id (λh=>⟨⟨by have:=h.1;omega,aR h.2 w⟩,λi=>?_⟩);rcases v with u|u
 ·rw[u]at i
  have:=p b i;have:=h.1;omega
 rw[u]at i;injection i with i
 have:=h.2;omega
theorem eh.lies (b:∀x,(enc x).length=m) (a:eh At B t m enc base wA wq A n c zs) (d:n<=9223372036854775807):aD wq m ⟨A,n,c⟩ enc zs:=cI (h:=⟨A,n,c⟩) b a.len d a.own
theorem eh.hd (b:eh At B t m enc base wA wq A n c zs):aV (λa=>a<B\/Bw base wq.heap.size a) ⟨A,n,c⟩:=(kH b.own).mono (λa a=>.inr a)
end
theorem Ag (l:List RE) (a:RE):RE.exs (l++[a])=RE.exs l++[a.ex]:=by rw[RE.o8,RE.o8,List.map_append];rfl
theorem um (a:ByteArray->ByteArray) (l:List Ex):hE a l=l.map (jf a):=by
 induction l with
 |nil=>rfl
 |cons c l b=>rw[hE,b];rfl
def un (b:ah) (B:Nat) (d:av) (e:RE):Prop:=∀a,ag b a->Calls prog 48 #[.agg e.cells.toArray,d] a λf b=>
 ∃c:RE,f=.returned (.agg c.cells.toArray)/\c.ex=jf (·++d) e.ex/\dG b (λd=>d<B\/Bw a.heap.size b.heap.size d) c/\ag a b
theorem JR {N:ah} {B:Nat} (bU:B<=N.heap.size) {m:av} (cD:m.size<=4) {d:Int} {o:av} {H:Hd} {q:List RE} {aC:Hd} {I:List bv} {aE:Hd} {aw:bk} {e f:av} {g i:Int}
 (a0:aD N 9 H RE.cells q) (bt:aD N 14 aC bv.cells I) (bw:aV (·<B) aC) (aF:∀c∈I,c.bW) (bx:bV N aE aw) (bz:aV (·<B) aE) (aG:aJ e) (aI:aJ f) (aL:bY d) (aM:bY g) (aN:bY i)
 (cD:o.size<=200) (bX:q.length<=5001) (bA:∀K∈q,un N B m K):un N B m (.mk d o H q aC I aE aw e f g i):=by
 intro b P;obtain⟨j,a1⟩:∃j:ByteArray,j=(if d=1 then o++m else o):=⟨_,rfl⟩;have bB:j.size<=204:=by
  rw[a1];split
  ·rw[pX];omega
  omega
 have N:B<=b.heap.size:=bL bU P.size;have bZ:=Z (a0.same P);have b0:=Z (bt.same P);have b1:=Z (bV.same bx P);have b2:=Z (λK H a (n:ag b a)=>bA K H a (P.trans n));have b3:=Z bw;have b4:=Z bz;have b5:=Z (⟨aF,aG,aI,aL,aM,aN⟩:(∀c∈I,c.bW)/\aJ e/\aJ f/\bY d/\bY g/\bY i);have b6:∀N,(Op.stringOp .add o m).run prog N=.ok (.string (o++m)) N:=λN=>run_string_add_sum N o m af;obtain⟨a2,z,bC⟩:=H;obtain⟨r,s,t⟩:=aC;obtain⟨u,w,y⟩:=aE;have N:q.length=z:=a0.1;have bD:=Z N;have aC:z<=5001:=af
 have a3:=Z a1;have b7:=Z bB;obtain⟨b8,ca,cb,cc,cd⟩:=info_parts Tryz.wj;clear a0 bt bw aF bx bz aG aI aL aM aN bA P N bX bB a1;show Calls prog 48 #[.agg #[d,o,O a2 z bC,O r s t,O u w y,e,f,g,i],m] b _;go_enter func48,ntmps48
 go_upto_region 1 with(fail)
 obtain⟨a0,P,aC,N,aE⟩:=nb b 93 _;rw[P];clear P;have P:=N;obtain⟨aO,a0,aP,N,a1⟩:=nc aE 93 _;rw[a0];clear a0;have aQ:=Z (P.out.trans N.out);have L:=qb N aC;clear N P aC aE;have aU:aO.heap.size=b.heap.size+2:=a1;clear a1;have bE:=ay L;by_cases Q:d=1
 case' pos=>
  have F:(d==1)=true:=by simpa using Q
  have G:=aS L;have M:=λa=>aa.frozen L a;have R:=aa.lt L;have C:=Z (show j=o++m by rw[a3.out,if_pos Q]);clear Q;go_upto_region 3 with(fail)
  have D:=Z (uX L (.string (o++m)));have a:=Z ((Kp.aH (p:=(aq b 1)) (l:=[b.heap.size]) aj (Kp.refl [b.heap.size] aO) (.string (o++m))));obtain⟨E,n⟩:=au (aO.setCell (aq b 1) (.string (o++m)));rw[<-n]at D a⊢;have aY:E.heap.size=b.heap.size+2:=by rw[n];simpa using aU
  clear n F bE G M R;rw[<-C.out]at D;have aA:=Z (a.out.eD aQ.out (λn n=>by rw[aB n];exact Nat.le_refl _));have aZ:=qo a aP;clear a C
 case' neg=>
  have C:(d==1)=false:=by simpa using Q
  have a:=Z (show j=o by rw[a3.out,if_neg Q]);clear Q;go_upto_region 3 with(fail)
  have D:=L;rw[<-a.out]at D;obtain⟨E,n⟩:=au aO;rw[<-n]at D aQ aP aU⊢;have aY:=aU;clear n C bE;have aA:=aQ;have aZ:=aP;clear a
 all_goals
  clear aQ aP aU L b6;have ce:Hid (aa E b.heap.size 93 #[d,j,O a2 z bC,O r s t,O u w y,e,f,g,i]):=D;have cf:Hid (aa E (b.heap.size+1) 93 #[J 0,ai,ab,ab,ab,ai,ai,J 0,J 0]):=aZ;clear D aZ;have bF:=Z aY;clear aY;go_upto_region 5 with(fail)
  go_loopg [5,6] (z+1) (λK n C wq=>∃(a c:Nat) (A:aT) (zs:List RE),n=.slice A a c/\C=.int .i64 a/\a<=z/\z-a<K/\Hid (eh dG B 93 9 RE.cells E.heap.size E wq A a c zs)/\Hid (RE.exs zs=hE (·++m) (RE.exs (q.take a))))
  case atStart=>exact⟨0,0,none,[],rfl,rfl,by omega,by omega,Z (eh.zero _),Z (by simp[RE.exs,hE])⟩
  case round=>
  obtain⟨a,c,A,zs,rfl,rfl,cE,bG,M,a4⟩:=hrel;have bH:=Z bG;clear bG;have G:=Z M.out.k;have aW:=qb G ce;have bI:=bc aW;by_cases L:a<z
  case pos=>
   have L:(a:Int)<(z:Int):=af
   have a5:a<q.length:=omg bD
   obtain⟨n,F,L,N,C⟩:=(bZ.out.same (aA.out.trans G.out)).2.2 a a5;have cg:a2=some ⟨n,F,none⟩:=L;clear L;subst cg;have a6:=Z (b2.out q[a] (List.getElem_mem a5) wr (aA.out.trans G.out));have a7:q.take (a+1)=q.take a++[q[a]]:=by rw[List.take_succ_eq_append_getElem a5]
   generalize q[a]=ch at C a6 a7;have ci:=Z a7;clear a7;obtain⟨a8,a9,⟨ba,bb,bd⟩,cj,⟨be,bf,bg⟩,ck,⟨bh,bi,bj⟩,cl,bl,bm,bo,bp⟩:=ch;have cm:ae wr (ac n (F+a*9)) a8:=by have h:=C 0 _ rfl;simpa using h
   have cn:ae wr (ac n (F+a*9+1)) a9:=C 1 _ rfl;have co:ae wr (ac n (F+a*9+2)) (O ba bb bd):=C 2 _ rfl;have cp:ae wr (ac n (F+a*9+3)) (O be bf bg):=C 3 _ rfl;have cq:ae wr (ac n (F+a*9+4)) (O bh bi bj):=C 4 _ rfl;have cr:ae wr (ac n (F+a*9+5)) bl:=C 5 _ rfl;have cs:ae wr (ac n (F+a*9+6)) bm:=C 6 _ rfl;have ct:ae wr (ac n (F+a*9+7)) bo:=C 7 _ rfl;have cu:ae wr (ac n (F+a*9+8)) bp:=C 8 _ rfl;have bJ:Hid (Calls prog 48 #[.agg #[a8,a9,O ba bb bd,O be bf bg,O bh bi bj,bl,bm,bo,bp],m] wr λN F=>∃L:RE,N=.returned (.agg L.cells.toArray)/\L.ex=jf (·++m) (RE.mk a8 a9 ⟨ba,bb,bd⟩ cj ⟨be,bf,bg⟩ ck ⟨bh,bi,bj⟩ cl bl bm bo bp).ex/\dG F (λn=>n<B\/Bw wr.heap.size F.heap.size n) L/\ag wr F):=a6;clear C a6;go_wp2_with fail
   refine(bJ.out).mono ?_;rintro cv az ⟨bq,bK,C,F,L⟩;have bM:=Z C;have bN:=Z F;have cw:=Z L;clear C F L bJ bI cm cn co cp cq cr cs ct cu;obtain⟨aX,C⟩:=au bq;rw[<-C]at bM bN;have bO:=Z (show bq.cells=aX.cells by rw[C]);clear C;obtain⟨R,S,⟨T,U,V⟩,cF,⟨W,X,Y⟩,cG,⟨ad,ak,al⟩,cH,an,ao,ap,ar⟩:=bq;have cx:Hid ([.int .i64 R,.string S,.slice T U V,.slice W X Y,.slice ad ak al,.string an,.string ao,.int .i64 ap,.int .i64 ar]=aX.cells):=bO;clear bO;have cy:cv=.returned (.agg #[R,S,O T U V,O W X Y,O ad ak al,an,ao,ap,ar]):=bK;clear bK;subst cy;have br:=Z (cw.out.alloc (.cells #[R,S,O T U V,O W X Y,O ad ak al,an,ao,ap,ar] 93));have cz:=Z (aK br.out M.out.own);have cA:=Z (cJ az #[R,S,O T U V,O W X Y,O ad ak al,an,ao,ap,ar] 93 9 rfl);have cB:E.heap.size<=(az.alloc (.cells #[R,S,O T U V,O W X Y,O ad ak al,an,ao,ap,ar] 93)).heap.size:=bL G.out.size br.out.size;go_wp2_with (first|(at_builtin;refine ev _ rfl (.tmp 22) (.tmp 30) 91 rfl E.heap.size 93 b8 _ 9 144 underlying91 ca cb cc cd rfl ax (O A a c) a (zs.flatMap RE.cells) rfl cz.out (az.heap.size+1) (some ⟨az.heap.size,0,none⟩) 1 1 (#[R,S,O T U V,O W X Y,O ad ak al,an,ao,ap,ar]:Array Value).toList rfl cA.out bn b9 af cB ?_;intro C C bs bP bQ;obtain⟨bR,bS,rfl,cC⟩:=bu bs;have bT:=Z (eh.push (x:=aX) lV (omg bF) (Nat.le_refl _) G.out.size M.out br.out (lV.mono (lV.keep bN.out (Kp.of_same (l:=[]) ((ag.refl az).alloc _)) aj) (λn n=>n.imp id (λh=>⟨h.1,by have:=h.2;simp;omega⟩))) bP bQ (by rw[<-cx.out];exact bs));clear bs bP bQ cC)|fail)
   go_roundg (z-a)
   case measure=>have:=bH.out;omega
   exact⟨a+1,bS,bR,zs++[aX],rfl,by go_num,by omega,omg bH,bT,Z (by rw[Ag,a4.out,ci.out,Ag,um,um,List.map_append,bM.out];rfl)⟩
  case neg=>
  have Y:¬(a:Int)<(z:Int):=af
  have U:=qb G cf;have ad:=λa=>aa.frozen aW a;have ak:=aa.lt aW;have al:=aa.lt U;have an:a=z:=af
  have ao:=Z (show RE.exs zs=hE (·++m) (RE.exs q) by rw[a4.out,List.take_of_length_le (omg bD)]);clear a4;subst an;go_upto_region 9 with(fail)
  have D:=Z (r5 aW (O A a c));have S:=Z (Kp.aH (p:=(aq b 2)) (l:=[b.heap.size]) aj (Kp.refl [b.heap.size] wr) (O A a c));obtain⟨F,z⟩:=au (wr.setCell (aq b 2) (O A a c));rw[<-z]at D S⊢;clear z bI ad ak al Y;have V:=qo S U;have ap:Hid (aa F b.heap.size 93 #[d,j,O A a c,O r s t,O u w y,e,f,g,i]):=D;have ar:(#[d,j,O A a c,O r s t,O u w y,e,f,g,i]:Array Value).all (·.oneCell')=true:=bn
  go_wp2_with (first|(refine gX rfl 93 (.tmp 2) rfl b.heap.size #[d,j,O A a c,O r s t,O u w y,e,f,g,i] rfl 93 ap.out _ underlying93 rfl am ?_)|(refine wpList_store_row rfl 93 (.tmp 4) (.tmp 34) rfl (b.heap.size+1) #[d,j,O A a c,O r s t,O u w y,e,f,g,i] rfl rfl 93 #[J 0,ai,ab,ab,ab,ai,ai,J 0,J 0] V.out am rfl ar ?_))
  have z:=ih F (b.heap.size+1) #[d,j,O A a c,O r s t,O u w y,e,f,g,i];have az:=jG V.out #[d,j,O A a c,O r s t,O u w y,e,f,g,i];have R:=Z (((Kp.refl [b.heap.size,b.heap.size+1] wr).trans (S.out.mono (λn n=>by rw[aB n];simp))).grown z (λz n=>.inl (by injection n with n;subst n;simp)));refine bodyPost_ret (v:=.agg #[d,j,O A a c,O r s t,O u w y,e,f,g,i]) (results_cell_row rfl _ _ (b.heap.size+1) 93 #[d,j,O A a c,O r s t,O u w y,e,f,g,i] (0,0) _ ?_ az underlying93 rfl am) rfl ?_
  ·rfl
  obtain⟨aF,aG,aI,aL,aM,aN⟩:=b5.out;have T:ag b (F.setRow (b.heap.size+1) #[d,j,O A a c,O r s t,O u w y,e,f,g,i]):=R.out.eD (aA.out.trans G.out) (λn n=>by simp at n;omega);have z:=R.out.size;have L:=bF.out;have G:=G.out.size;have W:∀n,(n<B\/Bw E.heap.size wr.heap.size n)->(n<B\/Bw b.heap.size (F.setRow (b.heap.size+1) #[d,j,O A a c,O r s t,O u w y,e,f,g,i]).heap.size n):=λn C=>C.imp id (λh=>⟨by have:=h.1;omega,aR h.2 z⟩);have X:∀n∈[b.heap.size,b.heap.size+1],¬(n<B\/Bw E.heap.size wr.heap.size n):=λn C aX=>by
   simp at C;rcases aX with h|h
   ·omega
   have:=h.1;omega
  have b:=(M.out.lies (λb=>RE.len b) af).kp R.out (λn b z C=>X n C (M.out.hd n b z));refine⟨.mk d j ⟨A,a,c⟩ zs ⟨r,s,t⟩ I ⟨u,w,y⟩ aw e f g i,rfl,?_,?_,T⟩
  ·show Ex.mk d j (RE.exs zs) I aw e f g i=jf (·++m) (Ex.mk d o (RE.exs q) I aw e f g i)
   rw[jf,ao.out,a3.out]
  refine .mk b (M.out.hd.mono W) (λK H=>lV.mono (lV.keep (lV.mono (M.out.sub K H) (λn C=>C.imp id (λh=>h.1))) R.out X) W) (b0.out.same T) (b3.out.mono (λn C=>.inl C)) aF (bV.same b1.out T) (b4.out.mono (λn C=>.inl C)) ?_ aG aI aL aM aN;unfold aJ;have:=b7.out;omega
theorem JS {f:ah} {B:Nat} (o:B<=f.heap.size) {l:av} (p:l.size<=4) {b:RE} (q:dG f (·<B) b):b.ex.cW->b.ex.Sm->un f B l b:=by
 induction q with
 |@mk r m c d K s L n t u v w x M N y z A C D O E F G H I g=>
  intro b f;have i:n.length<=5001/\(RE.exs d).length<=5001/\Ex.ij (RE.exs d):=b;have j:m.size<=200/\Ex.hI (RE.exs d):=by
   have h:Ex.Sm (Ex.mk r m (RE.exs d) s n t u v w):=f;rw[Ex.Sm]at h;exact h
  rw[RE.o8,List.length_map]at i;rw[RE.o8]at j;have J:∀{a:List Ex},Ex.hI a->∀e∈a,e.Sm:=by
   intro a;induction a with
   |nil=>intro _ e k;cases k
   |cons P a g=>
    intro h e k;rw[Ex.hI]at h;rcases dh k with rfl|k
    ·exact h.1
    exact g h.2 e k
  exact JR o p x y z A C D E F G H I j.1 i.2.1 (λa c=>g a c (i.2.2.mem _ (List.mem_map.2 ⟨a,c,rfl⟩)) (J j.2 _ (List.mem_map.2 ⟨a,c,rfl⟩)))
end Go.Proofs.YteamkimbmdgdbaaGreatDoor

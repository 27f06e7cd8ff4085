import Derived.Test.YteamkimbmdgdbaaGreatDoorK29
import Derived.Test.YteamkimbmdgdbaaGreatDoorK30
import Derived.Test.YteamkimbmdgdbaaGreatDoorK31
set_option linter.unusedSimpArgs false
set_option linter.unusedVariables false
set_option maxHeartbeats 16000000
set_option maxRecDepth 100000
namespace Go.Proofs.YteamkimbmdgdbaaGreatDoor
open Go.Proofs.Tryz
open Go.RowKit
theorem IH (a:ax) (b:ah) (c:aJ a) (d:b5 b ⟨some ⟨0,0,none⟩,10,10⟩ fJ) (e:0<b.heap.size):
 Calls prog 26 #[a] b λf g=>ja b (gy (ba a)) f g:=by
 by_cases h:(dD (ba a)).2.1=0
 ·exact IG a b c d e h
 exact IF a b c d e h
theorem hZ.same {b:Nat} {w c:ah} {v:aA} {d:List (Int×Int)} (a:hZ b w v d) (k:ag w c):hZ b c v d:=by
 obtain⟨h,e,f,g⟩:=a;exact⟨h,e,f.same k,g⟩
theorem hZ.kp {a g:Nat} {w c:ah} {v:aA} {d:List (Int×Int)} (f:hZ a w v d) (j:g<a) (k:Kp [g] w c):hZ a c v d:=by
 obtain⟨h,b,i,e⟩:=f;exact⟨h,b,i.kp k (λa c b d=>by have:=e a c b;rw[aC d]at this;omega),e⟩
theorem hZ.low {a l2:Nat} {w:ah} {v:aA} {b:List (Int×Int)} (c:hZ a w v b) (d:l2<=a):hZ l2 w v b:=by
 obtain⟨h,e,f,g⟩:=c;exact⟨h,e,f,g.mono (λa a=>bJ d a)⟩
def bt (h:Hd) (a:cd):Array Value:=#[h.val,a.h1.val,a.h2.val,a.h3.val,a.h4.val,a.h5.val,a.h6.val]
theorem jb (h:Hd) (a:cd):(bt h a).all (·.oneCell')=true:=by simp[bt,Hd.val,Value.oneCell']
theorem pQ {e b:ah} {f a:Nat} {i:aQ} {h:Hd} {j:List RT} {c:cd} (d:aa b a 37 i) (k:∀(l:Nat) (v:aA),i[l]?=some v->∃i l m,v=Value.slice i l m) (n:eK f b h j c) (o:a<f) (p:e.heap.size<=a) (q:ag e b):
 ag e (b.setRow a (bt h c))/\Kp [a] b (b.setRow a (bt h c))/\aa (b.setRow a (bt h c)) a 37 (bt h c)/\eK f (b.setRow a (bt h c)) h j c:=by
 have g:=(Kp.refl [a] _).grown (kv b a (bt h c)) (λd g=>.inl (by injection g with g;simp[g]));exact⟨g.fY q (λd a=>by rw[aC a];exact p),g,lu d _,n.kp o (λa v b=>by rw[aa.cell d a]at b;exact k a v b) g⟩
theorem tP (h:Hd) (f:List RI) (a:ah) (s:aE a 25 h RI.cells f) (t:∀i∈f,cW a (λw=>w<a.heap.size) i) (x:∀i∈f,i.it.cL):
 Calls prog 14 #[.agg #[h.val]] a (gm a (dj (f.map RI.it) [])):=by
 obtain⟨b,c,d⟩:=h;obtain⟨n,y⟩:∃n,n=dj (f.map RI.it) []:=⟨_,rfl⟩;have f:=Z (λj (e:ag a j)=>zb ⟨b,c,d⟩ aL f [] j (s.same e) (λi f=>cW.mono ((t i f).keep (Kp.of_same (l:=[]) e) aj) (λw f=>aV f e.size)) x jN aj aj);rw[<-y]at f⊢;clear s t x y;have M:Hid (∀e,ag a e->Calls prog 37 #[.agg #[O b c d],ab] e (gm e n)):=f;clear f;have j:=Z (show ag a ((a.alloc (.cells #[O b c d] 24)).alloc (.cells b9 37))from((ag.refl a).alloc _).alloc _);have k:=Z (aa.new (a.alloc (.cells #[O b c d] 24)) 37 b9);have m:((a.alloc (.cells #[O b c d] 24)).alloc (.cells b9 37)).heap.size=a.heap.size+1+1:=aj
 rw[show(a.alloc (.cells #[O b c d] 24)).heap.size=a.heap.size+1 by simp]at k;show Calls prog 14 #[.agg #[O b c d]] a _;go_enter func14,ntmps14
 go_upto_region 1 with(fail)
 unfold b9 at j k m;have f:=Z ((aa.new a 24 #[O b c d]).alloc (.cells #[ab,ab,ab,ab,ab,ab,ab] 37));obtain⟨o,i⟩:∃e,e=((a.alloc (.cells #[O b c d] 24)).alloc (.cells #[ab,ab,ab,ab,ab,ab,ab] 37)):=⟨_,rfl⟩;rw[<-i]at j k m f⊢;clear i;have z:a.heap.size+1<o.heap.size:=af
 have A:=Z m;clear m;have b:ae o (ao a 0) (O b c d):=aa.cell f.out 0;have B:=Tryz.lR;go_wp2_with (first|(go_at_call 37;refine(M.out o j.out).mono ?_;rintro b b ⟨q,b,F,N,⟨g,G,e,P,C,D⟩,E⟩;subst N P;have H:=Z q;have I:=Z D;have J:=Z C;have K:=Z E;have r:=Z ((Kp.of_same (l:=[]) q).blk k.out aj);have L:=jb g e;clear q D C E)|(refine wpList_store_row rfl 37 (.tmp 2) (.tmp 6) rfl (a.heap.size+1) (bt g e) rfl rfl 37 b9 r.out B rfl L ?_)|fail)
 obtain⟨b,c,d,f⟩:=pQ r.out n3 I.out z (Nat.le_succ _) (j.out.trans H.out);refine bodyPost_end (v:=.tuple #[.agg (bt g e),F]) (jP (p:=2) (u:=3) rfl _ _ (a.heap.size+1) 37 (bt g e) _ rfl d underlying37 rfl B) rfl ?_;exact⟨b,_,_,rfl,⟨g,G,e,rfl,J.out,f.low (omg A)⟩,(K.out.kp z c).low (omg A)⟩
def pS (c:PO (List aB)) (b:List Cg):Su×List (Int×Int):=
 match c with
 |.bad e a=>(Su.zero,[(e,a)])
 |.ok xs _=>if(dj xs []).2≠[]\/b=[]then dj xs []else dj xs b
def gM (l:bR) (a:List Cg):Su×List (Int×Int):=pS (gy l) a
theorem IX (o:ax) (A:Hd) (a:List Cg) (b:ah) (N:Ending->World->Prop) (aw:Hid (N=gm b (gM (ba o) a))) (az:aJ o) (aA:b5 b ⟨some ⟨0,0,none⟩,10,10⟩ fJ) (a1:0<b.heap.size) (T:aE b 8 A Cg.cells a) (aB:∀aD∈a,aJ aD.name/\aJ aD.dflt.s) (a2:a.length<=1000):
 Calls prog 20 #[o,A.val] b N:=by
 obtain⟨U,a3,V⟩:=A;have a4:a.length=a3:=T.1;subst a4;have e:=Tryz.lR;have a5:=tO;have a6:=Z T;have a7:=Z aB;obtain⟨W,A⟩:=av (gy (ba o));have HW:Hid (N=gm b (pS W a)):=Z (by rw[aw.out,A];rfl);have X:=Z (λc (f:ag b c)=>IH o c az (aA.same f) (aV a1 f.size));rw[<-A]at X;have Y:=Z (A▸IW (ba o));have ac:=Z (λc f (h:W=.ok c f)=>(IB (A.symm.trans h)).1);clear A aw T aB az aA;have B:=Z (show ag b (b.alloc (.cells #[ab,ab,ab,ab,ab,ab,ab] 37))from(ag.refl b).alloc _);have ad:Hid (aa (b.alloc (.cells #[ab,ab,ab,ab,ab,ab,ab] 37)) b.heap.size 37 b9):=Z (aa.new b 37 b9);have ae:(b.alloc (.cells #[ab,ab,ab,ab,ab,ab,ab] 37)).heap.size=b.heap.size+1:=by simp
 show Calls prog 20 #[o,O U a.length V] b N;go_enter func20,ntmps20
 go_upto_region 1 with(fail)
 obtain⟨ai,o⟩:=av (b.alloc (.cells #[ab,ab,ab,ab,ab,ab,ab] 37));rw[<-o]at B ad ae⊢;clear o;have a8:b.heap.size<ai.heap.size:=af
 have o:=Z ae;clear ae;cases W with
 |bad c f=>
  have k:=Y c f rfl;have o:(c==0)=false:=by simpa using k
  have o:=Z k;clear k ac Y;go_wp2_with (first|(go_at_call 26;refine(X.out ai B.out).mono ?_;rintro k d ⟨m,q⟩;subst q;have n:=Z m;have au:=Z ((((Kp.of_same (l:=[]) m).blk ad.out aj).alloc (.cells #[ab] 24)).alloc (.cells #[c,f] 97));clear m)|(refine wpList_store_row rfl 37 (.tmp 4) (.tmp 19) rfl b.heap.size b9 rfl rfl 37 b9 au.out e rfl a5 ?_)|fail)
  have q:=lu au b9;have k:=kv ((d.alloc (.cells #[ab] 24)).alloc (.cells #[c,f] 97)) b.heap.size b9;have m:=(Kp.refl [b.heap.size] _).grown k (λk m=>.inl (by injection m with m;simp[m]));have k:=n.size;have e1:(d.alloc (.cells #[ab] 24)).heap.size=d.heap.size+1:=by simp
  have k:=iB (d.alloc (.cells #[ab] 24)) #[c,f] 97 2 0 rfl (Nat.zero_le _);rw[e1]at k;have c:=cJ (h:=⟨some ⟨d.heap.size+1,0,none⟩,1,1⟩) (xs:=[(c,f)]) q1 rfl aj k;refine bodyPost_ret (v:=.tuple #[.agg b9,O (some ⟨d.heap.size+1,0,none⟩) 1 1]) (jP (p:=4) (u:=5) rfl _ _ b.heap.size 37 b9 _ rfl q underlying37 rfl e) rfl ?_;rw[HW.out];exact⟨m.fY (((B.out.trans n.out).alloc _).alloc _) (λf f=>by rw[aC f];exact Nat.le_refl _),_,_,rfl,rm _ _,⟨_,rfl,c.kp m (λc f f k=>by
   have e1:d.heap.size+1=c:=congrArg Addr.block (Option.some.inj f);have:=aC k;omega),λc f f=>by
   have e1:d.heap.size+1=c:=congrArg Addr.block (Option.some.inj f);omega⟩⟩
 |ok c P=>
  have a9:=Z (ac c P rfl);clear ac Y;go_upto_region 2 with(first|(go_at_call 26;refine(X.out ai B.out).mono ?_;rintro o d ⟨f,⟨g,i,j⟩,R,k,m,q,r,t⟩;have w:o=.returned (.tuple #[.agg #[O g i j],J 0,J 0]):=k;clear k;subst w;have n:=Z f;have aZ:=Z q;have a0:=Z r;have S:=Z m;clear f q r t m)|fail)
  have o:=n.size;have q:=Z (show ag d (d.alloc (.cells #[O g i j] 24))from(ag.refl d).alloc _);have Q:=Z (aa.new d 24 #[O g i j]);obtain⟨C,o⟩:=av (d.alloc (.cells #[O g i j] 24));rw[<-o]at q Q⊢;clear o;have aG:=Z (B.trans (n.trans q));have aH:=Z (aZ.same q);have aI:=Z (λf k=>cW.mono (S':=λm=>m<C.heap.size) ((a0 f k).keep (Kp.of_same (l:=[]) q) aj) (λf f=>aV f.2 q.size));have aK:=Z (λf (k:f∈R)=>a9 f.it (by rw[<-S.out];exact List.mem_map.2 ⟨f,k,rfl⟩));have aL:Hid (Calls prog 14 #[.agg #[O g i j]] C (gm C (dj c []))):=Z (by
   have h:=tP ⟨g,i,j⟩ R C aH aI aK;rw[S.out]at h;exact h)
  obtain⟨r,o⟩:=av (dj c []);rw[<-o]at aL;have ak:=Z o;clear o;have bb:=ay Q;have o:=aa.lt Q;have o:(#[ab,ab,ab,ab,ab,ab,ab]:Array Value).size=7:=rfl;go_wp2_with fail
  refine aL.mono ?_;rintro al f ⟨t,bc,bd,D,⟨hh,ts,x,E,aM,be⟩,⟨⟨F,k,G⟩,H,FL,bf⟩⟩;have am:al=.returned (.tuple #[.agg (bt hh x),O F k G]):=by
   rw[D,E,H];rfl
  clear D H E;subst am;have IY:=Z aM;have an:=jb hh x;have aN:=fK f (.cells #[ab,ab,ab,ab,ab,ab,ab] 37);have aO:=World.setRow_alloc_new f #[ab,ab,ab,ab,ab,ab,ab] (bt hh x) 37;clear aM bb;go_upto_region 5 with(first|(refine wpList_store_row rfl 37 (.tmp 9) (.tmp 27) rfl f.heap.size (bt hh x) rfl rfl 37 #[ab,ab,ab,ab,ab,ab,ab] aN e rfl an ?_;rw[aO])|fail)
  have o:=aG.size;have hle3:=aV a8 (n.trans q).size;have m:=Z (show ag f (f.alloc (.cells (bt hh x) 37))from(ag.refl f).alloc _);have y:=Z (((Kp.of_same (l:=[]) (n.trans (q.trans t))).blk ad aj).alloc (.cells (bt hh x) 37));have ao:=Z (aa.new f 37 (bt hh x));have aP:=Z (((Kp.of_same (l:=[]) t).blk Q aj).alloc (.cells (bt hh x) 37));obtain⟨I,o⟩:=av (f.alloc (.cells (bt hh x) 37));rw[<-o]at m y ao aP⊢;clear o aN aO;have K:=Z (aG.trans (t.trans m));have aQ:=Z (be.same m);have IZ:Hid (hZ C.heap.size I (O F k G) r.2):=Z ⟨⟨F,k,G⟩,rfl,FL.same m,bf⟩;have o:r.2.length=k:=FL.1;have aR:=Z o;clear o;by_cases w:r.2=[]
  case neg=>
   have o:0<k:=by rw[<-aR.out];exact List.length_pos_iff.2 w
   have o:decide ((0:Int)<(k:Int))=true:=aF
   have o:pS (.ok c P) a=r:=by
    show(if(dj c []).2≠[]\/a=[]then dj c []else dj c a)=r;rw[<-ak.out,if_pos (.inl w)]
   have rE:=Z o;clear o w;go_wp2_with (first|(refine iK rfl 37 (.tmp 9) rfl f.heap.size (bt hh x) rfl 37 ao.out _ underlying37 rfl e ?_)|(refine wpList_store_row rfl 37 (.tmp 4) (.tmp 37) rfl b.heap.size (bt hh x) rfl rfl 37 b9 y.out e rfl an ?_)|fail)
   obtain⟨e1,e2,o,e4⟩:=pQ y n3 aQ hle3 (Nat.le_refl _) K;refine bodyPost_ret (v:=.tuple #[.agg (bt hh x),O F k G]) (jP (p:=4) (u:=5) rfl _ _ b.heap.size 37 (bt hh x) _ rfl o underlying37 rfl e) rfl ?_;exact zj
  have bg:k=0:=by rw[<-aR.out,w];rfl
  subst bg;by_cases z:a=[]
  case pos=>
   have k:pS (.ok c P) a=r:=by
    show(if(dj c []).2≠[]\/a=[]then dj c []else dj c a)=r;rw[<-ak.out,if_pos (.inr z)]
   have rE:=Z k;have o:a.length=0:=by rw[z];rfl
   have q:((a.length:Int)==0)=true:=by rw[o];rfl
   have o:decide ((a.length:Int)=0)=true:=by rw[o];rfl
   clear k w z;go_wp2_with (first|(refine iK rfl 37 (.tmp 9) rfl f.heap.size (bt hh x) rfl 37 ao.out _ underlying37 rfl e ?_)|(refine wpList_store_row rfl 37 (.tmp 4) (.tmp 37) rfl b.heap.size (bt hh x) rfl rfl 37 b9 y.out e rfl an ?_)|fail)
   obtain⟨e1,e2,f,e4⟩:=pQ y n3 aQ hle3 (Nat.le_refl _) K;refine bodyPost_ret (v:=.tuple #[.agg (bt hh x),O F 0 G]) (jP (p:=4) (u:=5) rfl _ _ b.heap.size 37 (bt hh x) _ rfl f underlying37 rfl e) rfl ?_;exact zj
  have aS:pS (.ok c P) a=dj c a:=by
   show(if(dj c []).2≠[]\/a=[]then dj c []else dj c a)=dj c a;rw[<-ak.out,if_neg (by rintro(h|h);exact h w;exact z h)]
  have rE:=Z aS;have f:=List.length_pos_iff.2 z;have k:((a.length:Int)==0)=false:=aF
  have bh:Hid (Calls prog 37 #[.agg #[O g i j],O U a.length V] I (gm I (dj c a))):=Z (by
   have h:=zb ⟨g,i,j⟩ ⟨U,a.length,V⟩ R a I (aH.same (t.trans m)) (λk o=>cW.mono ((aI k o).keep (Kp.of_same (l:=[]) (t.trans m)) aj) (λk k=>aV k (t.trans m).size)) aK (a6.same K) a7 a2;rw[S.out]at h;exact h)
  have bi:=ay aP;clear aS w z f;go_wp2_with fail
  refine bh.mono ?_;rintro al bj ⟨aT,bc,bd,D,⟨L,bk,M,E,aU,bl⟩,⟨⟨ap,aq,ar⟩,H,aW,aX⟩⟩;have am:al=.returned (.tuple #[.agg (bt L M),O ap aq ar]):=by
   rw[D,E,H];rfl
  clear D H E bi;subst am;have bm:=Z aU;have bn:=jb L M;have bo:Hid (hZ I.heap.size bj (O ap aq ar) (dj c a).2):=Z ⟨⟨ap,aq,ar⟩,rfl,aW,aX⟩;have aY:=Z ((Kp.of_same (l:=[]) aT).blk y aj);clear aU aW aX;go_wp2_with (first|(refine wpList_store_row rfl 37 (.tmp 4) (.tmp 42) rfl b.heap.size (bt L M) rfl rfl 37 b9 aY.out e rfl bn ?_)|fail)
  have a:=K.size;have a:=aV hle3 (t.trans m).size;obtain⟨e1,e2,c,e4⟩:=pQ aY n3 bl a (Nat.le_refl _) (K.trans aT);refine bodyPost_end (v:=.tuple _) (jP (p:=4) (u:=5) rfl _ _ b.heap.size 37 (bt L M) _ rfl c underlying37 rfl e) rfl ?_;rw[HW.out,rE.out];exact⟨e1,_,_,rfl,⟨L,bk,M,rfl,bm,e4.low (Nat.le_of_lt a)⟩,(bo.kp a e2).low (Nat.le_of_lt a)⟩
theorem zk (c:ax) (d:Hd) (b:List Cg) (a:ah) (f:aJ c) (g:b5 a ⟨some ⟨0,0,none⟩,10,10⟩ fJ) (i:0<a.heap.size) (j:aE a 8 d Cg.cells b) (k:∀e∈b,aJ e.name/\aJ e.dflt.s) (e:b.length<=1000):
 Calls prog 20 #[c,d.val] a (gm a (gM (ba c) b)):=IX c d b a _ (Z rfl) f g i j k e
theorem rF (b:ax) (a:ah) (j:aJ b) (k:b5 a ⟨some ⟨0,0,none⟩,10,10⟩ fJ) (m:0<a.heap.size):
 Calls prog 18 #[b] a (gm a (gM (ba b) [])):=by
 obtain⟨t,f⟩:=av (gM (ba b) []);have n:=Tryz.lR;have w:Hid (∀c,ag a c->Calls prog 20 #[b,ab] c (gm c t)):=Z (λd c=>by
  rw[f];exact zk b aL [] d j (k.same c) (aV m c.size) jN aj aj)
 rw[<-f];clear j k m f;have g:=Z (show ag a (a.alloc (.cells #[ab,ab,ab,ab,ab,ab,ab] 37))from(ag.refl a).alloc _);have i:Hid (aa (a.alloc (.cells #[ab,ab,ab,ab,ab,ab,ab] 37)) a.heap.size 37 b9):=Z (aa.new a 37 b9);go_enter func18,ntmps18
 go_upto_region 1 with(fail)
 obtain⟨x,b⟩:=av (a.alloc (.cells #[ab,ab,ab,ab,ab,ab,ab] 37));rw[<-b]at g i⊢;clear b;have e:=aa.lt i;go_wp2_with fail
 refine(w x g).mono ?_;rintro j b ⟨o,b,k,b,⟨c,y,d,f,q,z⟩,r⟩;have A:j=.returned (.tuple #[.agg (bt c d),k]):=by
  rw[b,f];rfl
 clear b f;subst A;have B:=Z q;have C:=Z r;have s:=Z ((Kp.of_same (l:=[]) o).blk i aj);have D:=jb c d;clear q r;go_wp2_with (first|(refine wpList_store_row rfl 37 (.tmp 2) (.tmp 6) rfl a.heap.size (bt c d) rfl rfl 37 b9 s.out n rfl D ?_)|fail)
 obtain⟨b,f,g,i⟩:=pQ s n3 z e (Nat.le_refl _) (g.trans o);refine bodyPost_end (v:=.tuple _) (jP (p:=2) (u:=3) rfl _ _ a.heap.size 37 (bt c d) _ rfl g underlying37 rfl n) rfl ?_;exact⟨b,_,_,rfl,⟨c,y,d,rfl,B,i.low (Nat.le_of_lt e)⟩,(C.kp e f).low (Nat.le_of_lt e)⟩
def tB:ByteArray:=⟨#[116,97,98,108,101,32,116,40,97,32,116,101,120,116,44,32,110,32,110,117,109,98,101,114,41,32,107,101,121,32,97,59,32,117,110,105,113,117,101,32,107,32,111,110,32,116,40,110,41,59]⟩
def tD:ByteArray:=⟨#[32,100,101,110,121,32,100,32,116,32,120,44,32,116,32,121,32,119,104,101,114,101,32,120,46,110,32,60,32,121,46,110,32,43,32,50,59]⟩
def tU:ByteArray:=⟨#[32,117,110,105,113,117,101,32,107,32,111,110,32,116,40,97,41,59]⟩
def tQ:ByteArray:=⟨#[113,117,101,114,121,32,113,32,61,32,115,101,108,101,99,116,40,116,32,119,104,101,114,101,32,97,32,60,32,51,41,59,32,116,97,98,108,101,32,116,40,97,32,116,101,120,116,41,32,107,101,121,32,97,59]⟩
def tK:ByteArray:=⟨#[32,107,101,101,112,32,116,46,110,32,98,121,32,108,111,110,103,101,115,116,59]⟩
def cM:Cg:=⟨3,⟨#[116]⟩,⟨#[110]⟩,⟨#[109]⟩,0,V.zero⟩
def tS (a:cG):List Int:=[a.l.var,a.l.col,a.l.v.k,a.l.v.n,(a.l.v.s.size:Int),a.r.var,a.r.col,a.r.v.k,a.r.v.n,(a.r.v.s.size:Int),a.add]
def tT (a:Ru):List (List Int):=a.cQ::a.tables::a.tests.map tS
def gz (p:Su×List (Int×Int)):List (Int×Int)×List (List (List Int)):=(p.2,p.1.rules.map tT)
theorem I6:gz (gM (ba (tB++tD)) [])=([],[[[1],[]],[[],[0,0],[0,1,0,0,0,1,1,0,0,0,2]]]):=by decide+kernel
theorem I7:gz (gM (ba (tB++tU)) [])=([(9,51)],[]):=by decide+kernel
theorem I8:gz (gM (ba tQ) [])=([(10,10)],[]):=by decide+kernel
theorem I9:gz (gM (ba (tB++tK)) [])=([(10,51)],[]):=by decide+kernel
theorem Ja:gz (gM (ba tB) [cM])=([],[[[1],[]]]):=by decide+kernel
theorem lS {a:Su×List (Int×Int)} {b:List (Int×Int)} {c:List (List (List Int))} (h:gz a=(b,c)):a.2=b:=congrArg Prod.fst h
theorem Jb {a:Su×List (Int×Int)} {c:List (Int×Int)} {b:List (List (List Int))} (h:gz a=(c,b)):a.1.rules.map tT=b:=congrArg Prod.snd h
theorem zm {a:ax} (h:(a.size:Int)=0):a=⟨#[]⟩:=by
 obtain⟨⟨b⟩⟩:=a;have:b.length=0:=by
  have h:((b.length:Nat):Int)=0:=h;omega
 rw[List.length_eq_zero_iff]at this;subst this;rfl
theorem zn {b c:Type} {d:b->c} {l:List b} {b:c} (h:l.map d=[b]):∃a,l=[a]/\d a=b:=by
 match l,h with
 |[a],h=>exact⟨a,rfl,by simpa using h⟩
theorem Jc {c d:Type} {b:c->d} {l:List c} {c e:d} (h:l.map b=[c,e]):∃a y,l=[a,y]/\b a=c/\b y=e:=by
 match l,h with
 |[a,y],h=>exact⟨a,y,rfl,by simpa using h⟩
theorem zo {a:cd} {d:List Tb} {b:Su×List (Int×Int)} {e:List (Int×Int)} {c:List (List (List Int))} (f:a.su d=b.1) (h:gz b=(e,c)):a.rs.map (λy=>tT y.ru)=c:=by
 have:=Jb h;rw[<-f]at this;simpa[cd.su,Function.comp_def]using this
theorem tV {h:Hd} {b:Nat} (d:b=h.n):h.val=.slice h.a b h.c:=by
 obtain⟨f,e,g⟩:=h;have d:b=e:=d;subst d;rfl
theorem tW {b:ah} {h:Hd} {l m:List Int} (d:cY b h l) (e:l=m):h.val=.slice h.a m.length h.c/\cY b ⟨h.a,m.length,h.c⟩ m:=by
 subst e;obtain⟨i,f,j⟩:=h;have g:l.length=f:=d.1;subst g;exact⟨rfl,d⟩
theorem eK.rule {i:Nat} {c:ah} {h:Hd} {b:List RT} {e:cd} (j:eK i c h b e) (g:Nat) {y:cn} (k:e.rs[g]?=some y):∃b d,e.h5.a=some ⟨b,d,none⟩/\b<c.heap.size/\(∀e f,y.cells[e]?=some f->ae c (ac b (d+g*10+e)) f)/\eU c (λb=>i<=b) y:=by
 obtain⟨c,i⟩:=List.getElem?_eq_some_iff.1 k;obtain⟨b,d,g,k,l⟩:=j.l5.2.2 g c;exact⟨b,d,g,k,λe f b=>l e f (by rw[i];exact b),j.r y (i▸List.getElem_mem c)⟩
theorem Jd {a:cG} (h:tS a=[0,1,0,0,0,1,1,0,0,0,2]):∃b,a=⟨⟨0,1,⟨0,0,⟨#[]⟩⟩⟩,b,⟨1,1,⟨0,0,⟨#[]⟩⟩⟩,2⟩:=by
 obtain⟨⟨q,r,⟨s,t,u⟩⟩,b,⟨v,w,⟨x,y,z⟩⟩,A⟩:=a;simp only[tS,List.cons.injEq,and_true]at h;obtain⟨c,d,e,f,g,i,j,k,l,m,n⟩:=h;have o:=zm g;have p:=zm m;subst c d e f o i j k l p n;exact⟨b,rfl⟩
def tC (a:Int):List Value:=[.int .i64 0,.int .i64 1,.int .i64 0,.int .i64 0,.string ⟨#[]⟩,.int .i64 a,.int .i64 1,.int .i64 1,.int .i64 0,.int .i64 0,.string ⟨#[]⟩,.int .i64 2]
theorem Je {f:Nat} {a:ah} {h:Hd} {r:List RT} {e:cd} {s:List Tb} {b:Su×List (Int×Int)} {t:List (Int×Int)} (k:eK f a h r e) (D:e.su s=b.1) (E:gz b=(t,[[[1],[]],[[],[0,0],[0,1,0,0,0,1,1,0,0,0,2]]])):
 ∃(b f F:Nat) (r:aU) (s:Nat) (t:aU) (u d g G:Nat) (n:Int),e.h5.val=.slice (some ⟨b,f,none⟩) 2 F/\b<a.heap.size/\ae a (ac b (f+3)) (O r 1 s)/\cY a ⟨r,1,s⟩ [1]/\
  ae a (ac b (f+10+8)) (O t 2 u)/\cY a ⟨t,2,u⟩ [0,0]/\ae a (ac b (f+10+9)) (O (some ⟨d,g,none⟩) 1 G)/\d<a.heap.size/\∀i j,(tC n)[i]?=some j->ae a (ac d (g+i)) j:=by
 obtain⟨a,o,p,e0,v⟩:=Jc (zo D E);obtain⟨w,x,hA1,H,I,u0⟩:=k.rule 0 (y:=a) (by rw[p];rfl);obtain⟨a,b,hA2,_,z,u1⟩:=k.rule 1 (y:=o) (by rw[p];rfl);rw[hA1]at hA2;have J:w=a:=congrArg Addr.block (Option.some.inj hA2);have K:x=b:=congrArg Addr.off (Option.some.inj hA2);subst J K;have A:=k.l5.1;rw[p]at A;have B:=tW u0.lc (m:=[1]) (List.cons.inj e0).1;have C:=tW u1.lb (m:=[0,0]) (List.cons.inj (List.cons.inj v).2).1;obtain⟨a,q,L⟩:=zn (l:=o.tests) (List.cons.inj (List.cons.inj v).2).2;obtain⟨n,rfl⟩:=Jd L;have a:=u1.ls.1;obtain⟨d,g,b,f,k⟩:=u1.ls.2.2 0 (by rw[q];exact Nat.zero_lt_one);refine⟨w,x,e.h5.c,_,_,_,_,d,g,o.hs.c,n,by rw[tV A,hA1];rfl,H,?_,B.2,?_,C.2,?_,f,λi j d=>?_⟩
 ·have h:=I 3 _ rfl
  rw[B.1]at h;simpa using h
 ·have h:=z 8 _ rfl
  rw[C.1]at h;simpa using h
 ·have h:=z 9 _ rfl
  rw[tV a,b,q]at h;simpa using h
 have h:=k i j (by simp only[q];exact d);simpa using h
theorem Jf {f:Nat} {a:ah} {h:Hd} {g:List RT} {b:cd} {i:List Tb} {d:Su×List (Int×Int)} {j:List (Int×Int)} (e:eK f a h g b) (k:b.su i=d.1) (l:gz d=(j,[[[1],[]]])):
 ∃(d f j:Nat) (g:aU) (i:Nat),b.h5.val=.slice (some ⟨d,f,none⟩) 1 j/\d<a.heap.size/\ae a (ac d (f+3)) (O g 1 i)/\cY a ⟨g,1,i⟩ [1]:=by
 obtain⟨d,a,e0⟩:=zn (zo k l);obtain⟨f,g,hA1,i,j,u0⟩:=e.rule 0 (y:=d) (by rw[a];rfl);have d:=e.l5.1;rw[a]at d;have a:=tW u0.lc (m:=[1]) (List.cons.inj e0).1;refine⟨f,g,b.h5.c,_,_,by rw[tV d,hA1];rfl,i,?_,a.2⟩;have h:=j 3 _ rfl;rw[a.1]at h;simpa using h
theorem tX {c:ah} {d:aU} {a:Nat} {p:Int×Int} (l:aE c 2 ⟨d,1,a⟩ d6 [p]):∃a b,d=some ⟨a,b,none⟩/\a<c.heap.size/\ae c (ac a b) p.1/\ae c (ac a (b+1)) p.2:=by
 obtain⟨a,b,d,e,c⟩:=l.2.2 0 Nat.zero_lt_one;exact⟨a,b,d,e,by simpa using c 0 _ rfl,by simpa using c 1 _ rfl⟩
theorem Jg (d:ah) (B:b5 d ⟨some ⟨0,0,none⟩,10,10⟩ fJ) (C:0<d.heap.size):
 Calls prog 12 #[] d λc ac=>c=.returned (.bool true)/\ag d ac:=by
 have D:=Tryz.lR;have aM:∀a,(Op.stringOp .add ({data:=#[116,97,98,108,101,32,116,40,97,32,116,101,120,116,44,32,110,32,110,117,109,98,101,114,41,32,107,101,121,32,97,59,32,117,110,105,113,117,101,32,107,32,111,110,32,116,40,110,41,59]}:ByteArray) {data:=#[32,100,101,110,121,32,100,32,116,32,120,44,32,116,32,121,32,119,104,101,114,101,32,120,46,110,32,60,32,121,46,110,32,43,32,50,59]}).run prog a=.ok (.string (tB++tD)) a:=λa=>run_string_add_sum a tB tD (by show tB.size+tD.size<=_;decide+kernel);obtain⟨ad,N⟩:=av (tB++tD);simp only[<-N]at aM;have aN:aJ ad:=by rw[N];unfold aJ;try decide+kernel
 obtain⟨aO,af⟩:=av (gM (ba ad) []);have aP:=Z (show gz aO=([],[[[1],[]],[[],[0,0],[0,1,0,0,0,1,1,0,0,0,2]]]) by rw[af,N];exact I6);have aQ:=Z (λa (b:ag d a)=>rF ad a aN (B.same b) (aV C b.size));simp only[<-af]at aQ;clear af N aN;have aR:∀a,(Op.stringOp .add ({data:=#[116,97,98,108,101,32,116,40,97,32,116,101,120,116,44,32,110,32,110,117,109,98,101,114,41,32,107,101,121,32,97,59,32,117,110,105,113,117,101,32,107,32,111,110,32,116,40,110,41,59]}:ByteArray) {data:=#[32,117,110,105,113,117,101,32,107,32,111,110,32,116,40,97,41,59]}).run prog a=.ok (.string (tB++tU)) a:=λa=>run_string_add_sum a tB tU (by show tB.size+tU.size<=_;decide+kernel);obtain⟨ad,N⟩:=av (tB++tU);simp only[<-N]at aR;have aN:aJ ad:=by rw[N];unfold aJ;try decide+kernel
 obtain⟨aT,af⟩:=av (gM (ba ad) []);have aU:=Z (show gz aT=([(9,51)],[]) by rw[af,N];exact I7);have aW:=Z (λa (b:ag d a)=>rF ad a aN (B.same b) (aV C b.size));simp only[<-af]at aW;clear af N aN;obtain⟨ad,N⟩:=av tQ;have aN:aJ ad:=by rw[N];unfold aJ;try decide+kernel
 obtain⟨ak,af⟩:=av (gM (ba ad) []);have aX:=Z (show gz ak=([(10,10)],[]) by rw[af,N];exact I8);have ad:=Z (λa (b:ag d a)=>rF ad a aN (B.same b) (aV C b.size));simp only[<-af]at ad;have bQ:Hid (∀a,ag d a->Calls prog 18 #[.string {data:=#[113,117,101,114,121,32,113,32,61,32,115,101,108,101,99,116,40,116,32,119,104,101,114,101,32,97,32,60,32,51,41,59,32,116,97,98,108,101,32,116,40,97,32,116,101,120,116,41,32,107,101,121,32,97,59]}] a (gm a ak)):=Z (by have h:=ad.out;rw[N]at h;exact h);clear af N aN;have aY:∀a,(Op.stringOp .add ({data:=#[116,97,98,108,101,32,116,40,97,32,116,101,120,116,44,32,110,32,110,117,109,98,101,114,41,32,107,101,121,32,97,59,32,117,110,105,113,117,101,32,107,32,111,110,32,116,40,110,41,59]}:ByteArray) {data:=#[32,107,101,101,112,32,116,46,110,32,98,121,32,108,111,110,103,101,115,116,59]}).run prog a=.ok (.string (tB++tK)) a:=λa=>run_string_add_sum a tB tK (by show tB.size+tK.size<=_;decide+kernel);obtain⟨ad,N⟩:=av (tB++tK);simp only[<-N]at aY;have aN:aJ ad:=by rw[N];unfold aJ;try decide+kernel
 obtain⟨a0,af⟩:=av (gM (ba ad) []);have a1:=Z (show gz a0=([(10,51)],[]) by rw[af,N];exact I9);have a2:=Z (λa (b:ag d a)=>rF ad a aN (B.same b) (aV C b.size));simp only[<-af]at a2;clear af N aN;obtain⟨al,N⟩:=av (gM (ba tB) [cM]);have a3:=Z (show gz al=([],[[[1],[]]]) by rw[N];exact Ja);have bR:Hid (∀a,ag d a->∀b e,aE a 8 ⟨b,1,e⟩ Cg.cells [cM]->Calls prog 20 #[.string {data:=#[116,97,98,108,101,32,116,40,97,32,116,101,120,116,44,32,110,32,110,117,109,98,101,114,41,32,107,101,121,32,97,59,32,117,110,105,113,117,101,32,107,32,111,110,32,116,40,110,41,59]},O b 1 e] a (gm a al)):=Z (λa b f e g=>by
  rw[N];exact zk tB ⟨f,1,e⟩ [cM] a (by unfold aJ;try decide+kernel) (B.same b) (aV C b.size) g (λe b=>by rw[aC b];constructor<;>(unfold aJ;try decide+kernel)) aj)
 clear N B C;have a4:=Z (ag.refl d);obtain⟨B,bS⟩:=av d;go_enter func12,ntmps12
 go_wp2_with fail
 refine(aQ d a4).mono ?_;rintro c k ⟨a5,P,Q,e,⟨b,B,v,f,a6,a7⟩,⟨⟨bT,g,bV⟩,i,a8,o⟩⟩;have q:g=0:=by
  have b:aO.2.length=g:=a8.1;rw[lS aP.out]at b;exact b.symm
 subst q;have r:c=.returned (.tuple #[.agg (bt b v),O bT 0 bV]):=by
  rw[e,f,i];rfl
 clear e i f o;subst r;have a9:=jb b v;have bb:=fK k (.cells #[ab,ab,ab,ab,ab,ab,ab] 37);have bc:=World.setRow_alloc_new k #[ab,ab,ab,ab,ab,ab,ab] (bt b v) 37;have am:=Z (show ag k (k.alloc (.cells (bt b v) 37))from(ag.refl k).alloc _);have bd:=Z (aa.new k 37 (bt b v));go_upto_region 3 with(first|(refine wpList_store_row rfl 37 (.tmp 2) (.tmp 18) rfl k.heap.size (bt b v) rfl rfl 37 #[ab,ab,ab,ab,ab,ab,ab] bb D rfl a9 ?_;rw[bc])|fail)
 obtain⟨bW,v⟩:=av (k.alloc (.cells (bt b v) 37));rw[<-v]at am bd⊢;clear v bb bc a9;have be:=Z (a4.trans (a5.trans am));clear aM;go_wp2_with fail
 refine(aW bW be).mono ?_;rintro c w ⟨an,P,Q,e,⟨u,v,E,f,bX,bY⟩,⟨⟨bZ,g,b0⟩,i,ap,o⟩⟩;have q:g=1:=by
  have b:aT.2.length=g:=ap.1;rw[lS aU.out]at b;exact b.symm
 subst q;have r:c=.returned (.tuple #[.agg (bt u E),O bZ 1 b0]):=by
  rw[e,f,i];rfl
 clear e i f o;subst r;have bf:=jb u E;have bg:=fK w (.cells #[ab,ab,ab,ab,ab,ab,ab] 37);have bh:=World.setRow_alloc_new w #[ab,ab,ab,ab,ab,ab,ab] (bt u E) 37;have R:=Z (show ag w (w.alloc (.cells (bt u E) 37))from(ag.refl w).alloc _);go_upto_region 4 with(first|(refine wpList_store_row rfl 37 (.tmp 4) (.tmp 24) rfl w.heap.size (bt u E) rfl rfl 37 #[ab,ab,ab,ab,ab,ab,ab] bg D rfl bf ?_;rw[bh])|fail)
 obtain⟨b1,v⟩:=av (w.alloc (.cells (bt u E) 37));rw[<-v]at R⊢;clear v bg bh bf;have bj:=Z (be.trans (an.trans R));clear aR;go_wp2_with fail
 refine(bQ b1 bj).mono ?_;rintro c x ⟨aq,P,Q,e,⟨F,v,G,f,b2,b6⟩,⟨⟨b8,g,b9⟩,i,ar,o⟩⟩;have q:g=1:=by
  have b:ak.2.length=g:=ar.1;rw[lS aX.out]at b;exact b.symm
 subst q;have r:c=.returned (.tuple #[.agg (bt F G),O b8 1 b9]):=by
  rw[e,f,i];rfl
 clear e i f o;subst r;have bk:=jb F G;have bm:=fK x (.cells #[ab,ab,ab,ab,ab,ab,ab] 37);have bn:=World.setRow_alloc_new x #[ab,ab,ab,ab,ab,ab,ab] (bt F G) 37;have S:=Z (show ag x (x.alloc (.cells (bt F G) 37))from(ag.refl x).alloc _);go_upto_region 5 with(first|(refine wpList_store_row rfl 37 (.tmp 6) (.tmp 28) rfl x.heap.size (bt F G) rfl rfl 37 #[ab,ab,ab,ab,ab,ab,ab] bm D rfl bk ?_;rw[bn])|fail)
 obtain⟨ca,v⟩:=av (x.alloc (.cells (bt F G) 37));rw[<-v]at S⊢;clear v bm bn bk;have bo:=Z (bj.trans (aq.trans S));go_wp2_with fail
 refine(a2 ca bo).mono ?_;rintro c y ⟨au,P,Q,e,⟨H,v,I,f,cb,cc⟩,⟨⟨cd,g,ce⟩,i,ax,o⟩⟩;have q:g=1:=by
  have b:a0.2.length=g:=ax.1;rw[lS a1.out]at b;exact b.symm
 subst q;have r:c=.returned (.tuple #[.agg (bt H I),O cd 1 ce]):=by
  rw[e,f,i];rfl
 clear e i f o;subst r;have bp:=jb H I;have bq:=fK y (.cells #[ab,ab,ab,ab,ab,ab,ab] 37);have br:=World.setRow_alloc_new y #[ab,ab,ab,ab,ab,ab,ab] (bt H I) 37;have T:=Z (show ag y (y.alloc (.cells (bt H I) 37))from(ag.refl y).alloc _);go_upto_region 6 with(first|(refine wpList_store_row rfl 37 (.tmp 8) (.tmp 34) rfl y.heap.size (bt H I) rfl rfl 37 #[ab,ab,ab,ab,ab,ab,ab] bq D rfl bp ?_;rw[br])|fail)
 obtain⟨U,v⟩:=av (y.alloc (.cells (bt H I) 37));rw[<-v]at T⊢;clear v bq br bp;have v:=Z (bo.trans (au.trans T));clear aY;have bs:=Z (show ag d (U.alloc (.cells cM.cells.toArray 99))from v.alloc _);have V:=Z (cJ (enc:=Cg.cells) (m:=8) (h:=⟨some ⟨U.heap.size,0,none⟩,1,1⟩) (xs:=[cM]) (λ_=>rfl) rfl aj (iB U cM.cells.toArray 99 8 0 rfl (Nat.zero_le _)));go_wp2_with fail
 refine(bR _ bs _ _ V).mono ?_;rintro c n ⟨az,P,Q,e,⟨z,d,A,f,bu,bv⟩,⟨⟨cf,g,cg⟩,i,bw,o⟩⟩;have q:g=0:=by
  have b:al.2.length=g:=bw.1;rw[lS a3.out]at b;exact b.symm
 subst q;have r:c=.returned (.tuple #[.agg (bt z A),O cf 0 cg]):=by
  rw[e,f,i];rfl
 clear e i f o;subst r;have bx:=jb z A;have bz:=fK n (.cells #[ab,ab,ab,ab,ab,ab,ab] 37);have bA:=World.setRow_alloc_new n #[ab,ab,ab,ab,ab,ab,ab] (bt z A) 37;have W:=Z (show ag n (n.alloc (.cells (bt z A) 37))from(ag.refl n).alloc _);have bB:=Z (aa.new n 37 (bt z A));go_upto_region 7 with(first|(refine wpList_store_row rfl 37 (.tmp 10) (.tmp 41) rfl n.heap.size (bt z A) rfl rfl 37 #[ab,ab,ab,ab,ab,ab,ab] bz D rfl bx ?_;rw[bA])|fail)
 obtain⟨j,d⟩:=av (n.alloc (.cells (bt z A) 37));rw[<-d]at W bB⊢;clear d bz bA bx;have ch:=Z (bs.trans (az.trans W));have d:=Z (((ag.refl U).alloc (.cells cM.cells.toArray 99)).trans (az.trans W));have e:=Z (au.trans (T.trans d));have f:=Z (aq.trans (S.trans e));have g:=Z (an.trans (R.trans f));have i:=Z (a7.same (am.trans g));have o:=Z (bv.same W);have bC:=Z ((Kp.of_same (l:=[]) g).blk bd aj);have aA:=bB;have f:=Z (by have h:=ap.same (R.out.trans f.out);rw[lS aU.out]at h;exact h);have e:=Z (by have h:=ar.same (S.out.trans e.out);rw[lS aX.out]at h;exact h);have d:=Z (by have h:=ax.same (T.out.trans d.out);rw[lS a1.out]at h;exact h);obtain⟨L,aB,aD,K,ci,cj,ck,cl,cm,g,s,bD,L1,cn,co,cp,cq,i,q,cr⟩:=Je i a6 aP;obtain⟨aF,bE,bF,cs,ct,bG,cu,cv,cw⟩:=Jf o bu a3;obtain⟨bH,f,cx,bI,cy,cz⟩:=tX f;obtain⟨bJ,e,cA,bK,cB,cC⟩:=tX e;obtain⟨cD,d,cE,cF,cG,_⟩:=tX d;subst cx cA cE;clear a5 an aq au az a7 bY b6 cc bv a6 bX b2 cb bu a8 ap ar ax bw;have d:ae j (ao k 5) (O (some ⟨L,aB,none⟩) 2 aD):=by rw[<-bD];exact aa.cell bC.out 5
 have e:ae j (ao n 5) (O (some ⟨aF,bE,none⟩) 1 bF):=by rw[<-bG];exact aa.cell aA.out 5
 have V:=Z bI;have bL:=Z d;have cH:=Z e;have bM:=Z (aa.lt bC);have cI:=Z (aa.lt aA);clear bD bG bI D bS aA;go_upto_region 9 with(fail)
 have cK:=Z (fK j (.cells #[J 0,J 0,J 0,J 0,ai,J 0,J 0,J 0,J 0,J 0,ai,J 0] 73));have cL:=Z (World.setRow_alloc_new j #[J 0,J 0,J 0,J 0,ai,J 0,J 0,J 0,J 0,J 0,ai,J 0] #[J 0,J 1,J 0,J 0,ai,s,J 1,J 1,J 0,J 0,ai,J 2] 73);have cN:=Z (show(#[J 0,J 1,J 0,J 0,ai,s,J 1,J 1,J 0,J 0,ai,J 2]:Array Value).all (·.oneCell')=true by simp[Value.oneCell']);have cO:=Z (show(some 12:Option Nat)=some (tC s).length from rfl);have bN:(some 12:Option Nat)=some (#[J 0,J 1,J 0,J 0,ai,s,J 1,J 1,J 0,J 0,ai,J 2]:Array Value).size:=rfl;go_upto_region 10 with(first|(refine nX rfl 73 (.tmp 92) rfl cl cm [.int .i64 0,.int .i64 1,.int .i64 0,.int .i64 0,.string ⟨#[]⟩,.int .i64 s,.int .i64 1,.int .i64 1,.int .i64 0,.int .i64 0,.string ⟨#[]⟩,.int .i64 2] rfl cr _ underlying73 rfl cO.out ?_)|(refine wpList_store_row rfl 73 (.tmp 12) (.tmp 93) rfl j.heap.size #[J 0,J 1,J 0,J 0,ai,s,J 1,J 1,J 0,J 0,ai,J 2] rfl rfl 73 #[J 0,J 0,J 0,J 0,ai,J 0,J 0,J 0,J 0,J 0,ai,J 0] cK.out bN.out rfl cN.out ?_;rw[cL.out])|fail)
 clear bN;try rw[ie]
 refine aw ?_;have M:=Z (show ag j (j.alloc (.cells #[J 0,J 1,J 0,J 0,ai,s,J 1,J 1,J 0,J 0,ai,J 2] 73))from(ag.refl j).alloc _);have bO:=Z (aa.new j 73 #[J 0,J 1,J 0,J 0,ai,s,J 1,J 1,J 0,J 0,ai,J 2]);obtain⟨aG,d⟩:=av (j.alloc (.cells #[J 0,J 1,J 0,J 0,ai,s,J 1,J 1,J 0,J 0,ai,J 2] 73));rw[<-d]at M bO⊢;clear d;have aH:Hid (∀a,ag j a->∀K e f g (d:List Int),cY j ⟨K,d.length,e⟩ d->cY a ⟨f,d.length,g⟩ d->Calls prog 34 #[O K d.length e,O f d.length g] a λc ac=>c=.returned (.bool true)/\ag a ac):=Z (λa e K f g i d b u=>by
  have h:=zl ⟨K,d.length,f⟩ ⟨g,d.length,i⟩ d d a (b.same e) u;simp only[decide_true]at h;exact h)
 have a:ae aG (ao k 5) (O (some ⟨L,aB,none⟩) 2 aD):=(M.cell (p:=⟨_,5,none⟩) bM).trans bL;have cP:=(M.cell (p:=⟨L,_,none⟩) L1).trans cn;go_wp2_with fail
 clear cP;refine(aH _ (M.alloc _) K ci _ 1 [1] co (cJ (enc:=bU) (m:=1) (h:=⟨some ⟨aG.heap.size,0,none⟩,1,1⟩) (xs:=[(1:Int)]) (λ_=>rfl) rfl aj (iB aG _ 3 1 0 rfl (Nat.zero_le _)))).mono ?_;rintro c X ⟨rfl,aI⟩;have Y:=Z ((M.alloc (.cells #[J 1] 3)).trans aI);have cQ:=Z ((Kp.of_same (l:=[]) aI).blk (bO.alloc (.cells #[J 1] 3)) aj);clear aI;have a:ae X (ao k 5) (O (some ⟨L,aB,none⟩) 2 aD):=(Y.cell (p:=⟨_,5,none⟩) bM).trans bL;have cR:=(Y.cell (p:=⟨L,_,none⟩) L1).trans cp;go_wp2_with fail
 clear cR;refine(aH _ (Y.alloc _) cj ck _ 2 [0,0] cq (cJ (enc:=bU) (m:=1) (h:=⟨some ⟨X.heap.size,0,none⟩,2,2⟩) (xs:=[(0:Int),0]) (λ_=>rfl) rfl aj ⟨rfl,.inr ⟨X.heap.size,2,_,rfl,Nat.zero_le _,aa.new X 3 _,Nat.le_refl _,by unfold maxLen;omega,by simp,rfl⟩⟩)).mono ?_;rintro c aK ⟨rfl,aL⟩;have t:=Z ((Y.alloc (.cells #[J 0,J 0] 3)).trans aL);have a:=Z ((Kp.of_same (l:=[]) aL).blk (cQ.alloc (.cells #[J 0,J 0] 3)) aj);clear aL;have b:=ay a;have b:=aS a;have b:=aZ a;have b:=bi a;have b:=bl a;have b:=b3 a;have b:=b7 a;have b:=b4 a;have b:=je a;have b:=m5 a;have a:=ov a;have cS:=(t.cell (p:=⟨bH,_,none⟩) V).trans cy;have cT:=(t.cell (p:=⟨bH,_,none⟩) V).trans cz;have cU:=(t.cell (p:=⟨bJ,_,none⟩) bK).trans cB;have cV:=(t.cell (p:=⟨bJ,_,none⟩) bK).trans cC;have cW:=(t.cell (p:=⟨cD,_,none⟩) cF).trans cG;have a:ae aK (ao n 5) (O (some ⟨aF,bE,none⟩) 1 bF):=(t.cell (p:=⟨_,5,none⟩) cI).trans cH;have cX:=(t.cell (p:=⟨aF,_,none⟩) cu).trans cv;go_wp2_with fail
 refine(aH _ (t.alloc _) cs ct _ 1 [1] cw (cJ (enc:=bU) (m:=1) (h:=⟨some ⟨aK.heap.size,0,none⟩,1,1⟩) (xs:=[(1:Int)]) (λ_=>rfl) rfl aj (iB aK _ 3 1 0 rfl (Nat.zero_le _)))).mono ?_;rintro c a ⟨rfl,bP⟩;have cZ:=Z (ch.trans ((t.alloc (.cells #[J 1] 3)).trans bP));clear bP cS cT cU cV cW cX;go_wp2;go_ret;exact⟨rfl,cZ⟩
theorem tz.refl (a:List At):tz a a:=λ_ _=>⟨rfl,rfl⟩
theorem zp (b:Int):∀(a:List cZ) (c:List At),(gg b c a).Nz
 |[],_=>.ok
 |_::a,_=>.ap (.ap (.ap (.ap (zp b a _))))
theorem Jh (a:List Tb) (b:aB):(eP a b).Nz:=.ap ((zp _ _ _).bind λ_=>.ap ((tu _ _ _ _).bind λ_=>.ok))
theorem tY:∀(b:List ((Int×Int)×aB)) (d:Su),(dr d [] b).2=[]->∀c∈b,c.1.1=0
 |[],_,_,c,a=>by cases a
 |(k,x)::b,d,h,c,a=>by
  rw[dr]at h;by_cases e:k.1=0
  case neg=>
   rw[if_neg e]at h;exact absurd (mV _ _ _ h) aj
  rw[if_pos e]at h;rcases de a with rfl|a
  ·exact e
  cases hp:ch d x with
  |ok f=>rw[hp]at h;exact tY b f h c a
  |bad f g=>
   rw[hp]at h;dsimp only at h;split at h
   ·exact tY b d h c a
   exact absurd (mV _ _ _ h) aj
def cD (a:Int):Int:=if a=5 then 0 else if a=6\/a=7\/a=8 then 9 else a
def dm:List Tb->ce->List aB->Option (List Tb)
 |tabs,_,[]=>some tabs
 |tabs,u,x::xs=>
  if(bL u x).2≠0 then none
  else if x.kind=1 then
   match eP tabs x with
   |.ok t=>dm (tabs++[t]) (bL u x).1 xs
   |.bad _ _=>none
  else dm tabs (bL u x).1 xs
def fG:Su->List aB->Option Su
 |s,[]=>some s
 |s,x::xs=>match ch s x with
  |.ok s'=>fG s' xs
  |.bad _ _=>none
def n9 (c d:ce):Prop:=∀a b,dd c a b=dd d a b
theorem n9.begin {a b:ce} (h:n9 a b) (c:aB):(bL a c).2=(bL b c).2/\n9 (bL a c).1 (bL b c).1:=by
 have e:∀(c:Int) (d:ax),n9 ((c,d)::a) ((c,d)::b):=λc d a b=>by
  have:=h a b;unfold dd at this⊢;rw[List.any_cons,List.any_cons,this]
 unfold bL;rw[h];split
 ·split
  ·exact⟨rfl,h⟩
  split
  ·split
   ·exact⟨rfl,h⟩
   exact⟨rfl,e _ _⟩
  exact⟨rfl,h⟩
 exact⟨rfl,h⟩
theorem pT:∀(a:List aB) (b:List Tb) (c d:ce),n9 c d->dm b c a=dm b d a
 |[],_,_,_,_=>by rw[dm,dm]
 |x::a,b,c,d,h=>by
  obtain⟨b,e⟩:=h.begin x;rw[dm,dm,b];split
  ·rfl
  split
  ·split
   ·exact pT a _ _ _ e
   rfl
  exact pT a _ _ _ e
theorem zq {d:ce} {a b:aB} (o:cD a.kind≠cD b.kind) (e:(bL d a).2=0) (c:(bL (bL d a).1 b).2=0):
 (bL d b).2=0/\(bL (bL d b).1 a).2=0/\n9 (bL (bL d a).1 b).1 (bL (bL d b).1 a).1:=by
 have r:a.kind≠5->b.kind≠5->ei a.kind≠ei b.kind:=λp q h=>by
  refine o ?_;unfold cD;rw[if_neg p,if_neg q];exact h
 unfold bL at*;by_cases j:aY a.kind 1 10=true
 case neg=>rw[if_neg j]at e;cases e
 by_cases k:aY b.kind 1 10=true
 case neg=>rw[if_neg k]at c;cases c
 simp only[j,k,if_true]at e c⊢;by_cases g:a.kind=5
 ·simp only[g,if_true]at e c⊢
  exact⟨c,trivial,λ_ _=>rfl⟩
 simp only[g,if_false]at e c⊢;by_cases l:bC a.name=true
 case neg=>rw[if_neg l]at e;cases e
 simp only[l,if_true]at e c⊢;by_cases f:dd d (ei a.kind) a.name=true
 ·rw[if_pos f]at e;cases e
 simp only[f,Bool.false_eq_true,if_false]at e c⊢;by_cases i:b.kind=5
 ·simp only[i,if_true,f,Bool.false_eq_true,if_false]at c⊢
  exact⟨trivial,trivial,λ_ _=>rfl⟩
 simp only[i,if_false]at c⊢;by_cases m:bC b.name=true
 case neg=>rw[if_neg m]at c;cases c
 simp only[m,if_true]at c⊢;have e:=r g i;have g:dd ((ei a.kind,a.name)::d) (ei b.kind) b.name=dd d (ei b.kind) b.name:=by
  unfold dd;rw[List.any_cons,decide_eq_false e];rfl
 have s:dd ((ei b.kind,b.name)::d) (ei a.kind) a.name=dd d (ei a.kind) a.name:=by
  unfold dd;rw[List.any_cons,decide_eq_false (λh=>e h.symm)];rfl
 rw[g]at c⊢;by_cases n:dd d (ei b.kind) b.name=true
 ·rw[if_pos n]at c;cases c
 simp only[n,Bool.false_eq_true,if_false,s,f];refine⟨trivial,trivial,λa a=>?_⟩;unfold dd;simp only[List.any_cons];rw[<-Bool.or_assoc,<-Bool.or_assoc,Bool.or_comm (decide _&&decide _)]
theorem Ji {a b:aB} (f:cD a.kind≠cD b.kind) {j:List Tb} {c:ce} {e:List aB} {k:List Tb} (h:dm j c (a::b::e)=some k):
 dm j c (b::a::e)=some k:=by
 rw[dm]at h;by_cases g:(bL c a).2≠0
 ·rw[if_pos g]at h;cases h
 rw[if_neg g]at h;have l:(bL c a).2=0:=by simpa using g
 by_cases d:a.kind=1
 ·rw[if_pos d]at h
  have m:b.kind≠1:=λg=>f (by rw[d,g]);split at h
  ·rename_i g n
   rw[dm]at h;by_cases i:(bL (bL c a).1 b).2≠0
   ·rw[if_pos i]at h;cases h
   rw[if_neg i,if_neg m]at h;obtain⟨g,i,j⟩:=zq f l (by simpa using i);rw[dm,if_neg (by simpa using g),if_neg m,dm,if_neg (by simpa using i),if_pos d,n];exact(pT e _ _ _ j).symm.trans h
  cases h
 rw[if_neg d,dm]at h;by_cases i:(bL (bL c a).1 b).2≠0
 ·rw[if_pos i]at h;cases h
 rw[if_neg i]at h;obtain⟨a,m,n⟩:=zq f l (by simpa using i);rw[dm,if_neg (by simpa using a)];by_cases o:b.kind=1
 ·rw[if_pos o]at h⊢
  split at h
  ·rename_i a a
   rw[dm,if_neg (by simpa using m),if_neg d];exact(pT e _ _ _ n).symm.trans h
  cases h
 rw[if_neg o]at h⊢;rw[dm,if_neg (by simpa using m),if_neg d];exact(pT e _ _ _ n).symm.trans h
def dS (c:Int) (a b:Su):Su:=
 if c=2 then{b with tabs:=a.tabs,origins:=a.origins}
 else if c=3 then{b with tabs:=a.tabs,blocks:=a.blocks}
 else if c=4 then{b with tabs:=a.tabs,fr:=a.fr}
 else if c=0 then{b with tabs:=a.tabs,keeps:=a.keeps}
 else if c=9 then{b with tabs:=a.tabs,rules:=a.rules}
 else if c=10 then{b with tabs:=a.tabs,queries:=a.queries}
 else{b with tabs:=a.tabs}
theorem Jj (s a:Su) (b:aB):RO.To (λs'=>{a with tabs:=s'.tabs,origins:=s'.origins}) (lh s b) (lh {a with tabs:=s.tabs,origins:=s.origins} b):=by
 unfold lh;exact .ap id λ_=>.ap id λ_=>.ok
theorem Jk (s a:Su) (b:aB):RO.To (λs'=>{a with tabs:=s'.tabs,blocks:=s'.blocks}) (j1 s b) (j1 {a with tabs:=s.tabs,blocks:=s.blocks} b):=by
 unfold j1;exact RO.To.bind (φ:=λa=>a) .rfl λ_ _=>RO.To.bind (φ:=λa=>a) .rfl λ_ _=>.ok
theorem Jl (s a:Su) (b:aB):RO.To (λs'=>{a with tabs:=s'.tabs,fr:=s'.fr}) (j2 s b) (j2 {a with tabs:=s.tabs,fr:=s.fr} b):=by
 unfold j2;exact RO.To.bind (φ:=λa=>a) .rfl λ_ _=>.ap id λ_=>.ap id λ_=>RO.To.bind (φ:=λa=>a) .rfl λ_ _=>.ok
theorem Jm (s a:Su) (b:aB):RO.To (λs'=>{a with tabs:=s'.tabs,keeps:=s'.keeps}) (j3 s b) (j3 {a with tabs:=s.tabs,keeps:=s.keeps} b):=by
 unfold j3;exact RO.To.bind (φ:=λa=>a) .rfl λ_ _=>.ap id λ_=>.ap id λ_=>.ap id λ_=>.ok
theorem rG (s a:Su) (b:Ru):RO.To (λs'=>{a with tabs:=s'.tabs,rules:=s'.rules}) (li s b) (li {a with tabs:=s.tabs,rules:=s.rules} b):=by
 unfold li;exact .ok
theorem Jn (s a:Su) (b:aB):RO.To (λs'=>{a with tabs:=s'.tabs,rules:=s'.rules}) (ma s b) (ma {a with tabs:=s.tabs,rules:=s.rules} b):=by
 unfold ma;exact RO.To.bind (φ:=λb=>b) .rfl λ_ _=>rG s a _
theorem Jo (s a:Su) (b:aB):RO.To (λs'=>{a with tabs:=s'.tabs,rules:=s'.rules}) (j4 s b) (j4 {a with tabs:=s.tabs,rules:=s.rules} b):=by
 unfold j4;exact RO.To.bind (φ:=λb=>b) .rfl λ_ _=>RO.To.bind (φ:=λb=>b) .rfl λ_ _=>.ap id λ_=>RO.To.bind (φ:=λb=>b) .rfl λ_ _=>rG s a _
theorem Jp (s a:Su) (b:aB):RO.To (λs'=>{a with tabs:=s'.tabs,rules:=s'.rules}) (j5 s b) (j5 {a with tabs:=s.tabs,rules:=s.rules} b):=by
 unfold j5;exact RO.To.bind (φ:=λb=>b) .rfl λ_ _=>RO.To.bind (φ:=λb=>b) .rfl λ_ _=>.ap id λ_=>rG s a _
theorem Jq (s a:Su) (b:aB):RO.To (λs'=>{a with tabs:=s'.tabs,rules:=s'.rules}) (j6 s b) (j6 {a with tabs:=s.tabs,rules:=s.rules} b):=by
 unfold j6;exact .ap id λ_=>RO.To.bind (φ:=λb=>b) .rfl λ_ _=>RO.To.bind (φ:=λb=>b) .rfl λ_ _=>rG s a _
theorem Jr (s a:Su) (b:aB):RO.To (λs'=>{a with tabs:=s'.tabs,queries:=s'.queries}) (jn s b) (jn {a with tabs:=s.tabs,queries:=s.queries} b):=by
 unfold jn;exact RO.To.bind (φ:=λa=>a) .rfl λ_ _=>.ok
theorem tZ (b c:Su) (a:aB):RO.To (λd=>dS (cD a.kind) d c) (ch b a) (ch (dS (cD a.kind) b c) a):=by
 unfold ch;refine .ite (λh=>?_) λd=>.ite (λh=>?_) λd=>.ite (λh=>?_) λd=>.ite (λh=>?_) λd=>.ite (λh=>?_) λd=>.ite (λh=>?_) λd=>.ite (λh=>?_) λd=>.ite (λh=>?_) λd=>.ite (λh=>?_) λd=>.ok
 ·rw[h];exact Jj b c a
 ·rw[h];exact Jk b c a
 ·rw[h];exact Jl b c a
 ·rw[h];exact Jm b c a
 ·rw[h];exact Jn b c a
 ·rw[h];exact Jo b c a
 ·rw[h];exact Jp b c a
 ·rw[h];exact Jq b c a
 rw[h];exact Jr b c a
theorem Su.eq {a b:Su} (c:a.tabs=b.tabs) (d:a.origins=b.origins) (e:a.blocks=b.blocks) (f:a.fr=b.fr) (g:a.keeps=b.keeps) (i:a.rules=b.rules) (j:a.queries=b.queries):a=b:=by
 cases a;cases b;simp only at c d e f g i j;rw[c,d,e,f,g,i,j]
theorem t6 (b:Int) (a c:Su):(dS b a c).tabs=a.tabs:=by
 unfold dS;repeat' split
 all_goals rfl
theorem zr (a:Int) (b c:Su):(dS a b c).origins=if a=2 then b.origins else c.origins:=by
 unfold dS;repeat' split
 all_goals first|rfl|omega
theorem zt (a:Int) (b c:Su):(dS a b c).blocks=if a=3 then b.blocks else c.blocks:=by
 unfold dS;repeat' split
 all_goals first|rfl|omega
theorem zu (a:Int) (b c:Su):(dS a b c).fr=if a=4 then b.fr else c.fr:=by
 unfold dS;repeat' split
 all_goals first|rfl|omega
theorem zv (a:Int) (b c:Su):(dS a b c).keeps=if a=0 then b.keeps else c.keeps:=by
 unfold dS;repeat' split
 all_goals first|rfl|omega
theorem zw (a:Int) (b c:Su):(dS a b c).rules=if a=9 then b.rules else c.rules:=by
 unfold dS;repeat' split
 all_goals first|rfl|omega
theorem zx (a:Int) (b c:Su):(dS a b c).queries=if a=10 then b.queries else c.queries:=by
 unfold dS;repeat' split
 all_goals first|rfl|omega
theorem zy (b:Int) (a:Su):dS b a a=a:=by
 refine Su.eq (t6 ..) ?_ ?_ ?_ ?_ ?_ ?_<;>simp only[zr,zt,zu,zv,zw,zx,ite_self]
theorem zz {a b:Int} (h:a≠b) {c d:Su} (ht:c.tabs=d.tabs) (e:Su):dS a c (dS b d e)=dS b d (dS a c e):=by
 have q:∀{g:Type} (c:Int) (d e f:g),(if a=c then d else if b=c then e else f)=if b=c then e else if a=c then d else f:=λc d e f=>by
  split
  ·rw[if_neg af]
  rfl
 exact zA
theorem Js {b c:Int} (h:b≠c) {d a:Su} (ht:d.tabs=a.tabs):dS c (dS b d a) a=a:=by
 have q:∀{f:Type} (d:Int) (e a:f),(if c=d then if b=d then e else a else a)=a:=λd e a=>by
  split
  ·rw[if_neg af]
  rfl
 exact zA
theorem Jt {d b:Int} (h:d≠b) {c a:Su} (e:c.tabs=a.tabs):dS d a (dS b c a)=dS b c a:=by
 rw[zz h e.symm,zy]
theorem zB {a b:Su} {c:aB} (h:ch a c=.ok b):b=dS (cD c.kind) b a:=by
 have:=tZ a a c b h;rw[zy,h]at this;injection this
theorem Ju {e c:aB} (f:cD e.kind≠cD c.kind) {a b d:Su} (g:b.tabs=a.tabs) (i:d.tabs=b.tabs) (h:ch a e=.ok b) (j:ch b c=.ok d):
 ∃k,ch a c=.ok k/\ch k e=.ok d:=by
 have k:=zB h;have l:=zB j;have j:=tZ b a c d j;rw[show dS (cD c.kind) b a=a by rw[k];exact Js f g]at j;have a:=tZ a (dS (cD c.kind) d a) e b h;rw[Jt f (i.trans g)]at a;dsimp only at a;rw[zz f i.symm,<-k,<-l]at a;exact⟨_,j,a⟩
inductive Sw:List aB->List aB->Prop
 |refl (l:List aB):Sw l l
 |step {a b l:List aB} {x y:aB} (h:cD x.kind≠cD y.kind) (k:Sw (a++y::x::b) l):Sw (a++x::y::b) l
theorem Sw.trans {l m n:List aB} (h:Sw l m) (k:Sw m n):Sw l n:=by
 induction h with
 |refl=>exact k
 |step a _ b=>exact .step a (b k)
theorem Sw.cons (a:aB) {l m:List aB} (h:Sw l m):Sw (a::l) (a::m):=by
 induction h with
 |refl=>exact .refl _
 |step b _ c=>rw[<-List.cons_append];exact .step b c
theorem Sw.move (x:aB):∀(b c:List aB),(∀a∈b,cD x.kind≠cD a.kind)->Sw (x::(b++c)) (b++x::c)
 |[],c,_=>.refl _
 |a::b,c,h=>by
  have d:Sw (x::a::(b++c)) (a::x::(b++c)):=.step (a:=[]) (h a (List.mem_cons_self ..)) (.refl _);exact d.trans (Sw.cons a (Sw.move x b c λb c=>h b (List.mem_cons_of_mem _ c)))
def fH (a:Nat) (xs:List aB):List aB:=(List.range a).flatMap λ(a:Nat)=>xs.filter λb=>decide (cD b.kind=(a:Int))
theorem t7 (a:Nat) (xs:List aB):fH (a+1) xs=fH a xs++xs.filter λx=>decide (cD x.kind=(a:Int)):=by
 unfold fH;rw[List.range_succ,List.flatMap_append];simp
theorem zC {x:aB} {xs:List aB}:∀(a:Nat),(∃b:Nat,cD x.kind=(b:Int))->(∀b:Nat,cD x.kind=(b:Int)->a<=b)/\fH a (x::xs)=fH a xs\/
 ∃c d,fH a (x::xs)=c++x::d/\fH a xs=c++d/\∀f∈c,cD x.kind≠cD f.kind
 |0,_=>.inl ⟨λ_ _=>Nat.zero_le _,rfl⟩
 |a+1,⟨b,hk⟩=>by
  rw[t7,t7];rcases zC (x:=x) (xs:=xs) a ⟨b,hk⟩with⟨e,g⟩|⟨c,d,e,g,i⟩
  ·have k:=e b hk
   rw[g];by_cases j:b=a
   ·subst j
    refine .inr ⟨fH b xs,xs.filter λx=>decide (cD x.kind=(b:Int)),by rw[List.filter_cons_of_pos (by simpa using hk)],rfl,λf j=>?_⟩;obtain⟨j,k,l⟩:=List.mem_flatMap.1 j;have:=List.mem_range.1 k;have f:cD f.kind=(j:Int):=by simpa using(List.mem_filter.1 l).2
    omega
   refine .inl ⟨λf f=>by omega,by rw[List.filter_cons_of_neg aF]⟩
  have f:¬decide (cD x.kind=(a:Int))=true\/True:=.inr trivial;by_cases f:b=a
  ·exfalso
   have:x∈fH a (x::xs):=by rw[e];simp
   obtain⟨b,f,j⟩:=List.mem_flatMap.1 this;have:=List.mem_range.1 f;have b:cD x.kind=(b:Int):=by simpa using(List.mem_filter.1 j).2
   omega
  refine .inr ⟨c,d++xs.filter λx=>decide (cD x.kind=(a:Int)),?_,?_,i⟩
  ·rw[e,List.filter_cons_of_neg aF];simp
  rw[g];simp
theorem zD {b:Nat}:∀(xs:List aB),(∀x∈xs,∃a:Nat,a<b/\cD x.kind=(a:Int))->Sw xs (fH b xs)
 |[],_=>by
  have:fH b []=[]:=by simp[fH]
  rw[this];exact .refl _
 |x::xs,h=>by
  have d:=zD xs λg i=>h g (List.mem_cons_of_mem _ i);obtain⟨a,g,e⟩:=h x (List.mem_cons_self ..);rcases zC (x:=x) (xs:=xs) b ⟨a,e⟩with⟨c,f⟩|⟨j,k,c,f,l⟩
  ·have:=c a e;omega
  rw[f]at d;rw[c];exact(Sw.cons x d).trans (Sw.move x j k l)
theorem zE:∀(b:List aB) (c:List Tb) (a:ce) (d:List Tb),dm c a b=some d->(cI c a [] b).1=d/\∀e∈(cI c a [] b).2,e.1=0
 |[],c,a,d,h=>by
  rw[dm]at h;rw[cI];exact⟨by injection h,λe f=>by cases f⟩
 |x::b,c,a,d,h=>by
  rw[dm]at h;rw[pL,pM,List.nil_append,List.singleton_append];unfold n6;by_cases f:(bL a x).2≠0
  ·rw[if_pos f]at h;cases h
  rw[if_neg f]at h⊢;have i:∀(f:List Tb),dm f (bL a x).1 b=some d->(cI f (bL a x).1 [] b).1=d/\∀e∈((0,0):Int×Int)::(cI f (bL a x).1 [] b).2,e.1=0:=λf h=>by
   obtain⟨a,j⟩:=zE b _ _ _ h;refine⟨a,λe g=>?_⟩;rcases de g with rfl|g
   ·rfl
   exact j e g
  by_cases g:x.kind=1
  ·rw[if_pos g]at h⊢
   cases ht:eP c x with
   |ok j=>rw[ht]at h;exact i _ h
   |bad j k=>rw[ht]at h;cases h
  rw[if_neg g]at h⊢;exact i _ h
theorem zF:∀(e:List aB) (b:List Tb) (c:ce),(∀g∈(cI b c [] e).2,g.1=0)->dm b c e=some (cI b c [] e).1
 |[],b,c,_=>by rw[dm,cI]
 |x::e,b,c,h=>by
  rw[pL,pM,List.nil_append,List.singleton_append]at h⊢;have a:=h _ (List.mem_cons_self ..);have d:=zF e (n6 b c x).1 (bL c x).1 λg e=>h g (List.mem_cons_of_mem _ e);rw[dm];unfold n6 at a d⊢;by_cases e:(bL c x).2≠0
  ·rw[if_pos e]at a;exact absurd a e
  rw[if_neg e]at a d⊢;rw[if_neg e];by_cases f:x.kind=1
  ·rw[if_pos f]at a d⊢
   rw[if_pos f];cases ht:eP b x with
   |ok i=>rw[ht]at d;exact d
   |bad i j=>
    rw[ht]at a;have a:i=0:=a;subst a;exact absurd ht (Jh b x j)
  rw[if_neg f]at a d⊢;rw[if_neg f];exact d
theorem zG:∀(b:List aB) (c:List (Int×Int)) (a:Su),c.length=b.length->(∀d∈c,d.1=0)->(dr a [] (c.zip b)).2=[]->fG a b=some (dr a [] (c.zip b)).1
 |[],c,a,_,_,_=>by rw[fG,List.zip_nil_right,dr]
 |x::b,[],a,hl,_,_=>by cases hl
 |x::b,d::c,a,hl,h0,h=>by
  rw[List.zip_cons_cons,dr,if_pos (h0 d (List.mem_cons_self ..))]at h⊢;rw[fG];cases hp:ch a x with
  |ok e=>rw[hp]at h;exact zG b c e (by simpa using hl) (λd b=>h0 d (List.mem_cons_of_mem _ b)) h
  |bad f g=>
   rw[hp]at h;dsimp only at h;by_cases e:f=0
   ·subst e
    exact absurd hp (H6 a x g)
   rw[if_neg e]at h;exact absurd (mV _ _ _ h) aj
theorem zH:∀(a:List aB) (b:List (Int×Int)) (c d:Su),b.length=a.length->(∀e∈b,e.1=0)->fG c a=some d->dr c [] (b.zip a)=(d,[])
 |[],b,c,d,_,_,h=>by
  rw[fG]at h;rw[List.zip_nil_right,dr];injection h with h
  rw[h]
 |x::a,[],c,d,hl,_,_=>by cases hl
 |x::a,e::b,c,d,hl,h0,h=>by
  rw[fG]at h;rw[List.zip_cons_cons,dr,if_pos (h0 e (List.mem_cons_self ..))];cases hp:ch c x with
  |ok f=>rw[hp]at h;exact zH a b f d (by simpa using hl) (λe a=>h0 e (List.mem_cons_of_mem _ a)) h
  |bad f g=>rw[hp]at h;cases h
theorem t8:∀(e:List aB) {f g:List aB},(∀b c d,dm b c f=some d->dm b c g=some d)->∀b c d,dm b c (e++f)=some d->dm b c (e++g)=some d
 |[],_,_,h=>h
 |x::e,f,g,h=>λb c d a=>by
  rw[List.cons_append,dm]at a⊢;split
  ·rename_i c;rw[if_pos c]at a;exact a
  rename_i i
  rw[if_neg i]at a;split
  ·rename_i c
   rw[if_pos c]at a;cases ht:eP b x with
   |ok j=>rw[ht]at a;exact t8 e h _ _ _ a
   |bad i j=>rw[ht]at a;cases a
  rename_i b
  rw[if_neg b]at a;exact t8 e h _ _ _ a
theorem zI:∀(d:List aB) {e f:List aB},(∀a b,fG a e=some b->fG a f=some b)->∀a b,fG a (d++e)=some b->fG a (d++f)=some b
 |[],_,_,h=>h
 |x::d,e,f,h=>λa b c=>by
  rw[List.cons_append,fG]at c⊢;cases hp:ch a x with
  |ok g=>rw[hp]at c;exact zI d h _ _ c
  |bad g i=>rw[hp]at c;cases c
theorem Jv {a b:aB} (f:cD a.kind≠cD b.kind) {d:List aB} (c e:Su) (h:fG c (a::b::d)=some e):fG c (b::a::d)=some e:=by
 rw[fG]at h;cases h1:ch c a with
 |bad g i=>rw[h1]at h;cases h
 |ok g=>
  rw[h1]at h;dsimp only at h;rw[fG]at h;cases h2:ch g b with
  |bad i j=>rw[h2]at h;cases h
  |ok i=>
   rw[h2]at h;obtain⟨c,a,b⟩:=Ju f (rk h1).tabs (rk h2).tabs h1 h2;rw[fG,a];dsimp only;rw[fG,b];exact h
theorem Sw.toF {d e:List aB} (h:Sw d e):∀a b c,dm a b d=some c->dm a b e=some c:=by
 induction h with
 |refl=>exact λ_ _ _ h=>h
 |step f _ g=>exact λa b c d=>g a b c (t8 _ (λa b c d=>Ji f d) a b c d)
theorem Sw.toS {c d:List aB} (h:Sw c d):∀a b,fG a c=some b->fG a d=some b:=by
 induction h with
 |refl=>exact λ_ _ h=>h
 |step e _ f=>exact λa b c=>f a b (zI _ (λa b c=>Jv e a b c) a b c)
theorem Sw.len {l m:List aB} (h:Sw l m):m.length=l.length:=by
 induction h with
 |refl=>rfl
 |step _ _ a=>rw[a];simp
theorem Jw {b:ce} {a:aB} (h:(bL b a).2=0):aY a.kind 1 10=true:=by
 unfold bL at h;split at h
 ·assumption
 cases h
theorem ua:∀(b:List aB) (d:List Tb) (e:ce) (g:List Tb),dm d e b=some g->∀c∈b,aY c.kind 1 10=true
 |[],_,_,_,_,c,a=>by cases a
 |y::b,d,e,g,h,c,a=>by
  rw[dm]at h;by_cases f:(bL e y).2≠0
  ·rw[if_pos f]at h;cases h
  rw[if_neg f]at h;rcases de a with rfl|a
  ·exact Jw (by simpa using f)
  by_cases i:y.kind=1
  ·rw[if_pos i]at h
   cases ht:eP d y with
   |ok j=>rw[ht]at h;exact ua b _ _ _ h c a
   |bad j k=>rw[ht]at h;cases h
  rw[if_neg i]at h;exact ua b _ _ _ h c a
theorem Jx {a:List aB} (h:(dj a []).2=[]):dj (fH 11 a) []=((dj a []).1,[]):=by
 unfold dj at h⊢;by_cases b:a.length<=200
 case neg=>rw[if_neg b]at h;cases h
 rw[if_pos b]at h;dsimp only at h;rw[gh]at h;dsimp only at h;have d:(dr {Su.zero with tabs:=(cI [] [] [] a).1} [] ((cI [] [] [] a).2.zip a)).2=[]:=by
  split at h
  ·assumption
  exact h
 have g:∀f∈(cI [] [] [] a).2,f.1=0:=λf j=>by
  obtain⟨c,e,rfl⟩:=List.mem_iff_getElem.1 j;have f:c<a.length:=by rw[rx]at e;exact e
  have e:((cI [] [] [] a).2[c],a[c])∈(cI [] [] [] a).2.zip a:=by
   rw[List.mem_iff_getElem];exact⟨c,by rw[List.length_zip];omega,by rw[List.getElem_zip]⟩
  exact tY _ _ d _ e
 have i:=zF a [] [] g;have k:=zG a _ _ (rx a [] []) g d;have e:Sw a (fH 11 a):=zD a λc f=>by
  have f:=ua a _ _ _ i c f;have f:1<=c.kind/\c.kind<=10:=by simpa[aY]using f
  refine⟨(cD c.kind).toNat,?_,?_⟩<;>unfold cD<;>split<;>(try split)<;>omega
 obtain⟨c,f⟩:=zE _ _ _ _ (e.toF _ _ _ i);have a:=zH _ _ _ _ (rx (fH 11 a) [] []) f (e.toS _ _ k);rw[if_pos (by rw[e.len];exact b),if_pos b];dsimp only;rw[gh,gh];dsimp only;rw[if_pos d,c,a,if_pos rfl]
theorem FL.len {b:Int} {xs ys:List aB} {a:List (Int×Int)} (f:FL b xs a ys):a.length<=xs.length:=by
 induction f with
 |nil=>exact Nat.le_refl _
 |bad _ _ _ c=>exact Nat.succ_le_succ c
 |good _ c=>exact Nat.le_succ_of_le c
theorem pK.drop {a:Int}:∀(n:Nat) {b:List aB},pK a b->pK a (b.drop n)
 |0,_,h=>h
 |_+1,[],_=>trivial
 |n+1,_::_,h=>pK.drop n h.2.2
theorem Jz {P:Program} {w:ah} (ty:aX) (a b:Nat) (cs:aP) (e:∀c v,cs[c]?=some v->ae w (ac a (b+c)) v) (d:TypeDesc) (hu:P.underlying ty=some d) (f:(match d with|.struct _|.array _ _=>true|_=>false)=true) (hi:(P.info? ty).map (·.size)=some cs.length):
 (Instr.loadAt ty (.pointer (some ⟨a,b,none⟩))).run P w=.ok (.agg cs.toArray) w:=by
 have hl:(loadCells ⟨a,b,none⟩ cs.length).run P w=.ok cs.toArray w:=
  run_loadCells_list (P:=P) w ⟨a,b,none⟩ cs (λc v a=>by
   rw[Addr.add_lit];exact e c v a)
 simp only[Instr.loadAt,Instr.sureAddr,Sem.run_bind,Sem.run_pure,Result.andThen];cases hq:P.info? ty with
 |none=>simp[hq]at hi
 |some i=>
  exact xT
theorem JA {P:Program} {b:Operand->Value} {c:Oper} {a:ah} {d:aX} {e:Operand} {p v:aA} (f:c.op=.load d e) (g:b e=p) (h:(Instr.loadAt d p).run P a=.ok v a):(execOp b c).run P a=.ok (.value v) a:=by
 unfold execOp;simp only[f,g,Sem.run_bind,h,Result.andThen_ok];rfl
theorem JB {P:Program} {d:Region.Mode} {a:Array Oper} {g:Exit->Act->World->Prop} {S:World->Prop} {j:Nat->Bool} {k:Nat} {e l:Array Bool} {b m:Act} {c:ah} {i:Oper} (f:Nat) (v:aA) (o:S c) (h:dc P d a g S j k l m c)
 (p:a[f]?=some i:=by(simp only[be,bf,bg];rfl))
 (q:Region.noSelect a=true:=by kernel_rfl) (r:Region.free d a e f=true:=by kernel_rfl) (s:(Region.ready d a e).contains f=true:=by kernel_rfl)
 (t:oL d a e f j=true:=by kernel_rfl) (u:∀n b c,g (.panic n) (b.put i.dst v) c->g (.panic n) b c:=by exact λ_ _ _ h=>h)
 (hy:YieldsIf P a S i v b)
 (w:b.put i.dst v=m:=by first|(simp only[Act.put,oh,ol,om];rfl)|rfl)
 (x:e.setIfInBounds f true=l:=by rfl):dc P d a g S j (k+1) e b c:=by
 subst w x;exact d2 p q r s t u hy o h
structure jQ (w5 wr:ah) (rs:List RI) (A:aU) (n c:Nat) (zs:List RI):Prop where
 k:ag w5 wr
 bx:aa wr w5.heap.size 24 #[O A n c]
 own:wr.ownsRow (w5.heap.size+1) 95 25 (O A n c) n (zs.flatMap RI.cells)
 len:zs.length=n
 sub:∀r∈zs,r∈rs
theorem jQ.same {b wr d:ah} {rs:List RI} {e:aU} {n c:Nat} {f:List RI} (a:jQ b wr rs e n c f) (s:ag wr d):jQ b d rs e n c f:=
 ⟨a.k.trans s,(Kp.of_same (l:=[]) s).blk a.bx aj,aK s a.own,a.len,a.sub⟩
theorem jQ.push {b wr g c:ah} {n:List RI} {d i:aU} {a e j:Nat} {o:List RI} {q:RI} (f:jQ b wr n d a e o) (u:q∈n) (s:ag wr g) (l:g.grownBy c (Value.slice d a e).ownBlock)
 (v:c.ownsRow (b.heap.size+1) 95 25 (O i (a+1) j) (a+1) (o.flatMap RI.cells++q.cells)):jQ b (c.setCell (ao b 0) (O i (a+1) j)) n i (a+1) j (o++[q]):=by
 have t:∀m,(Value.slice d a e).ownBlock=some m->b.heap.size+1<=m:=λm h=>by
  obtain⟨n,o,q,w⟩:=bv f.own;rcases w with r|⟨x,r,y⟩
  ·rw[r]at h;cases h
  rw[r]at h;injection h with h;omega
 have g:Kp ((Value.slice d a e).ownBlock.toList) g c:=(Kp.refl _ g).grown l (λm l=>.inl (by rw[l];simp));have n:ag b c:=g.fY (f.k.trans s) (λg m=>by
  have h:(Value.slice d a e).ownBlock=some g:=by simpa using m
  have:=t g h;omega)
 have d:=aa.grown ((f.same s).bx) l (λd=>by have:=t _ d.symm;omega);have a:Kp [b.heap.size] c (c.setCell (ao b 0) (O i (a+1) j)):=Kp.aI (p:=(ao b 0)) aj (Kp.refl _ c) _;refine⟨a.fY n aj,d.aR 0 _,bG ?_ a aj,by simp[f.len],λr w=>?_⟩
 ·rw[List.flatMap_append]
  simpa using v
 rcases cP w with h|h
 ·exact f.sub r h
 rw[aC h];exact u
def JC (B base:Nat) (b:ah) (c:aA) (a:Nat):Prop:=a<B\/(Bw base b.heap.size a/\c.ownBlock≠some a)
structure gb {α:Type} (At:World->(Nat->Prop)->α->Prop) (B:Nat) (t:aX) (m:Nat) (enc:α->List Value) (base:Nat) (wA wq:ah) (A:aU) (n c:Nat) (zs:List α):Prop where
 k:ag wA wq
 own:wq.ownsRow base t m (O A n c) n (zs.flatMap enc)
 len:zs.length=n
 sub:∀z∈zs,At wq (JC B base wq (O A n c)) z
structure ub {α:Type} (At:World->(Nat->Prop)->α->Prop):Prop where
 mono:∀{w:ah} {S S':Nat->Prop} {z:α},At w S z->(∀b,S b->S' b)->At w S' z
 keep:∀{w w':ah} {S:Nat->Prop} {z:α},At w S z->∀{l:List Nat},Kp l w w'->(∀b∈l,¬S b)->At w' S z
section
variable {α:Type} {At:World->(Nat->Prop)->α->Prop} {B:Nat} {t:aX} {m:Nat} {enc:α->List Value} {base:Nat} {wA wq wr:ah} {A:aU} {n c:Nat} {zs:List α}
theorem gb.zero (wA:ah):gb At B t m enc base wA wA none 0 0 []:=⟨ag.refl wA,⟨by simp,.inl ⟨rfl,rfl⟩⟩,rfl,λa h=>by cases h⟩
theorem gb.same (b:ub At) (a:gb At B t m enc base wA wq A n c zs) (s:ag wq wr):gb At B t m enc base wA wr A n c zs:=
 ⟨a.k.trans s,aK s a.own,a.len,λd e=>b.mono (b.keep (a.sub d e) (Kp.of_same (l:=[]) s) aj) (λa a=>a.imp id (λh=>⟨⟨h.1.1,aV h.1.2 s.size⟩,h.2⟩))⟩
theorem gb.row (b:gb At B t m enc base wA wq A n c zs):∀a,(Value.slice A n c).ownBlock=some a->base<=a/\a<wq.heap.size:=b2 b.own
theorem gb.push (e:ub At) (d:B<=base) (a:wA.heap.size<=base) (d:base<=wq.heap.size) (f:gb At B t m enc base wA wq A n c zs) {d j:ah} {l:aU} {o:Nat} {r:α} (s:ag wq d) (y:At d (λb=>b<B\/Bw wq.heap.size d.heap.size b) r) (u:d.grownBy j (Value.slice A n c).ownBlock)
 (w:(Value.slice l (n+1) o).ownBlock=(Value.slice A n c).ownBlock\/(Value.slice l (n+1) o).ownBlock=some d.heap.size) (z:j.ownsRow base t m (O l (n+1) o) (n+1) (zs.flatMap enc++enc r)):gb At B t m enc base wA j l (n+1) o (zs++[r]):=by
 have C:=f.same e s;have p:=f.row;have q:Kp ((Value.slice A n c).ownBlock.toList) d j:=(Kp.refl _ d).grown u (λd u=>.inl (by rw[u];simp));have d:=f.k.size;have d:=s.size;have x:=q.size;refine⟨q.fY (f.k.trans s) (λb a=>bJ ‹wA.heap.size<=base› (p b (by simpa using a)).1),by rw[List.flatMap_append];simpa using z,by simp[f.len],λD g=>?_⟩;rcases cP g with g|g
 ·refine e.mono (e.keep (C.sub D g) q (λb a E=>?_)) (λb a=>?_)
  ·have a:(Value.slice A n c).ownBlock=some b:=by simpa using a
   rcases E with h|h
   ·have:=(p b a).1;omega
   exact h.2 a
  refine a.imp id (λh=>⟨⟨h.1.1,aV h.1.2 x⟩,λi=>?_⟩);rcases w with v|v
  ·exact h.2 (v▸i)
  rw[v]at i;injection i with i
  have:=h.1.2;omega
 rw[aC g];refine e.mono (e.keep y q (λb a E=>?_)) (λb a=>?_)
 ·have a:(Value.slice A n c).ownBlock=some b:=by simpa using a
  have:=p b a;rcases E with h|h
  ·omega
  have:=h.1;omega
 refine a.imp id (λh=>⟨⟨by have:=h.1;omega,aV h.2 x⟩,λi=>?_⟩);rcases w with v|v
 ·rw[v]at i
  have:=p b i;have:=h.1;omega
 rw[v]at i;injection i with i
 have:=h.2;omega
theorem gb.lies (b:∀a,(enc a).length=m) (a:gb At B t m enc base wA wq A n c zs) (d:n<=9223372036854775807):aE wq m ⟨A,n,c⟩ enc zs:=cJ (h:=⟨A,n,c⟩) b a.len d a.own
theorem gb.hd (b:gb At B t m enc base wA wq A n c zs):bc (λa=>a<B\/Bw base wq.heap.size a) ⟨A,n,c⟩:=(lz b.own).mono (λa a=>.inr a)
end
mutual
def Ex.KL:Ex->Prop
 |.mk _ _ kids _ _ _ _ _ _=>kids.length<=60/\Ex.mY kids
def Ex.mY:List Ex->Prop
 |[]=>True
 |e::l=>e.KL/\Ex.mY l
end
theorem Ex.zJ:∀b:List Ex,(∀a∈b,a.KL)->Ex.mY b
 |[],_=>by rw[Ex.mY];trivial
 |a::b,h=>by rw[Ex.mY];exact⟨h a (List.mem_cons_self ..),Ex.zJ b λa b=>h a (List.mem_cons_of_mem _ b)⟩
theorem Ex.zK:∀{b:List Ex},Ex.mY b->∀c∈b,c.KL
 |[],_,_,h=>by cases h
 |c::b,h,x,a=>by
  rw[Ex.mY]at h;rcases de a with rfl|a
  ·exact h.1
  exact Ex.zK h.2 x a
theorem Ex.zL:∀b:List Ex,(∀a∈b,a.cL)->Ex.jK b
 |[],_=>trivial
 |a::b,h=>⟨h a (List.mem_cons_self ..),Ex.zL b λa b=>h a (List.mem_cons_of_mem _ b)⟩
def uc (b:ah) (d:RE):Prop:=∀c (a:Int),ag b c->0<=a->a<=60->Calls prog 35 #[.agg d.cells.toArray,a] c λe f=>
 (∃b:Int,e=.returned b/\1<=b/\b<=a+1/\(b<=a->d.ex.KL))/\ag c f
theorem JD {q:ah} {r:Int} {s:ax} {l:Hd} {b:List RE} {U:Hd} {V:List bm} {W:Hd} {X:bk} {t u:ax} {v w:Int}
 (o:aE q 9 l RE.cells b) (Y:∀m∈b,uc q m):uc q (.mk r s l b U V W X t u v w):=by
 intro x c y q q;have an:=Z (o.same y);have ao:=Z (λm l a c (d:ag x a)=>Y m l a c (y.trans d));obtain⟨aa,f,ap⟩:=l;obtain⟨aq,ar,au⟩:=U;obtain⟨av,aw,ay⟩:=W;have z:=Z (show b.length=f from o.1);have l:f<=9223372036854775807:=o.2.1;clear o Y y;show Calls prog 35 #[.agg #[r,s,O aa f ap,O aq ar au,O av aw ay,t,u,v,w],c] x _;go_enter func35,ntmps35
 go_upto_region 1 with(fail)
 obtain⟨az,l,aA,p,-⟩:=nb x 93 _;rw[l];clear l;go_upto_region 3 with(fail)
 go_loopg [5,6] (f+1) (λm e g i=>∃(a:Nat) (d:Int),e=.int .i64 d/\g=.int .i64 a/\a<=f/\f-a<m/\(a:Int)+1<=d/\d<=c+1/\Hid (d<=c->∀d∈b.take a,d.ex.KL)/\Hid (ag az i))
 case atStart=>exact⟨0,1,rfl,rfl,by omega,by omega,by omega,by omega,Z aj,Z (ag.refl _)⟩
 case round=>
 obtain⟨a,d,rfl,rfl,aX,ab,aY,ad,ai,j⟩:=hrel;have ak:=Z ab;clear ab;have l:=qb j aA;have aB:=aZ l;by_cases l:a<f
 case neg=>
  have k:¬(a:Int)<(f:Int):=af
  go_wp2;go_ret;refine⟨⟨d,rfl,by omega,ad,λh=>?_⟩,p.out.trans j.out⟩;show Ex.KL (Ex.mk r s (RE.exs b) V X t u v w);rw[Ex.KL,RE.sn,List.length_map,z.out];refine⟨by omega,Ex.zJ _ λk e=>?_⟩;obtain⟨g,i,rfl⟩:=List.mem_map.1 e;exact ai.out h g (by rw[List.take_of_length_le (omg z)];exact i)
 case pos=>
 have l:(a:Int)<(f:Int):=af
 by_cases aD:d<=c
 case neg=>
  go_wp2;go_ret;exact⟨⟨d,rfl,by omega,ad,λh=>absurd h af⟩,p.out.trans j.out⟩
 case pos=>
 have A:a<b.length:=omg z
 obtain⟨g,i,l,m,e⟩:=(an.out.same (p.out.trans j.out)).2.2 a A;have aF:aa=some ⟨g,i,none⟩:=l;clear l;subst aF;have l:IntKind.i64.wrap (c-d)=c-d:=IntWalk.i64_in _ af;have n:=Z (ao.out b[a] (List.getElem_mem A) wr (c-d) (p.out.trans j.out) af af);have B:b.take (a+1)=b.take a++[b[a]]:=by rw[List.take_succ_eq_append_getElem A]
 generalize b[a]=aG at e n B;have aH:=Z B;clear B;obtain⟨C,D,⟨E,F,G⟩,aI,⟨H,I,K⟩,aJ,⟨L,M,N⟩,aK,P,Q,R,S⟩:=aG;have aL:ae wr (ac g (i+a*9)) C:=by have h:=e 0 _ rfl;simpa using h
 have aM:ae wr (ac g (i+a*9+1)) D:=e 1 _ rfl;have aN:ae wr (ac g (i+a*9+2)) (O E F G):=e 2 _ rfl;have aO:ae wr (ac g (i+a*9+3)) (O H I K):=e 3 _ rfl;have aP:ae wr (ac g (i+a*9+4)) (O L M N):=e 4 _ rfl;have aQ:ae wr (ac g (i+a*9+5)) P:=e 5 _ rfl;have aR:ae wr (ac g (i+a*9+6)) Q:=e 6 _ rfl;have aS:ae wr (ac g (i+a*9+7)) R:=e 7 _ rfl;have aT:ae wr (ac g (i+a*9+8)) S:=e 8 _ rfl;replace n:Hid (Calls prog 35 #[.agg #[C,D,O E F G,O H I K,O L M N,P,Q,R,S],J (c-d)] wr λg i=>
  (∃b:Int,g=.returned b/\1<=b/\b<=c-d+1/\(b<=c-d->(RE.mk C D ⟨E,F,G⟩ aI ⟨H,I,K⟩ aJ ⟨L,M,N⟩ aK P Q R S).ex.KL))/\ag wr i):=n
 clear e;go_wp2_with fail
 refine n.out.mono ?_;rintro b b ⟨⟨T,rfl,a0,a1,al⟩,am⟩;have aU:=Z al;have aV:=Z am;clear al am n aB aL aM aN aO aP aQ aR aS aT;have b:IntKind.i64.wrap (d+T)=d+T:=IntWalk.i64_in _ af;go_wp2;go_roundg (f-a)
 case measure=>have:=ak.out;omega
 case rel=>exact⟨a+1,d+T,by go_num,by go_num,by omega,omg ak,by omega,by omega,Z (λh aW k=>by
  rw[aH.out]at k;rcases cP k with k|k
  ·exact ai.out aD aW k
  rw[aC k];exact aU.out af),Z (j.out.trans aV.out)⟩
theorem JE {a:ah} {c:Nat->Prop} {b:RE} (d:dK a c b):uc a b:=by
 induction d with
 |mk e g i j k l m n o p q r s t f=>exact JD e f
def ud (a:Ex) (c:Ending):Prop:=∃b:Bool,c=.returned (.bool b)/\(b=true->a.KL->a.cL)
def ue (c:ah) (b:RE):Prop:=∀a,ag c a->Calls prog 36 #[.agg b.cells.toArray] a λc d=>ud b.ex c/\ag a d
theorem JF {p:ah} {s:Int} {t:ax} {k:Hd} {b:List RE} {T:Hd} {U:List bm} {q:Hd} {l:bk} {u v:ax} {w x:Int}
 (r:aE p 9 k RE.cells b) (V:b5 p q l) (W:∀m∈b,ue p m):ue p (.mk s t k b T U q l u v w x):=by
 intro y z;have ap:=Z (r.same z);have aq:=Z (λm k a (c:ag y a)=>W m k a (z.trans c));have ar:=Z (show l.length=q.n from V.1.1);obtain⟨X,d,au⟩:=k;obtain⟨av,Y,aw⟩:=T;obtain⟨ay,aa,az⟩:=q;have ab:=Z (show b.length=d from r.1);have k:d<=9223372036854775807:=r.2.1;clear r V W z;show Calls prog 36 #[.agg #[s,t,O X d au,O av Y aw,O ay aa az,u,v,w,x]] y _;go_enter func36,ntmps36
 go_upto_region 1 with(fail)
 obtain⟨aA,k,A,g,-⟩:=nb y 93 _;rw[k];clear k;have aB:=bi A;have aD:=bl A;by_cases aF:(20:Int)<(Y:Int)
 case pos=>
  go_wp2;go_ret;exact⟨⟨false,rfl,λh=>by cases h⟩,g.out⟩
 by_cases ad:(20:Int)<(aa:Int)
 case pos=>
  go_wp2;go_ret;exact⟨⟨false,rfl,λh=>by cases h⟩,g.out⟩
 go_upto_region 4 with(fail)
 clear aB aD aF;have aG:=Z ad;clear ad;go_loopg [3] (d+1) (λm c e=>∃a:Nat,c=.int .i64 a/\a<=d/\d-a<m/\Hid (∀c∈b.take a,c.ex.KL->c.ex.cL)/\Hid (ag aA e))
 case atStart=>exact⟨0,rfl,by omega,by omega,Z aj,Z (ag.refl _)⟩
 case round=>
 obtain⟨a,rfl,a1,ai,ak,i⟩:=hrel;have al:=Z ai;clear ai;have k:=qb i A;have aH:=aZ k;by_cases k:a<d
 case neg=>
  have e:¬(a:Int)<(d:Int):=af
  go_wp2;go_ret;refine⟨⟨true,rfl,λ_ h=>?_⟩,g.out.trans i.out⟩;replace h:Ex.KL (Ex.mk s t (RE.exs b) U l u v w x):=h;rw[Ex.KL]at h;show l.length<=5001/\(RE.exs b).length<=5001/\Ex.jK (RE.exs b);refine⟨by have e:=ar.out;have e:=aG.out;omega,by omega,Ex.zL _ λe c=>?_⟩;have f:=Ex.zK h.2 e c;rw[RE.sn]at c;obtain⟨j,o,rfl⟩:=List.mem_map.1 c;exact ak.out j (by rw[List.take_of_length_le (omg ab)];exact o) f
 case pos=>
 have k:(a:Int)<(d:Int):=af
 have B:a<b.length:=omg ab
 obtain⟨e,f,k,l,c⟩:=(ap.out.same (g.out.trans i.out)).2.2 a B;have aI:X=some ⟨e,f,none⟩:=k;clear k;subst aI;have o:=Z (aq.out b[a] (List.getElem_mem B) wr (g.out.trans i.out));have C:b.take (a+1)=b.take a++[b[a]]:=by rw[List.take_succ_eq_append_getElem B]
 generalize b[a]=aJ at c o C;have aK:=Z C;clear C;obtain⟨D,E,⟨F,G,H⟩,aL,⟨I,J,K⟩,aM,⟨L,M,N⟩,aN,P,Q,R,S⟩:=aJ;have aO:ae wr (ac e (f+a*9)) D:=by have h:=c 0 _ rfl;simpa using h
 have aP:ae wr (ac e (f+a*9+1)) E:=c 1 _ rfl;have aQ:ae wr (ac e (f+a*9+2)) (O F G H):=c 2 _ rfl;have aR:ae wr (ac e (f+a*9+3)) (O I J K):=c 3 _ rfl;have aS:ae wr (ac e (f+a*9+4)) (O L M N):=c 4 _ rfl;have aT:ae wr (ac e (f+a*9+5)) P:=c 5 _ rfl;have aU:ae wr (ac e (f+a*9+6)) Q:=c 6 _ rfl;have aV:ae wr (ac e (f+a*9+7)) R:=c 7 _ rfl;have aW:ae wr (ac e (f+a*9+8)) S:=c 8 _ rfl;replace o:Hid (Calls prog 36 #[.agg #[D,E,O F G H,O I J K,O L M N,P,Q,R,S]] wr λb e=>ud (RE.mk D E ⟨F,G,H⟩ aL ⟨I,J,K⟩ aM ⟨L,M,N⟩ aN P Q R S).ex b/\ag wr e):=o;clear c;go_wp2_with fail
 refine o.out.mono ?_;rintro b b ⟨⟨aX,rfl,am⟩,an⟩;have aY:=Z am;have ao:=Z an;clear am an o aH aO aP aQ aR aS aT aU aV aW;cases aX
 case false=>
  go_wp2;go_ret;exact⟨⟨false,rfl,λh=>by cases h⟩,g.out.trans (i.out.trans ao.out)⟩
 go_wp2;go_roundg (d-a)
 case measure=>have:=al.out;omega
 case rel=>exact⟨a+1,by go_num,by omega,omg al,Z (λa0 j=>by
  rw[aK.out]at j;rcases cP j with j|j
  ·exact ak.out a0 j
  rw[aC j];exact aY.out aj),Z (i.out.trans ao.out)⟩
theorem JG {a:ah} {c:Nat->Prop} {b:RE} (d:dK a c b):ue a b:=by
 induction d with
 |mk e i j k l m f n o p q r s t g=>exact JF e f g
theorem RI.c16 (a:RI) (b:Nat) (c:aA) (h:a.e.cells[b]?=some c):a.cells[16+b]?=some c:=by
 unfold RI.cells;rw[List.getElem?_append_right aj];simpa using h
theorem eE {a:ah} {b:Nat} {d:aX} {c:aP} (e:aa a b d c.toArray) (d:Nat):a.cell? (ac b d)=c[d]?:=by rw[aa.cell e,List.getElem?_toArray]
theorem gb.kp {b:Type} {At:World->(Nat->Prop)->b->Prop} {c:Nat} {t:aX} {m:Nat} {enc:b->List Value} {d:Nat} {e f wr:ah} {g:aU} {n i:Nat} {j:List b} (o:ub At) (b:gb At c t m enc d e f g n i j) {l:List Nat} (k:Kp l f wr) (f:∀a∈l,c<=a/\a<d/\e.heap.size<=a):gb At c t m enc d e wr g n i j:=
 ⟨k.fY b.k (λa c=>(f a c).2.2),bG b.own k (λa c=>(f a c).2.1),b.len,λc d=>o.mono (o.keep (b.sub c d) k (λa b q=>by
  have h:=f a b;rcases q with p|p
  ·omega
  have:=p.1.1;omega)) (λa a=>a.imp id (λh=>⟨⟨h.1.1,aV h.1.2 k.size⟩,h.2⟩))⟩
end Go.Proofs.YteamkimbmdgdbaaGreatDoor

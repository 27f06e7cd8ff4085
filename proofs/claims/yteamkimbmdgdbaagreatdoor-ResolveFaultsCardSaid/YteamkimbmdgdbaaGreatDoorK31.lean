import Derived.Test.YteamkimbmdgdbaaGreatDoorK28
import Derived.Test.YteamkimbmdgdbaaGreatDoorK29
set_option linter.unusedSimpArgs false
set_option linter.unusedVariables false
set_option maxHeartbeats 16000000
set_option maxRecDepth 100000
namespace Go.Proofs.YteamkimbmdgdbaaGreatDoor
open Go.RowKit
theorem Ff (a:aw) (b:af) (c:aG a) (d:b4 b ⟨some ⟨0,0,none⟩,10,10⟩ fb) (e:0<b.heap.size):
 Calls Tryz.prog 26 #[a] b λf g=>iR b (gi (ba a)) f g:=by
 by_cases h:(dq (ba a)).2.1=0
 ·exact Fe a b c d e h
 exact Fd a b c d e h
theorem hJ.same {b:Nat} {w c:af} {v:ay} {d:List (Int×Int)} (a:hJ b w v d) (k:ag w c):hJ b c v d:=by
 obtain⟨h,b,c,d⟩:=a;exact⟨h,b,c.same k,d⟩
theorem hJ.kp {a g:Nat} {w b:af} {v:ay} {c:List (Int×Int)} (d:hJ a w v c) (e:g<a) (k:Kp [g] w b):hJ a b v c:=by
 obtain⟨h,a,c,b⟩:=d;exact⟨h,a,c.kp k (λc d a e=>by have:=b c d a;rw[aA e]at this;omega),b⟩
theorem hJ.low {a l2:Nat} {w:af} {v:ay} {b:List (Int×Int)} (c:hJ a w v b) (d:l2<=a):hJ l2 w v b:=by
 obtain⟨h,a,b,c⟩:=c;exact⟨h,a,b,c.mono (λa a=>bR d a)⟩
def bz (h:Hd) (a:cc):Array Value:=#[h.val,a.h1.val,a.h2.val,a.h3.val,a.h4.val,a.h5.val,a.h6.val]
theorem jz (h:Hd) (a:cc):(bz h a).all (·.oneCell')=true:=by simp[bz,Hd.val,Value.oneCell']
theorem oY {e b:af} {f a:Nat} {i:aO} {h:Hd} {j:List RT} {c:cc} (d:J b a 37 i) (k:∀(l:Nat) (v:ay),i[l]?=some v->∃i l m,v=Value.slice i l m) (n:fJ f b h j c) (o:a<f) (p:e.heap.size<=a) (q:ag e b):
 ag e (b.setRow a (bz h c))/\Kp [a] b (b.setRow a (bz h c))/\J (b.setRow a (bz h c)) a 37 (bz h c)/\fJ f (b.setRow a (bz h c)) h j c:=by
 have g:=(Kp.refl [a] _).grown (jZ b a (bz h c)) (λd g=>.inl (by injection g with g;simp[g]));exact⟨g.g4 q (λd a=>by rw[aA a];exact p),g,kM d _,n.kp o (λa v b=>by rw[J.cell d a]at b;exact k a v b) g⟩
theorem Fg (h:Hd) (f:List RI) (a:af) (s:aF a 25 h RI.cells f) (t:∀i∈f,df a (λw=>w<a.heap.size) i) (x:∀i∈f,i.it.dh):
 Calls Tryz.prog 14 #[.agg #[h.val]] a (gy a (cP (f.map RI.it) [])):=by
 obtain⟨b,c,d⟩:=h;obtain⟨n,y⟩:∃n,n=cP (f.map RI.it) []:=⟨_,rfl⟩;have f:=Z (λj (e:ag a j)=>wB ⟨b,c,d⟩ aJ f [] j (s.same e) (λi f=>df.mono ((t i f).keep (Kp.of_same (l:=[]) e) ai) (λw f=>aT f e.size)) x jw ai ai);rw[<-y]at f⊢;clear s t x y;have N:Hid (∀e,ag a e->Calls Tryz.prog 37 #[.agg #[U b c d],aa] e (gy e n)):=f;clear f;have j:=Z (show ag a ((a.alloc (.cells #[U b c d] 24)).alloc (.cells b6 37))from((ag.refl a).alloc _).alloc _);have k:=Z (J.new (a.alloc (.cells #[U b c d] 24)) 37 b6);have m:((a.alloc (.cells #[U b c d] 24)).alloc (.cells b6 37)).heap.size=a.heap.size+1+1:=ai
 rw[show(a.alloc (.cells #[U b c d] 24)).heap.size=a.heap.size+1 by simp]at k;show Calls Tryz.prog 14 #[.agg #[U b c d]] a _;go_enter Tryz.func14,Tryz.ntmps14
 go_upto_region 1 with(fail)
 unfold b6 at j k m;have f:=Z ((J.new a 24 #[U b c d]).alloc (.cells #[aa,aa,aa,aa,aa,aa,aa] 37));obtain⟨o,i⟩:∃e,e=((a.alloc (.cells #[U b c d] 24)).alloc (.cells #[aa,aa,aa,aa,aa,aa,aa] 37)):=⟨_,rfl⟩;rw[<-i]at j k m f⊢;clear i;have z:a.heap.size+1<o.heap.size:=ae
 have A:=Z m;clear m;have b:ac o (am a 0) (U b c d):=J.cell f.out 0;have B:=Tryz.lg;go_wp2_with (first|(go_at_call 37;refine(N.out o j.out).mono ?_;rintro b b ⟨q,b,F,O,⟨g,G,e,P,C,D⟩,E⟩;subst O P;have H:=Z q;have I:=Z D;have K:=Z C;have L:=Z E;have r:=Z ((Kp.of_same (l:=[]) q).blk k.out ai);have M:=jz g e;clear q D C E)|(refine wpList_store_row rfl 37 (.tmp 2) (.tmp 6) rfl (a.heap.size+1) (bz g e) rfl rfl 37 b6 r.out B rfl M ?_)|fail)
 obtain⟨b,c,d,f⟩:=oY r.out m3 I.out z (Nat.le_succ _) (j.out.trans H.out);refine bodyPost_end (v:=.tuple #[.agg (bz g e),F]) (jy (p:=2) (u:=3) rfl _ _ (a.heap.size+1) 37 (bz g e) _ rfl d Tryz.underlying37 rfl B) rfl ?_;exact⟨b,_,_,rfl,⟨g,G,e,rfl,K.out,f.low (by have:=A.out;omega)⟩,(L.out.kp z c).low (by have:=A.out;omega)⟩
def lh (c:PO (List aI)) (b:List Cg):Su×List (Int×Int):=
 match c with
 |.bad e a=>(Su.zero,[(e,a)])
 |.ok xs _=>if(cP xs []).2≠[]\/b=[]then cP xs []else cP xs b
def ek (l:bL) (a:List Cg):Su×List (Int×Int):=lh (gi l) a
theorem Fw (o:aw) (A:Hd) (a:List Cg) (b:af) (N:Ending->World->Prop) (ax:Hid (N=gy b (ek (ba o) a))) (ay:aG o) (aB:b4 b ⟨some ⟨0,0,none⟩,10,10⟩ fb) (a1:0<b.heap.size) (T:aF b 8 A Cg.cells a) (aD:∀aE∈a,aG aE.name/\aG aE.dflt.s) (a2:a.length<=1000):
 Calls Tryz.prog 20 #[o,A.val] b N:=by
 obtain⟨V,A,W⟩:=A;have a3:a.length=A:=T.1;subst a3;have e:=Tryz.lg;have a4:=se;have a5:=Z T;have a6:=Z aD;obtain⟨X,A⟩:=aq (gi (ba o));have HW:Hid (N=gy b (lh X a)):=Z (by rw[ax.out,A];rfl);have Y:=Z (λc (f:ag b c)=>Ff o c ay (aB.same f) (aT a1 f.size));rw[<-A]at Y;have ab:=Z (A▸Fv (ba o));have ac:=Z (λc f (h:X=.ok c f)=>(E9 (A.symm.trans h)).1);clear A ax T aD ay aB;have B:=Z (show ag b (b.alloc (.cells #[aa,aa,aa,aa,aa,aa,aa] 37))from(ag.refl b).alloc _);have ad:Hid (J (b.alloc (.cells #[aa,aa,aa,aa,aa,aa,aa] 37)) b.heap.size 37 b6):=Z (J.new b 37 b6);have ah:(b.alloc (.cells #[aa,aa,aa,aa,aa,aa,aa] 37)).heap.size=b.heap.size+1:=by simp
 show Calls Tryz.prog 20 #[o,U V a.length W] b N;go_enter Tryz.func20,Tryz.ntmps20
 go_upto_region 1 with(fail)
 obtain⟨aj,o⟩:=aq (b.alloc (.cells #[aa,aa,aa,aa,aa,aa,aa] 37));rw[<-o]at B ad ah⊢;clear o;have a7:b.heap.size<aj.heap.size:=ae
 have o:=Z ah;clear ah;cases X with
 |bad c f=>
  have k:=ab c f rfl;have o:(c==0)=false:=by simpa using k
  have o:=Z k;clear k ac ab;go_wp2_with (first|(go_at_call 26;refine(Y.out aj B.out).mono ?_;rintro k d ⟨m,q⟩;subst q;have n:=Z m;have av:=Z ((((Kp.of_same (l:=[]) m).blk ad.out ai).alloc (.cells #[aa] 24)).alloc (.cells #[c,f] 97));clear m)|(refine wpList_store_row rfl 37 (.tmp 4) (.tmp 19) rfl b.heap.size b6 rfl rfl 37 b6 av.out e rfl a4 ?_)|fail)
  have q:=kM av b6;have k:=jZ ((d.alloc (.cells #[aa] 24)).alloc (.cells #[c,f] 97)) b.heap.size b6;have m:=(Kp.refl [b.heap.size] _).grown k (λk m=>.inl (by injection m with m;simp[m]));have k:=n.size;have e1:(d.alloc (.cells #[aa] 24)).heap.size=d.heap.size+1:=by simp
  have k:=ie (d.alloc (.cells #[aa] 24)) #[c,f] 97 2 0 rfl (Nat.zero_le _);rw[e1]at k;have c:=cF (h:=⟨some ⟨d.heap.size+1,0,none⟩,1,1⟩) (xs:=[(c,f)]) p1 rfl ai k;refine bodyPost_ret (v:=.tuple #[.agg b6,U (some ⟨d.heap.size+1,0,none⟩) 1 1]) (jy (p:=4) (u:=5) rfl _ _ b.heap.size 37 b6 _ rfl q Tryz.underlying37 rfl e) rfl ?_;rw[HW.out];exact⟨m.g4 (((B.out.trans n.out).alloc _).alloc _) (λf f=>by rw[aA f];exact Nat.le_refl _),_,_,rfl,qn _ _,⟨_,rfl,c.kp m (λc f f k=>by
   have e1:d.heap.size+1=c:=congrArg Addr.block (Option.some.inj f);have:=aA k;omega),λc f f=>by
   have e1:d.heap.size+1=c:=congrArg Addr.block (Option.some.inj f);omega⟩⟩
 |ok c P=>
  have a8:=Z (ac c P rfl);clear ac ab;go_upto_region 2 with(first|(go_at_call 26;refine(Y.out aj B.out).mono ?_;rintro o d ⟨f,⟨g,i,j⟩,R,k,m,q,r,t⟩;have w:o=.returned (.tuple #[.agg #[U g i j],O 0,O 0]):=k;clear k;subst w;have n:=Z f;have aZ:=Z q;have a0:=Z r;have S:=Z m;clear f q r t m)|fail)
  have o:=n.size;have q:=Z (show ag d (d.alloc (.cells #[U g i j] 24))from(ag.refl d).alloc _);have Q:=Z (J.new d 24 #[U g i j]);obtain⟨C,o⟩:=aq (d.alloc (.cells #[U g i j] 24));rw[<-o]at q Q⊢;clear o;have aH:=Z (B.trans (n.trans q));have aI:=Z (aZ.same q);have aJ:=Z (λf k=>df.mono (S':=λm=>m<C.heap.size) ((a0 f k).keep (Kp.of_same (l:=[]) q) ai) (λf f=>aT f.2 q.size));have aK:=Z (λf (k:f∈R)=>a8 f.it (by rw[<-S.out];exact List.mem_map.2 ⟨f,k,rfl⟩));have aL:Hid (Calls Tryz.prog 14 #[.agg #[U g i j]] C (gy C (cP c []))):=Z (by
   have h:=Fg ⟨g,i,j⟩ R C aI aJ aK;rw[S.out]at h;exact h)
  obtain⟨r,o⟩:=aq (cP c []);rw[<-o]at aL;have ak:=Z o;clear o;have a9:=az Q;have o:=J.lt Q;have o:(#[aa,aa,aa,aa,aa,aa,aa]:Array Value).size=7:=rfl;go_wp2_with fail
  refine aL.mono ?_;rintro al f ⟨t,bb,bc,D,⟨hh,ts,x,E,aM,bd⟩,⟨⟨F,k,G⟩,H,aN,be⟩⟩;have am:al=.returned (.tuple #[.agg (bz hh x),U F k G]):=by
   rw[D,E,H];rfl
  clear D H E;subst am;have Fy:=Z aM;have an:=jz hh x;have aO:=fx f (.cells #[aa,aa,aa,aa,aa,aa,aa] 37);have aP:=World.setRow_alloc_new f #[aa,aa,aa,aa,aa,aa,aa] (bz hh x) 37;clear aM a9;go_upto_region 5 with(first|(refine wpList_store_row rfl 37 (.tmp 9) (.tmp 27) rfl f.heap.size (bz hh x) rfl rfl 37 #[aa,aa,aa,aa,aa,aa,aa] aO e rfl an ?_;rw[aP])|fail)
  have o:=aH.size;have hle3:=aT a7 (n.trans q).size;have m:=Z (show ag f (f.alloc (.cells (bz hh x) 37))from(ag.refl f).alloc _);have y:=Z (((Kp.of_same (l:=[]) (n.trans (q.trans t))).blk ad ai).alloc (.cells (bz hh x) 37));have ao:=Z (J.new f 37 (bz hh x));have aQ:=Z (((Kp.of_same (l:=[]) t).blk Q ai).alloc (.cells (bz hh x) 37));obtain⟨I,o⟩:=aq (f.alloc (.cells (bz hh x) 37));rw[<-o]at m y ao aQ⊢;clear o aO aP;have K:=Z (aH.trans (t.trans m));have aR:=Z (bd.same m);have Fz:Hid (hJ C.heap.size I (U F k G) r.2):=Z ⟨⟨F,k,G⟩,rfl,aN.same m,be⟩;have o:r.2.length=k:=aN.1;have aS:=Z o;clear o;by_cases w:r.2=[]
  case neg=>
   have o:0<k:=by rw[<-aS.out];exact List.length_pos_iff.2 w
   have o:decide ((0:Int)<(k:Int))=true:=aC
   have o:lh (.ok c P) a=r:=by
    show(if(cP c []).2≠[]\/a=[]then cP c []else cP c a)=r;rw[<-ak.out,if_pos (.inl w)]
   have qx:=Z o;clear o w;go_wp2_with (first|(refine ir rfl 37 (.tmp 9) rfl f.heap.size (bz hh x) rfl 37 ao.out _ Tryz.underlying37 rfl e ?_)|(refine wpList_store_row rfl 37 (.tmp 4) (.tmp 37) rfl b.heap.size (bz hh x) rfl rfl 37 b6 y.out e rfl an ?_)|fail)
   obtain⟨e1,e2,o,e4⟩:=oY y m3 aR hle3 (Nat.le_refl _) K;refine bodyPost_ret (v:=.tuple #[.agg (bz hh x),U F k G]) (jy (p:=4) (u:=5) rfl _ _ b.heap.size 37 (bz hh x) _ rfl o Tryz.underlying37 rfl e) rfl ?_;exact vk
  have bf:k=0:=by rw[<-aS.out,w];rfl
  subst bf;by_cases z:a=[]
  case pos=>
   have k:lh (.ok c P) a=r:=by
    show(if(cP c []).2≠[]\/a=[]then cP c []else cP c a)=r;rw[<-ak.out,if_pos (.inr z)]
   have qx:=Z k;have o:a.length=0:=by rw[z];rfl
   have q:((a.length:Int)==0)=true:=by rw[o];rfl
   have o:decide ((a.length:Int)=0)=true:=by rw[o];rfl
   clear k w z;go_wp2_with (first|(refine ir rfl 37 (.tmp 9) rfl f.heap.size (bz hh x) rfl 37 ao.out _ Tryz.underlying37 rfl e ?_)|(refine wpList_store_row rfl 37 (.tmp 4) (.tmp 37) rfl b.heap.size (bz hh x) rfl rfl 37 b6 y.out e rfl an ?_)|fail)
   obtain⟨e1,e2,f,e4⟩:=oY y m3 aR hle3 (Nat.le_refl _) K;refine bodyPost_ret (v:=.tuple #[.agg (bz hh x),U F 0 G]) (jy (p:=4) (u:=5) rfl _ _ b.heap.size 37 (bz hh x) _ rfl f Tryz.underlying37 rfl e) rfl ?_;exact vk
  have f:lh (.ok c P) a=cP c a:=by
   show(if(cP c []).2≠[]\/a=[]then cP c []else cP c a)=cP c a;rw[<-ak.out,if_neg (by rintro(h|h);exact h w;exact z h)]
  have qx:=Z f;have k:=List.length_pos_iff.2 z;have o:((a.length:Int)==0)=false:=aC
  have bg:Hid (Calls Tryz.prog 37 #[.agg #[U g i j],U V a.length W] I (gy I (cP c a))):=Z (by
   have h:=wB ⟨g,i,j⟩ ⟨V,a.length,W⟩ R a I (aI.same (t.trans m)) (λo q=>df.mono ((aJ o q).keep (Kp.of_same (l:=[]) (t.trans m)) ai) (λo o=>aT o (t.trans m).size)) aK (a5.same K) a6 a2;rw[S.out]at h;exact h)
  have bh:=az aQ;clear f w z k;go_wp2_with fail
  refine bg.mono ?_;rintro al bi ⟨aU,bb,bc,D,⟨L,bj,M,E,aV,bk⟩,⟨⟨ap,ar,au⟩,H,aW,aX⟩⟩;have am:al=.returned (.tuple #[.agg (bz L M),U ap ar au]):=by
   rw[D,E,H];rfl
  clear D H E bh;subst am;have bl:=Z aV;have bm:=jz L M;have bn:Hid (hJ I.heap.size bi (U ap ar au) (cP c a).2):=Z ⟨⟨ap,ar,au⟩,rfl,aW,aX⟩;have aY:=Z ((Kp.of_same (l:=[]) aU).blk y ai);clear aV aW aX;go_wp2_with (first|(refine wpList_store_row rfl 37 (.tmp 4) (.tmp 42) rfl b.heap.size (bz L M) rfl rfl 37 b6 aY.out e rfl bm ?_)|fail)
  have a:=K.size;have a:=aT hle3 (t.trans m).size;obtain⟨e1,e2,c,e4⟩:=oY aY m3 bk a (Nat.le_refl _) (K.trans aU);refine bodyPost_end (v:=.tuple _) (jy (p:=4) (u:=5) rfl _ _ b.heap.size 37 (bz L M) _ rfl c Tryz.underlying37 rfl e) rfl ?_;rw[HW.out,qx.out];exact⟨e1,_,_,rfl,⟨L,bj,M,rfl,bl,e4.low (Nat.le_of_lt a)⟩,(bn.kp a e2).low (Nat.le_of_lt a)⟩
theorem wK (c:aw) (d:Hd) (b:List Cg) (a:af) (f:aG c) (g:b4 a ⟨some ⟨0,0,none⟩,10,10⟩ fb) (i:0<a.heap.size) (j:aF a 8 d Cg.cells b) (k:∀e∈b,aG e.name/\aG e.dflt.s) (e:b.length<=1000):
 Calls Tryz.prog 20 #[c,d.val] a (gy a (ek (ba c) b)):=Fw c d b a _ (Z rfl) f g i j k e
theorem o0 (a:aw) (w:af) (i:aG a) (j:b4 w ⟨some ⟨0,0,none⟩,10,10⟩ fb) (k:0<w.heap.size):
 Calls Tryz.prog 18 #[a] w (gy w (ek (ba a) [])):=by
 obtain⟨s,e⟩:=aq (ek (ba a) []);have m:=Tryz.lg;have t:Hid (∀b,ag w b->Calls Tryz.prog 20 #[a,aa] b (gy b s)):=Z (λc b=>by
  rw[e];exact wK a aJ [] c i (j.same b) (aT k b.size) jw ai ai)
 rw[<-e];clear i j k e;have f:=Z (show ag w (w.alloc (.cells #[aa,aa,aa,aa,aa,aa,aa] 37))from(ag.refl w).alloc _);have g:Hid (J (w.alloc (.cells #[aa,aa,aa,aa,aa,aa,aa] 37)) w.heap.size 37 b6):=Z (J.new w 37 b6);go_enter Tryz.func18,Tryz.ntmps18
 go_upto_region 1 with(fail)
 obtain⟨x,a⟩:=aq (w.alloc (.cells #[aa,aa,aa,aa,aa,aa,aa] 37));rw[<-a]at f g⊢;clear a;have d:=J.lt g;go_wp2_with fail
 refine(t x f).mono ?_;rintro i a ⟨n,a,j,a,⟨b,y,c,e,o,z⟩,q⟩;have A:i=.returned (.tuple #[.agg (bz b c),j]):=by
  rw[a,e];rfl
 clear a e;subst A;have B:=Z o;have C:=Z q;have r:=Z ((Kp.of_same (l:=[]) n).blk g ai);have D:=jz b c;clear o q;go_wp2_with (first|(refine wpList_store_row rfl 37 (.tmp 2) (.tmp 6) rfl w.heap.size (bz b c) rfl rfl 37 b6 r.out m rfl D ?_)|fail)
 obtain⟨a,e,f,g⟩:=oY r m3 z d (Nat.le_refl _) (f.trans n);refine bodyPost_end (v:=.tuple _) (jy (p:=2) (u:=3) rfl _ _ w.heap.size 37 (bz b c) _ rfl f Tryz.underlying37 rfl m) rfl ?_;exact⟨a,_,_,rfl,⟨b,y,c,rfl,B,g.low (Nat.le_of_lt d)⟩,(C.kp d e).low (Nat.le_of_lt d)⟩
def tB:ByteArray:=⟨#[116,97,98,108,101,32,116,40,97,32,116,101,120,116,44,32,110,32,110,117,109,98,101,114,41,32,107,101,121,32,97,59,32,117,110,105,113,117,101,32,107,32,111,110,32,116,40,110,41,59]⟩
def tD:ByteArray:=⟨#[32,100,101,110,121,32,100,32,116,32,120,44,32,116,32,121,32,119,104,101,114,101,32,120,46,110,32,60,32,121,46,110,32,43,32,50,59]⟩
def tU:ByteArray:=⟨#[32,117,110,105,113,117,101,32,107,32,111,110,32,116,40,97,41,59]⟩
def tQ:ByteArray:=⟨#[113,117,101,114,121,32,113,32,61,32,115,101,108,101,99,116,40,116,32,119,104,101,114,101,32,97,32,60,32,51,41,59,32,116,97,98,108,101,32,116,40,97,32,116,101,120,116,41,32,107,101,121,32,97,59]⟩
def tK:ByteArray:=⟨#[32,107,101,101,112,32,116,46,110,32,98,121,32,108,111,110,103,101,115,116,59]⟩
def cM:Cg:=⟨3,⟨#[116]⟩,⟨#[110]⟩,⟨#[109]⟩,0,V.zero⟩
def sg (a:cT):List Int:=[a.l.var,a.l.col,a.l.v.k,a.l.v.n,(a.l.v.s.size:Int),a.r.var,a.r.col,a.r.v.k,a.r.v.n,(a.r.v.s.size:Int),a.add]
def sh (a:Ru):List (List Int):=a.cD::a.tables::a.tests.map sg
def gj (p:Su×List (Int×Int)):List (Int×Int)×List (List (List Int)):=(p.2,p.1.rules.map sh)
theorem FG:gj (ek (ba (tB++tD)) [])=([],[[[1],[]],[[],[0,0],[0,1,0,0,0,1,1,0,0,0,2]]]):=by decide+kernel
theorem FH:gj (ek (ba (tB++tU)) [])=([(9,51)],[]):=by decide+kernel
theorem FI:gj (ek (ba tQ) [])=([(10,10)],[]):=by decide+kernel
theorem FJ:gj (ek (ba (tB++tK)) [])=([(10,51)],[]):=by decide+kernel
theorem FK:gj (ek (ba tB) [cM])=([],[[[1],[]]]):=by decide+kernel
theorem li {a:Su×List (Int×Int)} {b:List (Int×Int)} {c:List (List (List Int))} (h:gj a=(b,c)):a.2=b:=congrArg Prod.fst h
theorem FL {a:Su×List (Int×Int)} {c:List (Int×Int)} {b:List (List (List Int))} (h:gj a=(c,b)):a.1.rules.map sh=b:=congrArg Prod.snd h
theorem wL {a:aw} (h:(a.size:Int)=0):a=⟨#[]⟩:=by
 obtain⟨⟨a⟩⟩:=a;have:a.length=0:=by
  have h:((a.length:Nat):Int)=0:=h;omega
 rw[List.length_eq_zero_iff]at this;subst this;rfl
theorem wM {a b:Type} {c:a->b} {l:List a} {d:b} (h:l.map c=[d]):∃a,l=[a]/\c a=d:=by
 match l,h with
 |[a],h=>exact⟨a,rfl,by simpa using h⟩
theorem FM {a c:Type} {b:a->c} {l:List a} {d e:c} (h:l.map b=[d,e]):∃a y,l=[a,y]/\b a=d/\b y=e:=by
 match l,h with
 |[a,y],h=>exact⟨a,y,rfl,by simpa using h⟩
theorem wN {a:cc} {d:List Tb} {b:Su×List (Int×Int)} {e:List (Int×Int)} {c:List (List (List Int))} (f:a.su d=b.1) (h:gj b=(e,c)):a.rs.map (λy=>sh y.ru)=c:=by
 have:=FL h;rw[<-f]at this;simpa[cc.su,Function.comp_def]using this
theorem si {h:Hd} {b:Nat} (d:b=h.n):h.val=.slice h.a b h.c:=by
 obtain⟨f,e,g⟩:=h;have d:b=e:=d;subst d;rfl
theorem sj {b:af} {h:Hd} {l m:List Int} (d:dQ b h l) (e:l=m):h.val=.slice h.a m.length h.c/\dQ b ⟨h.a,m.length,h.c⟩ m:=by
 subst e;obtain⟨e,b,g⟩:=h;have f:l.length=b:=d.1;subst f;exact⟨rfl,d⟩
theorem fJ.rule {i:Nat} {c:af} {h:Hd} {b:List RT} {e:cc} (j:fJ i c h b e) (g:Nat) {y:cG} (k:e.rs[g]?=some y):∃b d,e.h5.a=some ⟨b,d,none⟩/\b<c.heap.size/\(∀e f,y.cells[e]?=some f->ac c (ab b (d+g*10+e)) f)/\eZ c (λb=>i<=b) y:=by
 obtain⟨c,i⟩:=List.getElem?_eq_some_iff.1 k;obtain⟨b,d,g,k,l⟩:=j.l5.2.2 g c;exact⟨b,d,g,k,λe f b=>l e f (by rw[i];exact b),j.r y (i▸List.getElem_mem c)⟩
theorem FN {a:cT} (h:sg a=[0,1,0,0,0,1,1,0,0,0,2]):∃b,a=⟨⟨0,1,⟨0,0,⟨#[]⟩⟩⟩,b,⟨1,1,⟨0,0,⟨#[]⟩⟩⟩,2⟩:=by
 obtain⟨⟨a,l,⟨p,q,r⟩⟩,b,⟨s,t,⟨u,v,w⟩⟩,x⟩:=a;simp only[sg,List.cons.injEq,and_true]at h;obtain⟨c,d,e,f,a,g,i,j,k,l,m⟩:=h;have n:=wL a;have o:=wL l;subst c d e f n g i j k o m;exact⟨b,rfl⟩
def tC (a:Int):List Value:=[.int .i64 0,.int .i64 1,.int .i64 0,.int .i64 0,.string ⟨#[]⟩,.int .i64 a,.int .i64 1,.int .i64 1,.int .i64 0,.int .i64 0,.string ⟨#[]⟩,.int .i64 2]
theorem FO {f:Nat} {a:af} {h:Hd} {r:List RT} {e:cc} {s:List Tb} {b:Su×List (Int×Int)} {t:List (Int×Int)} (k:fJ f a h r e) (E:e.su s=b.1) (F:gj b=(t,[[[1],[]],[[],[0,0],[0,1,0,0,0,1,1,0,0,0,2]]])):
 ∃(b f G:Nat) (r:aX) (s:Nat) (t:aX) (u d g H:Nat) (n:Int),e.h5.val=.slice (some ⟨b,f,none⟩) 2 G/\b<a.heap.size/\ac a (ab b (f+3)) (U r 1 s)/\dQ a ⟨r,1,s⟩ [1]/\
  ac a (ab b (f+10+8)) (U t 2 u)/\dQ a ⟨t,2,u⟩ [0,0]/\ac a (ab b (f+10+9)) (U (some ⟨d,g,none⟩) 1 H)/\d<a.heap.size/\∀i j,(tC n)[i]?=some j->ac a (ab d (g+i)) j:=by
 obtain⟨a,o,p,e0,v⟩:=FM (wN E F);obtain⟨w,x,hA1,I,J,u0⟩:=k.rule 0 (y:=a) (by rw[p];rfl);obtain⟨a,b,hA2,_,z,u1⟩:=k.rule 1 (y:=o) (by rw[p];rfl);rw[hA1]at hA2;have K:w=a:=congrArg Addr.block (Option.some.inj hA2);have L:x=b:=congrArg Addr.off (Option.some.inj hA2);subst K L;have A:=k.l5.1;rw[p]at A;have B:=sj u0.lc (m:=[1]) (List.cons.inj e0).1;have C:=sj u1.lb (m:=[0,0]) (List.cons.inj (List.cons.inj v).2).1;obtain⟨a,q,M⟩:=wM (l:=o.tests) (List.cons.inj (List.cons.inj v).2).2;obtain⟨n,rfl⟩:=FN M;have a:=u1.ls.1;obtain⟨d,g,b,f,k⟩:=u1.ls.2.2 0 (by rw[q];exact Nat.zero_lt_one);refine⟨w,x,e.h5.c,_,_,_,_,d,g,o.hs.c,n,by rw[si A,hA1];rfl,I,?_,B.2,?_,C.2,?_,f,λi j D=>?_⟩
 ·have h:=J 3 _ rfl
  rw[B.1]at h;simpa using h
 ·have h:=z 8 _ rfl
  rw[C.1]at h;simpa using h
 ·have h:=z 9 _ rfl
  rw[si a,b,q]at h;simpa using h
 have h:=k i j (by simp only[q];exact D);simpa using h
theorem FP {f:Nat} {a:af} {h:Hd} {g:List RT} {b:cc} {i:List Tb} {d:Su×List (Int×Int)} {j:List (Int×Int)} (e:fJ f a h g b) (k:b.su i=d.1) (l:gj d=(j,[[[1],[]]])):
 ∃(d f j:Nat) (g:aX) (i:Nat),b.h5.val=.slice (some ⟨d,f,none⟩) 1 j/\d<a.heap.size/\ac a (ab d (f+3)) (U g 1 i)/\dQ a ⟨g,1,i⟩ [1]:=by
 obtain⟨d,a,e0⟩:=wM (wN k l);obtain⟨f,g,hA1,i,j,u0⟩:=e.rule 0 (y:=d) (by rw[a];rfl);have d:=e.l5.1;rw[a]at d;have a:=sj u0.lc (m:=[1]) (List.cons.inj e0).1;refine⟨f,g,b.h5.c,_,_,by rw[si d,hA1];rfl,i,?_,a.2⟩;have h:=j 3 _ rfl;rw[a.1]at h;simpa using h
theorem sn {c:af} {d:aX} {a:Nat} {p:Int×Int} (l:aF c 2 ⟨d,1,a⟩ dP [p]):∃a b,d=some ⟨a,b,none⟩/\a<c.heap.size/\ac c (ab a b) p.1/\ac c (ab a (b+1)) p.2:=by
 obtain⟨a,b,d,e,c⟩:=l.2.2 0 Nat.zero_lt_one;exact⟨a,b,d,e,by simpa using c 0 _ rfl,by simpa using c 1 _ rfl⟩
theorem FQ (w:af) (B:b4 w ⟨some ⟨0,0,none⟩,10,10⟩ fb) (C:0<w.heap.size):
 Calls Tryz.prog 12 #[] w λc ad=>c=.returned (.bool true)/\ag w ad:=by
 have D:=Tryz.lg;have aM:∀a,(Op.stringOp .add ({data:=#[116,97,98,108,101,32,116,40,97,32,116,101,120,116,44,32,110,32,110,117,109,98,101,114,41,32,107,101,121,32,97,59,32,117,110,105,113,117,101,32,107,32,111,110,32,116,40,110,41,59]}:ByteArray) {data:=#[32,100,101,110,121,32,100,32,116,32,120,44,32,116,32,121,32,119,104,101,114,101,32,120,46,110,32,60,32,121,46,110,32,43,32,50,59]}).run Tryz.prog a=.ok (.string (tB++tD)) a:=λa=>run_string_add_sum a tB tD (by show tB.size+tD.size<=_;decide+kernel);obtain⟨ae,N⟩:=aq (tB++tD);simp only[<-N]at aM;have aN:aG ae:=by rw[N];unfold aG;try decide+kernel
 obtain⟨aO,aj⟩:=aq (ek (ba ae) []);have aP:=Z (show gj aO=([],[[[1],[]],[[],[0,0],[0,1,0,0,0,1,1,0,0,0,2]]]) by rw[aj,N];exact FG);have aQ:=Z (λa (b:ag w a)=>o0 ae a aN (B.same b) (aT C b.size));simp only[<-aj]at aQ;clear aj N aN;have aR:∀a,(Op.stringOp .add ({data:=#[116,97,98,108,101,32,116,40,97,32,116,101,120,116,44,32,110,32,110,117,109,98,101,114,41,32,107,101,121,32,97,59,32,117,110,105,113,117,101,32,107,32,111,110,32,116,40,110,41,59]}:ByteArray) {data:=#[32,117,110,105,113,117,101,32,107,32,111,110,32,116,40,97,41,59]}).run Tryz.prog a=.ok (.string (tB++tU)) a:=λa=>run_string_add_sum a tB tU (by show tB.size+tU.size<=_;decide+kernel);obtain⟨ae,N⟩:=aq (tB++tU);simp only[<-N]at aR;have aN:aG ae:=by rw[N];unfold aG;try decide+kernel
 obtain⟨aS,aj⟩:=aq (ek (ba ae) []);have aU:=Z (show gj aS=([(9,51)],[]) by rw[aj,N];exact FH);have aV:=Z (λa (b:ag w a)=>o0 ae a aN (B.same b) (aT C b.size));simp only[<-aj]at aV;clear aj N aN;obtain⟨ae,N⟩:=aq tQ;have aN:aG ae:=by rw[N];unfold aG;try decide+kernel
 obtain⟨ak,aj⟩:=aq (ek (ba ae) []);have aW:=Z (show gj ak=([(10,10)],[]) by rw[aj,N];exact FI);have ae:=Z (λa (b:ag w a)=>o0 ae a aN (B.same b) (aT C b.size));simp only[<-aj]at ae;have bR:Hid (∀a,ag w a->Calls Tryz.prog 18 #[.string {data:=#[113,117,101,114,121,32,113,32,61,32,115,101,108,101,99,116,40,116,32,119,104,101,114,101,32,97,32,60,32,51,41,59,32,116,97,98,108,101,32,116,40,97,32,116,101,120,116,41,32,107,101,121,32,97,59]}] a (gy a ak)):=Z (by have h:=ae.out;rw[N]at h;exact h);clear aj N aN;have aX:∀a,(Op.stringOp .add ({data:=#[116,97,98,108,101,32,116,40,97,32,116,101,120,116,44,32,110,32,110,117,109,98,101,114,41,32,107,101,121,32,97,59,32,117,110,105,113,117,101,32,107,32,111,110,32,116,40,110,41,59]}:ByteArray) {data:=#[32,107,101,101,112,32,116,46,110,32,98,121,32,108,111,110,103,101,115,116,59]}).run Tryz.prog a=.ok (.string (tB++tK)) a:=λa=>run_string_add_sum a tB tK (by show tB.size+tK.size<=_;decide+kernel);obtain⟨ae,N⟩:=aq (tB++tK);simp only[<-N]at aX;have aN:aG ae:=by rw[N];unfold aG;try decide+kernel
 obtain⟨aZ,aj⟩:=aq (ek (ba ae) []);have a0:=Z (show gj aZ=([(10,51)],[]) by rw[aj,N];exact FJ);have a1:=Z (λa (b:ag w a)=>o0 ae a aN (B.same b) (aT C b.size));simp only[<-aj]at a1;clear aj N aN;obtain⟨al,N⟩:=aq (ek (ba tB) [cM]);have a2:=Z (show gj al=([],[[[1],[]]]) by rw[N];exact FK);have bS:Hid (∀a,ag w a->∀b d,aF a 8 ⟨b,1,d⟩ Cg.cells [cM]->Calls Tryz.prog 20 #[.string {data:=#[116,97,98,108,101,32,116,40,97,32,116,101,120,116,44,32,110,32,110,117,109,98,101,114,41,32,107,101,121,32,97,59,32,117,110,105,113,117,101,32,107,32,111,110,32,116,40,110,41,59]},U b 1 d] a (gy a al)):=Z (λa b e d f=>by
  rw[N];exact wK tB ⟨e,1,d⟩ [cM] a (by unfold aG;try decide+kernel) (B.same b) (aT C b.size) f (λd b=>by rw[aA b];constructor<;>(unfold aG;try decide+kernel)) ai)
 clear N B C;have a3:=Z (ag.refl w);obtain⟨B,bT⟩:=aq w;go_enter Tryz.func12,Tryz.ntmps12
 go_wp2_with fail
 refine(aQ w a3).mono ?_;rintro c j ⟨a4,P,Q,d,⟨b,B,u,e,a5,a6⟩,⟨⟨bU,f,bV⟩,g,a7,n⟩⟩;have o:f=0:=by
  have b:aO.2.length=f:=a7.1;rw[li aP.out]at b;exact b.symm
 subst o;have q:c=.returned (.tuple #[.agg (bz b u),U bU 0 bV]):=by
  rw[d,e,g];rfl
 clear d g e n;subst q;have a8:=jz b u;have a9:=fx j (.cells #[aa,aa,aa,aa,aa,aa,aa] 37);have bb:=World.setRow_alloc_new j #[aa,aa,aa,aa,aa,aa,aa] (bz b u) 37;have an:=Z (show ag j (j.alloc (.cells (bz b u) 37))from(ag.refl j).alloc _);have bc:=Z (J.new j 37 (bz b u));go_upto_region 3 with(first|(refine wpList_store_row rfl 37 (.tmp 2) (.tmp 18) rfl j.heap.size (bz b u) rfl rfl 37 #[aa,aa,aa,aa,aa,aa,aa] a9 D rfl a8 ?_;rw[bb])|fail)
 obtain⟨bW,u⟩:=aq (j.alloc (.cells (bz b u) 37));rw[<-u]at an bc⊢;clear u a9 bb a8;have bd:=Z (a3.trans (a4.trans an));clear aM;go_wp2_with fail
 refine(aV bW bd).mono ?_;rintro c v ⟨ao,P,Q,d,⟨t,u,E,e,bX,bY⟩,⟨⟨bZ,f,b0⟩,g,ap,n⟩⟩;have o:f=1:=by
  have b:aS.2.length=f:=ap.1;rw[li aU.out]at b;exact b.symm
 subst o;have q:c=.returned (.tuple #[.agg (bz t E),U bZ 1 b0]):=by
  rw[d,e,g];rfl
 clear d g e n;subst q;have be:=jz t E;have bf:=fx v (.cells #[aa,aa,aa,aa,aa,aa,aa] 37);have bg:=World.setRow_alloc_new v #[aa,aa,aa,aa,aa,aa,aa] (bz t E) 37;have R:=Z (show ag v (v.alloc (.cells (bz t E) 37))from(ag.refl v).alloc _);go_upto_region 4 with(first|(refine wpList_store_row rfl 37 (.tmp 4) (.tmp 24) rfl v.heap.size (bz t E) rfl rfl 37 #[aa,aa,aa,aa,aa,aa,aa] bf D rfl be ?_;rw[bg])|fail)
 obtain⟨b1,u⟩:=aq (v.alloc (.cells (bz t E) 37));rw[<-u]at R⊢;clear u bf bg be;have bi:=Z (bd.trans (ao.trans R));clear aR;go_wp2_with fail
 refine(bR b1 bi).mono ?_;rintro c x ⟨ar,P,Q,d,⟨F,u,G,e,b2,b3⟩,⟨⟨b5,f,b6⟩,g,au,n⟩⟩;have o:f=1:=by
  have b:ak.2.length=f:=au.1;rw[li aW.out]at b;exact b.symm
 subst o;have q:c=.returned (.tuple #[.agg (bz F G),U b5 1 b6]):=by
  rw[d,e,g];rfl
 clear d g e n;subst q;have bk:=jz F G;have bl:=fx x (.cells #[aa,aa,aa,aa,aa,aa,aa] 37);have bm:=World.setRow_alloc_new x #[aa,aa,aa,aa,aa,aa,aa] (bz F G) 37;have S:=Z (show ag x (x.alloc (.cells (bz F G) 37))from(ag.refl x).alloc _);go_upto_region 5 with(first|(refine wpList_store_row rfl 37 (.tmp 6) (.tmp 28) rfl x.heap.size (bz F G) rfl rfl 37 #[aa,aa,aa,aa,aa,aa,aa] bl D rfl bk ?_;rw[bm])|fail)
 obtain⟨b8,u⟩:=aq (x.alloc (.cells (bz F G) 37));rw[<-u]at S⊢;clear u bl bm bk;have bo:=Z (bi.trans (ar.trans S));go_wp2_with fail
 refine(a1 b8 bo).mono ?_;rintro c y ⟨aw,P,Q,d,⟨H,u,I,e,b9,ca⟩,⟨⟨cb,f,cc⟩,g,ax,n⟩⟩;have o:f=1:=by
  have b:aZ.2.length=f:=ax.1;rw[li a0.out]at b;exact b.symm
 subst o;have q:c=.returned (.tuple #[.agg (bz H I),U cb 1 cc]):=by
  rw[d,e,g];rfl
 clear d g e n;subst q;have bp:=jz H I;have bq:=fx y (.cells #[aa,aa,aa,aa,aa,aa,aa] 37);have br:=World.setRow_alloc_new y #[aa,aa,aa,aa,aa,aa,aa] (bz H I) 37;have T:=Z (show ag y (y.alloc (.cells (bz H I) 37))from(ag.refl y).alloc _);go_upto_region 6 with(first|(refine wpList_store_row rfl 37 (.tmp 8) (.tmp 34) rfl y.heap.size (bz H I) rfl rfl 37 #[aa,aa,aa,aa,aa,aa,aa] bq D rfl bp ?_;rw[br])|fail)
 obtain⟨V,u⟩:=aq (y.alloc (.cells (bz H I) 37));rw[<-u]at T⊢;clear u bq br bp;have u:=Z (bo.trans (aw.trans T));clear aX;have bs:=Z (show ag w (V.alloc (.cells cM.cells.toArray 99))from u.alloc _);have W:=Z (cF (enc:=Cg.cells) (m:=8) (h:=⟨some ⟨V.heap.size,0,none⟩,1,1⟩) (xs:=[cM]) (λ_=>rfl) rfl ai (ie V cM.cells.toArray 99 8 0 rfl (Nat.zero_le _)));go_wp2_with fail
 refine(bS _ bs _ _ W).mono ?_;rintro c k ⟨ay,P,Q,d,⟨z,u,A,e,bt,bu⟩,⟨⟨ce,f,cf⟩,g,bv,n⟩⟩;have o:f=0:=by
  have b:al.2.length=f:=bv.1;rw[li a2.out]at b;exact b.symm
 subst o;have q:c=.returned (.tuple #[.agg (bz z A),U ce 0 cf]):=by
  rw[d,e,g];rfl
 clear d g e n;subst q;have bw:=jz z A;have bx:=fx k (.cells #[aa,aa,aa,aa,aa,aa,aa] 37);have bA:=World.setRow_alloc_new k #[aa,aa,aa,aa,aa,aa,aa] (bz z A) 37;have X:=Z (show ag k (k.alloc (.cells (bz z A) 37))from(ag.refl k).alloc _);have bB:=Z (J.new k 37 (bz z A));go_upto_region 7 with(first|(refine wpList_store_row rfl 37 (.tmp 10) (.tmp 41) rfl k.heap.size (bz z A) rfl rfl 37 #[aa,aa,aa,aa,aa,aa,aa] bx D rfl bw ?_;rw[bA])|fail)
 obtain⟨i,d⟩:=aq (k.alloc (.cells (bz z A) 37));rw[<-d]at X bB⊢;clear d bx bA bw;have cg:=Z (bs.trans (ay.trans X));have d:=Z (((ag.refl V).alloc (.cells cM.cells.toArray 99)).trans (ay.trans X));have e:=Z (aw.trans (T.trans d));have f:=Z (ar.trans (S.trans e));have g:=Z (ao.trans (R.trans f));have n:=Z (a6.same (an.trans g));have o:=Z (bu.same X);have bC:=Z ((Kp.of_same (l:=[]) g).blk bc ai);have aB:=bB;have f:=Z (by have h:=ap.same (R.out.trans f.out);rw[li aU.out]at h;exact h);have e:=Z (by have h:=au.same (S.out.trans e.out);rw[li aW.out]at h;exact h);have d:=Z (by have h:=ax.same (T.out.trans d.out);rw[li a0.out]at h;exact h);obtain⟨L,aC,aD,K,ch,ci,ck,cl,cm,g,r,bD,L1,cn,co,cp,cq,mt,LT,cr⟩:=FO n a5 aP;obtain⟨aE,bE,bF,cs,ct,bG,cu,cv,cw⟩:=FP o bt a2;obtain⟨bH,f,cx,bI,cy,cz⟩:=sn f;obtain⟨bJ,e,cA,bK,cB,cC⟩:=sn e;obtain⟨cD,d,cE,cG,cH,_⟩:=sn d;subst cx cA cE;clear a4 ao ar aw ay a6 bY b3 ca bu a5 bX b2 b9 bt a7 ap au ax bv;have d:ac i (am j 5) (U (some ⟨L,aC,none⟩) 2 aD):=by rw[<-bD];exact J.cell bC.out 5
 have e:ac i (am k 5) (U (some ⟨aE,bE,none⟩) 1 bF):=by rw[<-bG];exact J.cell aB.out 5
 have W:=Z bI;have bL:=Z d;have cI:=Z e;have bM:=Z (J.lt bC);have cJ:=Z (J.lt aB);clear bD bG bI D bT aB;go_upto_region 9 with(fail)
 have cK:=Z (fx i (.cells #[O 0,O 0,O 0,O 0,ah,O 0,O 0,O 0,O 0,O 0,ah,O 0] 73));have cL:=Z (World.setRow_alloc_new i #[O 0,O 0,O 0,O 0,ah,O 0,O 0,O 0,O 0,O 0,ah,O 0] #[O 0,O 1,O 0,O 0,ah,r,O 1,O 1,O 0,O 0,ah,O 2] 73);have cN:=Z (show(#[O 0,O 1,O 0,O 0,ah,r,O 1,O 1,O 0,O 0,ah,O 2]:Array Value).all (·.oneCell')=true by simp[Value.oneCell']);have cO:=Z (show(some 12:Option Nat)=some (tC r).length from rfl);have bO:(some 12:Option Nat)=some (#[O 0,O 1,O 0,O 0,ah,r,O 1,O 1,O 0,O 0,ah,O 2]:Array Value).size:=rfl;go_upto_region 10 with(first|(refine mZ rfl 73 (.tmp 92) rfl cl cm [.int .i64 0,.int .i64 1,.int .i64 0,.int .i64 0,.string ⟨#[]⟩,.int .i64 r,.int .i64 1,.int .i64 1,.int .i64 0,.int .i64 0,.string ⟨#[]⟩,.int .i64 2] rfl cr _ Tryz.underlying73 rfl cO.out ?_)|(refine wpList_store_row rfl 73 (.tmp 12) (.tmp 93) rfl i.heap.size #[O 0,O 1,O 0,O 0,ah,r,O 1,O 1,O 0,O 0,ah,O 2] rfl rfl 73 #[O 0,O 0,O 0,O 0,ah,O 0,O 0,O 0,O 0,O 0,ah,O 0] cK.out bO.out rfl cN.out ?_;rw[cL.out])|fail)
 clear bO;try rw[oX]
 refine av ?_;have M:=Z (show ag i (i.alloc (.cells #[O 0,O 1,O 0,O 0,ah,r,O 1,O 1,O 0,O 0,ah,O 2] 73))from(ag.refl i).alloc _);have bP:=Z (J.new i 73 #[O 0,O 1,O 0,O 0,ah,r,O 1,O 1,O 0,O 0,ah,O 2]);obtain⟨aH,d⟩:=aq (i.alloc (.cells #[O 0,O 1,O 0,O 0,ah,r,O 1,O 1,O 0,O 0,ah,O 2] 73));rw[<-d]at M bP⊢;clear d;have aI:Hid (∀a,ag i a->∀K e f g (d:List Int),dQ i ⟨K,d.length,e⟩ d->dQ a ⟨f,d.length,g⟩ d->Calls Tryz.prog 34 #[U K d.length e,U f d.length g] a λc ad=>c=.returned (.bool true)/\ag a ad):=Z (λa e K f g i d b t=>by
  have h:=FF ⟨K,d.length,f⟩ ⟨g,d.length,i⟩ d d a (b.same e) t;simp only[decide_true]at h;exact h)
 have a:ac aH (am j 5) (U (some ⟨L,aC,none⟩) 2 aD):=(M.cell (p:=⟨_,5,none⟩) bM).trans bL;have cP:=(M.cell (p:=⟨L,_,none⟩) L1).trans cn;go_wp2_with fail
 clear cP;refine(aI _ (M.alloc _) K ch _ 1 [1] co (cF (enc:=cj) (m:=1) (h:=⟨some ⟨aH.heap.size,0,none⟩,1,1⟩) (xs:=[(1:Int)]) (λ_=>rfl) rfl ai (ie aH _ 3 1 0 rfl (Nat.zero_le _)))).mono ?_;rintro c Y ⟨rfl,aJ⟩;have ab:=Z ((M.alloc (.cells #[O 1] 3)).trans aJ);have cQ:=Z ((Kp.of_same (l:=[]) aJ).blk (bP.alloc (.cells #[O 1] 3)) ai);clear aJ;have a:ac Y (am j 5) (U (some ⟨L,aC,none⟩) 2 aD):=(ab.cell (p:=⟨_,5,none⟩) bM).trans bL;have cR:=(ab.cell (p:=⟨L,_,none⟩) L1).trans cp;go_wp2_with fail
 clear cR;refine(aI _ (ab.alloc _) ci ck _ 2 [0,0] cq (cF (enc:=cj) (m:=1) (h:=⟨some ⟨Y.heap.size,0,none⟩,2,2⟩) (xs:=[(0:Int),0]) (λ_=>rfl) rfl ai ⟨rfl,.inr ⟨Y.heap.size,2,_,rfl,Nat.zero_le _,J.new Y 3 _,Nat.le_refl _,by unfold maxLen;omega,by simp,rfl⟩⟩)).mono ?_;rintro c aK ⟨rfl,aL⟩;have s:=Z ((ab.alloc (.cells #[O 0,O 0] 3)).trans aL);have a:=Z ((Kp.of_same (l:=[]) aL).blk (cQ.alloc (.cells #[O 0,O 0] 3)) ai);clear aL;have b:=az a;have b:=aY a;have b:=bh a;have b:=bj a;have b:=bn a;have b:=cd a;have b:=b7 a;have b:=bN a;have b:=iT a;have b:=ml a;have a:=nk a;have cS:=(s.cell (p:=⟨bH,_,none⟩) W).trans cy;have cT:=(s.cell (p:=⟨bH,_,none⟩) W).trans cz;have cU:=(s.cell (p:=⟨bJ,_,none⟩) bK).trans cB;have cV:=(s.cell (p:=⟨bJ,_,none⟩) bK).trans cC;have cW:=(s.cell (p:=⟨cD,_,none⟩) cG).trans cH;have a:ac aK (am k 5) (U (some ⟨aE,bE,none⟩) 1 bF):=(s.cell (p:=⟨_,5,none⟩) cJ).trans cI;have cX:=(s.cell (p:=⟨aE,_,none⟩) cu).trans cv;go_wp2_with fail
 refine(aI _ (s.alloc _) cs ct _ 1 [1] cw (cF (enc:=cj) (m:=1) (h:=⟨some ⟨aK.heap.size,0,none⟩,1,1⟩) (xs:=[(1:Int)]) (λ_=>rfl) rfl ai (ie aK _ 3 1 0 rfl (Nat.zero_le _)))).mono ?_;rintro c a ⟨rfl,bQ⟩;have cY:=Z (cg.trans ((s.alloc (.cells #[O 1] 3)).trans bQ));clear bQ cS cT cU cV cW cX;go_wp2;go_ret;exact⟨rfl,cY⟩
end Go.Proofs.YteamkimbmdgdbaaGreatDoor

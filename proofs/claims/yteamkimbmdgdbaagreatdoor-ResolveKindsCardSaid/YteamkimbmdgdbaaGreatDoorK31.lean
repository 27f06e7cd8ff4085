import Derived.Test.YteamkimbmdgdbaaGreatDoorK29
import Derived.Test.YteamkimbmdgdbaaGreatDoorK30
set_option linter.unusedSimpArgs false
set_option linter.unusedVariables false
set_option maxHeartbeats 16000000
set_option maxRecDepth 100000
namespace Go.Proofs.YteamkimbmdgdbaaGreatDoor
open Go.RowKit
theorem Ff (a:aw) (b:af) (c:aG a) (d:b4 b ⟨some ⟨0,0,none⟩,10,10⟩ fb) (e:0<b.heap.size):
 Calls Tryz.prog 26 #[a] b λf g=>iR b (gi (ba a)) f g:=by
 by_cases h:(dq (ba a)).2.1=0
 ·exact Fe a b c d e h
 exact Fd a b c d e h
theorem hJ.same {b:Nat} {w c:af} {v:ay} {d:List (Int×Int)} (a:hJ b w v d) (k:ag w c):hJ b c v d:=by
 obtain⟨h,e,f,g⟩:=a;exact⟨h,e,f.same k,g⟩
theorem hJ.kp {a g:Nat} {w c:af} {v:ay} {d:List (Int×Int)} (f:hJ a w v d) (j:g<a) (k:Kp [g] w c):hJ a c v d:=by
 obtain⟨h,b,i,e⟩:=f;exact⟨h,b,i.kp k (λa c b d=>by have:=e a c b;rw[aA d]at this;omega),e⟩
theorem hJ.low {a l2:Nat} {w:af} {v:ay} {b:List (Int×Int)} (c:hJ a w v b) (d:l2<=a):hJ l2 w v b:=by
 obtain⟨h,e,f,g⟩:=c;exact⟨h,e,f,g.mono (λa a=>bR d a)⟩
def bz (h:Hd) (a:cc):Array Value:=#[h.val,a.h1.val,a.h2.val,a.h3.val,a.h4.val,a.h5.val,a.h6.val]
theorem jz (h:Hd) (a:cc):(bz h a).all (·.oneCell')=true:=by simp[bz,Hd.val,Value.oneCell']
theorem oY {e b:af} {f a:Nat} {i:aO} {h:Hd} {j:List RT} {c:cc} (d:J b a 37 i) (k:∀(l:Nat) (v:ay),i[l]?=some v->∃i l m,v=Value.slice i l m) (n:fJ f b h j c) (o:a<f) (p:e.heap.size<=a) (q:ag e b):
 ag e (b.setRow a (bz h c))/\Kp [a] b (b.setRow a (bz h c))/\J (b.setRow a (bz h c)) a 37 (bz h c)/\fJ f (b.setRow a (bz h c)) h j c:=by
 have g:=(Kp.refl [a] _).grown (jZ b a (bz h c)) (λd g=>.inl (by injection g with g;simp[g]));exact⟨g.g4 q (λd a=>by rw[aA a];exact p),g,kM d _,n.kp o (λa v b=>by rw[J.cell d a]at b;exact k a v b) g⟩
theorem Fg (h:Hd) (f:List RI) (a:af) (s:aF a 25 h RI.cells f) (t:∀i∈f,df a (λw=>w<a.heap.size) i) (x:∀i∈f,i.it.dh):
 Calls Tryz.prog 14 #[.agg #[h.val]] a (gy a (cP (f.map RI.it) [])):=by
 obtain⟨b,c,d⟩:=h;obtain⟨n,y⟩:∃n,n=cP (f.map RI.it) []:=⟨_,rfl⟩;have f:=Z (λj (e:ag a j)=>wB ⟨b,c,d⟩ aJ f [] j (s.same e) (λi f=>df.mono ((t i f).keep (Kp.of_same (l:=[]) e) ai) (λw f=>aT f e.size)) x jw ai ai);rw[<-y]at f⊢;clear s t x y;have N:Hid (∀e,ag a e->Calls Tryz.prog 37 #[.agg #[U b c d],aa] e (gy e n)):=f;clear f;have j:=Z (show ag a ((a.alloc (.cells #[U b c d] 24)).alloc (.cells b6 37))from((ag.refl a).alloc _).alloc _);have k:=Z (J.new (a.alloc (.cells #[U b c d] 24)) 37 b6);have m:((a.alloc (.cells #[U b c d] 24)).alloc (.cells b6 37)).heap.size=a.heap.size+1+1:=ai
 rw[show(a.alloc (.cells #[U b c d] 24)).heap.size=a.heap.size+1 by simp]at k;show Calls Tryz.prog 14 #[.agg #[U b c d]] a _;go_enter Tryz.func14,Tryz.ntmps14
 go_upto_region 1 with(fail)
 unfold b6 at j k m;have f:=Z ((J.new a 24 #[U b c d]).alloc (.cells #[aa,aa,aa,aa,aa,aa,aa] 37));obtain⟨o,i⟩:∃e,e=((a.alloc (.cells #[U b c d] 24)).alloc (.cells #[aa,aa,aa,aa,aa,aa,aa] 37)):=⟨_,rfl⟩;rw[<-i]at j k m f⊢;clear i;have z:a.heap.size+1<o.heap.size:=ae
 have A:=Z m;clear m;have b:ac o (am a 0) (U b c d):=J.cell f.out 0;have B:=Tryz.lg;go_wp2_with (first|(go_at_call 37;refine(N.out o j.out).mono ?_;rintro b b ⟨q,b,F,O,⟨g,G,e,P,C,D⟩,E⟩;subst O P;have H:=Z q;have I:=Z D;have K:=Z C;have L:=Z E;have r:=Z ((Kp.of_same (l:=[]) q).blk k.out ai);have M:=jz g e;clear q D C E)|(refine wpList_store_row rfl 37 (.tmp 2) (.tmp 6) rfl (a.heap.size+1) (bz g e) rfl rfl 37 b6 r.out B rfl M ?_)|fail)
 obtain⟨b,c,d,f⟩:=oY r.out m3 I.out z (Nat.le_succ _) (j.out.trans H.out);refine bodyPost_end (v:=.tuple #[.agg (bz g e),F]) (jy (p:=2) (u:=3) rfl _ _ (a.heap.size+1) 37 (bz g e) _ rfl d Tryz.underlying37 rfl B) rfl ?_;exact⟨b,_,_,rfl,⟨g,G,e,rfl,K.out,f.low (by have:=A.out;omega)⟩,(L.out.kp z c).low (by have:=A.out;omega)⟩
def lh (c:PO (List aI)) (b:List Cg):Su×List (Int×Int):=
 match c with
 |.bad e a=>(Su.zero,[(e,a)])
 |.ok xs _=>if(cP xs []).2≠[]\/b=[]then cP xs []else cP xs b
def ek (l:bL) (a:List Cg):Su×List (Int×Int):=lh (gi l) a
theorem Fw (o:aw) (A:Hd) (a:List Cg) (b:af) (N:Ending->World->Prop) (ax:Hid (N=gy b (ek (ba o) a))) (ay:aG o) (aB:b4 b ⟨some ⟨0,0,none⟩,10,10⟩ fb) (a2:0<b.heap.size) (T:aF b 8 A Cg.cells a) (aD:∀aE∈a,aG aE.name/\aG aE.dflt.s) (a3:a.length<=1000):
 Calls Tryz.prog 20 #[o,A.val] b N:=by
 obtain⟨V,a4,W⟩:=A;have a5:a.length=a4:=T.1;subst a5;have e:=Tryz.lg;have a6:=se;have a7:=Z T;have a8:=Z aD;obtain⟨X,A⟩:=aq (gi (ba o));have HW:Hid (N=gy b (lh X a)):=Z (by rw[ax.out,A];rfl);have Y:=Z (λc (f:ag b c)=>Ff o c ay (aB.same f) (aT a2 f.size));rw[<-A]at Y;have ab:=Z (A▸Fv (ba o));have ac:=Z (λc f (h:X=.ok c f)=>(E9 (A.symm.trans h)).1);clear A ax T aD ay aB;have B:=Z (show ag b (b.alloc (.cells #[aa,aa,aa,aa,aa,aa,aa] 37))from(ag.refl b).alloc _);have ad:Hid (J (b.alloc (.cells #[aa,aa,aa,aa,aa,aa,aa] 37)) b.heap.size 37 b6):=Z (J.new b 37 b6);have ah:(b.alloc (.cells #[aa,aa,aa,aa,aa,aa,aa] 37)).heap.size=b.heap.size+1:=by simp
 show Calls Tryz.prog 20 #[o,U V a.length W] b N;go_enter Tryz.func20,Tryz.ntmps20
 go_upto_region 1 with(fail)
 obtain⟨aj,o⟩:=aq (b.alloc (.cells #[aa,aa,aa,aa,aa,aa,aa] 37));rw[<-o]at B ad ah⊢;clear o;have a9:b.heap.size<aj.heap.size:=ae
 have o:=Z ah;clear ah;cases X with
 |bad c f=>
  have k:=ab c f rfl;have o:(c==0)=false:=by simpa using k
  have o:=Z k;clear k ac ab;go_wp2_with (first|(go_at_call 26;refine(Y.out aj B.out).mono ?_;rintro k d ⟨m,q⟩;subst q;have n:=Z m;have av:=Z ((((Kp.of_same (l:=[]) m).blk ad.out ai).alloc (.cells #[aa] 24)).alloc (.cells #[c,f] 97));clear m)|(refine wpList_store_row rfl 37 (.tmp 4) (.tmp 19) rfl b.heap.size b6 rfl rfl 37 b6 av.out e rfl a6 ?_)|fail)
  have q:=kM av b6;have k:=jZ ((d.alloc (.cells #[aa] 24)).alloc (.cells #[c,f] 97)) b.heap.size b6;have m:=(Kp.refl [b.heap.size] _).grown k (λk m=>.inl (by injection m with m;simp[m]));have k:=n.size;have e1:(d.alloc (.cells #[aa] 24)).heap.size=d.heap.size+1:=by simp
  have k:=ie (d.alloc (.cells #[aa] 24)) #[c,f] 97 2 0 rfl (Nat.zero_le _);rw[e1]at k;have c:=cF (h:=⟨some ⟨d.heap.size+1,0,none⟩,1,1⟩) (xs:=[(c,f)]) p1 rfl ai k;refine bodyPost_ret (v:=.tuple #[.agg b6,U (some ⟨d.heap.size+1,0,none⟩) 1 1]) (jy (p:=4) (u:=5) rfl _ _ b.heap.size 37 b6 _ rfl q Tryz.underlying37 rfl e) rfl ?_;rw[HW.out];exact⟨m.g4 (((B.out.trans n.out).alloc _).alloc _) (λf f=>by rw[aA f];exact Nat.le_refl _),_,_,rfl,qn _ _,⟨_,rfl,c.kp m (λc f f k=>by
   have e1:d.heap.size+1=c:=congrArg Addr.block (Option.some.inj f);have:=aA k;omega),λc f f=>by
   have e1:d.heap.size+1=c:=congrArg Addr.block (Option.some.inj f);omega⟩⟩
 |ok c P=>
  have bb:=Z (ac c P rfl);clear ac ab;go_upto_region 2 with(first|(go_at_call 26;refine(Y.out aj B.out).mono ?_;rintro o d ⟨f,⟨g,i,j⟩,R,k,m,q,r,t⟩;have w:o=.returned (.tuple #[.agg #[U g i j],O 0,O 0]):=k;clear k;subst w;have n:=Z f;have a0:=Z q;have a1:=Z r;have S:=Z m;clear f q r t m)|fail)
  have o:=n.size;have q:=Z (show ag d (d.alloc (.cells #[U g i j] 24))from(ag.refl d).alloc _);have Q:=Z (J.new d 24 #[U g i j]);obtain⟨C,o⟩:=aq (d.alloc (.cells #[U g i j] 24));rw[<-o]at q Q⊢;clear o;have aH:=Z (B.trans (n.trans q));have aI:=Z (a0.same q);have aJ:=Z (λf k=>df.mono (S':=λm=>m<C.heap.size) ((a1 f k).keep (Kp.of_same (l:=[]) q) ai) (λf f=>aT f.2 q.size));have aK:=Z (λf (k:f∈R)=>bb f.it (by rw[<-S.out];exact List.mem_map.2 ⟨f,k,rfl⟩));have aL:Hid (Calls Tryz.prog 14 #[.agg #[U g i j]] C (gy C (cP c []))):=Z (by
   have h:=Fg ⟨g,i,j⟩ R C aI aJ aK;rw[S.out]at h;exact h)
  obtain⟨r,o⟩:=aq (cP c []);rw[<-o]at aL;have ak:=Z o;clear o;have bc:=az Q;have o:=J.lt Q;have o:(#[aa,aa,aa,aa,aa,aa,aa]:Array Value).size=7:=rfl;go_wp2_with fail
  refine aL.mono ?_;rintro al f ⟨t,bd,be,D,⟨hh,ts,x,E,aM,bf⟩,⟨⟨F,k,G⟩,H,aN,bg⟩⟩;have am:al=.returned (.tuple #[.agg (bz hh x),U F k G]):=by
   rw[D,E,H];rfl
  clear D H E;subst am;have Fy:=Z aM;have an:=jz hh x;have aO:=fx f (.cells #[aa,aa,aa,aa,aa,aa,aa] 37);have aP:=World.setRow_alloc_new f #[aa,aa,aa,aa,aa,aa,aa] (bz hh x) 37;clear aM bc;go_upto_region 5 with(first|(refine wpList_store_row rfl 37 (.tmp 9) (.tmp 27) rfl f.heap.size (bz hh x) rfl rfl 37 #[aa,aa,aa,aa,aa,aa,aa] aO e rfl an ?_;rw[aP])|fail)
  have o:=aH.size;have hle3:=aT a9 (n.trans q).size;have m:=Z (show ag f (f.alloc (.cells (bz hh x) 37))from(ag.refl f).alloc _);have y:=Z (((Kp.of_same (l:=[]) (n.trans (q.trans t))).blk ad ai).alloc (.cells (bz hh x) 37));have ao:=Z (J.new f 37 (bz hh x));have aQ:=Z (((Kp.of_same (l:=[]) t).blk Q ai).alloc (.cells (bz hh x) 37));obtain⟨I,o⟩:=aq (f.alloc (.cells (bz hh x) 37));rw[<-o]at m y ao aQ⊢;clear o aO aP;have K:=Z (aH.trans (t.trans m));have aR:=Z (bf.same m);have Fz:Hid (hJ C.heap.size I (U F k G) r.2):=Z ⟨⟨F,k,G⟩,rfl,aN.same m,bg⟩;have o:r.2.length=k:=aN.1;have aS:=Z o;clear o;by_cases w:r.2=[]
  case neg=>
   have o:0<k:=by rw[<-aS.out];exact List.length_pos_iff.2 w
   have o:decide ((0:Int)<(k:Int))=true:=aC
   have o:lh (.ok c P) a=r:=by
    show(if(cP c []).2≠[]\/a=[]then cP c []else cP c a)=r;rw[<-ak.out,if_pos (.inl w)]
   have qx:=Z o;clear o w;go_wp2_with (first|(refine ir rfl 37 (.tmp 9) rfl f.heap.size (bz hh x) rfl 37 ao.out _ Tryz.underlying37 rfl e ?_)|(refine wpList_store_row rfl 37 (.tmp 4) (.tmp 37) rfl b.heap.size (bz hh x) rfl rfl 37 b6 y.out e rfl an ?_)|fail)
   obtain⟨e1,e2,o,e4⟩:=oY y m3 aR hle3 (Nat.le_refl _) K;refine bodyPost_ret (v:=.tuple #[.agg (bz hh x),U F k G]) (jy (p:=4) (u:=5) rfl _ _ b.heap.size 37 (bz hh x) _ rfl o Tryz.underlying37 rfl e) rfl ?_;exact GV
  have bh:k=0:=by rw[<-aS.out,w];rfl
  subst bh;by_cases z:a=[]
  case pos=>
   have k:lh (.ok c P) a=r:=by
    show(if(cP c []).2≠[]\/a=[]then cP c []else cP c a)=r;rw[<-ak.out,if_pos (.inr z)]
   have qx:=Z k;have o:a.length=0:=by rw[z];rfl
   have q:((a.length:Int)==0)=true:=by rw[o];rfl
   have o:decide ((a.length:Int)=0)=true:=by rw[o];rfl
   clear k w z;go_wp2_with (first|(refine ir rfl 37 (.tmp 9) rfl f.heap.size (bz hh x) rfl 37 ao.out _ Tryz.underlying37 rfl e ?_)|(refine wpList_store_row rfl 37 (.tmp 4) (.tmp 37) rfl b.heap.size (bz hh x) rfl rfl 37 b6 y.out e rfl an ?_)|fail)
   obtain⟨e1,e2,f,e4⟩:=oY y m3 aR hle3 (Nat.le_refl _) K;refine bodyPost_ret (v:=.tuple #[.agg (bz hh x),U F 0 G]) (jy (p:=4) (u:=5) rfl _ _ b.heap.size 37 (bz hh x) _ rfl f Tryz.underlying37 rfl e) rfl ?_;exact GV
  have aU:lh (.ok c P) a=cP c a:=by
   show(if(cP c []).2≠[]\/a=[]then cP c []else cP c a)=cP c a;rw[<-ak.out,if_neg (by rintro(h|h);exact h w;exact z h)]
  have qx:=Z aU;have f:=List.length_pos_iff.2 z;have k:((a.length:Int)==0)=false:=aC
  have bi:Hid (Calls Tryz.prog 37 #[.agg #[U g i j],U V a.length W] I (gy I (cP c a))):=Z (by
   have h:=wB ⟨g,i,j⟩ ⟨V,a.length,W⟩ R a I (aI.same (t.trans m)) (λk o=>df.mono ((aJ k o).keep (Kp.of_same (l:=[]) (t.trans m)) ai) (λk k=>aT k (t.trans m).size)) aK (a7.same K) a8 a3;rw[S.out]at h;exact h)
  have bj:=az aQ;clear aU w z f;go_wp2_with fail
  refine bi.mono ?_;rintro al bk ⟨aV,bd,be,D,⟨L,bl,M,E,aW,bm⟩,⟨⟨ap,ar,au⟩,H,aX,aY⟩⟩;have am:al=.returned (.tuple #[.agg (bz L M),U ap ar au]):=by
   rw[D,E,H];rfl
  clear D H E bj;subst am;have bn:=Z aW;have bo:=jz L M;have bp:Hid (hJ I.heap.size bk (U ap ar au) (cP c a).2):=Z ⟨⟨ap,ar,au⟩,rfl,aX,aY⟩;have aZ:=Z ((Kp.of_same (l:=[]) aV).blk y ai);clear aW aX aY;go_wp2_with (first|(refine wpList_store_row rfl 37 (.tmp 4) (.tmp 42) rfl b.heap.size (bz L M) rfl rfl 37 b6 aZ.out e rfl bo ?_)|fail)
  have a:=K.size;have a:=aT hle3 (t.trans m).size;obtain⟨e1,e2,c,e4⟩:=oY aZ m3 bm a (Nat.le_refl _) (K.trans aV);refine bodyPost_end (v:=.tuple _) (jy (p:=4) (u:=5) rfl _ _ b.heap.size 37 (bz L M) _ rfl c Tryz.underlying37 rfl e) rfl ?_;rw[HW.out,qx.out];exact⟨e1,_,_,rfl,⟨L,bl,M,rfl,bn,e4.low (Nat.le_of_lt a)⟩,(bp.kp a e2).low (Nat.le_of_lt a)⟩
theorem wK (c:aw) (d:Hd) (b:List Cg) (a:af) (f:aG c) (g:b4 a ⟨some ⟨0,0,none⟩,10,10⟩ fb) (i:0<a.heap.size) (j:aF a 8 d Cg.cells b) (k:∀e∈b,aG e.name/\aG e.dflt.s) (e:b.length<=1000):
 Calls Tryz.prog 20 #[c,d.val] a (gy a (ek (ba c) b)):=Fw c d b a _ (Z rfl) f g i j k e
theorem o0 (a:aw) (w:af) (i:aG a) (j:b4 w ⟨some ⟨0,0,none⟩,10,10⟩ fb) (k:0<w.heap.size):
 Calls Tryz.prog 18 #[a] w (gy w (ek (ba a) [])):=by
 obtain⟨s,e⟩:=aq (ek (ba a) []);have m:=Tryz.lg;have t:Hid (∀b,ag w b->Calls Tryz.prog 20 #[a,aa] b (gy b s)):=Z (λc b=>by
  rw[e];exact wK a aJ [] c i (j.same b) (aT k b.size) jw ai ai)
 rw[<-e];clear i j k e;have f:=Z (show ag w (w.alloc (.cells #[aa,aa,aa,aa,aa,aa,aa] 37))from(ag.refl w).alloc _);have g:Hid (J (w.alloc (.cells #[aa,aa,aa,aa,aa,aa,aa] 37)) w.heap.size 37 b6):=Z (J.new w 37 b6);go_enter Tryz.func18,Tryz.ntmps18
 go_upto_region 1 with(fail)
 obtain⟨x,a⟩:=aq (w.alloc (.cells #[aa,aa,aa,aa,aa,aa,aa] 37));rw[<-a]at f g⊢;clear a;have d:=J.lt g;go_wp2_with fail
 refine(t x f).mono ?_;rintro i a ⟨n,a,j,a,⟨b,y,c,e,o,z⟩,q⟩;have A:i=.returned (.tuple #[.agg (bz b c),j]):=by
  rw[a,e];rfl
 clear a e;subst A;have B:=Z o;have C:=Z q;have r:=Z ((Kp.of_same (l:=[]) n).blk g ai);have D:=jz b c;clear o q;go_wp2_with (first|(refine wpList_store_row rfl 37 (.tmp 2) (.tmp 6) rfl w.heap.size (bz b c) rfl rfl 37 b6 r.out m rfl D ?_)|fail)
 obtain⟨a,e,f,g⟩:=oY r m3 z d (Nat.le_refl _) (f.trans n);refine bodyPost_end (v:=.tuple _) (jy (p:=2) (u:=3) rfl _ _ w.heap.size 37 (bz b c) _ rfl f Tryz.underlying37 rfl m) rfl ?_;exact⟨a,_,_,rfl,⟨b,y,c,rfl,B,g.low (Nat.le_of_lt d)⟩,(C.kp d e).low (Nat.le_of_lt d)⟩
theorem Iw {a:List RA} {d:aw} {b:Nat} (f:b<a.length) (h:a[b].at_.name=d) (g:∀c (e:c<a.length),c<b->a[c].at_.name≠d):(b:Int)=ed (a.map RA.at_) d:=by
 refine(nh b (by simpa using f) (by simpa using h) (λc e=>?_)).symm;have:=g c ae e;simpa using this
theorem Ix {b:List RA} {c:aw} (e:∀a (d:a<b.length),b[a].at_.name≠c):(-1:Int)=ed (b.map RA.at_) c:=by
 refine(lq (λa d=>?_)).symm;have:=e a (by simpa using d);simpa using this
theorem Il (h:Hd) (a:List RA) (b:aw) (w:af) (l:aF w 6 h RA.cells a):
 Calls Tryz.prog 33 #[h.val,b] w λn o=>n=.returned (O (ed (a.map RA.at_) b))/\ag w o:=by
 obtain⟨j,k,q⟩:=h;have r:a.length=k:=l.1;have k:k<=9223372036854775807:=l.2.1;subst r;have s:=Z l;clear l;show Calls Tryz.prog 33 #[U j a.length q,b] w _;go_enter Tryz.func33,Tryz.ntmps33
 go_wp2;go_loopw [5] (λd wr=>∃c:Nat,c<=a.length/\d=.int .i64 c/\Hid (ag w wr)/\Hid (∀d (e:d<a.length),d<c->a[d].at_.name≠b)) (λc _=>a.length-(intOf c).toNat)
 case atStart=>exact⟨0,Nat.zero_le _,rfl,ag.refl w,λc _ c=>absurd c (Nat.not_lt_zero _)⟩
 obtain⟨c,v,rfl,e,i⟩:=hrel;by_cases m:c<a.length
 ·obtain⟨o,q,k,r,n⟩:=(s.out.same e.out).2.2 c m
  have t:j=some ⟨o,q,none⟩:=k;obtain⟨f,j⟩:=aq (a[c].at_.name);have o:=n 0 (.string a[c].at_.name) rfl;rw[<-j]at o;simp only[Nat.add_zero]at o;have p:=Z j;clear n k j;subst t;have j:(c:Int)<(a.length:Int):=ae
  have g:=jD f b;by_cases d:f=b
  ·have j:(f.toList==b.toList)=true:=by rw[g];simp;exact d
   have u:=Z d;clear d g;go_wp2;go_ret;exact⟨d0 (Iw m (by rw[<-p.out];exact u.out) i.out),e⟩
  have f:(f.toList==b.toList)=false:=by rw[g];simp;exact d
  have u:=Z d;clear d g;go_wp2;go_roundw
  case rel=>exact⟨c+1,by omega,by go_num,e,λd f g=>by
   by_cases g:d<c
   ·exact i.out d f g
   have:d=c:=ae
   subst this;rw[<-p.out];exact u.out⟩
  simp[intOf];omega
 have d:Hid (∀c (d:c<a.length),a[c].at_.name≠b):=λa b=>i.out a b ae;go_wp2;go_ret;exact⟨d0 (Ix d.out),e⟩
theorem Im:∀{b c:List At},fh b c=true->b.length=c.length/\∀a (d:a<b.length) (e:a<c.length),b[a].name=c[a].name/\b[a].kind=c[a].kind
 |[],[],_=>⟨rfl,λa h=>absurd h (Nat.not_lt_zero _)⟩
 |[],_::_,h=>by cases h
 |_::_,[],h=>by cases h
 |b::l,c::m,h=>by
  rw[fh]at h;simp only[Bool.and_eq_true,decide_eq_true_eq]at h;obtain⟨b,f⟩:=Im h.2;exact⟨by simp[b],λa d e=>by
   cases a with
   |zero=>exact h.1
   |succ a=>exact f a (by simpa using d) (by simpa using e)⟩
theorem HV:∀(a:List At),fh a a=true
 |[]=>rfl
 |a::l=>by rw[fh,HV l];simp
theorem HZ (e f:Hd) (a c:List RA) (w:af) (g:aF w 6 e RA.cells a) (j:aF w 6 f RA.cells c) (l:fh (a.map RA.at_) (c.map RA.at_)=true):
 Calls Tryz.prog 57 #[e.val,f.val] w λt u=>t=.returned (.bool true)/\ag w u:=by
 obtain⟨m,n,v⟩:=e;obtain⟨o,x,y⟩:=f;have z:a.length=n:=g.1;have A:c.length=x:=j.1;have n:n<=9223372036854775807:=g.2.1;obtain⟨k,p⟩:=Im l;simp only[List.length_map]at k;have q:∀d (e:d<a.length) (f:d<c.length),a[d].at_.name=c[d].at_.name/\a[d].at_.kind=c[d].at_.kind:=λd e f=>by
  have h:=p d (by simpa using e) (by simpa using f);rw[List.getElem_map,List.getElem_map]at h;exact h
 subst z A;have B:=Z g;have C:=Z j;have D:=Z q;have E:=Z k;have e:((a.length:Int) !=(c.length:Int))=false:=aC
 clear g j l p q k;show Calls Tryz.prog 57 #[U m a.length v,U o c.length y] w _;go_enter Tryz.func57,Tryz.ntmps57
 go_wp2;go_loopw [5] (λd wr=>∃b:Nat,b<=a.length/\d=.int .i64 b/\Hid (ag w wr)) (λd _=>a.length-(intOf d).toNat)
 case atStart=>exact⟨0,Nat.zero_le _,rfl,ag.refl w⟩
 obtain⟨b,H,rfl,i⟩:=hrel;by_cases f:b<a.length
 ·have g:b<c.length:=by have:=E.out;omega
  obtain⟨l,n,j,e,d⟩:=(B.out.same i.out).2.2 b f;obtain⟨p,q,k,t,e⟩:=(C.out.same i.out).2.2 b g;have F:m=some ⟨l,n,none⟩:=j;have G:o=some ⟨p,q,none⟩:=k;obtain⟨g,l⟩:=D.out b f g;obtain⟨r,m⟩:=aq (a[b].at_.name);obtain⟨s,n⟩:=aq (a[b].at_.kind);have o:=d 0 (.string a[b].at_.name) rfl;have q:=d 1 (O a[b].at_.kind) rfl;have f:=e 0 (.string c[b].at_.name) rfl;have p:=e 1 (O c[b].at_.kind) rfl;rw[<-g]at f;rw[<-l]at p;rw[<-m]at o f;rw[<-n]at q p;simp only[Nat.add_zero]at o f;clear d e j k m n g l;subst F G;have a:(b:Int)<(a.length:Int):=ae
  have a:(b:Int)<(c.length:Int):=ae
  have a:(r.toList==r.toList)=true:=ai
  have a:(s !=s)=false:=ai
  go_wp2_with fail
  go_quiet (fail)
  go_wp2;go_roundw
  case rel=>exact⟨b+1,by omega,by go_num,(i.out.drewN _)⟩
  simp[intOf];omega
 go_wp2;go_ret;exact⟨rfl,i⟩
theorem Iy (h:Hd) (a:List RA) (i:Sd) (w:af) (l:aF w 6 h RA.cells a):
 Calls Tryz.prog 56 #[h.val,.agg i.cells.toArray] w λs t=>s=.returned (O (HG (a.map RA.at_) i))/\ag w t:=by
 obtain⟨m,n,u⟩:=h;have v:a.length=n:=l.1;have n:n<=9223372036854775807:=l.2.1;subst v;have x:=Z l;clear l;obtain⟨c,f,⟨o,p,q⟩⟩:=i;obtain⟨y,i⟩:=aq (HG (a.map RA.at_) ⟨c,f,⟨o,p,q⟩⟩);rw[<-i];have d:=Z i;clear i;show Calls Tryz.prog 56 #[U m a.length u,.agg #[c,f,o,p,q]] w _;go_enter Tryz.func56,Tryz.ntmps56
 by_cases e:c= -1
 ·subst e
  go_wp2;go_ret;exact⟨d0 (by rw[d.out];rfl),((ag.refl w).alloc _)⟩
 have z:(c== -1)=false:=by simp;exact e
 have r:=Z e;by_cases g:c=0
 case neg=>
  have c:(c !=0)=true:=by simp;exact g
  have b:=Z g;clear e g;go_wp2;go_ret;exact⟨d0 (by rw[d.out];unfold HG;rw[if_neg r.out,if_pos (.inl b.out)]),((ag.refl w).alloc _)⟩
 subst g;clear e z r;by_cases j:f<0
 ·have c:decide (f<0)=true:=decide_eq_true j
  have b:=Z j;go_wp2;go_ret;exact⟨d0 (by rw[d.out];unfold HG;rw[if_neg (by simp),if_pos (.inr (.inl b.out))]),((ag.refl w).alloc _)⟩
 obtain⟨b,rfl⟩:=Int.eq_ofNat_of_zero_le (Int.not_lt.1 j);by_cases k:b<a.length
 case neg=>
  have A:=Z k;have c:decide ((a.length:Int)<=(b:Int))=true:=decide_eq_true ae;have c:decide (a.length<=b)=true:=decide_eq_true ae;go_wp2;go_ret;exact⟨d0 (by rw[d.out];unfold HG;rw[if_neg ai,if_pos (.inr (.inr (by have:=A.out;simp;omega)))]),((ag.refl w).alloc _)⟩
 obtain⟨c,g,e,i,f⟩:=x.out.2.2 b k;have A:m=some ⟨c,g,none⟩:=e;obtain⟨g,c⟩:=aq (a[b].at_.kind);have i:=f 1 (O a[b].at_.kind) rfl;rw[<-c]at i;have g:y=g:=by
  rw[d.out,c];unfold HG;rw[if_neg ai,if_neg aC];show(cE (a.map RA.at_) (b:Int)).kind=_;rw[HJ (by simpa using k)];simp
 have B:=Z g;have d:decide ((a.length:Int)<=(b:Int))=false:=decide_eq_false ae;have d:decide (a.length<=b)=false:=decide_eq_false ae;clear f e c g;subst A;have a:(b:Int)<(a.length:Int):=ae
 go_wp2;go_ret;exact⟨d0 B.out.symm,((ag.refl w).alloc _)⟩
theorem Iz (w:af) {j u o1 wW wX wY FR k lj c Q:Nat} {FY FZ A B:aX} {R m:Int} {e f:List RA} {l:List At} {v:At}
 (S:ac w (ab j (u+7)) (U B c Q)) (T:j<w.heap.size) (x:aF w 6 ⟨A,k,lj⟩ RA.cells e) (y:aF w 6 ⟨B,c,Q⟩ RA.cells f)
 (C:e.map RA.at_=l++[v]) (V:Ie (f.map RA.at_) m R v.kind):
 Calls Tryz.prog 58 #[.agg #[O 8,O 0,U (some ⟨j,u,none⟩) 1 o1,U FY wW wX,U FZ wY FR,R,m,U A k lj]] w λQ R=>Q=.returned (.bool true)/\ag w R:=by
 have au:e.length=k:=x.1;have Q:k<=9223372036854775807:=x.2.1;have Q:f.length=c:=y.1;have Q:c<=9223372036854775807:=y.2.1;have av:e.length=l.length+1:=by have h:=congrArg List.length C;simpa using h
 obtain⟨a,rfl⟩:∃a,k=a+1:=⟨l.length,by omega⟩;have D:a<e.length:=by omega
 obtain⟨W,X,Y,aw,aa⟩:=x.2.2 a D;have ax:A=some ⟨W,X,none⟩:=Y;subst ax;have e:e[a].at_.kind=v.kind:=by
  have h:=congrArg (λb=>b[a]?) C;simp only[List.getElem?_map,List.getElem?_eq_getElem D,Option.map_some]at h;rw[List.getElem?_append_right ae,show a-l.length=0 by omega]at h;simp at h;rw[h]
 have n:=aa 1 _ rfl;rw[e]at n;obtain⟨E,k⟩:=aq v.kind;rw[<-k]at n V;have ay:=Z (λ(b:Nat) (h:b<f.length)=>y.2.2 b h);clear aa e k C av Y x y D au;go_enter Tryz.func58,Tryz.ntmps58
 go_upto_region 1 with(fail)
 obtain⟨ad,e,o,d,k⟩:=nb w 105 _;rw[e];clear e;have az:=(ag.cell d.out (p:=(ab W (X+a*6+1))) aw).trans n;have F:=(ag.cell d.out (p:=(ab j (u+7))) T).trans S;have q:=bh o;have r:=bQ o;have z:=cd o;have aA:=b7 o;have e:(a:Int)<((a+1:Nat):Int):=ae
 have e:((a+1:Nat):Int)-1=(a:Int):=ae
 have a:((a:Int)+1)-1=(a:Int):=ae
 have a:=Z n;clear n S;rcases V with⟨rfl,rfl,rfl⟩|⟨aB,G,ah,H⟩
 case inl=>
  go_wp2_with fail
  go_ret;exact⟨rfl,d.out⟩
 obtain⟨b,rfl⟩:=Int.eq_ofNat_of_zero_le G.1;have aj:b<f.length:=by have:=G.2;simp at this;omega
 have a:b<c:=ae
 have a:(b:Int)<(c:Int):=ae
 obtain⟨I,J,al,am,an⟩:=ay.out b aj;have aC:B=some ⟨I,J,none⟩:=al;subst aC;have a:f[b].at_.kind=E:=by rw[ah,HJ (by simpa using aj)];simp
 have K:=(ag.cell d.out (p:=(ab I (J+b*6+1))) am).trans (an 1 _ rfl);rw[a]at K;have e:(m==1)=false:=by simp;exact aB
 have aD:decide ((b:Int)<0)=false:=decide_eq_false ae;have aE:decide ((c:Int)<=(b:Int))=false:=decide_eq_false ae;have aG:decide (c<=b)=false:=decide_eq_false ae;clear an a al G ah;have L:=bM q;have M:=bM r;have N:=bM F;go_upto_region 4 with(fail)
 refine wp_region_quiet_below ak ak ?_;repeat (go_big_quiet_step (fail))
 refine wpQuiet_nil ?_;intro _ s;obtain⟨⟨g,osq⟩,t⟩:=s;subst t;have i:=Z (ag.reg ad g osq);generalize Sort.grow (redrawn ad g) osq=ao at i⊢;have c:=d.out.size;have a:=qb i o;have ap:=(ag.cell i.out (p:=(ab I (J+b*6+1))) (aT am c)).trans K;have ar:=(ag.cell i.out (p:=(ab j (u+7))) (aT T c)).trans F;clear L M N q r z aA aD aE aG K F az;have q:=bh a;have r:=bQ a;have z:=cd a;have a:(E==E)=true:=ai
 by_cases P:m=2
 case pos=>
  obtain rfl:=H P;subst P;clear H;have L:=bM q;have M:=bM r;have a:=bM z;have N:=bM ar;have a:=bM ap;go_upto_region 6 with(fail)
  refine wp_region_quiet_below ak ak ?_;repeat (go_big_quiet_step (fail))
  refine wpQuiet_nil ?_;intro _ s;obtain⟨⟨g,osq⟩,t⟩:=s;subst t;go_wp2_with fail
  go_ret;exact⟨rfl,d.out.trans (i.out.trans (ag.reg ao g osq))⟩
 have a:(m !=2)=true:=by simp;exact P
 clear H;have L:=bM q;have M:=bM r;have a:=bM z;have N:=bM ar;have a:=bM ap;go_upto_region 6 with(fail)
 refine wp_region_quiet_below ak ak ?_;repeat (go_big_quiet_step (fail))
 refine wpQuiet_nil ?_;intro _ s;obtain⟨⟨g,osq⟩,t⟩:=s;subst t;go_wp2_with fail
 go_ret;exact⟨rfl,d.out.trans (i.out.trans (ag.reg ao g osq))⟩
end Go.Proofs.YteamkimbmdgdbaaGreatDoor

import Derived.Test.YteamkimbmdgdbaaGreatDoorK15
set_option linter.unusedSimpArgs false
set_option linter.unusedVariables false
set_option maxHeartbeats 16000000
set_option maxRecDepth 100000
namespace Go.Proofs.YteamkimbmdgdbaaGreatDoor
open Go.RowKit
def gL (a:RA):Prop:=a.h=aJ/\a.at_.was=[]
structure fY (w:af) (S:Nat->Prop) (h:Hd) (ra:List RA):Prop where
 a:fu w h ra
 i:aS S h
 b:∀r∈ra,gL r
 l:ra.length<=10000
theorem fY.mono {w:af} {S S':Nat->Prop} {h:Hd} {ra:List RA} (a:fY w S h ra) (d:∀c,S c->S' c):fY w S' h ra:=⟨a.a,a.i.mono d,a.b,a.l⟩
theorem pM (b:af) {a:RA} (h:gL a):b4 b a.h a.at_.was:=by
 rw[h.1,h.2];exact⟨aF.none_ b 1 _,λ_ h=>by cases h⟩
theorem fY.keep {w e:af} {S:Nat->Prop} {h:Hd} {f:List RA} (c:fY w S h f) {l:List Nat} (k:Kp l w e) (g:∀d∈l,¬S d):fY e S h f:=
 ⟨⟨c.a.1.kp k (λd f j m=>g d m (c.i d f j)),λd f=>⟨pM e (c.b d f),(c.a.2 d f).2⟩⟩,c.i,c.b,c.l⟩
theorem fY.none_ (w:af) (S:Nat->Prop):fY w S aJ []:=⟨⟨aF.none_ w 6 _,λ_ h=>by cases h⟩,aS.none_ _ _ _,(λ_ h=>by cases h),by show 0<=_;omega⟩
theorem j1 {b d:af} {e m n:Nat} {c:bb} {v:ay} {xs:bg} {row:Option Nat} (f:b.ownsRow e c m v n xs) (k:b.grownBy d row) (l:∀a,v.ownBlock=some a->row≠some a):d.ownsRow e c m v n xs:=by
 refine⟨f.1,?_⟩;rcases f.2 with h|⟨a,o,g,i,p,j,q⟩
 ·exact .inl h
 have b:a<b.heap.size:=J.lt (t:=c) (cs:=g) j;exact .inr ⟨a,o,g,i,p,(k.block a b (λb=>l a (by rw[i];rfl) b.symm)).trans j,q⟩
theorem j2 {c:af} {g i:Nat} {e b:bb} {j k l m:Nat} {v f:ay} {xs n:bg} (o:c.ownsRow g e j v l xs) (p:c.ownsRow i b k f m n) (q:e≠b):∀c,f.ownBlock=some c->v.ownBlock≠some c:=by
 intro c a;rcases p.2 with⟨d,_⟩|⟨u,w,r,d,_,s,_⟩
 ·rw[d]at a;cases a
 rw[d]at a;injection a with a
 subst a;exact lm o (t:=b) (cs:=r) s q
def rt (c:Nat) (p:List Int×List At) (v:ay) (a:af):Prop:=
 ∃(b d:Hd) (e:List RA),v=.tuple #[b.val,d.val]/\dQ a b p.1/\aS (Bw c a.heap.size) b/\p.1.length<=5001/\e.length<=5001/\e.map RA.at_=p.2/\fY a (Bw c a.heap.size) d e/\a.ownsRow c 111 6 d.val d.n (e.flatMap RA.cells)/\a.ownsRow c 3 1 b.val b.n (p.1.flatMap cj)
theorem BM (a:Int) (b:List At) (c:List Int) (e:List At) (d:aw) (f:bm):fz a b c e (d::f)=(ee a b d).bind λd=>RO.ap (!c.any λg=>decide (g=d)) 9 a (fz a b (c++[d]) (e++[cE b d]) f):=rfl
theorem pN {l:List At} {c:Int} {a:aw} {b:Int} (h:ee c l a=.ok b):∃k:Nat,b=k/\k<l.length:=by
 have d:=lr (λb:At=>decide (b.name=a)) l;unfold ee RO.ap at h;split at h
 ·rename_i b
  have b:0<=ed l a:=by simpa using b
  injection h with h
  subst h;refine⟨(ed l a).toNat,by omega,?_⟩;have:ed l a<l.length:=d.2;omega
 cases h
theorem Tryz.infoAt:(Tryz.prog.info? 111).map (λi=>(i.zero,i.size,i.bytes))=some (some (.agg #[ah,O 0,aa,O 0,O 0,ah]),6,80):=ak
theorem RA.uD (a:RA):a.cells.length=6:=rfl
theorem uE (Q:Nat) (h:Hd) (k:List RA) (a0:Hd) (l:bm) (at_:Int) (d:af) (a1:Q<d.heap.size) (a2:ac d (ab Q 8) at_) (a:fu d h k) (bH:∀x∈k,gL x) (am:b4 d a0 l) (bI:l.length<=5001):
 Calls Tryz.prog 273 #[aj Q,h.val,a0.val] d λe w'=>RP [] d (fz at_ (k.map RA.at_) [] [] l) (rt d.heap.size) e w':=by
 obtain⟨a3,a4,a5,a6,a7⟩:=info_parts Tryz.rc;obtain⟨a8,a9,bf,bh,bi⟩:=info_parts Tryz.infoAt;obtain⟨an,bI,bj⟩:=h;obtain⟨bK,a0,nc⟩:=a0;have ch:l.length=a0:=am.1.1;have a0:a0<=9223372036854775807:=am.1.2.1;have ci:k.length=bI:=a.1.1;have a0:bI<=9223372036854775807:=a.1.2.1;subst ch ci;have bk:=Z a;have ck:=Z am;have cl:=Z bH;have cm:=Z a2;have a0:=Z (λ(f:aw) (c:af) (b:ag d c)=>pv Q ⟨an,k.length,bj⟩ k f at_ c (aT a1 b.size) ((b.cell a1).trans a2) (a.same b));have cn:Hid (∀(c:aw) (b:af),ag d b->Calls Tryz.prog 272 #[aj Q,U an k.length bj,c] b λe w'=>RP [] b (ee at_ (k.map RA.at_) c) g7 e w'):=a0;clear a0 a am bH a2;obtain⟨ao,am⟩:=aq (fz at_ (k.map RA.at_) [] [] l);rw[<-am];have bL:=Z am;clear am;have bM:=Z (Kp.refl [] d);show Calls Tryz.prog 273 #[aj Q,U an k.length bj,U bK l.length nc] d _;go_enter Tryz.func273,Tryz.ntmps273
 go_wp2;go_loopg [6,7,13] (l.length+1) (λq r t u wr=>∃(b:Nat) (f:List Int) (c:List RA) (g:aX) (n:Nat) (o:aX) (p:Nat),u=.int .i64 b/\r=.slice g b n/\t=.slice o b p/\b<=l.length/\l.length-b<q/\f.length=b/\c.length=b/\Hid (wr.ownsRow d.heap.size 3 1 (U g b n) b (f.flatMap cj))/\Hid (wr.ownsRow d.heap.size 111 6 (U o b p) b (c.flatMap RA.cells))/\Hid (∀x∈c,gL x/\aG x.at_.name/\aG x.at_.dflt.s)/\Hid (Kp [] d wr)/\Hid (ao=fz at_ (k.map RA.at_) f (c.map RA.at_) (l.drop b)))
 case atStart=>exact⟨0,[],[],none,0,none,0,rfl,rfl,rfl,by omega,by omega,rfl,rfl,Z ⟨rfl,.inl ⟨rfl,rfl⟩⟩,Z ⟨rfl,.inl ⟨rfl,rfl⟩⟩,Z (λx b=>by cases b),bM,bL⟩
 obtain⟨c,y,C,E,F,I,L,rfl,rfl,rfl,cI,bN,bO,bP,X,Y,R,M,ar⟩:=hrel;have S:=Z bN;have T:=Z bO;have V:=Z bP;clear bN bO bP bL bM;have bQ:=Z (bk.same M.same);have bS:=Z (ck.same M.same);by_cases bT:c<l.length
 case neg=>
  have f:¬(c:Int)<l.length:=ae
  have b:=Z (show ao=.ok (y,C.map RA.at_) by rw[ar.out,List.drop_of_length_le ae];rfl);clear ar;go_wp2;refine bodyPost_ret (v:=.tuple #[U E c F,U I c L]) (by simp[results,Tryz.results273,go_sem]) rfl ?_;rw[b.out];have b:∀(b:aX) (f g:Nat) (e:bb) (n:Nat) (o:bg),wr.ownsRow d.heap.size e n (U b f g) f o->aS (Bw d.heap.size wr.heap.size) ⟨b,f,g⟩:=λb f g e n o o n p q=>b3 o n (by show(Value.slice b f g).ownBlock=_;have b:b=some ⟨n,p,none⟩:=q;rw[b];rfl);exact⟨M,_,rfl,⟨E,c,F⟩,⟨I,c,L⟩,C,rfl,cF (h:=⟨E,c,F⟩) cj.len T (by show c<=_;omega) X,b _ _ _ _ _ _ X,by show y.length<=_;have:=T.out;omega,by have:=V.out;omega,rfl,⟨⟨cF (h:=⟨I,c,L⟩) RA.uD V.out (by show c<=_;omega) Y.out,λx f=>⟨pM wr (R.out x f).1,(R.out x f).2⟩⟩,b _ _ _ _ _ _ Y.out,(λx b=>(R.out x b).1),by have:=V.out;omega⟩,Y.out,X.out⟩
 have Q:(c:Int)<l.length:=ae
 obtain⟨Q,of,am,a0,bU⟩:=bS.1.one c bT (v:=.string l[c]) rfl;have bn:bK=some ⟨Q,of,none⟩:=am;obtain⟨bV,Q⟩:=aq (l[c]);rw[<-Q]at bU;have bW:=Z (show ao=(ee at_ (k.map RA.at_) bV).bind λb=>RO.ap (!y.any λf=>decide (f=b)) 9 at_ (fz at_ (k.map RA.at_) (y++[b]) (C.map RA.at_++[cE (k.map RA.at_) b]) (l.drop (c+1))) by rw[ar.out,List.drop_eq_getElem_cons bT,BM,<-Q]);clear ar Q am;subst bn;have bX:=Z (Kp.refl [] wr);go_wp2_with fail
 refine dC bW (cn bV wr M.same) (eL M) ?_;intro a Q N bY O bZ ax;have co:Q=.int .i64 a:=bZ;subst co;obtain⟨b,cp,b0⟩:=pN bY;subst cp;have az:b<k.length:=by simpa using b0
 clear b0 bZ bY;have D:=Z (M.trans ax);have cq:=Z (bQ.same ax.same);have bp:=Z (bX.trans ax);have Q:=D.size;clear ax;clear bU;have bq:=(D.cell a1 ai).trans cm;have aE:=Z (aH bp.same X);have br:=Z (aH bp.same Y);have Q:=cF (h:=⟨E,c,F⟩) cj.len T (by show c<=_;omega) aE;have aW:Hid (Calls Tryz.prog 188 #[U E c F,(b:Int)] N λe w'=>e=.returned (.bool (y.any λf=>decide (f=(b:Int))))/\N=w'):=Z (o9 ⟨E,c,F⟩ y (b:Int) N Q);have am:=Z (show ao=RO.ap (!y.any λf=>decide (f=(b:Int))) 9 at_ (fz at_ (k.map RA.at_) (y++[(b:Int)]) ((C++[k[b]]).map RA.at_) (l.drop (c+1))) by rw[O.out,jY k b az,List.map_append];rfl);clear bW O Q;have O:=am;clear am;generalize (y.any λf=>decide (f=(b:Int)))=cr at aW O;cases cr
 case true=>
  go_wp2_with (first|(go_at_call 188;refine aW.out.mono ?_;rintro e w' ⟨rfl,rfl⟩)|fail)
  exact bv D O bq
 go_wp2_with (first|(go_at_call 188;refine aW.out.mono ?_;rintro e w' ⟨rfl,rfl⟩)|fail)
 refine bJ D O bq λaY=>?_;clear aW O bq;obtain⟨ba,f,aW,a0,O,Q,am,ao,ar,ax⟩:=iq bk b az;have bn:an=some ⟨ba,f,none⟩:=aW;have an:(b:Int)<k.length:=ae
 have an:(0:Int)<=b:=ae
 have aZ:=Z (show gL k[b]/\aG k[b].at_.name/\aG k[b].at_.dflt.s from⟨cl _ (List.getElem_mem az),(bk.2 _ (List.getElem_mem az)).2⟩);obtain⟨an,k⟩:=aq (k[b]);rw[<-k]at O Q am ao ar ax aZ aY;clear k aW;obtain⟨⟨n,o,bs,⟨p,q,r⟩⟩,⟨t,u,w⟩⟩:=an;have B:=a0;have bt:ac d (ab ba (f+b*6)) n:=O;have b2:=(D.cell B ai).trans bt;have bu:ac d (ab ba (f+b*6+1)) o:=Q;have b5:=(D.cell B ai).trans bu;have bw:ac d (ab ba (f+b*6+2)) (U t u w):=am;have b6:=(D.cell B ai).trans bw;have bx:ac d (ab ba (f+b*6+3)) p:=ao;have b7:=(D.cell B ai).trans bx;have bz:ac d (ab ba (f+b*6+4)) q:=ar;have b8:=(D.cell B ai).trans bz;have bA:ac d (ab ba (f+b*6+5)) r:=ax;have b9:=(D.cell B ai).trans bA;have k:IntKind.i64.wrap ((c:Int)+1)=(c:Int)+1:=IntWalk.i64_in _ ae;clear O Q am ao ar ax;subst bn;go_upto_region 6 with(fail)
 refine tr 13 b2 b5 b6 b7 b8 b9 λhS=>?_;refine lO ?_;refine tk 4 hS ?_;refine rr ?_;have g:=Z (λ(g:af) (k:Kp [] d g)=>show ac g (ab ba (f+b*6)) n/\ac g (ab ba (f+b*6+1)) o/\ac g (ab ba (f+b*6+2)) (U t u w)/\ac g (ab ba (f+b*6+3)) p/\ac g (ab ba (f+b*6+4)) q/\ac g (ab ba (f+b*6+5)) r from⟨(k.cell B ai).trans bt,(k.cell B ai).trans bu,(k.cell B ai).trans bw,(k.cell B ai).trans bx,(k.cell B ai).trans bz,(k.cell B ai).trans bA⟩);clear bt bu bw bx bz bA b2 b5 b6 b7 b8 b9 hS;have aa:=b3 aE;have bB:=b3 br;obtain⟨z,k⟩:=aq N.drew;have ca:=Z (show Kp [] d z by rw[k];exact D.out.drew);have cb:=Z (show z.ownsRow d.heap.size 3 1 (U E c F) c (y.flatMap cj) by rw[k];exact aH ((ag.refl N).drew) aE.out);have cc:=Z (show z.ownsRow d.heap.size 111 6 (U I c L) c (C.flatMap RA.cells) by rw[k];exact aH ((ag.refl N).drew) br.out);have cd:N.heap.size<=z.heap.size:=by rw[k];exact Nat.le_refl _
 rw[<-k];clear k aE br X Y bQ cq bS M bX bp;refine nF (i:=2) (j:=9) (oi:=?ah) (oj:=?ay) ak ?aB ?aC ?aD ?aF ?aI ?aJ
 case aB=>simp only[bc,bd,be];rfl
 case aC=>rfl
 case aD=>simp only[bc,bd,be];rfl
 case aF=>rfl
 case aI=>
  intro K A;go_simp;have B:=Z (ca.alloc (.cells #[(b:Int)] 3));refine A _ _ (λ_=>g _ B) ?_;refine av ?_;have k:=Z ((ag.refl z).alloc (.cells #[(b:Int)] 3));have D:=Z (J.new z 3 #[(b:Int)]);obtain⟨W,M⟩:=aq (z.alloc (.cells #[(b:Int)] 3));rw[<-M]at B k D⊢;clear M;have ce:=B;have bC:=Z (aH k cb);have bD:=Z (aH k cc);have cs:=bR cd k.size;have bE:=D;refine nF (i:=3) (j:=9) (oi:=?aL) (oj:=?aM) ak ?aN ?aP ?aQ ?aR ?aU ?aV
  case aN=>simp only[bc,bd,be];rfl
  case aP=>rfl
  case aQ=>simp only[bc,bd,be];rfl
  case aR=>rfl
  case aU=>
   intro K A;have k:=Z (jd bE (m:=1) rfl);have B:=J.lt bE;have ct:=Z (j2 bD bC au);refine c7 W (.tmp 27) (.tmp 29) 60 rfl d.heap.size 3 a3 _ 1 8 Tryz.underlying60 a4 a5 a6 a7 rfl au (U E c F) c (y.flatMap cj) rfl bC (z.heap.size+1) (some ⟨z.heap.size,0,none⟩) 1 1 ((_:aO).toList) rfl k bl b1 ae ae ?_;intro cu ad P G bF;obtain⟨cv,cw,rfl,bG⟩:=bo P;have B:=Z P;have k:=Z G;clear P G bF bG;have cf:=Z (ce.grown k (λD G=>.inr (aa D G).1));refine A _ _ (λ_=>g _ cf) ?_;refine av ?_;have cx:=B;have cy:=Z (j1 bD k (λB D e=>ct B e D));have k:=bR cs k.size;refine aK 9 (λK A=>?_);go_simp;have k:=Z (cf.alloc (.cells #[n,o,U t u w,p,q,r] 111));refine A _ _ (λ_=>g _ k) ?_;refine av ?_;have B:=Z ((ag.refl ad).alloc (.cells #[n,o,U t u w,p,q,r] 111));have D:=Z (J.new ad 111 #[n,o,U t u w,p,q,r]);obtain⟨N,M⟩:=aq (ad.alloc (.cells #[n,o,U t u w,p,q,r] 111));rw[<-M]at k B D⊢;clear M;have cz:=k;have cg:=Z (aH B cx);have k:=Z (aH B cy);have B:=D;refine aK 10 (λK A=>?_);have D:=Z (jd B (m:=6) rfl);have B:=J.lt B;have cA:=Z (j2 cg k au);refine c7 N (.tmp 31) (.tmp 36) 79 rfl d.heap.size 111 a8 _ 6 80 Tryz.underlying79 a9 bf bh bi rfl au (U I c L) c (C.flatMap RA.cells) rfl k (ad.heap.size+1) (some ⟨ad.heap.size,0,none⟩) 1 1 ((_:aO).toList) rfl D bl b1 ae ae ?_;intro cu cB P G bF;obtain⟨cC,cD,rfl,bG⟩:=bo P;have B:=Z P;have k:=Z G;clear P G bF bG;have H:=Z (cz.grown k (λD G=>.inr (bB D G).1));refine A _ _ (λ_=>g _ H) ?_;refine av ?_;have cG:=B;have cH:=Z (j1 cg k (λk B e=>cA k e B));have k:(λw':World=>ac w' (ab ba (f+b*6)) n/\ac w' (ab ba (f+b*6+1)) o/\ac w' (ab ba (f+b*6+2)) (U t u w)/\ac w' (ab ba (f+b*6+3)) p/\ac w' (ab ba (f+b*6+4)) q/\ac w' (ab ba (f+b*6+5)) r) cB:=⟨(g _ H).1,(g _ H).2.1,(g _ H).2.2.1,(g _ H).2.2.2.1,(g _ H).2.2.2.2.1,(g _ H).2.2.2.2.2⟩;refine tk 11 k ?_;refine tk 12 k ?_;refine gH ak ?_ _;go_wp2_with fail
   go_roundg (l.length-c)
   case measure=>have:=S.out;omega
   refine⟨c+1,y++[(b:Int)],C++[(⟨⟨n,o,bs,⟨p,q,r⟩⟩,⟨t,u,w⟩⟩:RA)],cv,cw,cC,cD,by go_num,rfl,rfl,by omega,by have:=S.out;omega,by rw[List.length_append,T.out];rfl,by rw[List.length_append,V.out];rfl,Z ?_,Z ?_,Z ?_,H,aY⟩
   ·rw[List.flatMap_append];exact cH.out
   ·rw[List.flatMap_append];exact cG.out
   intro x al;rcases cY al with al|al
   ·exact R x al
   rw[aA al];exact aZ.out
  intro K A;go_simp;have B:=Z (ce.alloc (.cells #[n,o,U t u w,p,q,r] 111));refine A _ _ (λ_=>g _ B) ?_;refine av ?_;have k:=Z ((ag.refl W).alloc (.cells #[n,o,U t u w,p,q,r] 111));have D:=Z (J.new W 111 #[n,o,U t u w,p,q,r]);obtain⟨N,M⟩:=aq (W.alloc (.cells #[n,o,U t u w,p,q,r] 111));rw[<-M]at B k D⊢;clear M;have ct:=B;have B:=Z (aH k bC);have bG:=Z (aH k bD);have k:=qb k bE;have cu:=D;refine aK 3 (λK A=>?_);have D:=Z (jd k (m:=1) rfl);have k:=J.lt k;have cv:=Z (j2 bG B au);refine c7 N (.tmp 27) (.tmp 29) 60 rfl d.heap.size 3 a3 _ 1 8 Tryz.underlying60 a4 a5 a6 a7 rfl au (U E c F) c (y.flatMap cj) rfl B (z.heap.size+1) (some ⟨z.heap.size,0,none⟩) 1 1 ((_:aO).toList) rfl D bl b1 ae ae ?_;intro cw cx P G al;obtain⟨cy,cz,rfl,bF⟩:=bo P;have B:=Z P;have k:=Z G;clear P G al bF;have cf:=Z (ct.grown k (λD G=>.inr (aa D G).1));refine A _ _ (λ_=>g _ cf) ?_;refine av ?_;have cg:=B;have B:=Z (j1 bG k (λB D e=>cv B e D));have k:=Z (J.grown cu k (λe=>by have:=aa _ e.symm;omega));refine aK 10 (λK A=>?_);have D:=Z (jd k (m:=6) rfl);have k:=J.lt k;have cA:=Z (j2 cg B au);refine c7 cx (.tmp 31) (.tmp 36) 79 rfl d.heap.size 111 a8 _ 6 80 Tryz.underlying79 a9 bf bh bi rfl au (U I c L) c (C.flatMap RA.cells) rfl B (W.heap.size+1) (some ⟨W.heap.size,0,none⟩) 1 1 ((_:aO).toList) rfl D bl b1 ae ae ?_;intro cw cB P G al;obtain⟨cC,cD,rfl,bF⟩:=bo P;have B:=Z P;have k:=Z G;clear P G al bF;have H:=Z (cf.grown k (λD G=>.inr (bB D G).1));refine A _ _ (λ_=>g _ H) ?_;refine av ?_;have cG:=B;have cH:=Z (j1 cg k (λk A e=>cA k e A));have k:(λw':World=>ac w' (ab ba (f+b*6)) n/\ac w' (ab ba (f+b*6+1)) o/\ac w' (ab ba (f+b*6+2)) (U t u w)/\ac w' (ab ba (f+b*6+3)) p/\ac w' (ab ba (f+b*6+4)) q/\ac w' (ab ba (f+b*6+5)) r) cB:=⟨(g _ H).1,(g _ H).2.1,(g _ H).2.2.1,(g _ H).2.2.2.1,(g _ H).2.2.2.2.1,(g _ H).2.2.2.2.2⟩;refine tk 11 k ?_;refine tk 12 k ?_;refine gH ak ?_ _;go_wp2_with fail
  go_roundg (l.length-c)
  case measure=>have:=S.out;omega
  refine⟨c+1,y++[(b:Int)],C++[(⟨⟨n,o,bs,⟨p,q,r⟩⟩,⟨t,u,w⟩⟩:RA)],cy,cz,cC,cD,by go_num,rfl,rfl,by omega,by have:=S.out;omega,by rw[List.length_append,T.out];rfl,by rw[List.length_append,V.out];rfl,Z ?_,Z ?_,Z ?_,H,aY⟩
  ·rw[List.flatMap_append];exact cH.out
  ·rw[List.flatMap_append];exact cG.out
  intro x ad;rcases cY ad with ad|ad
  ·exact R x ad
  rw[aA ad];exact aZ.out
 intro K H;go_simp;have B:=Z (ca.alloc (.cells #[n,o,U t u w,p,q,r] 111));refine H _ _ (λ_=>g _ B) ?_;refine av ?_;have k:=Z ((ag.refl z).alloc (.cells #[n,o,U t u w,p,q,r] 111));have D:=Z (J.new z 111 #[n,o,U t u w,p,q,r]);obtain⟨W,M⟩:=aq (z.alloc (.cells #[n,o,U t u w,p,q,r] 111));rw[<-M]at B k D⊢;clear M;have bG:=B;have ce:=Z (aH k cb);have cf:=Z (aH k cc);have k:=bR cd k.size;have cg:=D;refine aK 2 (λK H=>?_);go_simp;have B:=Z (bG.alloc (.cells #[(b:Int)] 3));refine H _ _ (λ_=>g _ B) ?_;refine av ?_;have k:=Z ((ag.refl W).alloc (.cells #[(b:Int)] 3));have D:=Z (J.new W 3 #[(b:Int)]);obtain⟨N,M⟩:=aq (W.alloc (.cells #[(b:Int)] 3));rw[<-M]at B k D⊢;clear M;have cs:=B;have B:=Z (aH k ce);have bD:=Z (aH k cf);have ct:=qb k cg;have k:=D;refine aK 3 (λK H=>?_);have D:=Z (jd k (m:=1) rfl);have k:=J.lt k;have cu:=Z (j2 bD B au);refine c7 N (.tmp 27) (.tmp 29) 60 rfl d.heap.size 3 a3 _ 1 8 Tryz.underlying60 a4 a5 a6 a7 rfl au (U E c F) c (y.flatMap cj) rfl B (W.heap.size+1) (some ⟨W.heap.size,0,none⟩) 1 1 ((_:aO).toList) rfl D bl b1 ae ae ?_;intro cv cw P A al;obtain⟨cx,cy,rfl,bC⟩:=bo P;have B:=Z P;have k:=Z A;clear P A al bC;have bE:=Z (cs.grown k (λD A=>.inr (aa D A).1));refine H _ _ (λ_=>g _ bE) ?_;refine av ?_;have bF:=B;have B:=Z (j1 bD k (λB D e=>cu B e D));have k:=Z (J.grown ct k (λe=>by have:=aa _ e.symm;omega));refine aK 10 (λK H=>?_);have D:=Z (jd k (m:=6) rfl);have k:=J.lt k;have cz:=Z (j2 bF B au);refine c7 cw (.tmp 31) (.tmp 36) 79 rfl d.heap.size 111 a8 _ 6 80 Tryz.underlying79 a9 bf bh bi rfl au (U I c L) c (C.flatMap RA.cells) rfl B (z.heap.size+1) (some ⟨z.heap.size,0,none⟩) 1 1 ((_:aO).toList) rfl D bl b1 ae ae ?_;intro cv cA P A al;obtain⟨cB,cC,rfl,bC⟩:=bo P;have k:=Z P;have d:=Z A;clear P A al bC;have G:=Z (bE.grown d (λz A=>.inr (bB z A).1));refine H _ _ (λ_=>g _ G) ?_;refine av ?_;have cD:=k;have cG:=Z (j1 bF d (λd k e=>cz d e k));have d:(λw':World=>ac w' (ab ba (f+b*6)) n/\ac w' (ab ba (f+b*6+1)) o/\ac w' (ab ba (f+b*6+2)) (U t u w)/\ac w' (ab ba (f+b*6+3)) p/\ac w' (ab ba (f+b*6+4)) q/\ac w' (ab ba (f+b*6+5)) r) cA:=⟨(g _ G).1,(g _ G).2.1,(g _ G).2.2.1,(g _ G).2.2.2.1,(g _ G).2.2.2.2.1,(g _ G).2.2.2.2.2⟩;refine tk 11 d ?_;refine tk 12 d ?_;refine gH ak ?_ _;go_wp2_with fail
 go_roundg (l.length-c)
 case measure=>have:=S.out;omega
 refine⟨c+1,y++[(b:Int)],C++[(⟨⟨n,o,bs,⟨p,q,r⟩⟩,⟨t,u,w⟩⟩:RA)],cx,cy,cB,cC,by go_num,rfl,rfl,by omega,by have:=S.out;omega,by rw[List.length_append,T.out];rfl,by rw[List.length_append,V.out];rfl,Z ?_,Z ?_,Z ?_,G,aY⟩
 ·rw[List.flatMap_append];exact cG.out
 ·rw[List.flatMap_append];exact cD.out
 intro x ad;rcases cY ad with ad|ad
 ·exact R x ad
 rw[aA ad];exact aZ.out
inductive aB where
 |mk (kind table:Int) (hk:Hd) (kids:List aB) (ht:Hd) (tests:List cT) (hc:Hd) (cD:List Int) (col agg:Int) (ha:Hd) (attrs:List RA)
def aB.cells:aB->List Value
 |.mk kind table hk _ ht _ hc _ col agg ha _=>[.int .i64 kind,.int .i64 table,hk.val,ht.val,hc.val,.int .i64 col,.int .i64 agg,ha.val]
def aB.ha:aB->Hd
 |.mk _ _ _ _ _ _ _ _ _ _ ha _=>ha
def aB.attrs:aB->List RA
 |.mk _ _ _ _ _ _ _ _ _ _ _ l=>l
mutual
def aB.pl:aB->Pl
 |.mk kind table _ kids _ tests _ cD col agg _ attrs=>.mk kind table (aB.aN kids) tests cD col agg (attrs.map RA.at_)
def aB.aN:List aB->List Pl
 |[]=>[]
 |r::l=>r.pl::aB.aN l
end
inductive dJ (w:af) (S:Nat->Prop):aB->Prop where
 |mk {kind table:Int} {hk:Hd} {kids:List aB} {ht:Hd} {tests:List cT} {hc:Hd} {cD:List Int} {col agg:Int} {ha:Hd} {attrs:List RA}
  (lk:aF w 8 hk aB.cells kids) (ik:aS S hk) (sub:∀k∈kids,dJ w S k) (lt:aF w 12 ht cT.cells tests) (it:aS S ht) (lc:dQ w hc cD) (ic:aS S hc) (ra:fY w S ha attrs):dJ w S (.mk kind table hk kids ht tests hc cD col agg ha attrs)
theorem dJ.mono {w:af} {S S':Nat->Prop} {r:aB} (a:dJ w S r) (b:∀c,S c->S' c):dJ w S' r:=by
 induction a with
 |mk c d e e f g i j k=>exact .mk c (d.mono b) (λc d=>k c d) e (f.mono b) g (i.mono b) (j.mono b)
theorem dJ.keep {w c:af} {S:Nat->Prop} {d:aB} (e:dJ w S d) {l:List Nat} (k:Kp l w c) (b:∀a∈l,¬S a):dJ c S d:=by
 induction e with
 |mk f c d g d i e j m=>exact .mk (f.kp k (λa f n o=>b a o (c a f n))) c (λc f=>m c f) (g.kp k (λa c f g=>b a g (d a c f))) d (i.kp k (λa c d f=>b a f (e a c d))) e (j.keep k b)
theorem aB.len (a:aB):a.cells.length=8:=by cases a;rfl
theorem aB.iB (l:List aB):aB.aN l=l.map aB.pl:=by
 induction l with
 |nil=>rfl
 |cons a l a=>rw[aB.aN,a];rfl
theorem aB.BN (a:aB):a.pl.attrs=a.attrs.map RA.at_:=by cases a;rfl
theorem dJ.res {b:af} {S:Nat->Prop} {a:aB} (c:dJ b S a):fY b S a.ha a.attrs:=by
 cases c with
 |mk a a a a a a a a=>exact a
theorem jn (l:List aB) (a:Nat) (h:a<l.length):bF (aB.aN l) a=l[a].attrs.map RA.at_:=by
 rw[aB.iB];unfold bF;simp[h,aB.BN]
theorem jo {e:af} {h:Hd} {l:List aB} (f:aF e 8 h aB.cells l) (b:Nat) (g:b<l.length):∃c d,h.a=some ⟨c,d,none⟩/\c<e.heap.size/\e.cell? (ab c (d+b*8+7))=some l[b].ha.val:=by
 obtain⟨c,d,e,f,g⟩:=f.2.2 b g;refine⟨c,d,e,f,g 7 _ ?_⟩;cases l[b];rfl
structure iC (w:af) (X P lo:Nat) (h:Hd) (ts:List RT) (hk:Hd) (kids:List aB) (hc:Hd) (conds:List bB) (hn:Hd) (names:bm) (at_:Int):Prop where
 hX:X<w.heap.size
 xp:X<P
 j3:P<lo
 lw:lo<=w.heap.size
 c0:ac w (ab X 0) h.val
 c8:ac w (ab X 8) at_
 ta:∀W,Kp [P] w W->bI W h ts
 lk:aF w 8 hk aB.cells kids
 ik:aS (Bw lo w.heap.size) hk
 sub:∀k∈kids,dJ w (Bw lo w.heap.size) k
 lc:∀W,Kp [P] w W->aF W 14 hc bB.cells conds
 ln:∀W,Kp [P] w W->b4 W hn names
 l5:names.length<=5001
def iE (b c:Nat) (p:Pl) (v:ay) (w:af):Prop:=v=.tuple #[]/\∃a:aB,a.pl=p/\J w b 105 a.cells.toArray/\dJ w (Bw c w.heap.size) a
def oy:List (Value×Value):=[(.int .i64 1,.int .i64 0),(.int .i64 2,.int .i64 1),(.int .i64 3,.int .i64 1),(.int .i64 4,.int .i64 2),(.int .i64 5,.int .i64 2),(.int .i64 6,.int .i64 2),(.int .i64 7,.int .i64 1),(.int .i64 8,.int .i64 1)]
theorem uF {b:af} {d:Nat} (h:cH (.int .i64) b d oy) (c:Int):
 (ef c=none/\(Instr.lookup 341 (.map (some d)) c true).run Tryz.prog b=.ok (.tuple #[O 0,.bool false]) b)\/
 ∃f:Nat,ef c=some f/\(Instr.lookup 341 (.map (some d)) c true).run Tryz.prog b=.ok (.tuple #[(f:Int),.bool true]) b:=by
 rcases h.look (P:=Tryz.prog) (T:=341) Tryz.underlying341 Tryz.underlying3 (O 0) Tryz.zeroValue3 c rfl with⟨e,a⟩|⟨i,j,e,a⟩
 ·refine .inl ⟨?_,a true⟩
  simp[oy]at e;unfold ef;rw[if_neg ae,if_neg ae,if_neg ae]
 refine .inr ?_;have g:=List.mem_of_getElem? e;simp[oy]at g;rcases g with⟨rfl,rfl⟩|⟨rfl,rfl⟩|⟨rfl,rfl⟩|⟨rfl,rfl⟩|⟨rfl,rfl⟩|⟨rfl,rfl⟩|⟨rfl,rfl⟩|⟨rfl,rfl⟩
 ·exact⟨0,rfl,a true⟩
 ·exact⟨1,rfl,a true⟩
 ·exact⟨1,rfl,a true⟩
 ·exact⟨2,rfl,a true⟩
 ·exact⟨2,rfl,a true⟩
 ·exact⟨2,rfl,a true⟩
 ·exact⟨1,rfl,a true⟩
 exact⟨1,rfl,a true⟩
def km (k:Nat):Array MapEntry:=(([(0:Int),1,1,2,2,2,1,1].take k).zipIdx.map λ(b,a)=>(⟨.int .i64 (a+1:Nat),.int .i64 b,a⟩:MapEntry)).toArray
theorem j4 (a:af):(Instr.mapUpdate 341 (.map (some a.heap.size)) (O 1) (O 0)).run Tryz.prog (a.alloc (.map #[] 0))=.ok () (a.alloc (.map (km 1) 1)):=
 dL (P:=Tryz.prog) (T:=341) Tryz.underlying341 Tryz.underlying3 a #[] 0 _ _ rfl rfl
theorem j5 (a:af):(Instr.mapUpdate 341 (.map (some a.heap.size)) (O 2) (O 1)).run Tryz.prog (a.alloc (.map (km 1) 1))=.ok () (a.alloc (.map (km 2) 2)):=
 dL (P:=Tryz.prog) (T:=341) Tryz.underlying341 Tryz.underlying3 a (km 1) 1 _ _ rfl rfl
theorem j6 (a:af):(Instr.mapUpdate 341 (.map (some a.heap.size)) (O 3) (O 1)).run Tryz.prog (a.alloc (.map (km 2) 2))=.ok () (a.alloc (.map (km 3) 3)):=
 dL (P:=Tryz.prog) (T:=341) Tryz.underlying341 Tryz.underlying3 a (km 2) 2 _ _ rfl rfl
theorem j7 (a:af):(Instr.mapUpdate 341 (.map (some a.heap.size)) (O 4) (O 2)).run Tryz.prog (a.alloc (.map (km 3) 3))=.ok () (a.alloc (.map (km 4) 4)):=
 dL (P:=Tryz.prog) (T:=341) Tryz.underlying341 Tryz.underlying3 a (km 3) 3 _ _ rfl rfl
theorem j8 (a:af):(Instr.mapUpdate 341 (.map (some a.heap.size)) (O 5) (O 2)).run Tryz.prog (a.alloc (.map (km 4) 4))=.ok () (a.alloc (.map (km 5) 5)):=
 dL (P:=Tryz.prog) (T:=341) Tryz.underlying341 Tryz.underlying3 a (km 4) 4 _ _ rfl rfl
theorem j9 (a:af):(Instr.mapUpdate 341 (.map (some a.heap.size)) (O 6) (O 2)).run Tryz.prog (a.alloc (.map (km 5) 5))=.ok () (a.alloc (.map (km 6) 6)):=
 dL (P:=Tryz.prog) (T:=341) Tryz.underlying341 Tryz.underlying3 a (km 5) 5 _ _ rfl rfl
theorem ka (a:af):(Instr.mapUpdate 341 (.map (some a.heap.size)) (O 7) (O 1)).run Tryz.prog (a.alloc (.map (km 6) 6))=.ok () (a.alloc (.map (km 7) 7)):=
 dL (P:=Tryz.prog) (T:=341) Tryz.underlying341 Tryz.underlying3 a (km 6) 6 _ _ rfl rfl
theorem kc (a:af):(Instr.mapUpdate 341 (.map (some a.heap.size)) (O 8) (O 1)).run Tryz.prog (a.alloc (.map (km 7) 7))=.ok () (a.alloc (.map (km 8) 8)):=
 dL (P:=Tryz.prog) (T:=341) Tryz.underlying341 Tryz.underlying3 a (km 7) 7 _ _ rfl rfl
theorem kd (a:af):cH (.int .i64) (a.alloc (.map (km 8) 8)) a.heap.size oy:=⟨(km 8),8,fx _ _,rfl,(List.forall_mem_cons.2 ⟨rfl,(List.forall_mem_cons.2 ⟨rfl,(List.forall_mem_cons.2 ⟨rfl,(List.forall_mem_cons.2 ⟨rfl,(List.forall_mem_cons.2 ⟨rfl,(List.forall_mem_cons.2 ⟨rfl,(List.forall_mem_cons.2 ⟨rfl,(List.forall_mem_cons.2 ⟨rfl,(λ_ h=>by cases h)⟩)⟩)⟩)⟩)⟩)⟩)⟩)⟩)⟩
theorem kO {b:af} {c:Nat} (h:cH (.int .i64) b c oy) {k:Int} {n:Nat} (d:ef k=some n):(Instr.lookup 341 (.map (some c)) k true).run Tryz.prog b=.ok (.tuple #[(n:Int),.bool true]) b:=by
 rcases uF h k with⟨a,_⟩|⟨e,a,f⟩
 ·rw[d]at a;cases a
 have a:n=e:=Option.some.inj (d.symm.trans a);rw[a];exact f
theorem lX {w:af} {b m n c:Nat} {d:bb} {a:aX} {e:bg} (f:w.ownsRow b d m (U a n c) n e):aS (Bw b w.heap.size) ⟨a,n,c⟩:=by
 intro b c d;have a:a=some ⟨b,c,none⟩:=d;exact b3 f b (by rw[a];rfl)
theorem kQ {c:af} {g n d:Nat} {e:aX} {b:List RA} (i:c.ownsRow g 111 6 (U e n d) n (b.flatMap RA.cells)) (j:b.length=n) (k:b.length<=10000) (f:∀a∈b,gL a/\aG a.at_.name/\aG a.at_.dflt.s):
 fY c (Bw g c.heap.size) ⟨e,n,d⟩ b:=
 ⟨⟨cF (h:=⟨e,n,d⟩) RA.uD j (by show n<=_;omega) i,λa b=>⟨pM c (f a b).1,(f a b).2⟩⟩,lX i,(λa b=>(f a b).1),k⟩
theorem fY.bare {c:af} {f:Nat->Prop} {h:Hd} {d:List RA} (e:fY c f h d):∀c∈d,gL c/\aG c.at_.name/\aG c.at_.dflt.s:=λc d=>⟨e.b c d,(e.a.2 c d).2⟩
theorem RA.BZ (a:RA):∀v∈a.cells,v.oneCell'=true:=by
 exact GT
theorem uR (h:Hd) (l:List RA) (a:af) (e:fu a h l) (c:l.length<=10000):
 Calls Tryz.prog 53 #[h.val] a λg c=>∃f b,g=.returned (U f l.length b)/\ag a c/\c.ownsRow a.heap.size 111 6 (U f l.length b) l.length (l.flatMap RA.cells):=by
 have f:l.length=h.n:=e.1.1;refine(uG h RA.cells RA.eE RA.BZ l a e.1 ae).mono ?_;rintro a c (⟨rfl,rfl,d⟩|⟨b,j,rfl,d,i⟩)
 ·exact⟨none,0,rfl,d,rfl,.inl ⟨rfl,rfl⟩⟩
 exact⟨_,b,rfl,d,i⟩
theorem B0 {e:af} {j d n k b:Nat} {a:List RA} (o:e.ownsRow j 111 6 (U (some ⟨d,0,none⟩) n k) n (a.flatMap RA.cells)) (f:a.length=n) (g:a.length<=10000) (l:∀c∈a,gL c/\aG c.at_.name/\aG c.at_.dflt.s)
 (m:b<a.length) {nm:aw} (p:aG nm):∃g:List RA,g.length=n/\g.map RA.at_=(a.map RA.at_).modify b (λq=>{q with name:=nm})/\
  fY (e.setCell (ab d (b*6)) nm) (Bw j (e.setCell (ab d (b*6)) nm).heap.size) ⟨some ⟨d,0,none⟩,n,k⟩ g:=by
 obtain⟨d,i⟩:∃d:RA,d=⟨{a[b].at_ with name:=nm},a[b].h⟩:=⟨_,rfl⟩;have e:=mP RA.eE o f b ae 0 ae nm d (by rw[i];rfl);refine⟨a.set b d,by simp[f],ry a b m d _ (by rw[i]),kQ e (by simp[f]) aC ?_⟩;intro c r;rcases List.mem_or_eq_of_mem_set r with h|h
 ·exact l c h
 rw[h,i];have:=l _ (List.getElem_mem m);exact⟨this.1,p,this.2.2⟩
theorem B1 (h:Hd) (l:bm) (a:af) (e:b4 a h l) (f:l.length<=1000000000):
 Calls Tryz.prog 257 #[h.val] a λg c=>∃f b,g=.returned (U f l.length b)/\ag a c/\c.ownsRow a.heap.size 9 1 (U f l.length b) l.length (l.flatMap dF):=by
 have f:l.length=h.n:=e.1.1;refine(uI h dF (λ_=>rfl) (λf f d=>by simp[dF]at d;subst d;rfl) l a e.1 ae).mono ?_;rintro a c (⟨rfl,rfl,d⟩|⟨b,j,rfl,d,i⟩)
 ·exact⟨none,0,rfl,d,rfl,.inl ⟨rfl,rfl⟩⟩
 exact⟨_,b,rfl,d,i⟩
theorem uS {a:af} {b b' m n:Nat} {c:bb} {v:ay} {xs:bg} (d:a.ownsRow b c m v n xs) (h:b'<=b):a.ownsRow b' c m v n xs:=by
 refine⟨d.1,?_⟩;rcases d.2 with e|⟨f,g,i,j,k,l⟩
 ·exact .inl e
 exact .inr ⟨f,g,i,j,bR h k,l⟩
def kR (b:List Tb):Prop:=∀a∈b,a.attrs.length<=10000/\∀b∈a.attrs,b.was.length<=1000000
def jp (a:af) (b:Nat):Prop:=∀c d,a.cell? (ab b c)≠some (.string d)
theorem aF.iG {f:Type} {w g:af} {m a:Nat} {h:Hd} {enc:f->List Value} {c:List f} (l:aF w m h enc c) (d:∀x∈c,∃n,(enc x)[0]?=some (.string n)) (o:jp w a) (k:Kp [a] w g):aF g m h enc c:=by
 refine⟨l.1,l.2.1,λi e=>?_⟩;obtain⟨b,off,ha,hb,hc⟩:=l.2.2 i e;have hne:b≠a:=by
  rintro rfl;obtain⟨n,d⟩:=d _ (List.getElem_mem e);exact o _ _ (hc 0 _ d)
 exact GU
def gN (a:Nat) (b:List RT):Prop:=∀c∈b,aS (λb=>b≠a) c.hk
theorem bI.iG {w f:af} {b:Nat} {h:Hd} {c:List RT} (a:bI w h c) (e:jp w b) (i:gN b c) (d:Kp [b] w f):bI f h c:=
 ⟨a.1.iG (λb _=>⟨b.name,rfl⟩) e d,λb c=>⟨⟨(a.2 b c).1.1.iG (λf _=>⟨f.at_.name,rfl⟩) e d,λf g=>⟨⟨((a.2 b c).1.2 f g).1.1.iG (λj _=>⟨j,rfl⟩) e d,((a.2 b c).1.2 f g).1.2⟩,((a.2 b c).1.2 f g).2⟩⟩,
  (a.2 b c).2.1.kp d (λd e f g=>i b c d e f (aA g)),(a.2 b c).2.2⟩⟩
def gv (w:af) (a:Nat) (h:Hd) (u:bg):Prop:=∃b:Int,J w a 157 (h.val::(u++[.int .i64 b])).toArray
structure mR (u:bg):Prop where
 n:u.length=7
 s:∀v∈u,∀s,v≠.string s
theorem gv.g9 {w:af} {c:Nat} {h:Hd} {u:bg} (b:gv w c h u) (e:mR u):jp w c:=by
 obtain⟨f,b⟩:=b;intro g d c;rw[J.cell b g]at c;have i:Value.string d∈(h.val::(u++[.int .i64 f])):=List.mem_of_getElem? (by simpa using c);rcases dd i with a|a
 ·cases a
 rcases cY a with a|a
 ·exact e.s _ a d rfl
 rw[List.mem_singleton]at a;cases a
structure jq (w:af) (X Bf Bv:Nat) (h:Hd) (ts:List RT) (u:bg) (S:Nat->Prop):Prop where
 bx:gv w X h u
 us:mR u
 hf:Bf<w.heap.size
 cf:ac w (ab Bf 0) (.func (.func 200) #[] #[aj Bf,aj Bv])
 hv:Bv<w.heap.size
 cv:ac w (ab Bv 0) (aj X)
 nf:Bf≠X
 nv:Bv≠X
 ta:bI w h ts
 ko:gN X ts
 fa:kR (ts.map RT.tb)
 sx:¬S X
 sl:∀b,S b->b<w.heap.size
theorem jq.kp {w b:af} {X c d:Nat} {h:Hd} {e:List RT} {u:bg} {S:Nat->Prop} (a:jq w X c d h e u S) (k:Kp [X] w b) (f:gv b X h u):jq b X c d h e u S:=
 ⟨f,a.us,aT a.hf k.size,(k.cell (p:=(ab c 0)) a.hf (by simpa using a.nf)).trans a.cf,aT a.hv k.size,(k.cell (p:=(ab d 0)) a.hv (by simpa using a.nv)).trans a.cv,a.nf,a.nv,
  a.ta.iG (a.bx.g9 a.us) a.ko k,a.ko,a.fa,a.sx,λb c=>aT (a.sl b c) k.size⟩
theorem jq.hX {w:af} {a b c:Nat} {h:Hd} {d:List RT} {u:bg} {S:Nat->Prop} (e:jq w a b c h d u S):a<w.heap.size:=by
 obtain⟨_,a⟩:=e.bx;exact a.lt
def mS {b:Type} (w:af) (c:Nat) (h:Hd) (u:bg) (e:RO b) (V:b->Value->World->Prop) (d:Ending) (b:af):Prop:=
 Kp [c] w b/\gv b c h u/\match e with
  |.bad er a=>d=.panicked [{v:=eY er a,recovered:=false}]
  |.ok a=>∃c,d=.returned c/\V a c b
def oB (b:Nat) (p:Pl×Int) (v:ay) (w:af):Prop:=∃a:aB,a.pl=p.1/\v=.tuple #[.agg a.cells.toArray,p.2]/\dJ w (Bw b w.heap.size) a
theorem uU {g j:Type} {w o:af} {c:Nat} {h:Hd} {u:bg} {k:FuncId} {l:aO} {i:RO j} {F:g->RO j} {V:g->Value->World->Prop} {d:RO g} {g:Ending->World->Prop} (j:Kp [c] o w) (e:i=d.bind F)
 (o:Calls Tryz.prog k l w λj b=>mS w c h u d V j b)
 (p:∀er a b,Hid (i=.bad er a)->Hid (Kp [c] w b)->Hid (gv b c h u)->g (.panicked [{v:=eY er a,recovered:=false}]) b)
 (q:∀a v b,d=.ok a->Hid (i=F a)->V a v b->Hid (Kp [c] w b)->Hid (gv b c h u)->g (.returned v) b):Calls Tryz.prog k l w g:=by
 refine o.mono ?_;rintro j b ⟨m,n,f⟩;cases hq:d with
 |bad er a=>
  rw[hq]at f e;subst f;exact p er a b (Z e) (Z m) (Z n)
 |ok a=>
  rw[hq]at f e;obtain⟨v,rfl,r⟩:=f;exact q a v b hq (Z e) r (Z m) (Z n)
theorem rz (a:List Tb):∀(b:List Ex) (c:List Pl×Int),fi a b=.ok c->1<=c.2
 |[],c,h=>by
  rw[fi]at h;injection h with h
  rw[<-h];decide
 |e::b,c,h=>by
  rw[fi]at h;cases h1:fR a e with
  |bad d d=>rw[h1]at h;cases h
  |ok d=>
   rw[h1]at h;cases h2:fi a b with
   |bad g g=>
    have f:(fi a b).bind (λf=>RO.ok (d.1::f.1,max (d.2+1) f.2))=.ok c:=h;rw[h2]at f;cases f
   |ok f=>
    have g:(fi a b).bind (λf=>RO.ok (d.1::f.1,max (d.2+1) f.2))=.ok c:=h;rw[h2]at g;injection g with g
    have a:=rz a b f h2;rw[<-g];show 1<=max (d.2+1) f.2;omega
theorem B2 {b:List Tb} {e:Ex} {p:Pl×Int} (h:fR b e=.ok p):1<=p.2/\p.2<=12:=by
 cases e with
 |mk f g i j k l m n d=>
  rw[fR]at h;cases h1:fi b i with
  |bad a a=>rw[h1]at h;cases h
  |ok c=>
   rw[h1]at h;have o:=rz b i c h1;have a:RO.ap (decide (c.2<=12)) 3 d ((cy b f g j k l m n d c.1).bind λa=>RO.ok (a,c.2))=.ok p:=h;unfold RO.ap at a;split at a
   ·rename_i q
    cases h3:cy b f g j k l m n d c.1 with
    |bad b b=>rw[h3]at a;cases a
    |ok b=>
     rw[h3]at a;injection a with a
     rw[<-a];exact⟨o,by simpa using q⟩
   cases a
theorem B3 (b:List Tb) {d:Type} (c:List Ex) (F:List Pl×Int->RO d):(fi b c).bind F=(fi b c).bind λa=>F (a.1,max 1 a.2):=by
 cases h:fi b c with
 |bad d d=>rfl
 |ok a=>
  have b:=rz b c a h;show F a=F (a.1,max 1 a.2);rw[Int.max_eq_right b]
theorem B4 (b:List Tb) {a:Type} (d:Ex) (e:List Ex) (l:List Pl) (c:Int) (F:List Pl×Int->RO a):
 (fi b (d::e)).bind (λa=>F (l++a.1,max c a.2))=(fR b d).bind λp=>(fi b e).bind λa=>F ((l++[p.1])++a.1,max (max c (p.2+1)) a.2):=by
 rw[fi,RO.bind_assoc];congr 1
 funext p
 rw[RO.bind_assoc];congr 1
 funext a
 show F (l++p.1::a.1,max c (max (p.2+1) a.2))=_;rw[List.append_assoc,Int.max_assoc];rfl
theorem B5 (b:List Tb) (d:aw) (e:List bB) (f:bm) (g i:aw) (j c:Int) (a:List Pl):cy b 1 d e f g i j c a=RO.ap (decide (a.length=0)) 1 c ((dS b c d).bind λc=>.ok (.mk 1 c a [] [] 0 0 ((dw b c).attrs.map iY))):=by
 have h:decide (ef 1=some a.length)=decide (a.length=0):=by
  have:ef 1=some 0:=rfl;rw[this];simp only[Option.some.injEq];by_cases b:a.length=0
  ·simp[b]
  have a:¬0=a.length:=λa=>b a.symm;simp[b,a]
 unfold cy;rw[h];rfl
theorem B6 (B c aU:Nat) (h:Hd) (x:List RT) (X:aw) (cE a8:Hd) (i:List aB) (bP:Hd) (bQ:List bB) (bR:Hd) (bS:bm) (a9 aV:aw) (ba at_:Int) (f:af) (cG:aG aV) (cF:kR (x.map RT.tb))
 (bT:J f c 105 #[O 1,O 0,a8.val,aa,aa,O 0,O 0,aa]) (I:iC f B c aU h x a8 i bP bQ bR bS at_):
 Calls Tryz.prog 201 #[aj B,.agg #[O 1,X,cE.val,bP.val,bR.val,a9,aV,ba,at_],aj c] f
  λe w'=>RP [c] f (cy (x.map RT.tb) 1 X bQ bS a9 aV ba at_ (aB.aN i)) (iE c aU) e w':=by
 obtain⟨bU,Y,bW⟩:=h;obtain⟨al,cG,an⟩:=a8;obtain⟨cH,cI,cJ⟩:=cE;obtain⟨cK,cL,cM⟩:=bP;obtain⟨cN,cO,cP⟩:=bR;have R:=Z I;have dD:i.length=cG:=I.lk.1;have bP:cG<=9223372036854775807:=I.lk.2.1;have bP:x.length=Y:=(I.ta f (Kp.refl _ f)).1.1;have bP:Y<=9223372036854775807:=(I.ta f (Kp.refl _ f)).1.2.1;subst dD;have bP:=I.hX;have bR:=I.xp;have bR:=I.j3;have bR:=I.lw;have cE:=bT.lt;have dE:=Z bT;obtain⟨T,bQ⟩:∃T,T=cy (x.map RT.tb) 1 X bQ bS a9 aV ba at_ (aB.aN i):=⟨_,rfl⟩;rw[<-bQ];have bR:(aB.aN i).length=i.length:=by rw[aB.iB,List.length_map]
 have bs:=Z (show T=RO.ap (decide (i.length=0)) 1 at_ ((dS (x.map RT.tb) at_ X).bind λa=>.ok (.mk 1 a (aB.aN i) [] [] 0 0 ((dw (x.map RT.tb) a).attrs.map iY))) by rw[bQ,B5,bR]);clear bQ I bT bR;have bQ:f.heap.size<=f.heap.size:=Nat.le_refl _;have dG:=Z (Kp.refl [c] f);have dH:=Z (λ(a:af) (b:Kp [c] f a)=>R.lk.kp b (λa b e Y=>by have a:=(R.out.ik a b e).1;have a:=aA Y;omega));have cQ:=Z (λ(a:af) (b:Kp [c] f a)=>show ac a (ab B 0) (U bU Y bW)from(b.cell (p:=(ab B 0)) bP aC).trans R.c0);have cR:=Z (λ(a:af) (b:Kp [c] f a)=>show ac a (ab B 8) at_ from(b.cell (p:=(ab B 8)) bP aC).trans R.c8);have bP:=aW bP;have bP:=aW cE;have bP:∀(bP:Fn) (first cap:aO) (f:af),(Instr.makeFunc bP first cap).run Tryz.prog f=.ok (.func bP first cap) f:=λ_ _ _ _=>rfl;have dI:=@run_makeMap Tryz.prog;show Calls Tryz.prog 201 #[aj B,.agg #[O 1,X,U cH cI cJ,U cK cL cM,U cN cO cP,a9,aV,ba,at_],aj c] f _;go_enter Tryz.func201,Tryz.ntmps201
 go_upto_region 1 with(fail)
 obtain⟨bS,bP,bR,a,bQ⟩:=nb f 154 #[aj B];rw[bP];clear bP;have bP:=qk dG a;have bS:=qb a dE;have bT:=bP.size;clear a;obtain⟨C,aV,dJ,a,a9⟩:=nc bQ 93 #[O 1,X,U cH cI cJ,U cK cL cM,U cN cO cP,a9,aV,ba,at_];rw[aV];clear aV;have cS:=qk bP a;have dK:=qb a bS;have dL:=qb a bR;have aV:=cS.size;clear a;have aV:f.heap.size+1<C.heap.size:=ae
 clear bQ a9;have dM:=j4 C;have dN:=j5 C;have dO:=j6 C;have dP:=j7 C;have dQ:=j8 C;have dR:=j9 C;have dT:=ka C;have dU:=kc C;go_upto_region 2 with(fail)
 clear dM dN dO dP dQ dR dT dU dI;have M3:=Z (kd C);have a:=Z (show ag C (C.alloc (.map (km 8) 8))from(ag.refl C).alloc _);obtain⟨P,C⟩:∃P,P=C.alloc (.map (km 8) 8):=⟨_,rfl⟩;rw[<-C]at M3 a⊢;clear C;have bb:=qk cS a;have bX:=qb a dK;have bY:=qb a dL;have bZ:=qb a dJ;have C:=bb.size;have dV:=kO M3 (k:=1) (n:=0) rfl;clear a M3;have dW:=az bZ;have C:=J.lt bZ;go_upto_region 3 with(fail)
 clear dV dW;have b0:=az bY;have C:=J.lt bY;have b4:ac P (ab c 2) (U al i.length an):=J.cell bX 2;have C:=J.lt bX;have b5:=cR P bb;have C:f.heap.size<P.heap.size:=ae
 have C:c<P.heap.size:=ae
 by_cases b6:i.length=0
 case neg=>
  have d:(((0:Nat):Int)==(i.length:Int))=false:=aC
  have d:((0:Int)==(i.length:Int))=false:=aC
  have b:=Z (show T=RO.ap false 1 at_ _ by rw[bs.out,decide_eq_false b6]);clear bs b6;refine ez 12 (S:=(λw'=>ac w' (am f 0) (aj B)/\ac w' (ab c 2) (U al i.length an))) ⟨b0,b4⟩ (λhS=>?_);refine dg ?_;refine eh ?_;refine aK 11 (λK q=>?_);go_simp;exact bv bb.out.drew (show T=RO.ap false _ at_ _ from b.out) b5
 have dX:(((0:Nat):Int)==(i.length:Int))=true:=aC
 have dY:((0:Int)==(i.length:Int))=true:=aC
 have cT:=Z (show T=RO.ap true 1 at_ ((dS (x.map RT.tb) at_ X).bind λb=>.ok (.mk 1 b (aB.aN i) [] [] 0 0 ((dw (x.map RT.tb) b).attrs.map iY))) by rw[bs.out,decide_eq_true b6]);clear bs;refine ez 12 (S:=(λw'=>ac w' (am f 0) (aj B)/\ac w' (ab c 2) (U al i.length an))) ⟨b0,b4⟩ (λhS=>?_);refine dg ?_;refine eh ?_;refine aK 11 (λK q=>?_);go_simp;refine bJ bb.out.drew (show T=RO.ap true _ at_ _ from cT.out) b5 λcU=>?_;try go_simp
 refine q.out _ _ (λ_=>hS) ?_;refine av ?_;refine b2 ?_;refine bV ?_;clear hS dX dY b0 b4 b5 cT;have a:=Z (show ag P P.drew from(ag.refl P).drew);obtain⟨W,C⟩:∃W,W=P.drew:=⟨_,rfl⟩;rw[<-C]at a⊢;clear C;have cV:=qk bb a;have dZ:=qb a bX;have d0:=qb a bY;have cW:=qb a bZ;have C:=cV.size;clear a;go_upto_region 5 with(fail)
 have y:=Z (show J (W.alloc (.cells #[aa] 79)) W.heap.size 79 #[aa]from J.new W 79 #[aa]);have a:=Z (show ag W (W.alloc (.cells #[aa] 79))from((ag.refl W)).alloc _);obtain⟨L,C⟩:∃L,L=W.alloc (.cells #[aa] 79):=⟨_,rfl⟩;rw[<-C]at y a⊢;clear C;have ao:=qk cV a;have bt:=qb a dZ;have bu:=qb a d0;have bf:=qb a cW;have C:=ao.size;have bg:=y;clear y a;have C:=J.lt bg;have C:c<L.heap.size:=ae
 have C:=J.lt cW;have d1:=Z (Kp.refl [c] L);have d2:=Z cF;clear cF;have d3:=az bu;have C:=J.lt bu;have d4:=az bf;have d6:=aY bf;have C:=J.lt bf;have d7:=aY bt;have C:=J.lt bt;have d8:=az bg;have C:=J.lt bg;have d9:=λb=>J.frozen bt b;have cX:=Z (nU B ⟨bU,Y,bW⟩ x X at_ L ae (cQ L ao) (cR L ao) (R.ta L ao));go_upto_region 11 with(fail)
 go_wp2_with fail
 refine dC cU.out (cX.out) ?ay ?aD
 case ay=>
  intro g I br HX d;go_wp2;refine⟨rfl,?_⟩;rw[HX.out];exact⟨(ao.out.trans ((d.out).mono (λ_ h=>by cases h))),rfl⟩
 intro I ea b8 cZ c1 c2 aq;obtain⟨o,rfl,c3⟩:=mM cZ;have eb:ea=.int .i64 (o:Int):=c2;subst eb;have bx:o<x.length:=by simpa using c3
 clear c2 cZ c3;have c4:=qm ao aq;have bz:=qo aq bt;have ec:=qo aq bu;have ed:=qo aq bf;have ee:=qo aq bg;have ef:=qm d1 aq;have C:=c4.size;clear aq;have eg:=aY bz;have C:=J.lt bz;clear d3 d4 d6 d7 d8 d9 cX;have ei:=λb=>J.frozen bz b;go_upto_region 12 with(fail)
 have y:=Z (show J (b8.setCell (ab c 1) (o:Int)) c 105 #[O 1,(o:Int),U al i.length an,aa,aa,O 0,O 0,aa]from bz.aP 1 (o:Int));have u:=Z (Kp.aE (p:=(ab c 1)) (l:=[c]) ai (Kp.refl [c] b8) (o:Int));obtain⟨M,C⟩:∃M,M=b8.setCell (ab c 1) (o:Int):=⟨_,rfl⟩;rw[<-C]at y u⊢;clear C;have C:=u;have ej:=Z (ef.trans u);have bj:=Z (c4.trans u);have b9:=qo u ec;have ek:=qo u ed;have el:=qo u ee;have C:=bj.size;have C:=u;have ca:=y;clear y u;clear eg ei;obtain⟨z,bA,c5,C,c9,cb,da⟩:=lQ (R.out.ta M bj.out) o bx;have cc:bU=some ⟨z,bA,none⟩:=c5;have cd:=Z (λ(d:af) (g:Kp [c] f d)=>(R.ta d g).2 _ (List.getElem_mem bx));have ce:=Z (lR x o bx);have bD:=Z (d2 x[o].tb (List.mem_map.2 ⟨x[o],List.getElem_mem bx,rfl⟩));obtain⟨tq,db⟩:∃tq,tq=x[o]:=⟨_,rfl⟩;rw[<-db]at c9 cb da cd ce bD;obtain⟨C,⟨bE,x,cf⟩,v,⟨I,P,W⟩,X⟩:=tq;have dc:ac M (ab z (bA+o*3+1)) (U bE x cf):=cb;have cg:Hid (∀(d:af),Kp [c] f d->fu d ⟨bE,x,cf⟩ v):=Z (λd g=>(cd d g).1);have em:v.length=x:=(cg M bj).1.1;have dd:Hid (v.length<=10000/\∀d∈v,d.at_.was.length<=1000000):=Z ⟨by have h:=bD.out.1;have d:(v.map RA.at_).length<=10000:=h;rwa[List.length_map]at d,λd g=>bD.out.2 d.at_ (List.mem_map.2 ⟨d,g,rfl⟩)⟩;have x:=dd.1;subst em;have en:Hid (T=.ok (.mk 1 (o:Int) (aB.aN i) [] [] 0 0 ((v.map RA.at_).map iY))):=Z (by rw[c1.out,ce.out];rfl);clear c9 cb da db c5 cd bD ce c1 cU;have x:(o:Int)<Y:=by omega
 have x:(0:Int)<=o:=ae
 subst cc;have x:=cQ M bj;have C:B<M.heap.size:=ae
 have C:=az b9;have I:=J.lt b9;have I:=aY ca;have P:=J.lt ca;refine ez 15 (S:=(λw'=>ac w' (am f 0) (aj B)/\ac w' (ab B 0) (U (some ⟨z,bA,none⟩) Y bW)/\ac w' (ab c 1) (o:Int)/\ac w' (ab z (bA+o*3+1)) (U bE v.length cf))) ⟨C,x,I,dc⟩ (λhS=>?_);refine dg ?_;refine eh ?_;refine tk 11 hS ?_;refine tk 12 hS ?_;refine tk 13 hS ?_;refine tk 14 hS ?_;refine gH ak ?_ _;clear hS C x I dc;have a:=Z (show ag M M.drew from(ag.refl M).drew);obtain⟨x,x⟩:∃x,x=M.drew:=⟨_,rfl⟩;rw[<-x]at a⊢;clear x;have x:=qk bj a;have eo:=qb a ca;have B:=qb a b9;have B:=qb a ek;have B:=qb a el;have ep:=qk ej a;have x:=x.size;clear a;obtain⟨eq,er,es,et,eu⟩:=info_parts Tryz.infoAt;obtain⟨ev,ew,ex,ey,eA⟩:=info_parts Tryz.tl;go_wp2;go_loopg [85] (v.length+1) (λr t wr=>∃(b:Nat) (d:List RA) (g:aX) (j:Nat),t=.int .i64 b/\b<=v.length/\v.length-b<r/\d.length=b/\Hid (d.map RA.at_=((v.map RA.at_).map iY).take b)/\Hid (J wr c 105 #[O 1,(o:Int),U al i.length an,aa,aa,O 0,O 0,U g b j])/\Hid (wr.ownsRow L.heap.size 111 6 (U g b j) b (d.flatMap RA.cells))/\Hid (∀g∈d,gL g/\aG g.at_.name/\aG g.at_.dflt.s)/\Hid (Kp [c] L wr))
 case atStart=>exact⟨0,[],none,0,rfl,by omega,by omega,rfl,Z ai,eo,Z ⟨rfl,.inl ⟨rfl,rfl⟩⟩,Z (λg d=>by cases d),ep⟩
 obtain⟨b,bk,bn,bp,rfl,fe,de,df,ch,dh,ci,di,aZ⟩:=hrel;have dj:=Z de;have cj:=Z df;clear de df;have Q:=Z (ao.trans aZ);have x:=Q.size;have x:=aZ.size;have eB:=qo aZ bu;have eC:=qo aZ bf;have eD:=qo aZ bg;by_cases bF:b<v.length
 case neg=>
  have d:¬(b:Int)<v.length:=ae
  have g:=Z (show T=.ok (.mk 1 (o:Int) (aB.aN i) [] [] 0 0 (bk.map RA.at_)) by rw[en.out,ch.out,List.take_of_length_le (by rw[List.length_map,List.length_map];omega)]);have j:=Z ((kQ ci cj (by have:=cj.out;omega) di).mono (S':=Bw aU wr.heap.size) (λz d=>⟨by have:=d.1;omega,d.2⟩));go_wp2;first|go_end0|refine bodyPost_ret (results_none rfl _ _ _) rfl ?_
  rw[g.out];have d:=Q.size;have g:∀z∈[c],¬Bw aU f.heap.size z:=λz d hS=>by have r:=hS.1;have r:=aA d;omega
  have d:∀z,Bw aU f.heap.size z->Bw aU wr.heap.size z:=λz d=>⟨d.1,by have:=d.2;omega⟩;refine⟨Q.out,_,rfl,rfl,(aB.mk 1 (o) ⟨al,i.length,an⟩ i aJ [] aJ [] (0) (0) ⟨bn,b,bp⟩ bk),kg,dh.out,.mk (dH.out wr Q.out) (R.out.ik.mono d) (λr a8=>((R.out.sub r a8).keep Q.out g).mono d) (aF.none_ _ 12 _) (aS.none_ _ _ _) (aF.none_ _ 1 _) (aS.none_ _ _ _) (j.out)⟩
 have x:(b:Int)<v.length:=ae
 have x:(0:Int)<=b:=ae
 obtain⟨ar,ax,dk,x,ck,cl,cm,cn,co,cp⟩:=iq (cg.out wr Q.out) b bF;have cc:bE=some ⟨ar,ax,none⟩:=dk;have a0:=Z (λ(d:af) (g:Kp [c] f d)=>((cg d g).2 _ (List.getElem_mem bF)));have bG:=Z (dd.2 _ (List.getElem_mem bF));have cq:((v.map RA.at_).map iY).take (b+1)=((v.map RA.at_).map iY).take b++[iY v[b].at_]:=by
  rw[List.take_succ_eq_append_getElem (by simpa using bF)];simp
 obtain⟨x,dl⟩:∃x,x=v[b]:=⟨_,rfl⟩;rw[<-dl]at ck cl cm cn co cp a0 bG cq;obtain⟨⟨g,j,d,⟨a1,a2,a3⟩⟩,⟨D,x,E⟩⟩:=x;have eE:d.length=x:=(a0 wr Q).1.1.1;subst eE;have eF:Hid (((v.map RA.at_).map iY).take (b+1)=bk.map RA.at_++[⟨(d++[g])[0]'ai,j,[],V.zero⟩]):=Z (by
  rw[cq,ch.out];congr 2
  show(⟨(d++[g]).headD e0,j,[],V.zero⟩:At)=_;congr 1
  cases d<;>rfl)
 have eG:Hid (aG ((d++[g])[0]'ai)):=Z (by
  have r:=(a0 wr Q).1.2;have t:=(a0 wr Q).2.1;rcases cY (List.getElem_mem (l:=d++[g]) (n:=0) ai)with h|h
  ·exact r _ h
  rw[aA h];exact t)
 have dm:Hid (∀r,Kp [c] f r->Calls Tryz.prog 257 #[U D d.length E] r λe w'=>∃f t,e=.returned (U f d.length t)/\ag r w'/\w'.ownsRow r.heap.size 9 1 (U f d.length t) d.length (d.flatMap dF)):=Z (λf r=>B1 ⟨D,d.length,E⟩ d f (a0 f r).1 (by have:=bG.out;show d.length<=_;have f:d.length<=1000000:=this;omega));have f:d.length<=1000000:=bG;clear dl dk cq ch a0 bG;have eH:ac wr (ab ar (ax+b*6)) g:=ck;have eI:ac wr (ab ar (ax+b*6+1)) j:=cl;have dn:ac wr (ab ar (ax+b*6+2)) (U D d.length E):=cm;have eJ:ac wr (ab ar (ax+b*6+3)) a1:=cn;have eK:ac wr (ab ar (ax+b*6+4)) a2:=co;have eL:ac wr (ab ar (ax+b*6+5)) a3:=cp;have f:IntKind.i64.wrap ((b:Int)+1)=(b:Int)+1:=IntWalk.i64_in _ ae;clear ck cl cm cn co cp;subst cc;go_upto_region 15 with(fail)
 clear eH eI dn eJ eK eL;have y:=Z (show J (wr.alloc (.cells #[g,j,U D d.length E,a1,a2,a3] 111)) wr.heap.size 111 #[g,j,U D d.length E,a1,a2,a3]from J.new wr 111 #[g,j,U D d.length E,a1,a2,a3]);have a:=Z (show ag wr (wr.alloc (.cells #[g,j,U D d.length E,a1,a2,a3] 111))from((ag.refl wr)).alloc _);obtain⟨f,x⟩:∃f,f=wr.alloc (.cells #[g,j,U D d.length E,a1,a2,a3] 111):=⟨_,rfl⟩;rw[<-x]at y a⊢;clear x;have B:=qk Q a;have I:=qb a dh;have M:=qb a eB;have P:=qb a eC;have Q:=qb a eD;have R:=Z (aH a ci);have T:=qk aZ a;have x:=B.size;have x:=y;clear y a;have a:=J.lt x;have a:=az x;have C:=bh x;have W:=J.lt x;refine ez 9 (S:=(λw'=>ac w' (am wr 0) g/\ac w' (am wr 2) (U D d.length E))) ⟨a,C⟩ (λhS=>?_);refine lO ?_;refine gt ?_;have r:=Z (show ag f f.drew from(ag.refl f).drew);obtain⟨H,f⟩:∃H,H=f.drew:=⟨_,rfl⟩;rw[<-f]at r hS⊢;clear f;have bH:=qk B r;have eM:=qb r I;have eN:=qb r M;have eO:=qb r P;have eP:=qb r Q;have bI:=qb r x;have dq:=Z (aH r R);have eQ:=qk T r;have f:=bH.size;clear r a C;have bK:=az bI;have bL:=bh bI;have a:=J.lt bI;refine qM 2 5 (λK q=>?aI) (λK q=>?aL)
 case' aI=>
  go_simp;refine(dm.out H bH.out).mono ?_;rintro e t ⟨cB,cD,rfl,w,G⟩;have N:=w.size;have F:(λw':World=>ac w' (am wr 0) g/\ac w' (am wr 2) (U D d.length E)) t:=⟨(w.cell (p:=(am wr 0)) c6).trans bK,(w.cell (p:=(am wr 2)) c6).trans bL⟩;refine q.out _ _ (λ_=>F) ?_;refine av ?_;refine aK 5 (λK q=>?_);go_simp;have a6:(λw':World=>ac w' (am wr 0) g/\ac w' (am wr 2) (U D d.length E)) (t.alloc (.cells #[g] 9)):=⟨(World.cell?_alloc_lt _ _ _ c6).trans F.1,(World.cell?_alloc_lt _ _ _ c6).trans F.2⟩;refine q.out _ _ (λ_=>a6) ?_;refine av ?_;have ad:=Z (J.new t 9 #[g]);have A:=Z (w.trans ((ag.refl t).alloc (.cells #[g] 9)));have aT:=Z (aH ((ag.refl t).alloc (.cells #[g] 9)) G);obtain⟨br,f⟩:∃a,a=t.alloc (.cells #[g] 9):=⟨_,rfl⟩;obtain⟨a7,a⟩:∃a,a=t.heap.size:=⟨_,rfl⟩;have t:H.heap.size<=a7:=by rw[a];exact N
  rw[<-f]at ad A aT a6⊢;rw[<-a]at ad⊢;clear f a w G F N
 case' aL=>
  go_simp;have w:(λw':World=>ac w' (am wr 0) g/\ac w' (am wr 2) (U D d.length E)) (H.alloc (.cells #[g] 9)):=⟨bi bK,bi bL⟩;refine q.out _ _ (λ_=>w) ?_;refine av ?_;refine aK 2 (λK q=>?_);go_simp;refine(dm.out (H.alloc (.cells #[g] 9)) (bH.out.alloc (.cells #[g] 9))).mono ?_;rintro e br ⟨cB,cD,rfl,t,F⟩;have A:=Z (((ag.refl H).alloc (.cells #[g] 9)).trans t);have ad:=Z ((Kp.of_same (l:=[]) t).blk (J.new H 9 #[g]) ai);have aT:=Z (uS (b':=H.heap.size) F ai);have a6:(λw':World=>ac w' (am wr 0) g/\ac w' (am wr 2) (U D d.length E)) br:=⟨(t.cell (p:=(am wr 0)) (by show wr.heap.size<_;simp;omega)).trans w.1,(t.cell (p:=(am wr 2)) (by show wr.heap.size<_;simp;omega)).trans w.2⟩;clear t F;refine q.out _ _ (λ_=>a6) ?_;refine av ?_;obtain⟨a7,a⟩:∃a,a=H.heap.size:=⟨_,rfl⟩;have f:H.heap.size<=a7:=by omega
  rw[<-a]at ad⊢;clear a w
 all_goals
  have a:=A.size;have a:=J.lt ad;have dr:=Z (jd ad (m:=1) rfl);have hrow:=b3 aT;refine aK 6 (λK q=>?_);refine c7 br (.tmp 91) (.tmp 94) 83 rfl H.heap.size 9 ev _ 1 16 Tryz.underlying83 ew ex ey eA rfl au (U cB d.length cD) d.length (d.flatMap dF) rfl aT.out (a7+1) (some ⟨a7,0,none⟩) 1 1 ((#[g]:Array Value).toList) rfl dr.out bl b1 ae ae ?_;intro eR aM aQ t cr;obtain⟨ff,dn,rfl,cs⟩:=bo aQ;have ct:=Z aQ;have w:=Z t;have aR:=Z (fm (Kp.of_same A) t);clear aQ t cr cs a6;have bM:(λw':World=>ac w' (am wr 0) g/\ac w' (am wr 2) (U D d.length E)) aM:=⟨bw aR bK,bw aR.out bL⟩;refine q.out _ _ (λ_=>bM) ?_;refine av ?_;obtain⟨eS,a,eT,f,ds,_,_,_,_⟩:=fE ct.out ae;subst eT;have dt:ac aM (ab eS 0) (.string ((d++[g])[0]'ai)):=ke (enc:=dF) (m:=1) (λ_=>rfl) (xs:=d++[g]) (by rw[List.flatMap_append];exact ct.out) ai 0 ae 0 ae;have cu:=Z (And.intro eF.out eG.out);obtain⟨F,a⟩:∃a,a=((d++[g])[0]'ai):=⟨_,rfl⟩;rw[<-a]at dt cu;clear a;have eU:(0:Int)<((d.length+1:Nat):Int):=by omega
  have eV:(0:Int)<(d.length:Int)+1:=ae
  have a:=J.lt ds;refine tk 7 bM ?_;refine aK 8 (λK q=>?_);go_simp;refine q.out _ _ (λ_=>bM) ?_;refine av ?_;refine b2 ?_;refine tq 9 ?_;refine bV ?_;clear dt bM hS eU eV ds;have du:=Z ((bH.trans (Kp.of_same A)).grown w (λa t=>.inr (by have:=hrow a t;omega)));have eW:=Z ((eQ.trans (Kp.of_same A)).grown w (λa t=>.inr (by have:=hrow a t;omega)));have eX:=Z (j1 (aH A dq) w (λz a=>j2 aT (aH A dq) au z a));have a:=du.size;have a:H.heap.size<=aM.heap.size:=by have:=w.out.size;omega
  have cv:=Z (J.grown ((Kp.of_same (l:=[]) A).blk eM ai) w (λe=>by have:=hrow _ e.symm;omega));have eZ:=Z (J.grown ((Kp.of_same (l:=[]) A).blk eN ai) w (λe=>by have:=hrow _ e.symm;omega));have e1:=Z (J.grown ((Kp.of_same (l:=[]) A).blk eO ai) w (λe=>by have:=hrow _ e.symm;omega));have e2:=Z (J.grown ((Kp.of_same (l:=[]) A).blk eP ai) w (λe=>by have:=hrow _ e.symm;omega));have cw:=Z (J.grown ((Kp.of_same (l:=[]) A).blk bI ai) w (λe=>by have:=hrow _ e.symm;omega));clear aT ad A dr w aR hrow ct bK bL;go_upto_region 16 with(fail)
  have a:=b7 cv;have d:=J.lt cv;have d:=aY cw;have f:=J.lt cw;refine ez 11 (S:=(λw'=>ac w' (ab c 7) (U bn b bp)/\ac w' (am wr 1) j)) ⟨a,d⟩ (λhS=>?_);refine dg ?_;have r:=Z (show ag aM aM.drew from(ag.refl aM).drew);obtain⟨N,a⟩:∃N,N=aM.drew:=⟨_,rfl⟩;rw[<-a]at r hS⊢;clear a;have dv:=qk du r;have bN:=qb r cv;have e3:=qb r eZ;have e4:=qb r e1;have e5:=qb r e2;have cx:=qb r cw;have cz:=Z (aH r eX);have e6:=qk eW r;have a:=dv.size;clear r hS;have dx:=b7 bN;have a:=J.lt bN;have dy:=aY cx;have a:=J.lt cx;have dz:(λw':World=>ac w' (ab c 7) (U bn b bp)/\ac w' (am wr 1) j) (N.alloc (.cells #[F,j,aa,O 0,O 0,ah] 111)):=⟨bi dx,bi dy⟩;refine aK 9 (λK q=>?_);go_simp;refine q.out _ _ (λ_=>dz) ?_;refine av ?_;have dA:=Z (aH ((ag.refl N).alloc (.cells #[F,j,aa,O 0,O 0,ah] 111)) cz);have dB:=Z (cC N #[F,j,aa,O 0,O 0,ah] 111 6 rfl);have hrow:∀G,(Value.slice bn b bp).ownBlock=some G->L.heap.size<=G/\G<N.heap.size/\G<wr.heap.size:=λG t=>⟨(b3 cz G t).1,(b3 cz G t).2,(λG t=>(b3 ci G t).2) G t⟩;have a:=J.lt bN;refine aK 10 (λK q=>?_);refine c7 (N.alloc (.cells #[F,j,aa,O 0,O 0,ah] 111)) (.tmp 102) (.tmp 107) 79 rfl (L.heap.size) 111 eq _ 6 80 Tryz.underlying79 er es et eu rfl au (U bn b bp) b (bk.flatMap RA.cells) rfl dA.out (N.heap.size+1) (some ⟨N.heap.size,0,none⟩) 1 1 ((#[F,j,aa,O 0,O 0,ah]:Array Value).toList) rfl dB.out bl b1 ae aC ?_;intro eR bO aQ t cr;obtain⟨a4,a5,rfl,cs⟩:=bo aQ;have e7:=Z aQ;have w:=Z t;have aR:=Z (fm ((Kp.refl [] N).alloc (.cells #[F,j,aa,O 0,O 0,ah] 111)) t);clear aQ t cr cs;have cA:=Z (J.grown (bN.alloc (.cells #[F,j,aa,O 0,O 0,ah] 111)) w (λe=>by have:=hrow _ e.symm;omega));have e8:=b7 cA;have e9:=λb=>J.frozen cA b;refine q.out _ _ (λ_=>⟨bw aR.out dx,bw aR.out dy⟩) ?_;clear q K dz;refine av ?_;refine b2 ?_;refine tq 11 ?_;refine tq 12 ?_;refine dp 13 (λK q=>?_);go_simp;refine q _ _ ?_;refine av ?_;refine bV ?_;have f:=Z (J.grown (e3.alloc (.cells #[F,j,aa,O 0,O 0,ah] 111)) w (λe=>by have:=hrow _ e.symm;omega));have g:=Z (J.grown (e4.alloc (.cells #[F,j,aa,O 0,O 0,ah] 111)) w (λe=>by have:=hrow _ e.symm;omega));have r:=Z (J.grown (e5.alloc (.cells #[F,j,aa,O 0,O 0,ah] 111)) w (λe=>by have:=hrow _ e.symm;omega));have x:=Z (J.grown (cx.alloc (.cells #[F,j,aa,O 0,O 0,ah] 111)) w (λe=>by have:=hrow _ e.symm;omega));have a:=Z ((dv.alloc (.cells #[F,j,aa,O 0,O 0,ah] 111)).grown w (λG t=>.inr (by have:=hrow G t;omega)));have t:=Z ((e6.alloc (.cells #[F,j,aa,O 0,O 0,ah] 111)).grown w (λG t=>.inr (by have:=hrow G t;omega)));have d:=a.size;have d:N.heap.size<=bO.heap.size:=by have:=w.out.size;simp at this;omega
  clear dA dB w aR hrow e8 e9;have y:=Z (show J (bO.setCell (ab c 7) (U a4 (b+1) a5)) c 105 #[O 1,(o:Int),U al i.length an,aa,aa,O 0,O 0,U a4 (b+1) a5]from cA.aP 7 (U a4 (b+1) a5));have u:=Z (Kp.aE (p:=(ab c 7)) (l:=[c]) ai (Kp.refl [c] bO) (U a4 (b+1) a5));obtain⟨d,c⟩:∃d,d=bO.setCell (ab c 7) (U a4 (b+1) a5):=⟨_,rfl⟩;rw[<-c]at y u⊢;clear c;have c:=u;have fa:=Z (t.trans u);have a:=Z (a.trans u);have c:=qo u f;have c:=qo u g;have c:=qo u r;have c:=qo u x;have a:=a.size;have fb:=u;have fc:=y;clear y u;go_wp2_with fail
  go_roundg (v.length-b)
  case measure=>have:=dj.out;omega
  refine⟨b+1,bk++[(⟨⟨F,j,[],V.zero⟩,aJ⟩:RA)],a4,a5,by go_num,by omega,by have:=dj.out;omega,by rw[List.length_append,cj.out];rfl,Z (by rw[List.map_append];exact cu.out.1.symm),fc,Z (bC (by rw[List.flatMap_append];exact e7.out) fb.out (λz a=>by have:=aA a;omega)),Z ?_,fa⟩;intro fd bq;rcases cY bq with bq|bq
  ·exact di.out fd bq
  rw[aA bq];exact⟨⟨rfl,rfl⟩,cu.out.2,by show(0:Nat)<=_;omega⟩
structure oC (w:af) (X Bw Bl:Nat) (h:Hd) (ra:List RA) (at_:Int):Prop where
 hX:X<w.heap.size
 c8:ac w (ab X 8) at_
 hw:Bw<w.heap.size
 cw:ac w (ab Bw 0) (aj X)
 hl:Bl<w.heap.size
 cl:ac w (ab Bl 0) h.val
 a:fu w h ra
theorem oC.same {w c:af} {X Bw b:Nat} {h:Hd} {ra:List RA} {at_:Int} (a:oC w X Bw b h ra at_) (s:ag w c):oC c X Bw b h ra at_:=
 ⟨aT a.hX s.size,(s.cell (p:=(ab X 8)) a.hX).trans a.c8,aT a.hw s.size,(s.cell (p:=(ab Bw 0)) a.hw).trans a.cw,aT a.hl s.size,(s.cell (p:=(ab b 0)) a.hl).trans a.cl,a.a.same s⟩
theorem B7 (y Bw d:Nat) (h:Hd) (b:List RA) (g:dG) (at_:Int) (f:af) (a:oC f y Bw d h b at_):
 Calls Tryz.prog 271 #[.agg g.cells.toArray,aj Bw,aj d] f λe w'=>RP [] f (lD at_ (b.map RA.at_) g) lT e w':=by
 obtain⟨p,i,l⟩:=h;have D:=Z a;have z:b.length=i:=a.a.1.1;have z:=a.hX;have z:=a.hl;clear a;obtain⟨q,z⟩:=aq (lD at_ (b.map RA.at_) g);rw[<-z];obtain⟨j,k,g,⟨F,Y,aa⟩⟩:=g;have r:=Z (show q=RO.ap (decide (j=e0)) 8 at_ ((ee at_ (b.map RA.at_) k).bind λc=>.ok (⟨0,c,V.zero⟩,(cE (b.map RA.at_) c).kind))from z);clear z;have E:=jD j e0;have ad:=Z (Kp.refl [] f);show Calls Tryz.prog 271 #[.agg #[j,k,g,F,Y,aa],aj Bw,aj d] f _;go_enter Tryz.func271,Tryz.ntmps271
 go_upto_region 1 with(fail)
 obtain⟨aa,z,Y,g,F⟩:=nb f 284 _;rw[z];clear z;have aa:=qk ad g;have ad:=Z (D.same g);clear g;obtain⟨m,z,al,g,am⟩:=nc F 71 _;rw[z];clear z;have s:=qk aa g;have G:=qb g Y;have n:=Z (ad.same g);clear g;have g:f.heap.size+1<m.heap.size:=ae
 clear F am;have an:=az G;have ao:=n.cw;have t:=n.c8;have A:j.toList.isEmpty=decide (j=e0):=by
  rw[<-E];have c:e0.toList=[]:=by simp[e0]
  rw[c];cases j.toList<;>rfl
 generalize ar:j.toList.isEmpty=au at A;have u:=Z A.symm;clear A E;cases au
 case false=>
  have c:=Z (show q=RO.ap false 8 at_ _ by rw[r.out,u.out]);clear r u;go_wp2_with fail
  exact bv s c t
 have H:=Z (show q=RO.ap true 8 at_ ((ee at_ (b.map RA.at_) k).bind λc=>.ok (⟨0,c,V.zero⟩,(cE (b.map RA.at_) c).kind)) by rw[r.out,u.out]);clear r u;go_wp2_with fail
 refine bJ s H t λI=>?_;clear H ar an;have aw:ac m (ab d 0) (U p i l):=n.cl;have g:=Z (pv y ⟨p,i,l⟩ b k at_ m ae t n.a);have J:Hid (Calls Tryz.prog 272 #[aj y,U p i l,k] m λe w'=>RP [] m (ee at_ (b.map RA.at_) k) g7 e w'):=g;clear g;have ax:=aY G;go_wp2_with fail
 refine dC I J (eL s) ?_;intro a g B L M N w;have ay:g=.int .i64 a:=N;subst ay;obtain⟨c,aA,P⟩:=pN L;subst aA;have j:c<b.length:=by simpa using P
 clear P N L;have Q:=Z (s.trans w);have aB:=qo w al;have aC:=Z (n.same w.same);clear w;clear ax ao t aw J;obtain⟨ba,x,k,R,m,g,n,r,s,t⟩:=iq D.a c j;have S:=(Q.cell R ai).trans g;clear g;have aD:p=some ⟨ba,x,none⟩:=k;have g:(c:Int)<i:=ae
 have g:(0:Int)<=c:=ae
 obtain⟨C,g⟩:=aq (b[c].at_.kind);rw[<-g]at S;have aE:=Z (show q=.ok ((⟨0,(c:Int),V.zero⟩:Sd),C) by rw[M.out,jY b c j,<-g]);clear I M g m n r s t k;subst aD;have aF:ac B (ab d 0) (U (some ⟨ba,x,none⟩) i l):=aC.cl;go_upto_region 3 with(fail)
 have b:=Z ((ag.refl B).drew);refine dB 9 aF S λhS=>?_;refine cJ ?_;refine jl ?_;obtain⟨g,j⟩:=aq B.drew;rw[<-j]at b hS⊢;clear j;have j:=qk Q b;have k:=qb b aB;have m:=j.size;obtain⟨n,p⟩:=hS;have m:=aT R m;have m:d<g.heap.size:=ae
 clear b;have b:(λw':World=>ac w' (ab d 0) (U (some ⟨ba,x,none⟩) i l)/\ac w' (ab ba (x+c*6+1)) C) (g.setRow ((f.heap.size+1)) #[O 0,(c:Int),O 0,O 0,ah]):=⟨(lU (by show d<_;omega) (by show d≠_;omega)).trans n,(lU (by show ba<_;omega) (by show ba≠_;omega)).trans p⟩;refine aK 7 (λK X=>?_);refine wp_store_row 71 (.tmp 4) (.tmp 18) rfl ((f.heap.size+1)) _ rfl rfl 71 _ k ak rfl bl (X _ _ (λ_=>b) ?_);refine av ?_;refine tk 8 b ?_;refine gH ak ?_ _;clear b;obtain⟨d,b,o,T⟩:=jk k #[O 0,(c:Int),O 0,O 0,ah];rw[b];clear b;have W:=Z (j.grown T (λb W=>.inr (by injection W with W;omega)));clear T;have aG:=az o;have aH:=aY o;have aI:=bh o;have aJ:=bj o;have aL:=bn o;go_wp2_with fail
 refine bodyPost_ret (v:=.tuple #[.agg #[O 0,(c:Int),O 0,O 0,ah],C]) ?_ rfl ?_
 ·simp[results,Tryz.results271,go_sem,aG,aH,aI,aJ,aL]
 rw[aE.out];exact⟨W,_,rfl,rfl⟩
end Go.Proofs.YteamkimbmdgdbaaGreatDoor

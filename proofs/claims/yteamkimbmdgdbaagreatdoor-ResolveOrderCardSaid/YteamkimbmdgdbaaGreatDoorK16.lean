import Derived.Test.YteamkimbmdgdbaaGreatDoorK15
set_option linter.unusedSimpArgs false
set_option linter.unusedVariables false
set_option maxHeartbeats 16000000
set_option maxRecDepth 100000
namespace Go.Proofs.YteamkimbmdgdbaaGreatDoor
open Go.Proofs.Tryz
open Go.RowKit
def gX (a:RA):Prop:=a.h=aL/\a.at_.was=[]
structure gu (w:ah) (S:Nat->Prop) (h:Hd) (ra:List RA):Prop where
 a:fp w h ra
 i:bc S h
 b:∀r∈ra,gX r
 l:ra.length<=10000
theorem gu.mono {w:ah} {S S':Nat->Prop} {h:Hd} {ra:List RA} (a:gu w S h ra) (d:∀c,S c->S' c):gu w S' h ra:=⟨a.a,a.i.mono d,a.b,a.l⟩
theorem qL (b:ah) {a:RA} (h:gX a):b5 b a.h a.at_.was:=by
 rw[h.1,h.2];exact⟨aE.none_ b 1 _,λ_ h=>by cases h⟩
theorem gu.keep {w e:ah} {S:Nat->Prop} {h:Hd} {f:List RA} (c:gu w S h f) {l:List Nat} (k:Kp l w e) (g:∀d∈l,¬S d):gu e S h f:=
 ⟨⟨c.a.1.kp k (λd f j m=>g d m (c.i d f j)),λd f=>⟨qL e (c.b d f),(c.a.2 d f).2⟩⟩,c.i,c.b,c.l⟩
theorem gu.none_ (w:ah) (S:Nat->Prop):gu w S aL []:=⟨⟨aE.none_ w 6 _,λ_ h=>by cases h⟩,bc.none_ _ _ _,(λ_ h=>by cases h),by show 0<=_;omega⟩
theorem kx {b d:ah} {e m n:Nat} {c:aX} {v:aA} {xs:aP} {row:Option Nat} (f:b.ownsRow e c m v n xs) (k:b.grownBy d row) (l:∀a,v.ownBlock=some a->row≠some a):d.ownsRow e c m v n xs:=by
 refine⟨f.1,?_⟩;rcases f.2 with h|⟨a,o,g,i,p,j,q⟩
 ·exact .inl h
 have b:a<b.heap.size:=aa.lt (t:=c) (cs:=g) j;exact .inr ⟨a,o,g,i,p,(k.block a b (λb=>l a (by rw[i];rfl) b.symm)).trans j,q⟩
theorem ky {c:ah} {g i:Nat} {e b:aX} {j k l m:Nat} {v f:aA} {xs n:aP} (o:c.ownsRow g e j v l xs) (p:c.ownsRow i b k f m n) (q:e≠b):∀c,f.ownBlock=some c->v.ownBlock≠some c:=by
 intro c a;rcases p.2 with⟨d,_⟩|⟨u,w,r,d,_,s,_⟩
 ·rw[d]at a;cases a
 rw[d]at a;injection a with a
 subst a;exact lU o (t:=b) (cs:=r) s q
def sH (c:Nat) (p:List Int×List At) (v:aA) (a:ah):Prop:=
 ∃(b d:Hd) (e:List RA),v=.tuple #[b.val,d.val]/\cY a b p.1/\bc (Bw c a.heap.size) b/\p.1.length<=5001/\e.length<=5001/\e.map RA.at_=p.2/\gu a (Bw c a.heap.size) d e/\a.ownsRow c 111 6 d.val d.n (e.flatMap RA.cells)/\a.ownsRow c 3 1 b.val b.n (p.1.flatMap bU)
theorem ED (a:Int) (b:List At) (c:List Int) (e:List At) (d:ax) (f:bk):fL a b c e (d::f)=(ek a b d).bind λd=>RO.ap (!c.any λg=>decide (g=d)) 9 a (fL a b (c++[d]) (e++[cH b d]) f):=rfl
theorem qM {l:List At} {c:Int} {a:ax} {b:Int} (h:ek c l a=.ok b):∃k:Nat,b=k/\k<l.length:=by
 have d:=lW (λb:At=>decide (b.name=a)) l;unfold ek RO.ap at h;split at h
 ·rename_i b
  have b:0<=ew l a:=by simpa using b
  injection h with h
  subst h;refine⟨(ew l a).toNat,by omega,?_⟩;have:ew l a<l.length:=d.2;omega
 cases h
theorem Tryz.infoAt:(prog.info? 111).map (λi=>(i.zero,i.size,i.bytes))=some (some (.agg #[ai,J 0,ab,J 0,J 0,ai]),6,80):=am
theorem RA.wR (a:RA):a.cells.length=6:=rfl
theorem wS (Q:Nat) (h:Hd) (k:List RA) (a1:Hd) (l:bk) (at_:Int) (d:ah) (a2:Q<d.heap.size) (a3:ae d (ac Q 8) at_) (a:fp d h k) (bN:∀x∈k,gX x) (ai:b5 d a1 l) (cS:l.length<=5001):
 Calls prog 273 #[ak Q,h.val,a1.val] d λe w'=>RP [] d (fL at_ (k.map RA.at_) [] [] l) (sH d.heap.size) e w':=by
 obtain⟨a4,a5,a6,a7,a8⟩:=info_parts Tryz.sv;obtain⟨a9,bb,bd,bh,bi⟩:=info_parts Tryz.infoAt;obtain⟨al,bO,bj⟩:=h;obtain⟨bP,bQ,nc⟩:=a1;have cp:l.length=bQ:=ai.1.1;have a1:bQ<=9223372036854775807:=ai.1.2.1;have cq:k.length=bO:=a.1.1;have a1:bO<=9223372036854775807:=a.1.2.1;subst cp cq;have bl:=Z a;have cr:=Z ai;have cs:=Z bN;have ct:=Z a3;have a1:=Z (λ(f:ax) (c:ah) (b:ag d c)=>qu Q ⟨al,k.length,bj⟩ k f at_ c (aV a2 b.size) ((b.cell a2).trans a3) (a.same b));have cu:Hid (∀(c:ax) (b:ah),ag d b->Calls prog 272 #[ak Q,O al k.length bj,c] b λe w'=>RP [] b (ek at_ (k.map RA.at_) c) hP e w'):=a1;clear a1 a ai bN a3;obtain⟨an,ai⟩:=av (fL at_ (k.map RA.at_) [] [] l);rw[<-ai];have bR:=Z ai;clear ai;have bS:=Z (Kp.refl [] d);show Calls prog 273 #[ak Q,O al k.length bj,O bP l.length nc] d _;go_enter func273,ntmps273
 go_wp2;go_loopg [6,7,13] (l.length+1) (λq r t u wr=>∃(b:Nat) (f:List Int) (c:List RA) (g:aU) (n:Nat) (o:aU) (p:Nat),u=.int .i64 b/\r=.slice g b n/\t=.slice o b p/\b<=l.length/\l.length-b<q/\f.length=b/\c.length=b/\Hid (wr.ownsRow d.heap.size 3 1 (O g b n) b (f.flatMap bU))/\Hid (wr.ownsRow d.heap.size 111 6 (O o b p) b (c.flatMap RA.cells))/\Hid (∀x∈c,gX x/\aJ x.at_.name/\aJ x.at_.dflt.s)/\Hid (Kp [] d wr)/\Hid (an=fL at_ (k.map RA.at_) f (c.map RA.at_) (l.drop b)))
 case atStart=>exact⟨0,[],[],none,0,none,0,rfl,rfl,rfl,by omega,by omega,rfl,rfl,Z ⟨rfl,.inl ⟨rfl,rfl⟩⟩,Z ⟨rfl,.inl ⟨rfl,rfl⟩⟩,Z (λx b=>by cases b),bS,bR⟩
 obtain⟨c,y,C,E,F,I,J,rfl,rfl,rfl,cT,bT,bW,bX,W,X,R,L,ao⟩:=hrel;have S:=Z bT;have T:=Z bW;have U:=Z bX;clear bT bW bX bR bS;have bY:=Z (bl.same L.same);have bZ:=Z (cr.same L.same);by_cases b0:c<l.length
 case neg=>
  have f:¬(c:Int)<l.length:=af
  have b:=Z (show an=.ok (y,C.map RA.at_) by rw[ao.out,List.drop_of_length_le af];rfl);clear ao;go_wp2;refine bodyPost_ret (v:=.tuple #[O E c F,O I c J]) (by simp[results,results273,go_sem]) rfl ?_;rw[b.out];have b:∀(b:aU) (f g:Nat) (e:aX) (n:Nat) (o:aP),wr.ownsRow d.heap.size e n (O b f g) f o->bc (Bw d.heap.size wr.heap.size) ⟨b,f,g⟩:=λb f g e n o o n p q=>b2 o n (by show(Value.slice b f g).ownBlock=_;have b:b=some ⟨n,p,none⟩:=q;rw[b];rfl);exact⟨L,_,rfl,⟨E,c,F⟩,⟨I,c,J⟩,C,rfl,cJ (h:=⟨E,c,F⟩) bU.len T (by show c<=_;omega) W,b _ _ _ _ _ _ W,by show y.length<=_;have:=T.out;omega,omg U,rfl,⟨⟨cJ (h:=⟨I,c,J⟩) RA.wR U.out (by show c<=_;omega) X.out,λx f=>⟨qL wr (R.out x f).1,(R.out x f).2⟩⟩,b _ _ _ _ _ _ X.out,(λx b=>(R.out x b).1),omg U⟩,X.out,W.out⟩
 have Q:(c:Int)<l.length:=af
 obtain⟨Q,of,ai,a1,b3⟩:=bZ.1.one c b0 (v:=.string l[c]) rfl;have bm:bP=some ⟨Q,of,none⟩:=ai;obtain⟨b4,Q⟩:=av (l[c]);rw[<-Q]at b3;have b6:=Z (show an=(ek at_ (k.map RA.at_) b4).bind λb=>RO.ap (!y.any λf=>decide (f=b)) 9 at_ (fL at_ (k.map RA.at_) (y++[b]) (C.map RA.at_++[cH (k.map RA.at_) b]) (l.drop (c+1))) by rw[ao.out,List.drop_eq_getElem_cons b0,ED,<-Q]);clear ao Q ai;subst bm;have b7:=Z (Kp.refl [] wr);go_wp2_with fail
 refine dQ b6 (cu b4 wr L.same) (fb L) ?_;intro a Q M b8 N b9 aq;have cv:Q=.int .i64 a:=b9;subst cv;obtain⟨b,cw,ca⟩:=qM b8;subst cw;have ar:b<k.length:=by simpa using ca
 clear ca b9 b8;have D:=Z (L.trans aq);have cx:=Z (bY.same aq.same);have bn:=Z (b7.trans aq);have Q:=D.size;clear aq;clear b3;have bo:=(D.cell a2 aj).trans ct;have az:=Z (aK bn.same W);have bp:=Z (aK bn.same X);have Q:=cJ (h:=⟨E,c,F⟩) bU.len T (by show c<=_;omega) az;have aE:Hid (Calls prog 188 #[O E c F,(b:Int)] M λe w'=>e=.returned (.bool (y.any λf=>decide (f=(b:Int))))/\M=w'):=Z (qa ⟨E,c,F⟩ y (b:Int) M Q);have ai:=Z (show an=RO.ap (!y.any λf=>decide (f=(b:Int))) 9 at_ (fL at_ (k.map RA.at_) (y++[(b:Int)]) ((C++[k[b]]).map RA.at_) (l.drop (c+1))) by rw[N.out,ku k b ar,List.map_append];rfl);clear b6 N Q;have N:=ai;clear ai;generalize (y.any λf=>decide (f=(b:Int)))=cy at aE N;cases cy
 case true=>
  go_wp2_with (first|(go_at_call 188;refine aE.out.mono ?_;rintro e w' ⟨rfl,rfl⟩)|fail)
  exact b1 D N bo
 go_wp2_with (first|(go_at_call 188;refine aE.out.mono ?_;rintro e w' ⟨rfl,rfl⟩)|fail)
 refine bV D N bo λaZ=>?_;clear aE N bo;obtain⟨ba,f,N,cz,bq,br,bs,bt,bu,bx⟩:=iJ bl b ar;have bm:al=some ⟨ba,f,none⟩:=N;have Q:(b:Int)<k.length:=af
 have Q:(0:Int)<=b:=af
 have a0:=Z (show gX k[b]/\aJ k[b].at_.name/\aJ k[b].at_.dflt.s from⟨cs _ (List.getElem_mem ar),(bl.2 _ (List.getElem_mem ar)).2⟩);obtain⟨cA,k⟩:=av (k[b]);rw[<-k]at bq br bs bt bu bx a0 aZ;clear k N;obtain⟨⟨n,o,bz,⟨p,q,r⟩⟩,⟨t,u,w⟩⟩:=cA;have B:=cz;have bA:ae d (ac ba (f+b*6)) n:=bq;have cb:=(D.cell B aj).trans bA;have bB:ae d (ac ba (f+b*6+1)) o:=br;have cd:=(D.cell B aj).trans bB;have bC:ae d (ac ba (f+b*6+2)) (O t u w):=bs;have ce:=(D.cell B aj).trans bC;have bD:ae d (ac ba (f+b*6+3)) p:=bt;have cf:=(D.cell B aj).trans bD;have bE:ae d (ac ba (f+b*6+4)) q:=bu;have cg:=(D.cell B aj).trans bE;have bF:ae d (ac ba (f+b*6+5)) r:=bx;have ch:=(D.cell B aj).trans bF;have k:IntKind.i64.wrap ((c:Int)+1)=(c:Int)+1:=IntWalk.i64_in _ af;clear bq br bs bt bu bx;subst bm;go_upto_region 6 with(fail)
 refine vG 13 cb cd ce cf cg ch λhS=>?_;refine mn ?_;refine gV ?_;refine tk 7 hS ?_;refine tk 8 hS ?_;have g:=Z (λ(g:ah) (k:Kp [] d g)=>show ae g (ac ba (f+b*6)) n/\ae g (ac ba (f+b*6+1)) o/\ae g (ac ba (f+b*6+2)) (O t u w)/\ae g (ac ba (f+b*6+3)) p/\ae g (ac ba (f+b*6+4)) q/\ae g (ac ba (f+b*6+5)) r from⟨(k.cell B aj).trans bA,(k.cell B aj).trans bB,(k.cell B aj).trans bC,(k.cell B aj).trans bD,(k.cell B aj).trans bE,(k.cell B aj).trans bF⟩);clear bA bB bC bD bE bF cb cd ce cf cg ch hS;have Y:=b2 az;have bG:=b2 bp;obtain⟨z,k⟩:=av M.drew;have ci:=Z (show Kp [] d z by rw[k];exact D.out.drew);have cj:=Z (show z.ownsRow d.heap.size 3 1 (O E c F) c (y.flatMap bU) by rw[k];exact aK ((ag.refl M).drew) az.out);have ck:=Z (show z.ownsRow d.heap.size 111 6 (O I c J) c (C.flatMap RA.cells) by rw[k];exact aK ((ag.refl M).drew) bp.out);have cl:M.heap.size<=z.heap.size:=by rw[k];exact Nat.le_refl _
 rw[<-k];clear k az bp W X bY cx bZ L b7 bn;refine oM (i:=2) (j:=9) (oi:=?ay) (oj:=?aA) am ?aB ?aD ?aF ?aG ?aH ?aI
 case aB=>simp only[be,bf,bg];rfl
 case aD=>rfl
 case aF=>simp only[be,bf,bg];rfl
 case aG=>rfl
 case aH=>
  intro K A;go_simp;have B:=Z (ci.alloc (.cells #[(b:Int)] 3));refine A _ _ (λ_=>g _ B) ?_;refine aw ?_;have k:=Z ((ag.refl z).alloc (.cells #[(b:Int)] 3));have D:=Z (aa.new z 3 #[(b:Int)]);obtain⟨V,L⟩:=av (z.alloc (.cells #[(b:Int)] 3));rw[<-L]at B k D⊢;clear L;have cm:=B;have bH:=Z (aK k cj);have bI:=Z (aK k ck);have cB:=bJ cl k.size;have bK:=D;refine oM (i:=3) (j:=9) (oi:=?aL) (oj:=?aN) am ?aO ?aR ?aS ?aT ?aW ?aY
  case aO=>simp only[be,bf,bg];rfl
  case aR=>rfl
  case aS=>simp only[be,bf,bg];rfl
  case aT=>rfl
  case aW=>
   intro K A;have k:=Z (ju bK (m:=1) rfl);have B:=aa.lt bK;have cC:=Z (ky bI bH au);refine di V (.tmp 27) (.tmp 29) 60 rfl d.heap.size 3 a4 _ 1 8 underlying60 a5 a6 a7 a8 rfl au (O E c F) c (y.flatMap bU) rfl bH (z.heap.size+1) (some ⟨z.heap.size,0,none⟩) 1 1 ((_:aQ).toList) rfl k bw cc af af ?_;intro cD ab P G bL;obtain⟨cE,cF,rfl,bM⟩:=bv P;have B:=Z P;have k:=Z G;clear P G bL bM;have cn:=Z (cm.grown k (λD G=>.inr (Y D G).1));refine A _ _ (λ_=>g _ cn) ?_;refine aw ?_;have cG:=B;have cI:=Z (kx bI k (λB D e=>cC B e D));have k:=bJ cB k.size;refine aM 9 (λK A=>?_);go_simp;have k:=Z (cn.alloc (.cells #[n,o,O t u w,p,q,r] 111));refine A _ _ (λ_=>g _ k) ?_;refine aw ?_;have B:=Z ((ag.refl ab).alloc (.cells #[n,o,O t u w,p,q,r] 111));have D:=Z (aa.new ab 111 #[n,o,O t u w,p,q,r]);obtain⟨M,L⟩:=av (ab.alloc (.cells #[n,o,O t u w,p,q,r] 111));rw[<-L]at k B D⊢;clear L;have cK:=k;have co:=Z (aK B cG);have k:=Z (aK B cI);have B:=D;refine aM 10 (λK A=>?_);have D:=Z (ju B (m:=6) rfl);have B:=aa.lt B;have cL:=Z (ky co k au);refine di M (.tmp 31) (.tmp 36) 79 rfl d.heap.size 111 a9 _ 6 80 underlying79 bb bd bh bi rfl au (O I c J) c (C.flatMap RA.cells) rfl k (ab.heap.size+1) (some ⟨ab.heap.size,0,none⟩) 1 1 ((_:aQ).toList) rfl D bw cc af af ?_;intro cD cM P G bL;obtain⟨cN,cO,rfl,bM⟩:=bv P;have B:=Z P;have k:=Z G;clear P G bL bM;have H:=Z (cK.grown k (λD G=>.inr (bG D G).1));refine A _ _ (λ_=>g _ H) ?_;refine aw ?_;have cQ:=B;have cR:=Z (kx co k (λk B e=>cL k e B));have k:(λw':World=>ae w' (ac ba (f+b*6)) n/\ae w' (ac ba (f+b*6+1)) o/\ae w' (ac ba (f+b*6+2)) (O t u w)/\ae w' (ac ba (f+b*6+3)) p/\ae w' (ac ba (f+b*6+4)) q/\ae w' (ac ba (f+b*6+5)) r) cM:=⟨(g _ H).1,(g _ H).2.1,(g _ H).2.2.1,(g _ H).2.2.2.1,(g _ H).2.2.2.2.1,(g _ H).2.2.2.2.2⟩;refine tk 11 k ?_;refine tk 12 k ?_;refine gS am ?_ _;go_wp2_with fail
   go_roundg (l.length-c)
   case measure=>have:=S.out;omega
   refine⟨c+1,y++[(b:Int)],C++[(⟨⟨n,o,bz,⟨p,q,r⟩⟩,⟨t,u,w⟩⟩:RA)],cE,cF,cN,cO,by go_num,rfl,rfl,by omega,omg S,by rw[List.length_append,T.out];rfl,by rw[List.length_append,U.out];rfl,Z ?_,Z ?_,Z ?_,H,aZ⟩
   ·rw[List.flatMap_append];exact cR.out
   ·rw[List.flatMap_append];exact cQ.out
   intro x ad;rcases cP ad with ad|ad
   ·exact R x ad
   rw[aC ad];exact a0.out
  intro K A;go_simp;have B:=Z (cm.alloc (.cells #[n,o,O t u w,p,q,r] 111));refine A _ _ (λ_=>g _ B) ?_;refine aw ?_;have k:=Z ((ag.refl V).alloc (.cells #[n,o,O t u w,p,q,r] 111));have D:=Z (aa.new V 111 #[n,o,O t u w,p,q,r]);obtain⟨M,L⟩:=av (V.alloc (.cells #[n,o,O t u w,p,q,r] 111));rw[<-L]at B k D⊢;clear L;have cC:=B;have B:=Z (aK k bH);have bM:=Z (aK k bI);have k:=qb k bK;have cD:=D;refine aM 3 (λK A=>?_);have D:=Z (ju k (m:=1) rfl);have k:=aa.lt k;have cE:=Z (ky bM B au);refine di M (.tmp 27) (.tmp 29) 60 rfl d.heap.size 3 a4 _ 1 8 underlying60 a5 a6 a7 a8 rfl au (O E c F) c (y.flatMap bU) rfl B (z.heap.size+1) (some ⟨z.heap.size,0,none⟩) 1 1 ((_:aQ).toList) rfl D bw cc af af ?_;intro cF cG P G ad;obtain⟨cI,cK,rfl,bL⟩:=bv P;have B:=Z P;have k:=Z G;clear P G ad bL;have cn:=Z (cC.grown k (λD G=>.inr (Y D G).1));refine A _ _ (λ_=>g _ cn) ?_;refine aw ?_;have co:=B;have B:=Z (kx bM k (λB D e=>cE B e D));have k:=Z (aa.grown cD k (λe=>by have:=Y _ e.symm;omega));refine aM 10 (λK A=>?_);have D:=Z (ju k (m:=6) rfl);have k:=aa.lt k;have cL:=Z (ky co B au);refine di cG (.tmp 31) (.tmp 36) 79 rfl d.heap.size 111 a9 _ 6 80 underlying79 bb bd bh bi rfl au (O I c J) c (C.flatMap RA.cells) rfl B (V.heap.size+1) (some ⟨V.heap.size,0,none⟩) 1 1 ((_:aQ).toList) rfl D bw cc af af ?_;intro cF cM P G ad;obtain⟨cN,cO,rfl,bL⟩:=bv P;have B:=Z P;have k:=Z G;clear P G ad bL;have H:=Z (cn.grown k (λD G=>.inr (bG D G).1));refine A _ _ (λ_=>g _ H) ?_;refine aw ?_;have cQ:=B;have cR:=Z (kx co k (λk A e=>cL k e A));have k:(λw':World=>ae w' (ac ba (f+b*6)) n/\ae w' (ac ba (f+b*6+1)) o/\ae w' (ac ba (f+b*6+2)) (O t u w)/\ae w' (ac ba (f+b*6+3)) p/\ae w' (ac ba (f+b*6+4)) q/\ae w' (ac ba (f+b*6+5)) r) cM:=⟨(g _ H).1,(g _ H).2.1,(g _ H).2.2.1,(g _ H).2.2.2.1,(g _ H).2.2.2.2.1,(g _ H).2.2.2.2.2⟩;refine tk 11 k ?_;refine tk 12 k ?_;refine gS am ?_ _;go_wp2_with fail
  go_roundg (l.length-c)
  case measure=>have:=S.out;omega
  refine⟨c+1,y++[(b:Int)],C++[(⟨⟨n,o,bz,⟨p,q,r⟩⟩,⟨t,u,w⟩⟩:RA)],cI,cK,cN,cO,by go_num,rfl,rfl,by omega,omg S,by rw[List.length_append,T.out];rfl,by rw[List.length_append,U.out];rfl,Z ?_,Z ?_,Z ?_,H,aZ⟩
  ·rw[List.flatMap_append];exact cR.out
  ·rw[List.flatMap_append];exact cQ.out
  intro x ab;rcases cP ab with ab|ab
  ·exact R x ab
  rw[aC ab];exact a0.out
 intro K H;go_simp;have B:=Z (ci.alloc (.cells #[n,o,O t u w,p,q,r] 111));refine H _ _ (λ_=>g _ B) ?_;refine aw ?_;have k:=Z ((ag.refl z).alloc (.cells #[n,o,O t u w,p,q,r] 111));have D:=Z (aa.new z 111 #[n,o,O t u w,p,q,r]);obtain⟨V,L⟩:=av (z.alloc (.cells #[n,o,O t u w,p,q,r] 111));rw[<-L]at B k D⊢;clear L;have bM:=B;have cm:=Z (aK k cj);have cn:=Z (aK k ck);have k:=bJ cl k.size;have co:=D;refine aM 2 (λK H=>?_);go_simp;have B:=Z (bM.alloc (.cells #[(b:Int)] 3));refine H _ _ (λ_=>g _ B) ?_;refine aw ?_;have k:=Z ((ag.refl V).alloc (.cells #[(b:Int)] 3));have D:=Z (aa.new V 3 #[(b:Int)]);obtain⟨M,L⟩:=av (V.alloc (.cells #[(b:Int)] 3));rw[<-L]at B k D⊢;clear L;have cB:=B;have B:=Z (aK k cm);have bI:=Z (aK k cn);have cC:=qb k co;have k:=D;refine aM 3 (λK H=>?_);have D:=Z (ju k (m:=1) rfl);have k:=aa.lt k;have cD:=Z (ky bI B au);refine di M (.tmp 27) (.tmp 29) 60 rfl d.heap.size 3 a4 _ 1 8 underlying60 a5 a6 a7 a8 rfl au (O E c F) c (y.flatMap bU) rfl B (V.heap.size+1) (some ⟨V.heap.size,0,none⟩) 1 1 ((_:aQ).toList) rfl D bw cc af af ?_;intro cE cF P A ad;obtain⟨cG,cI,rfl,bH⟩:=bv P;have B:=Z P;have k:=Z A;clear P A ad bH;have bK:=Z (cB.grown k (λD A=>.inr (Y D A).1));refine H _ _ (λ_=>g _ bK) ?_;refine aw ?_;have bL:=B;have B:=Z (kx bI k (λB D e=>cD B e D));have k:=Z (aa.grown cC k (λe=>by have:=Y _ e.symm;omega));refine aM 10 (λK H=>?_);have D:=Z (ju k (m:=6) rfl);have k:=aa.lt k;have cK:=Z (ky bL B au);refine di cF (.tmp 31) (.tmp 36) 79 rfl d.heap.size 111 a9 _ 6 80 underlying79 bb bd bh bi rfl au (O I c J) c (C.flatMap RA.cells) rfl B (z.heap.size+1) (some ⟨z.heap.size,0,none⟩) 1 1 ((_:aQ).toList) rfl D bw cc af af ?_;intro cE cL P A ad;obtain⟨cM,cN,rfl,bH⟩:=bv P;have k:=Z P;have d:=Z A;clear P A ad bH;have G:=Z (bK.grown d (λz A=>.inr (bG z A).1));refine H _ _ (λ_=>g _ G) ?_;refine aw ?_;have cO:=k;have cQ:=Z (kx bL d (λd k e=>cK d e k));have d:(λw':World=>ae w' (ac ba (f+b*6)) n/\ae w' (ac ba (f+b*6+1)) o/\ae w' (ac ba (f+b*6+2)) (O t u w)/\ae w' (ac ba (f+b*6+3)) p/\ae w' (ac ba (f+b*6+4)) q/\ae w' (ac ba (f+b*6+5)) r) cL:=⟨(g _ G).1,(g _ G).2.1,(g _ G).2.2.1,(g _ G).2.2.2.1,(g _ G).2.2.2.2.1,(g _ G).2.2.2.2.2⟩;refine tk 11 d ?_;refine tk 12 d ?_;refine gS am ?_ _;go_wp2_with fail
 go_roundg (l.length-c)
 case measure=>have:=S.out;omega
 refine⟨c+1,y++[(b:Int)],C++[(⟨⟨n,o,bz,⟨p,q,r⟩⟩,⟨t,u,w⟩⟩:RA)],cG,cI,cM,cN,by go_num,rfl,rfl,by omega,omg S,by rw[List.length_append,T.out];rfl,by rw[List.length_append,U.out];rfl,Z ?_,Z ?_,Z ?_,G,aZ⟩
 ·rw[List.flatMap_append];exact cQ.out
 ·rw[List.flatMap_append];exact cO.out
 intro x ab;rcases cP ab with ab|ab
 ·exact R x ab
 rw[aC ab];exact a0.out
inductive aD where
 |mk (kind table:Int) (hk:Hd) (kids:List aD) (ht:Hd) (tests:List cG) (hc:Hd) (cQ:List Int) (col agg:Int) (ha:Hd) (attrs:List RA)
def aD.cells:aD->List Value
 |.mk kind table hk _ ht _ hc _ col agg ha _=>[.int .i64 kind,.int .i64 table,hk.val,ht.val,hc.val,.int .i64 col,.int .i64 agg,ha.val]
def aD.ha:aD->Hd
 |.mk _ _ _ _ _ _ _ _ _ _ ha _=>ha
def aD.attrs:aD->List RA
 |.mk _ _ _ _ _ _ _ _ _ _ _ l=>l
mutual
def aD.pl:aD->Pl
 |.mk kind table _ kids _ tests _ cQ col agg _ attrs=>.mk kind table (aD.aO kids) tests cQ col agg (attrs.map RA.at_)
def aD.aO:List aD->List Pl
 |[]=>[]
 |r::l=>r.pl::aD.aO l
end
theorem wT {c:ah} {d:Nat} {e:aX} {f n b g:Nat} {i:aU} {l:aP} (h:c.ownsRow d e f (O i n b) g l):n<=b:=by
 rcases h.2 with⟨a,_⟩|⟨j,k,m,a,_,_,o,_⟩
 ·injection a;omega
 injection a;omega
inductive dL (w:ah) (S:Nat->Prop):aD->Prop where
 |mk {kind table:Int} {hk:Hd} {kids:List aD} {ht:Hd} {tests:List cG} {hc:Hd} {cQ:List Int} {col agg:Int} {ha:Hd} {attrs:List RA}
  (lk:aE w 8 hk aD.cells kids) (ik:bc S hk) (sub:∀k∈kids,dL w S k) (lt:aE w 12 ht cG.cells tests) (it:bc S ht) (lc:cY w hc cQ) (ic:bc S hc) (ra:gu w S ha attrs) (cg:kind=8->ha.n<=ha.c:=by simp):dL w S (.mk kind table hk kids ht tests hc cQ col agg ha attrs)
theorem dL.mono {w:ah} {S S':Nat->Prop} {r:aD} (a:dL w S r) (b:∀c,S c->S' c):dL w S' r:=by
 induction a with
 |mk d e n f g i j k l m=>exact .mk d (e.mono b) (λc d=>m c d) f (g.mono b) i (j.mono b) (k.mono b) l
theorem dL.keep {w c:ah} {S:Nat->Prop} {d:aD} (i:dL w S d) {l:List Nat} (k:Kp l w c) (b:∀a∈l,¬S a):dL c S d:=by
 induction i with
 |mk j e r m f n g o p q=>exact .mk (j.kp k (λa c d i=>b a i (e a c d))) e (λc d=>q c d) (m.kp k (λa c d e=>b a e (f a c d))) f (n.kp k (λa c d e=>b a e (g a c d))) g (o.keep k b) p
theorem aD.len (a:aD):a.cells.length=8:=by cases a;rfl
theorem aD.gY (l:List aD):aD.aO l=l.map aD.pl:=by
 induction l with
 |nil=>rfl
 |cons b l a=>rw[aD.aO,a];rfl
theorem aD.EE (a:aD):a.pl.attrs=a.attrs.map RA.at_:=by cases a;rfl
theorem dL.res {b:ah} {S:Nat->Prop} {a:aD} (c:dL b S a):gu b S a.ha a.attrs:=by
 cases c with
 |mk e f g i j k l d m=>exact d
theorem jC (l:List aD) (a:Nat) (h:a<l.length):bH (aD.aO l) a=l[a].attrs.map RA.at_:=by
 rw[aD.gY];unfold bH;simp[h,aD.EE]
theorem jD {e:ah} {h:Hd} {l:List aD} (f:aE e 8 h aD.cells l) (b:Nat) (g:b<l.length):∃c d,h.a=some ⟨c,d,none⟩/\c<e.heap.size/\e.cell? (ac c (d+b*8+7))=some l[b].ha.val:=by
 obtain⟨c,d,e,f,g⟩:=f.2.2 b g;refine⟨c,d,e,f,g 7 _ ?_⟩;cases l[b];rfl
structure iP (w:ah) (X P lo:Nat) (h:Hd) (ts:List RT) (hk:Hd) (kids:List aD) (hc:Hd) (conds:List bm) (hn:Hd) (names:bk) (at_:Int):Prop where
 hX:X<w.heap.size
 xp:X<P
 kz:P<lo
 lw:lo<=w.heap.size
 c0:ae w (ac X 0) h.val
 c8:ae w (ac X 8) at_
 ta:∀W,Kp [P] w W->bI W h ts
 lk:aE w 8 hk aD.cells kids
 ik:bc (Bw lo w.heap.size) hk
 sub:∀k∈kids,dL w (Bw lo w.heap.size) k
 lc:∀W,Kp [P] w W->aE W 14 hc bm.cells conds
 ln:∀W,Kp [P] w W->b5 W hn names
 l5:names.length<=5001
def iQ (b c:Nat) (p:Pl) (v:aA) (w:ah):Prop:=v=.tuple #[]/\∃a:aD,a.pl=p/\aa w b 105 a.cells.toArray/\dL w (Bw c w.heap.size) a
def ph:List (Value×Value):=[(.int .i64 1,.int .i64 0),(.int .i64 2,.int .i64 1),(.int .i64 3,.int .i64 1),(.int .i64 4,.int .i64 2),(.int .i64 5,.int .i64 2),(.int .i64 6,.int .i64 2),(.int .i64 7,.int .i64 1),(.int .i64 8,.int .i64 1)]
theorem wU {b:ah} {d:Nat} (h:cR (.int .i64) b d ph) (c:Int):
 (ey c=none/\(Instr.lookup 341 (.map (some d)) c true).run prog b=.ok (.tuple #[J 0,.bool false]) b)\/
 ∃f:Nat,ey c=some f/\(Instr.lookup 341 (.map (some d)) c true).run prog b=.ok (.tuple #[(f:Int),.bool true]) b:=by
 rcases h.look (P:=prog) (T:=341) underlying341 underlying3 (J 0) zeroValue3 c rfl with⟨e,a⟩|⟨i,j,e,a⟩
 ·refine .inl ⟨?_,a true⟩
  simp[ph]at e;unfold ey;rw[if_neg af,if_neg af,if_neg af]
 refine .inr ?_;have g:=List.mem_of_getElem? e;simp[ph]at g;rcases g with⟨rfl,rfl⟩|⟨rfl,rfl⟩|⟨rfl,rfl⟩|⟨rfl,rfl⟩|⟨rfl,rfl⟩|⟨rfl,rfl⟩|⟨rfl,rfl⟩|⟨rfl,rfl⟩
 ·exact⟨0,rfl,a true⟩
 ·exact⟨1,rfl,a true⟩
 ·exact⟨1,rfl,a true⟩
 ·exact⟨2,rfl,a true⟩
 ·exact⟨2,rfl,a true⟩
 ·exact⟨2,rfl,a true⟩
 ·exact⟨1,rfl,a true⟩
 exact⟨1,rfl,a true⟩
def km (k:Nat):Array MapEntry:=(([(0:Int),1,1,2,2,2,1,1].take k).zipIdx.map λ(b,a)=>(⟨.int .i64 (a+1:Nat),.int .i64 b,a⟩:MapEntry)).toArray
theorem kA (a:ah):(Instr.mapUpdate 341 (.map (some a.heap.size)) (J 1) (J 0)).run prog (a.alloc (.map #[] 0))=.ok () (a.alloc (.map (km 1) 1)):=
 d0 (P:=prog) (T:=341) underlying341 underlying3 a #[] 0 _ _ rfl rfl
theorem kB (a:ah):(Instr.mapUpdate 341 (.map (some a.heap.size)) (J 2) (J 1)).run prog (a.alloc (.map (km 1) 1))=.ok () (a.alloc (.map (km 2) 2)):=
 d0 (P:=prog) (T:=341) underlying341 underlying3 a (km 1) 1 _ _ rfl rfl
theorem kC (a:ah):(Instr.mapUpdate 341 (.map (some a.heap.size)) (J 3) (J 1)).run prog (a.alloc (.map (km 2) 2))=.ok () (a.alloc (.map (km 3) 3)):=
 d0 (P:=prog) (T:=341) underlying341 underlying3 a (km 2) 2 _ _ rfl rfl
theorem kD (a:ah):(Instr.mapUpdate 341 (.map (some a.heap.size)) (J 4) (J 2)).run prog (a.alloc (.map (km 3) 3))=.ok () (a.alloc (.map (km 4) 4)):=
 d0 (P:=prog) (T:=341) underlying341 underlying3 a (km 3) 3 _ _ rfl rfl
theorem kE (a:ah):(Instr.mapUpdate 341 (.map (some a.heap.size)) (J 5) (J 2)).run prog (a.alloc (.map (km 4) 4))=.ok () (a.alloc (.map (km 5) 5)):=
 d0 (P:=prog) (T:=341) underlying341 underlying3 a (km 4) 4 _ _ rfl rfl
theorem kF (a:ah):(Instr.mapUpdate 341 (.map (some a.heap.size)) (J 6) (J 2)).run prog (a.alloc (.map (km 5) 5))=.ok () (a.alloc (.map (km 6) 6)):=
 d0 (P:=prog) (T:=341) underlying341 underlying3 a (km 5) 5 _ _ rfl rfl
theorem kG (a:ah):(Instr.mapUpdate 341 (.map (some a.heap.size)) (J 7) (J 1)).run prog (a.alloc (.map (km 6) 6))=.ok () (a.alloc (.map (km 7) 7)):=
 d0 (P:=prog) (T:=341) underlying341 underlying3 a (km 6) 6 _ _ rfl rfl
theorem kH (a:ah):(Instr.mapUpdate 341 (.map (some a.heap.size)) (J 8) (J 1)).run prog (a.alloc (.map (km 7) 7))=.ok () (a.alloc (.map (km 8) 8)):=
 d0 (P:=prog) (T:=341) underlying341 underlying3 a (km 7) 7 _ _ rfl rfl
theorem kI (a:ah):cR (.int .i64) (a.alloc (.map (km 8) 8)) a.heap.size ph:=⟨(km 8),8,fK _ _,rfl,(List.forall_mem_cons.2 ⟨rfl,(List.forall_mem_cons.2 ⟨rfl,(List.forall_mem_cons.2 ⟨rfl,(List.forall_mem_cons.2 ⟨rfl,(List.forall_mem_cons.2 ⟨rfl,(List.forall_mem_cons.2 ⟨rfl,(List.forall_mem_cons.2 ⟨rfl,(List.forall_mem_cons.2 ⟨rfl,(λ_ h=>by cases h)⟩)⟩)⟩)⟩)⟩)⟩)⟩)⟩)⟩
theorem lx {b:ah} {c:Nat} (h:cR (.int .i64) b c ph) {k:Int} {n:Nat} (d:ey k=some n):(Instr.lookup 341 (.map (some c)) k true).run prog b=.ok (.tuple #[(n:Int),.bool true]) b:=by
 rcases wU h k with⟨a,_⟩|⟨e,a,f⟩
 ·rw[d]at a;cases a
 have a:n=e:=Option.some.inj (d.symm.trans a);rw[a];exact f
theorem lz {w:ah} {b m n c:Nat} {d:aX} {a:aU} {e:aP} (f:w.ownsRow b d m (O a n c) n e):bc (Bw b w.heap.size) ⟨a,n,c⟩:=by
 intro b c d;have a:a=some ⟨b,c,none⟩:=d;exact b2 f b (by rw[a];rfl)
theorem lA {c:ah} {g n d:Nat} {e:aU} {b:List RA} (i:c.ownsRow g 111 6 (O e n d) n (b.flatMap RA.cells)) (j:b.length=n) (k:b.length<=10000) (f:∀a∈b,gX a/\aJ a.at_.name/\aJ a.at_.dflt.s):
 gu c (Bw g c.heap.size) ⟨e,n,d⟩ b:=
 ⟨⟨cJ (h:=⟨e,n,d⟩) RA.wR j (by show n<=_;omega) i,λa b=>⟨qL c (f a b).1,(f a b).2⟩⟩,lz i,(λa b=>(f a b).1),k⟩
theorem gu.bare {c:ah} {f:Nat->Prop} {h:Hd} {d:List RA} (e:gu c f h d):∀c∈d,gX c/\aJ c.at_.name/\aJ c.at_.dflt.s:=λc d=>⟨e.b c d,(e.a.2 c d).2⟩
theorem RA.EQ (a:RA):∀v∈a.cells,v.oneCell'=true:=by
 exact xd
theorem xe (h:Hd) (l:List RA) (a:ah) (e:fp a h l) (c:l.length<=10000):
 Calls prog 53 #[h.val] a λg c=>∃f b,g=.returned (O f l.length b)/\ag a c/\c.ownsRow a.heap.size 111 6 (O f l.length b) l.length (l.flatMap RA.cells):=by
 have f:l.length=h.n:=e.1.1;refine(wV h RA.cells RA.eV RA.EQ l a e.1 af).mono ?_;rintro a c (⟨rfl,rfl,d⟩|⟨b,j,rfl,d,i⟩)
 ·exact⟨none,0,rfl,d,rfl,.inl ⟨rfl,rfl⟩⟩
 exact⟨_,b,rfl,d,i⟩
theorem ER {e:ah} {j d n k b:Nat} {a:List RA} (o:e.ownsRow j 111 6 (O (some ⟨d,0,none⟩) n k) n (a.flatMap RA.cells)) (f:a.length=n) (g:a.length<=10000) (l:∀c∈a,gX c/\aJ c.at_.name/\aJ c.at_.dflt.s)
 (m:b<a.length) {nm:ax} (p:aJ nm):∃g:List RA,g.length=n/\g.map RA.at_=(a.map RA.at_).modify b (λq=>{q with name:=nm})/\
  gu (e.setCell (ac d (b*6)) nm) (Bw j (e.setCell (ac d (b*6)) nm).heap.size) ⟨some ⟨d,0,none⟩,n,k⟩ g:=by
 obtain⟨d,i⟩:∃d:RA,d=⟨{a[b].at_ with name:=nm},a[b].h⟩:=⟨_,rfl⟩;have e:=nE RA.eV o f b af 0 af nm d (by rw[i];rfl);refine⟨a.set b d,by simp[f],sK a b m d _ (by rw[i]),lA e (by simp[f]) aF ?_⟩;intro c r;rcases List.mem_or_eq_of_mem_set r with h|h
 ·exact l c h
 rw[h,i];have:=l _ (List.getElem_mem m);exact⟨this.1,p,this.2.2⟩
theorem ES (h:Hd) (l:bk) (a:ah) (e:b5 a h l) (f:l.length<=1000000000):
 Calls prog 257 #[h.val] a λg c=>∃f b,g=.returned (O f l.length b)/\ag a c/\c.ownsRow a.heap.size 9 1 (O f l.length b) l.length (l.flatMap cq):=by
 have f:l.length=h.n:=e.1.1;refine(wX h cq (λ_=>rfl) (λf f d=>by simp[cq]at d;subst d;rfl) l a e.1 af).mono ?_;rintro a c (⟨rfl,rfl,d⟩|⟨b,j,rfl,d,i⟩)
 ·exact⟨none,0,rfl,d,rfl,.inl ⟨rfl,rfl⟩⟩
 exact⟨_,b,rfl,d,i⟩
theorem xf {a:ah} {b b' m n:Nat} {c:aX} {v:aA} {xs:aP} (d:a.ownsRow b c m v n xs) (h:b'<=b):a.ownsRow b' c m v n xs:=by
 refine⟨d.1,?_⟩;rcases d.2 with e|⟨f,g,i,j,k,l⟩
 ·exact .inl e
 exact .inr ⟨f,g,i,j,bJ h k,l⟩
def lB (b:List Tb):Prop:=∀a∈b,a.attrs.length<=10000/\∀b∈a.attrs,b.was.length<=1000000
def jE (a:ah) (b:Nat):Prop:=∀c d,a.cell? (ac b c)≠some (.string d)
theorem aE.iR {e:Type} {w f:ah} {m a:Nat} {h:Hd} {enc:e->List Value} {c:List e} (l:aE w m h enc c) (d:∀x∈c,∃g,(enc x)[0]?=some (.string g)) (o:jE w a) (k:Kp [a] w f):aE f m h enc c:=by
 refine⟨l.1,l.2.1,λi n=>?_⟩;obtain⟨b,off,ha,hb,hc⟩:=l.2.2 i n;have hne:b≠a:=by
  rintro rfl;obtain⟨g,d⟩:=d _ (List.getElem_mem n);exact o _ _ (hc 0 _ d)
 exact xg
def g0 (a:Nat) (b:List RT):Prop:=∀c∈b,bc (λb=>b≠a) c.hk
theorem bI.iR {w f:ah} {b:Nat} {h:Hd} {c:List RT} (a:bI w h c) (e:jE w b) (i:g0 b c) (d:Kp [b] w f):bI f h c:=
 ⟨a.1.iR (λb _=>⟨b.name,rfl⟩) e d,λb c=>⟨⟨(a.2 b c).1.1.iR (λf _=>⟨f.at_.name,rfl⟩) e d,λf g=>⟨⟨((a.2 b c).1.2 f g).1.1.iR (λj _=>⟨j,rfl⟩) e d,((a.2 b c).1.2 f g).1.2⟩,((a.2 b c).1.2 f g).2⟩⟩,
  (a.2 b c).2.1.kp d (λd e f g=>i b c d e f (aC g)),(a.2 b c).2.2⟩⟩
def gJ (w:ah) (a:Nat) (h:Hd) (u:aP):Prop:=∃b:Int,aa w a 157 (h.val::(u++[.int .i64 b])).toArray
structure nG (u:aP):Prop where
 n:u.length=7
 s:∀v∈u,∀s,v≠.string s
theorem gJ.hV {w:ah} {c:Nat} {h:Hd} {u:aP} (b:gJ w c h u) (e:nG u):jE w c:=by
 obtain⟨f,b⟩:=b;intro g d c;rw[aa.cell b g]at c;have i:Value.string d∈(h.val::(u++[.int .i64 f])):=List.mem_of_getElem? (by simpa using c);rcases de i with a|a
 ·cases a
 rcases cP a with a|a
 ·exact e.s _ a d rfl
 rw[List.mem_singleton]at a;cases a
structure jF (w:ah) (X Bf Bv:Nat) (h:Hd) (ts:List RT) (u:aP) (S:Nat->Prop):Prop where
 bx:gJ w X h u
 us:nG u
 hf:Bf<w.heap.size
 cf:ae w (ac Bf 0) (.func (.func 200) #[] #[ak Bf,ak Bv])
 hv:Bv<w.heap.size
 cv:ae w (ac Bv 0) (ak X)
 nf:Bf≠X
 nv:Bv≠X
 ta:bI w h ts
 ko:g0 X ts
 fa:lB (ts.map RT.tb)
 sx:¬S X
 sl:∀b,S b->b<w.heap.size
theorem jF.kp {w b:ah} {X c d:Nat} {h:Hd} {e:List RT} {u:aP} {S:Nat->Prop} (a:jF w X c d h e u S) (k:Kp [X] w b) (f:gJ b X h u):jF b X c d h e u S:=
 ⟨f,a.us,aV a.hf k.size,(k.cell (p:=(ac c 0)) a.hf (by simpa using a.nf)).trans a.cf,aV a.hv k.size,(k.cell (p:=(ac d 0)) a.hv (by simpa using a.nv)).trans a.cv,a.nf,a.nv,
  a.ta.iR (a.bx.hV a.us) a.ko k,a.ko,a.fa,a.sx,λb c=>aV (a.sl b c) k.size⟩
theorem jF.hX {w:ah} {a b c:Nat} {h:Hd} {d:List RT} {u:aP} {S:Nat->Prop} (e:jF w a b c h d u S):a<w.heap.size:=by
 obtain⟨_,a⟩:=e.bx;exact a.lt
def nH {c:Type} (w:ah) (d:Nat) (h:Hd) (u:aP) (f:RO c) (V:c->Value->World->Prop) (e:Ending) (b:ah):Prop:=
 Kp [d] w b/\gJ b d h u/\match f with
  |.bad er a=>e=.panicked [{v:=fD er a,recovered:=false}]
  |.ok a=>∃c,e=.returned c/\V a c b
def pk (b:Nat) (p:Pl×Int) (v:aA) (w:ah):Prop:=∃a:aD,a.pl=p.1/\v=.tuple #[.agg a.cells.toArray,p.2]/\dL w (Bw b w.heap.size) a
theorem xh {g j:Type} {w o:ah} {c:Nat} {h:Hd} {u:aP} {k:FuncId} {l:aQ} {i:RO j} {F:g->RO j} {V:g->Value->World->Prop} {d:RO g} {g:Ending->World->Prop} (j:Kp [c] o w) (e:i=d.bind F)
 (o:Calls prog k l w λj b=>nH w c h u d V j b)
 (p:∀er a b,Hid (i=.bad er a)->Hid (Kp [c] w b)->Hid (gJ b c h u)->g (.panicked [{v:=fD er a,recovered:=false}]) b)
 (q:∀a v b,d=.ok a->Hid (i=F a)->V a v b->Hid (Kp [c] w b)->Hid (gJ b c h u)->g (.returned v) b):Calls prog k l w g:=by
 refine o.mono ?_;rintro j b ⟨m,n,f⟩;cases hq:d with
 |bad er a=>
  rw[hq]at f e;subst f;exact p er a b (Z e) (Z m) (Z n)
 |ok a=>
  rw[hq]at f e;obtain⟨v,rfl,r⟩:=f;exact q a v b hq (Z e) r (Z m) (Z n)
theorem sL (a:List Tb):∀(b:List Ex) (c:List Pl×Int),eQ a b=.ok c->1<=c.2
 |[],c,h=>by
  rw[eQ]at h;injection h with h
  rw[<-h];decide
 |e::b,c,h=>by
  rw[eQ]at h;cases h1:fZ a e with
  |bad d f=>rw[h1]at h;cases h
  |ok d=>
   rw[h1]at h;cases h2:eQ a b with
   |bad g i=>
    have f:(eQ a b).bind (λf=>RO.ok (d.1::f.1,max (d.2+1) f.2))=.ok c:=h;rw[h2]at f;cases f
   |ok f=>
    have g:(eQ a b).bind (λf=>RO.ok (d.1::f.1,max (d.2+1) f.2))=.ok c:=h;rw[h2]at g;injection g with g
    have a:=sL a b f h2;rw[<-g];show 1<=max (d.2+1) f.2;omega
theorem ET {b:List Tb} {e:Ex} {p:Pl×Int} (h:fZ b e=.ok p):1<=p.2/\p.2<=12:=by
 cases e with
 |mk f g i j k l m n d=>
  rw[fZ]at h;cases h1:eQ b i with
  |bad a c=>rw[h1]at h;cases h
  |ok c=>
   rw[h1]at h;have o:=sL b i c h1;have a:RO.ap (decide (c.2<=12)) 3 d ((cy b f g j k l m n d c.1).bind λa=>RO.ok (a,c.2))=.ok p:=h;unfold RO.ap at a;split at a
   ·rename_i q
    cases h3:cy b f g j k l m n d c.1 with
    |bad r s=>rw[h3]at a;cases a
    |ok r=>
     rw[h3]at a;injection a with a
     rw[<-a];exact⟨o,by simpa using q⟩
   cases a
theorem EU (b:List Tb) {d:Type} (c:List Ex) (F:List Pl×Int->RO d):(eQ b c).bind F=(eQ b c).bind λa=>F (a.1,max 1 a.2):=by
 cases h:eQ b c with
 |bad e f=>rfl
 |ok a=>
  have b:=sL b c a h;show F a=F (a.1,max 1 a.2);rw[Int.max_eq_right b]
theorem EV (b:List Tb) {a:Type} (d:Ex) (e:List Ex) (l:List Pl) (c:Int) (F:List Pl×Int->RO a):
 (eQ b (d::e)).bind (λa=>F (l++a.1,max c a.2))=(fZ b d).bind λp=>(eQ b e).bind λa=>F ((l++[p.1])++a.1,max (max c (p.2+1)) a.2):=by
 rw[eQ,RO.bind_assoc];congr 1
 funext p
 rw[RO.bind_assoc];congr 1
 funext a
 show F (l++p.1::a.1,max c (max (p.2+1) a.2))=_;rw[List.append_assoc,Int.max_assoc];rfl
theorem EW (b:List Tb) (d:ax) (e:List bm) (f:bk) (g i:ax) (j c:Int) (a:List Pl):cy b 1 d e f g i j c a=RO.ap (decide (a.length=0)) 1 c ((d1 b c d).bind λc=>.ok (.mk 1 c a [] [] 0 0 ((dB b c).attrs.map iy))):=by
 have h:decide (ey 1=some a.length)=decide (a.length=0):=by
  have:ey 1=some 0:=rfl;rw[this];simp only[Option.some.injEq];by_cases b:a.length=0
  ·simp[b]
  have a:¬0=a.length:=λa=>b a.symm;simp[b,a]
 unfold cy;rw[h];rfl
theorem EX (B c aV:Nat) (h:Hd) (x:List RT) (W:ax) (cG a7:Hd) (i:List aD) (bO:Hd) (bP:List bm) (bQ:Hd) (bR:bk) (a8 aW:ax) (a9 at_:Int) (f:ah) (fg:aJ aW) (cH:lB (x.map RT.tb))
 (bS:aa f c 105 #[J 1,J 0,a7.val,ab,ab,J 0,J 0,ab]) (I:iP f B c aV h x a7 i bO bP bQ bR at_):
 Calls prog 201 #[ak B,.agg #[J 1,W,cG.val,bO.val,bQ.val,a8,aW,a9,at_],ak c] f
  λe w'=>RP [c] f (cy (x.map RT.tb) 1 W bP bR a8 aW a9 at_ (aD.aO i)) (iQ c aV) e w':=by
 obtain⟨bT,X,bU⟩:=h;obtain⟨ad,cI,al⟩:=a7;obtain⟨cJ,cK,cL⟩:=cG;obtain⟨cM,cN,cQ⟩:=bO;obtain⟨cR,cS,cT⟩:=bQ;have R:=Z I;have dF:i.length=cI:=I.lk.1;have bO:cI<=9223372036854775807:=I.lk.2.1;have bO:x.length=X:=(I.ta f (Kp.refl _ f)).1.1;have bO:X<=9223372036854775807:=(I.ta f (Kp.refl _ f)).1.2.1;subst dF;have bO:=I.hX;have bQ:=I.xp;have bQ:=I.kz;have bQ:=I.lw;have cG:=bS.lt;have dG:=Z bS;obtain⟨T,bP⟩:∃T,T=cy (x.map RT.tb) 1 W bP bR a8 aW a9 at_ (aD.aO i):=⟨_,rfl⟩;rw[<-bP];have bQ:(aD.aO i).length=i.length:=by rw[aD.gY,List.length_map]
 have br:=Z (show T=RO.ap (decide (i.length=0)) 1 at_ ((d1 (x.map RT.tb) at_ W).bind λa=>.ok (.mk 1 a (aD.aO i) [] [] 0 0 ((dB (x.map RT.tb) a).attrs.map iy))) by rw[bP,EW,bQ]);clear bP I bS bQ;have bP:f.heap.size<=f.heap.size:=Nat.le_refl _;have dH:=Z (Kp.refl [c] f);have dI:=Z (λ(a:ah) (b:Kp [c] f a)=>R.lk.kp b (λa b e X=>by have a:=(R.out.ik a b e).1;have a:=aC X;omega));have cU:=Z (λ(a:ah) (b:Kp [c] f a)=>show ae a (ac B 0) (O bT X bU)from(b.cell (p:=(ac B 0)) bO aF).trans R.c0);have cV:=Z (λ(a:ah) (b:Kp [c] f a)=>show ae a (ac B 8) at_ from(b.cell (p:=(ac B 8)) bO aF).trans R.c8);have bO:=bb bO;have bO:=bb cG;have bO:∀(bO:Fn) (first cap:aQ) (f:ah),(Instr.makeFunc bO first cap).run prog f=.ok (.func bO first cap) f:=λ_ _ _ _=>rfl;have dJ:=@run_makeMap prog;show Calls prog 201 #[ak B,.agg #[J 1,W,O cJ cK cL,O cM cN cQ,O cR cS cT,a8,aW,a9,at_],ak c] f _;go_enter func201,ntmps201
 go_upto_region 1 with(fail)
 obtain⟨bR,bO,bQ,a,bP⟩:=nb f 154 #[ak B];rw[bO];clear bO;have bO:=qk dH a;have bR:=qb a dG;have bS:=bO.size;clear a;obtain⟨C,aW,dK,a,a8⟩:=nc bP 93 #[J 1,W,O cJ cK cL,O cM cN cQ,O cR cS cT,a8,aW,a9,at_];rw[aW];clear aW;have cW:=qk bO a;have dL:=qb a bR;have dM:=qb a bQ;have aW:=cW.size;clear a;have aW:f.heap.size+1<C.heap.size:=af
 clear bP a8;have dN:=kA C;have dO:=kB C;have dP:=kC C;have dR:=kD C;have dS:=kE C;have dT:=kF C;have dU:=kG C;have dV:=kH C;go_upto_region 2 with(fail)
 clear dN dO dP dR dS dT dU dV dJ;have M3:=Z (kI C);have a:=Z (show ag C (C.alloc (.map (km 8) 8))from(ag.refl C).alloc _);obtain⟨P,C⟩:∃P,P=C.alloc (.map (km 8) 8):=⟨_,rfl⟩;rw[<-C]at M3 a⊢;clear C;have ba:=qk cW a;have bW:=qb a dL;have bX:=qb a dM;have bY:=qb a dK;have C:=ba.size;have dW:=lx M3 (k:=1) (n:=0) rfl;clear a M3;have dX:=ay bY;have C:=aa.lt bY;go_upto_region 3 with(fail)
 clear dW dX;have b0:=ay bX;have C:=aa.lt bX;have b3:ae P (ac c 2) (O ad i.length al):=aa.cell bW 2;have C:=aa.lt bW;have b4:=cV P ba;have C:f.heap.size<P.heap.size:=af
 have C:c<P.heap.size:=af
 by_cases b5:i.length=0
 case neg=>
  have d:(((0:Nat):Int)==(i.length:Int))=false:=aF
  have d:((0:Int)==(i.length:Int))=false:=aF
  have b:=Z (show T=RO.ap false 1 at_ _ by rw[br.out,decide_eq_false b5]);clear br b5;refine eI 12 (S:=(λw'=>ae w' (ao f 0) (ak B)/\ae w' (ac c 2) (O ad i.length al))) ⟨b0,b3⟩ (λhS=>?_);refine dv ?_;refine eA ?_;refine aM 11 (λK d=>?_);go_simp;exact b1 ba.out.drew (show T=RO.ap false _ at_ _ from b.out) b4
 have dY:(((0:Nat):Int)==(i.length:Int))=true:=aF
 have dZ:((0:Int)==(i.length:Int))=true:=aF
 have cX:=Z (show T=RO.ap true 1 at_ ((d1 (x.map RT.tb) at_ W).bind λb=>.ok (.mk 1 b (aD.aO i) [] [] 0 0 ((dB (x.map RT.tb) b).attrs.map iy))) by rw[br.out,decide_eq_true b5]);clear br;refine eI 12 (S:=(λw'=>ae w' (ao f 0) (ak B)/\ae w' (ac c 2) (O ad i.length al))) ⟨b0,b3⟩ (λhS=>?_);refine dv ?_;refine eA ?_;refine aM 11 (λK t=>?_);go_simp;refine bV ba.out.drew (show T=RO.ap true _ at_ _ from cX.out) b4 λcY=>?_;try go_simp
 refine t.out _ _ (λ_=>hS) ?_;refine aw ?_;refine bZ ?_;refine bM ?_;clear hS dY dZ b0 b3 b4 cX;have a:=Z (show ag P P.drew from(ag.refl P).drew);obtain⟨U,C⟩:∃U,U=P.drew:=⟨_,rfl⟩;rw[<-C]at a⊢;clear C;have cZ:=qk ba a;have d0:=qb a bW;have d2:=qb a bX;have c1:=qb a bY;have C:=cZ.size;clear a;go_upto_region 5 with(fail)
 have y:=Z (show aa (U.alloc (.cells #[ab] 79)) U.heap.size 79 #[ab]from aa.new U 79 #[ab]);have a:=Z (show ag U (U.alloc (.cells #[ab] 79))from((ag.refl U)).alloc _);obtain⟨L,C⟩:∃L,L=U.alloc (.cells #[ab] 79):=⟨_,rfl⟩;rw[<-C]at y a⊢;clear C;have an:=qk cZ a;have bs:=qb a d0;have bt:=qb a d2;have bd:=qb a c1;have C:=an.size;have bh:=y;clear y a;have C:=aa.lt bh;have C:c<L.heap.size:=af
 have C:=aa.lt c1;have d3:=Z (Kp.refl [c] L);have d4:=Z cH;clear cH;have d5:=ay bt;have C:=aa.lt bt;have d6:=ay bd;have d7:=aS bd;have C:=aa.lt bd;have d8:=aS bs;have C:=aa.lt bs;have d9:=ay bh;have C:=aa.lt bh;have ea:=λb=>aa.frozen bs b;have c2:=Z (o1 B ⟨bT,X,bU⟩ x W at_ L af (cU L an) (cV L an) (R.ta L an));go_upto_region 11 with(fail)
 go_wp2_with fail
 refine dQ cY.out (c2.out) ?av ?aA
 case av=>
  intro g I bq HX d;go_wp2;refine⟨rfl,?_⟩;rw[HX.out];exact⟨(an.out.trans ((d.out).mono (λ_ h=>by cases h))),rfl⟩
 intro I eb b6 c3 c4 c5 aq;obtain⟨o,rfl,c6⟩:=ny c3;have ec:eb=.int .i64 (o:Int):=c5;subst ec;have bu:o<x.length:=by simpa using c6
 clear c5 c3 c6;have c7:=qm an aq;have bx:=qo aq bs;have ed:=qo aq bt;have ee:=qo aq bd;have ef:=qo aq bh;have eg:=qm d3 aq;have C:=c7.size;clear aq;have eh:=aS bx;have C:=aa.lt bx;clear d5 d6 d7 d8 d9 ea c2;have ei:=λb=>aa.frozen bx b;go_upto_region 12 with(fail)
 have y:=Z (show aa (b6.setCell (ac c 1) (o:Int)) c 105 #[J 1,(o:Int),O ad i.length al,ab,ab,J 0,J 0,ab]from bx.aR 1 (o:Int));have u:=Z (Kp.aI (p:=(ac c 1)) (l:=[c]) aj (Kp.refl [c] b6) (o:Int));obtain⟨M,C⟩:∃M,M=b6.setCell (ac c 1) (o:Int):=⟨_,rfl⟩;rw[<-C]at y u⊢;clear C;have C:=u;have ej:=Z (eg.trans u);have bi:=Z (c7.trans u);have b8:=qo u ed;have ek:=qo u ee;have el:=qo u ef;have C:=bi.size;have C:=u;have b9:=y;clear y u;clear eh ei;obtain⟨z,bz,c9,C,da,ca,db⟩:=nx (R.out.ta M bi.out) o bu;have cb:bT=some ⟨z,bz,none⟩:=c9;have cd:=Z (λ(d:ah) (g:Kp [c] f d)=>(R.ta d g).2 _ (List.getElem_mem bu));have ce:=Z (nz x o bu);have bA:=Z (d4 x[o].tb (List.mem_map.2 ⟨x[o],List.getElem_mem bu,rfl⟩));obtain⟨tq,dc⟩:∃tq,tq=x[o]:=⟨_,rfl⟩;rw[<-dc]at da ca db cd ce bA;obtain⟨fh,⟨bB,cf,cg⟩,v,⟨fi,fj,fk⟩,fl⟩:=tq;have dd:ae M (ac z (bz+o*3+1)) (O bB cf cg):=ca;have ch:Hid (∀(d:ah),Kp [c] f d->fp d ⟨bB,cf,cg⟩ v):=Z (λd g=>(cd d g).1);have em:v.length=cf:=(ch M bi).1.1;have de:Hid (v.length<=10000/\∀d∈v,d.at_.was.length<=1000000):=Z ⟨by have h:=bA.out.1;have d:(v.map RA.at_).length<=10000:=h;rwa[List.length_map]at d,λd g=>bA.out.2 d.at_ (List.mem_map.2 ⟨d,g,rfl⟩)⟩;have x:=de.1;subst em;have en:Hid (T=.ok (.mk 1 (o:Int) (aD.aO i) [] [] 0 0 ((v.map RA.at_).map iy))):=Z (by rw[c4.out,ce.out];rfl);clear da ca db dc c9 cd bA ce c4 cY;have x:(o:Int)<X:=by omega
 have x:(0:Int)<=o:=af
 subst cb;have x:=cU M bi;have C:B<M.heap.size:=af
 have C:=ay b8;have I:=aa.lt b8;have I:=aS b9;have P:=aa.lt b9;refine eI 15 (S:=(λw'=>ae w' (ao f 0) (ak B)/\ae w' (ac B 0) (O (some ⟨z,bz,none⟩) X bU)/\ae w' (ac c 1) (o:Int)/\ae w' (ac z (bz+o*3+1)) (O bB v.length cg))) ⟨C,x,I,dd⟩ (λhS=>?_);refine dv ?_;refine eA ?_;refine tk 11 hS ?_;refine tk 12 hS ?_;refine tk 13 hS ?_;refine tk 14 hS ?_;refine gS am ?_ _;clear hS C x I dd;have a:=Z (show ag M M.drew from(ag.refl M).drew);obtain⟨x,x⟩:∃x,x=M.drew:=⟨_,rfl⟩;rw[<-x]at a⊢;clear x;have x:=qk bi a;have ep:=qb a b9;have B:=qb a b8;have B:=qb a ek;have B:=qb a el;have eq:=qk ej a;have x:=x.size;clear a;obtain⟨er,es,et,eu,ev⟩:=info_parts Tryz.infoAt;obtain⟨ew,ex,ey,ez,eB⟩:=info_parts Tryz.vC;go_wp2;go_loopg [85] (v.length+1) (λq r wr=>∃(b:Nat) (d:List RA) (g:aU) (j:Nat),r=.int .i64 b/\b<=v.length/\v.length-b<q/\d.length=b/\Hid (d.map RA.at_=((v.map RA.at_).map iy).take b)/\Hid (aa wr c 105 #[J 1,(o:Int),O ad i.length al,ab,ab,J 0,J 0,O g b j])/\Hid (wr.ownsRow L.heap.size 111 6 (O g b j) b (d.flatMap RA.cells))/\Hid (∀g∈d,gX g/\aJ g.at_.name/\aJ g.at_.dflt.s)/\Hid (Kp [c] L wr))
 case atStart=>exact⟨0,[],none,0,rfl,by omega,by omega,rfl,Z aj,ep,Z ⟨rfl,.inl ⟨rfl,rfl⟩⟩,Z (λg d=>by cases d),eq⟩
 obtain⟨b,bl,bn,bo,rfl,fm,df,dg,ci,dh,cj,dj,aX⟩:=hrel;have dk:=Z df;have ck:=Z dg;clear df dg;have Q:=Z (an.trans aX);have x:=Q.size;have x:=aX.size;have eC:=qo aX bt;have eD:=qo aX bd;have eE:=qo aX bh;by_cases bC:b<v.length
 case neg=>
  have d:¬(b:Int)<v.length:=af
  have g:=Z (show T=.ok (.mk 1 (o:Int) (aD.aO i) [] [] 0 0 (bl.map RA.at_)) by rw[en.out,ci.out,List.take_of_length_le (by rw[List.length_map,List.length_map];omega)]);have j:=Z ((lA cj ck (omg ck) dj).mono (S':=Bw aV wr.heap.size) (λz d=>⟨by have:=d.1;omega,d.2⟩));go_wp2;first|go_end0|refine bodyPost_ret (results_none rfl _ _ _) rfl ?_
  rw[g.out];have d:=Q.size;have g:∀z∈[c],¬Bw aV f.heap.size z:=λz d hS=>by have q:=hS.1;have q:=aC d;omega
  have d:∀z,Bw aV f.heap.size z->Bw aV wr.heap.size z:=λz d=>⟨d.1,by have:=d.2;omega⟩;refine⟨Q.out,_,rfl,rfl,(aD.mk 1 (o) ⟨ad,i.length,al⟩ i aL [] aL [] (0) (0) ⟨bn,b,bo⟩ bl),kL,dh.out,.mk (dI.out wr Q.out) (R.out.ik.mono d) (λq a7=>((R.out.sub q a7).keep Q.out g).mono d) (aE.none_ _ 12 _) (bc.none_ _ _ _) (aE.none_ _ 1 _) (bc.none_ _ _ _) (j.out)⟩
 have x:(b:Int)<v.length:=af
 have x:(0:Int)<=b:=af
 obtain⟨ar,az,dm,x,cl,cm,cn,co,cp,cr⟩:=iJ (ch.out wr Q.out) b bC;have cb:bB=some ⟨ar,az,none⟩:=dm;have aY:=Z (λ(d:ah) (g:Kp [c] f d)=>((ch d g).2 _ (List.getElem_mem bC)));have bE:=Z (de.2 _ (List.getElem_mem bC));have cs:((v.map RA.at_).map iy).take (b+1)=((v.map RA.at_).map iy).take b++[iy v[b].at_]:=by
  rw[List.take_succ_eq_append_getElem (by simpa using bC)];simp
 obtain⟨ct,dn⟩:∃ct,ct=v[b]:=⟨_,rfl⟩;rw[<-dn]at cl cm cn co cp cr aY bE cs;obtain⟨⟨g,j,d,⟨a0,a1,a2⟩⟩,⟨D,eF,E⟩⟩:=ct;have eG:d.length=eF:=(aY wr Q).1.1.1;subst eG;have eH:Hid (((v.map RA.at_).map iy).take (b+1)=bl.map RA.at_++[⟨(d++[g])[0]'aj,j,[],V.zero⟩]):=Z (by
  rw[cs,ci.out];congr 2
  show(⟨(d++[g]).headD e0,j,[],V.zero⟩:At)=_;congr 1
  cases d<;>rfl)
 have eJ:Hid (aJ ((d++[g])[0]'aj)):=Z (by
  have q:=(aY wr Q).1.2;have r:=(aY wr Q).2.1;rcases cP (List.getElem_mem (l:=d++[g]) (n:=0) aj)with h|h
  ·exact q _ h
  rw[aC h];exact r)
 have dp:Hid (∀q,Kp [c] f q->Calls prog 257 #[O D d.length E] q λe w'=>∃f r,e=.returned (O f d.length r)/\ag q w'/\w'.ownsRow q.heap.size 9 1 (O f d.length r) d.length (d.flatMap cq)):=Z (λf q=>ES ⟨D,d.length,E⟩ d f (aY f q).1 (by have:=bE.out;show d.length<=_;have f:d.length<=1000000:=this;omega));have f:d.length<=1000000:=bE;clear dn dm cs ci aY bE;have eK:ae wr (ac ar (az+b*6)) g:=cl;have eL:ae wr (ac ar (az+b*6+1)) j:=cm;have dq:ae wr (ac ar (az+b*6+2)) (O D d.length E):=cn;have eM:ae wr (ac ar (az+b*6+3)) a0:=co;have eN:ae wr (ac ar (az+b*6+4)) a1:=cp;have eO:ae wr (ac ar (az+b*6+5)) a2:=cr;have f:IntKind.i64.wrap ((b:Int)+1)=(b:Int)+1:=IntWalk.i64_in _ af;clear cl cm cn co cp cr;subst cb;go_upto_region 15 with(fail)
 clear eK eL dq eM eN eO;have y:=Z (show aa (wr.alloc (.cells #[g,j,O D d.length E,a0,a1,a2] 111)) wr.heap.size 111 #[g,j,O D d.length E,a0,a1,a2]from aa.new wr 111 #[g,j,O D d.length E,a0,a1,a2]);have a:=Z (show ag wr (wr.alloc (.cells #[g,j,O D d.length E,a0,a1,a2] 111))from((ag.refl wr)).alloc _);obtain⟨f,x⟩:∃f,f=wr.alloc (.cells #[g,j,O D d.length E,a0,a1,a2] 111):=⟨_,rfl⟩;rw[<-x]at y a⊢;clear x;have B:=qk Q a;have I:=qb a dh;have M:=qb a eC;have P:=qb a eD;have Q:=qb a eE;have R:=Z (aK a cj);have T:=qk aX a;have x:=B.size;have x:=y;clear y a;have a:=aa.lt x;have a:=ay x;have C:=aZ x;have U:=aa.lt x;refine eI 9 (S:=(λw'=>ae w' (ao wr 0) g/\ae w' (ao wr 2) (O D d.length E))) ⟨a,C⟩ (λhS=>?_);refine mn ?_;refine tk 3 hS ?_;refine tk 4 hS ?_;have q:=Z (show ag f f.drew from(ag.refl f).drew);obtain⟨H,f⟩:∃H,H=f.drew:=⟨_,rfl⟩;rw[<-f]at q hS⊢;clear f;have bF:=qk B q;have eP:=qb q I;have eQ:=qb q M;have eR:=qb q P;have eS:=qb q Q;have bH:=qb q x;have dr:=Z (aK q R);have eT:=qk T q;have f:=bF.size;clear q a C;have bI:=ay bH;have bJ:=aZ bH;have a:=aa.lt bH;refine rZ 2 5 (λK t=>?aB) (λK t=>?aG)
 case' aB=>
  go_simp;refine(dp.out H bF.out).mono ?_;rintro e r ⟨cE,cF,rfl,w,G⟩;have N:=w.size;have F:(λw':World=>ae w' (ao wr 0) g/\ae w' (ao wr 2) (O D d.length E)) r:=⟨(w.cell (p:=(ao wr 0)) dl).trans bI,(w.cell (p:=(ao wr 2)) dl).trans bJ⟩;refine t.out _ _ (λ_=>F) ?_;refine aw ?_;refine aM 5 (λK t=>?_);go_simp;have a5:(λw':World=>ae w' (ao wr 0) g/\ae w' (ao wr 2) (O D d.length E)) (r.alloc (.cells #[g] 9)):=⟨(World.cell?_alloc_lt _ _ _ dl).trans F.1,(World.cell?_alloc_lt _ _ _ dl).trans F.2⟩;refine t.out _ _ (λ_=>a5) ?_;refine aw ?_;have Y:=Z (aa.new r 9 #[g]);have A:=Z (w.trans ((ag.refl r).alloc (.cells #[g] 9)));have aT:=Z (aK ((ag.refl r).alloc (.cells #[g] 9)) G);obtain⟨bq,f⟩:∃a,a=r.alloc (.cells #[g] 9):=⟨_,rfl⟩;obtain⟨a6,a⟩:∃a,a=r.heap.size:=⟨_,rfl⟩;have r:H.heap.size<=a6:=by rw[a];exact N
  rw[<-f]at Y A aT a5⊢;rw[<-a]at Y⊢;clear f a w G F N
 case' aG=>
  go_simp;have w:(λw':World=>ae w' (ao wr 0) g/\ae w' (ao wr 2) (O D d.length E)) (H.alloc (.cells #[g] 9)):=⟨bj bI,bj bJ⟩;refine t.out _ _ (λ_=>w) ?_;refine aw ?_;refine aM 2 (λK t=>?_);go_simp;refine(dp.out (H.alloc (.cells #[g] 9)) (bF.out.alloc (.cells #[g] 9))).mono ?_;rintro e bq ⟨cE,cF,rfl,r,F⟩;have A:=Z (((ag.refl H).alloc (.cells #[g] 9)).trans r);have Y:=Z ((Kp.of_same (l:=[]) r).blk (aa.new H 9 #[g]) aj);have aT:=Z (xf (b':=H.heap.size) F aj);have a5:(λw':World=>ae w' (ao wr 0) g/\ae w' (ao wr 2) (O D d.length E)) bq:=⟨(r.cell (p:=(ao wr 0)) (by show wr.heap.size<_;simp;omega)).trans w.1,(r.cell (p:=(ao wr 2)) (by show wr.heap.size<_;simp;omega)).trans w.2⟩;clear r F;refine t.out _ _ (λ_=>a5) ?_;refine aw ?_;obtain⟨a6,a⟩:∃a,a=H.heap.size:=⟨_,rfl⟩;have f:H.heap.size<=a6:=by omega
  rw[<-a]at Y⊢;clear a w
 all_goals
  have a:=A.size;have a:=aa.lt Y;have ds:=Z (ju Y (m:=1) rfl);have hrow:=b2 aT;refine aM 6 (λK t=>?_);refine di bq (.tmp 91) (.tmp 94) 83 rfl H.heap.size 9 ew _ 1 16 underlying83 ex ey ez eB rfl au (O cE d.length cF) d.length (d.flatMap cq) rfl aT.out (a6+1) (some ⟨a6,0,none⟩) 1 1 ((#[g]:Array Value).toList) rfl ds.out bw cc af af ?_;intro eU aH aN r cu;obtain⟨fn,dq,rfl,cv⟩:=bv aN;have cw:=Z aN;have w:=Z r;have aP:=Z (fO (Kp.of_same A) r);clear aN r cu cv a5;have bK:(λw':World=>ae w' (ao wr 0) g/\ae w' (ao wr 2) (O D d.length E)) aH:=⟨bD aP bI,bD aP.out bJ⟩;refine t.out _ _ (λ_=>bK) ?_;refine aw ?_;obtain⟨eV,a,eW,f,du,_,_,_,_⟩:=f7 cw.out af;subst eW;have dw:ae aH (ac eV 0) (.string ((d++[g])[0]'aj)):=kJ (enc:=cq) (m:=1) (λ_=>rfl) (xs:=d++[g]) (by rw[List.flatMap_append];exact cw.out) aj 0 af 0 af;have cx:=Z (And.intro eH.out eJ.out);obtain⟨F,a⟩:∃a,a=((d++[g])[0]'aj):=⟨_,rfl⟩;rw[<-a]at dw cx;clear a;have eX:(0:Int)<((d.length+1:Nat):Int):=by omega
  have eY:(0:Int)<(d.length:Int)+1:=af
  have a:=aa.lt du;refine tk 7 bK ?_;refine aM 8 (λK t=>?_);go_simp;refine t.out _ _ (λ_=>bK) ?_;refine aw ?_;refine bZ ?_;refine tq 9 ?_;refine bM ?_;clear dw bK hS eX eY du;have dx:=Z ((bF.trans (Kp.of_same A)).grown w (λa r=>.inr (by have:=hrow a r;omega)));have eZ:=Z ((eT.trans (Kp.of_same A)).grown w (λa r=>.inr (by have:=hrow a r;omega)));have e1:=Z (kx (aK A dr) w (λz a=>ky aT (aK A dr) au z a));have a:=dx.size;have a:H.heap.size<=aH.heap.size:=by have:=w.out.size;omega
  have cz:=Z (aa.grown ((Kp.of_same (l:=[]) A).blk eP aj) w (λe=>by have:=hrow _ e.symm;omega));have e2:=Z (aa.grown ((Kp.of_same (l:=[]) A).blk eQ aj) w (λe=>by have:=hrow _ e.symm;omega));have e3:=Z (aa.grown ((Kp.of_same (l:=[]) A).blk eR aj) w (λe=>by have:=hrow _ e.symm;omega));have e4:=Z (aa.grown ((Kp.of_same (l:=[]) A).blk eS aj) w (λe=>by have:=hrow _ e.symm;omega));have cA:=Z (aa.grown ((Kp.of_same (l:=[]) A).blk bH aj) w (λe=>by have:=hrow _ e.symm;omega));clear aT Y A ds w aP hrow cw bI bJ;go_upto_region 16 with(fail)
  have a:=b7 cz;have d:=aa.lt cz;have d:=aS cA;have f:=aa.lt cA;refine eI 11 (S:=(λw'=>ae w' (ac c 7) (O bn b bo)/\ae w' (ao wr 1) j)) ⟨a,d⟩ (λhS=>?_);refine dv ?_;have q:=Z (show ag aH aH.drew from(ag.refl aH).drew);obtain⟨N,a⟩:∃N,N=aH.drew:=⟨_,rfl⟩;rw[<-a]at q hS⊢;clear a;have dy:=qk dx q;have bL:=qb q cz;have e5:=qb q e2;have e6:=qb q e3;have e7:=qb q e4;have cB:=qb q cA;have cC:=Z (aK q e1);have e8:=qk eZ q;have a:=dy.size;clear q hS;have dz:=b7 bL;have a:=aa.lt bL;have dA:=aS cB;have a:=aa.lt cB;have dC:(λw':World=>ae w' (ac c 7) (O bn b bo)/\ae w' (ao wr 1) j) (N.alloc (.cells #[F,j,ab,J 0,J 0,ai] 111)):=⟨bj dz,bj dA⟩;refine aM 9 (λK t=>?_);go_simp;refine t.out _ _ (λ_=>dC) ?_;refine aw ?_;have dD:=Z (aK ((ag.refl N).alloc (.cells #[F,j,ab,J 0,J 0,ai] 111)) cC);have dE:=Z (cO N #[F,j,ab,J 0,J 0,ai] 111 6 rfl);have hrow:∀G,(Value.slice bn b bo).ownBlock=some G->L.heap.size<=G/\G<N.heap.size/\G<wr.heap.size:=λG r=>⟨(b2 cC G r).1,(b2 cC G r).2,(λG r=>(b2 cj G r).2) G r⟩;have a:=aa.lt bL;refine aM 10 (λK t=>?_);refine di (N.alloc (.cells #[F,j,ab,J 0,J 0,ai] 111)) (.tmp 102) (.tmp 107) 79 rfl (L.heap.size) 111 er _ 6 80 underlying79 es et eu ev rfl au (O bn b bo) b (bl.flatMap RA.cells) rfl dD.out (N.heap.size+1) (some ⟨N.heap.size,0,none⟩) 1 1 ((#[F,j,ab,J 0,J 0,ai]:Array Value).toList) rfl dE.out bw cc af aF ?_;intro eU bN aN r cu;obtain⟨a3,a4,rfl,cv⟩:=bv aN;have e9:=Z aN;have w:=Z r;have aP:=Z (fO ((Kp.refl [] N).alloc (.cells #[F,j,ab,J 0,J 0,ai] 111)) r);clear aN r cu cv;have cD:=Z (aa.grown (bL.alloc (.cells #[F,j,ab,J 0,J 0,ai] 111)) w (λe=>by have:=hrow _ e.symm;omega));have fa:=b7 cD;have fb:=λb=>aa.frozen cD b;refine t.out _ _ (λ_=>⟨bD aP.out dz,bD aP.out dA⟩) ?_;clear t K dC;refine aw ?_;refine bZ ?_;refine tq 11 ?_;refine tq 12 ?_;refine dt 13 (λK t=>?_);go_simp;refine t _ _ ?_;refine aw ?_;refine bM ?_;have f:=Z (aa.grown (e5.alloc (.cells #[F,j,ab,J 0,J 0,ai] 111)) w (λe=>by have:=hrow _ e.symm;omega));have g:=Z (aa.grown (e6.alloc (.cells #[F,j,ab,J 0,J 0,ai] 111)) w (λe=>by have:=hrow _ e.symm;omega));have q:=Z (aa.grown (e7.alloc (.cells #[F,j,ab,J 0,J 0,ai] 111)) w (λe=>by have:=hrow _ e.symm;omega));have t:=Z (aa.grown (cB.alloc (.cells #[F,j,ab,J 0,J 0,ai] 111)) w (λe=>by have:=hrow _ e.symm;omega));have a:=Z ((dy.alloc (.cells #[F,j,ab,J 0,J 0,ai] 111)).grown w (λG r=>.inr (by have:=hrow G r;omega)));have r:=Z ((e8.alloc (.cells #[F,j,ab,J 0,J 0,ai] 111)).grown w (λG r=>.inr (by have:=hrow G r;omega)));have d:=a.size;have d:N.heap.size<=bN.heap.size:=by have:=w.out.size;simp at this;omega
  clear dD dE w aP hrow fa fb;have y:=Z (show aa (bN.setCell (ac c 7) (O a3 (b+1) a4)) c 105 #[J 1,(o:Int),O ad i.length al,ab,ab,J 0,J 0,O a3 (b+1) a4]from cD.aR 7 (O a3 (b+1) a4));have u:=Z (Kp.aI (p:=(ac c 7)) (l:=[c]) aj (Kp.refl [c] bN) (O a3 (b+1) a4));obtain⟨d,c⟩:∃d,d=bN.setCell (ac c 7) (O a3 (b+1) a4):=⟨_,rfl⟩;rw[<-c]at y u⊢;clear c;have c:=u;have fc:=Z (r.trans u);have a:=Z (a.trans u);have c:=qo u f;have c:=qo u g;have c:=qo u q;have c:=qo u t;have a:=a.size;have fd:=u;have fe:=y;clear y u;go_wp2_with fail
  go_roundg (v.length-b)
  case measure=>have:=dk.out;omega
  refine⟨b+1,bl++[(⟨⟨F,j,[],V.zero⟩,aL⟩:RA)],a3,a4,by go_num,by omega,omg dk,by rw[List.length_append,ck.out];rfl,Z (by rw[List.map_append];exact cx.out.1.symm),fe,Z (bG (by rw[List.flatMap_append];exact e9.out) fd.out (λz a=>by have:=aC a;omega)),Z ?_,fc⟩;intro ff bp;rcases cP bp with bp|bp
  ·exact dj.out ff bp
  rw[aC bp];exact⟨⟨rfl,rfl⟩,cx.out.2,by show(0:Nat)<=_;omega⟩
structure pm (w:ah) (X Bw Bl:Nat) (h:Hd) (ra:List RA) (at_:Int):Prop where
 hX:X<w.heap.size
 c8:ae w (ac X 8) at_
 hw:Bw<w.heap.size
 cw:ae w (ac Bw 0) (ak X)
 hl:Bl<w.heap.size
 cl:ae w (ac Bl 0) h.val
 a:fp w h ra
theorem pm.same {w c:ah} {X Bw b:Nat} {h:Hd} {ra:List RA} {at_:Int} (a:pm w X Bw b h ra at_) (s:ag w c):pm c X Bw b h ra at_:=
 ⟨aV a.hX s.size,(s.cell (p:=(ac X 8)) a.hX).trans a.c8,aV a.hw s.size,(s.cell (p:=(ac Bw 0)) a.hw).trans a.cw,aV a.hl s.size,(s.cell (p:=(ac b 0)) a.hl).trans a.cl,a.a.same s⟩
theorem EY (z Bw d:Nat) (h:Hd) (b:List RA) (g:cF) (at_:Int) (f:ah) (a:pm f z Bw d h b at_):
 Calls prog 271 #[.agg g.cells.toArray,ak Bw,ak d] f λe w'=>RP [] f (mb at_ (b.map RA.at_) g) mv e w':=by
 obtain⟨p,i,l⟩:=h;have E:=Z a;have aT:b.length=i:=a.a.1.1;have aT:=a.hX;have aT:=a.hl;clear a;obtain⟨q,A⟩:=av (mb at_ (b.map RA.at_) g);rw[<-A];obtain⟨j,k,G,⟨ad,al,an⟩⟩:=g;have r:=Z (show q=RO.ap (decide (j=e0)) 8 at_ ((ek at_ (b.map RA.at_) k).bind λc=>.ok (⟨0,c,V.zero⟩,(cH (b.map RA.at_) c).kind))from A);clear A;have F:=jV j e0;have ao:=Z (Kp.refl [] f);show Calls prog 271 #[.agg #[j,k,G,ad,al,an],ak Bw,ak d] f _;go_enter func271,ntmps271
 go_upto_region 1 with(fail)
 obtain⟨al,A,ad,g,G⟩:=nb f 284 _;rw[A];clear A;have al:=qk ao g;have an:=Z (E.same g);clear g;obtain⟨m,A,aq,g,ao⟩:=nc G 71 _;rw[A];clear A;have s:=qk al g;have H:=qb g ad;have n:=Z (an.same g);clear g;have g:f.heap.size+1<m.heap.size:=af
 clear G ao;have ar:=ay H;have au:=n.cw;have t:=n.c8;have B:j.toList.isEmpty=decide (j=e0):=by
  rw[<-F];have c:e0.toList=[]:=by simp[e0]
  rw[c];cases j.toList<;>rfl
 generalize ax:j.toList.isEmpty=az at B;have u:=Z B.symm;clear B F;cases az
 case false=>
  have c:=Z (show q=RO.ap false 8 at_ _ by rw[r.out,u.out]);clear r u;go_wp2_with fail
  exact b1 s c t
 have I:=Z (show q=RO.ap true 8 at_ ((ek at_ (b.map RA.at_) k).bind λc=>.ok (⟨0,c,V.zero⟩,(cH (b.map RA.at_) c).kind)) by rw[r.out,u.out]);clear r u;go_wp2_with fail
 refine bV s I t λL=>?_;clear I ax ar;have aA:ae m (ac d 0) (O p i l):=n.cl;have g:=Z (qu z ⟨p,i,l⟩ b k at_ m af t n.a);have M:Hid (Calls prog 272 #[ak z,O p i l,k] m λe w'=>RP [] m (ek at_ (b.map RA.at_) k) hP e w'):=g;clear g;have aB:=aS H;go_wp2_with fail
 refine dQ L M (fb s) ?_;intro a g C N P Q w;have aC:g=.int .i64 a:=Q;subst aC;obtain⟨c,aD,R⟩:=qM N;subst aD;have j:c<b.length:=by simpa using R
 clear R Q N;have S:=Z (s.trans w);have aE:=qo w aq;have aF:=Z (n.same w.same);clear w;clear aB au t aA M;obtain⟨ba,x,k,T,m,g,n,r,s,t⟩:=iJ E.a c j;have U:=(S.cell T aj).trans g;clear g;have aG:p=some ⟨ba,x,none⟩:=k;have g:(c:Int)<i:=af
 have g:(0:Int)<=c:=af
 obtain⟨D,g⟩:=av (b[c].at_.kind);rw[<-g]at U;have aH:=Z (show q=.ok ((⟨0,(c:Int),V.zero⟩:Sd),D) by rw[P.out,ku b c j,<-g]);clear L P g m n r s t k;subst aG;have aI:ae C (ac d 0) (O (some ⟨ba,x,none⟩) i l):=aF.cl;go_upto_region 3 with(fail)
 have y:=Z ((ag.refl C).drew);refine dP 9 aI U λhS=>?_;refine dX ?_;refine gV ?_;obtain⟨W,b⟩:=av C.drew;rw[<-b]at y hS⊢;clear b;have X:=qk S y;have Y:=qb y aE;have aJ:=X.size;obtain⟨aK,aL⟩:=hS;have b:=aV T aJ;have b:d<W.heap.size:=af
 clear y;have b:(λw':World=>ae w' (ac d 0) (O (some ⟨ba,x,none⟩) i l)/\ae w' (ac ba (x+c*6+1)) D) (W.setRow ((f.heap.size+1)) #[J 0,(c:Int),J 0,J 0,ai]):=⟨(mw (by show d<_;omega) (by show d≠_;omega)).trans aK,(mw (by show ba<_;omega) (by show ba≠_;omega)).trans aL⟩;refine aM 7 (λK d=>?_);refine wp_store_row 71 (.tmp 4) (.tmp 18) rfl ((f.heap.size+1)) _ rfl rfl 71 _ Y am rfl bw (d _ _ (λ_=>b) ?_);refine aw ?_;refine tk 8 b ?_;refine gS am ?_ _;clear b;obtain⟨d,b,o,aa⟩:=mu Y #[J 0,(c:Int),J 0,J 0,ai];rw[b];clear b;have ab:=Z (X.grown aa (λb ab=>.inr (by injection ab with ab;omega)));clear aa;have aN:=ay o;have aO:=aS o;have aP:=aZ o;have aQ:=bi o;have aR:=bl o;go_wp2_with fail
 refine bodyPost_ret (v:=.tuple #[.agg #[J 0,(c:Int),J 0,J 0,ai],D]) ?_ rfl ?_
 ·simp[results,results271,go_sem,aN,aO,aP,aQ,aR]
 rw[aH.out];exact⟨ab,_,rfl,rfl⟩
end Go.Proofs.YteamkimbmdgdbaaGreatDoor

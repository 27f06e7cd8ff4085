import Derived.Test.YteamkimbmdgdbaaGreatDoorK15
set_option linter.unusedSimpArgs false
set_option linter.unusedVariables false
set_option maxHeartbeats 16000000
set_option maxRecDepth 100000
namespace Go.Proofs.YteamkimbmdgdbaaGreatDoor
open Go.Proofs.Tryz
open Go.RowKit
def gZ (a:RA):Prop:=a.h=aL/\a.at_.was=[]
structure go (w:ah) (S:Nat->Prop) (h:Hd) (ra:List RA):Prop where
 a:fq w h ra
 i:aV S h
 b:∀r∈ra,gZ r
 l:ra.length<=10000
theorem go.mono {w:ah} {S S':Nat->Prop} {h:Hd} {ra:List RA} (a:go w S h ra) (d:∀c,S c->S' c):go w S' h ra:=⟨a.a,a.i.mono d,a.b,a.l⟩
theorem qU (b:ah) {a:RA} (h:gZ a):bV b a.h a.at_.was:=by
 rw[h.1,h.2];exact⟨aD.none_ b 1 _,λ_ h=>by cases h⟩
theorem go.keep {w e:ah} {S:Nat->Prop} {h:Hd} {f:List RA} (c:go w S h f) {l:List Nat} (k:Kp l w e) (g:∀d∈l,¬S d):go e S h f:=
 ⟨⟨c.a.1.kp k (λd f j m=>g d m (c.i d f j)),λd f=>⟨qU e (c.b d f),(c.a.2 d f).2⟩⟩,c.i,c.b,c.l⟩
theorem go.none_ (w:ah) (S:Nat->Prop):go w S aL []:=⟨⟨aD.none_ w 6 _,λ_ h=>by cases h⟩,aV.none_ _ _ _,(λ_ h=>by cases h),by show 0<=_;omega⟩
theorem kk {b d:ah} {e m n:Nat} {c:aX} {v:aA} {xs:bg} {row:Option Nat} (f:b.ownsRow e c m v n xs) (k:b.grownBy d row) (l:∀a,v.ownBlock=some a->row≠some a):d.ownsRow e c m v n xs:=by
 refine⟨f.1,?_⟩;rcases f.2 with h|⟨a,o,g,i,p,j,q⟩
 ·exact .inl h
 have b:a<b.heap.size:=aa.lt (t:=c) (cs:=g) j;exact .inr ⟨a,o,g,i,p,(k.block a b (λb=>l a (by rw[i];rfl) b.symm)).trans j,q⟩
theorem ku {c:ah} {g i:Nat} {e b:aX} {j k l m:Nat} {v f:aA} {xs n:bg} (o:c.ownsRow g e j v l xs) (p:c.ownsRow i b k f m n) (q:e≠b):∀c,f.ownBlock=some c->v.ownBlock≠some c:=by
 intro c a;rcases p.2 with⟨d,_⟩|⟨u,w,r,d,_,s,_⟩
 ·rw[d]at a;cases a
 rw[d]at a;injection a with a
 subst a;exact lY o (t:=b) (cs:=r) s q
def sT (c:Nat) (p:List Int×List At) (v:aA) (a:ah):Prop:=
 ∃(b d:Hd) (e:List RA),v=.tuple #[b.val,d.val]/\cX a b p.1/\aV (Bw c a.heap.size) b/\p.1.length<=5001/\e.length<=5001/\e.map RA.at_=p.2/\go a (Bw c a.heap.size) d e/\a.ownsRow c 111 6 d.val d.n (e.flatMap RA.cells)/\a.ownsRow c 3 1 b.val b.n (p.1.flatMap cu)
theorem EN (a:Int) (b:List At) (c:List Int) (e:List At) (d:av) (f:bk):fH a b c e (d::f)=(em a b d).bind λd=>RO.ap (!c.any λg=>decide (g=d)) 9 a (fH a b (c++[d]) (e++[cE b d]) f):=rfl
theorem qV {l:List At} {c:Int} {a:av} {b:Int} (h:em c l a=.ok b):∃k:Nat,b=k/\k<l.length:=by
 have d:=l0 (λb:At=>decide (b.name=a)) l;unfold em RO.ap at h;split at h
 ·rename_i b
  have b:0<=eE l a:=by simpa using b
  injection h with h
  subst h;refine⟨(eE l a).toNat,by omega,?_⟩;have:eE l a<l.length:=d.2;omega
 cases h
theorem Tryz.infoAt:(prog.info? 111).map (λi=>(i.zero,i.size,i.bytes))=some (some (.agg #[ai,J 0,ab,J 0,J 0,ai]),6,80):=am
theorem RA.wY (a:RA):a.cells.length=6:=rfl
theorem wZ (Q:Nat) (h:Hd) (k:List RA) (a1:Hd) (l:bk) (at_:Int) (d:ah) (a2:Q<d.heap.size) (a3:ae d (ac Q 8) at_) (a:fq d h k) (bN:∀x∈k,gZ x) (ai:bV d a1 l) (cS:l.length<=5001):
 Calls prog 273 #[ak Q,h.val,a1.val] d λe w'=>RP [] d (fH at_ (k.map RA.at_) [] [] l) (sT d.heap.size) e w':=by
 obtain⟨a4,a5,a6,a7,a8⟩:=info_parts Tryz.sG;obtain⟨a9,bb,bc,bh,bi⟩:=info_parts Tryz.infoAt;obtain⟨al,bO,bj⟩:=h;obtain⟨bP,bQ,nc⟩:=a1;have co:l.length=bQ:=ai.1.1;have a1:bQ<=9223372036854775807:=ai.1.2.1;have cp:k.length=bO:=a.1.1;have a1:bO<=9223372036854775807:=a.1.2.1;subst co cp;have bl:=Z a;have cq:=Z ai;have cr:=Z bN;have cs:=Z a3;have a1:=Z (λ(f:av) (c:ah) (b:ag d c)=>qE Q ⟨al,k.length,bj⟩ k f at_ c (aR a2 b.size) ((b.cell a2).trans a3) (a.same b));have ct:Hid (∀(c:av) (b:ah),ag d b->Calls prog 272 #[ak Q,O al k.length bj,c] b λe w'=>RP [] b (em at_ (k.map RA.at_) c) h8 e w'):=a1;clear a1 a ai bN a3;obtain⟨an,ai⟩:=au (fH at_ (k.map RA.at_) [] [] l);rw[<-ai];have bR:=Z ai;clear ai;have bS:=Z (Kp.refl [] d);show Calls prog 273 #[ak Q,O al k.length bj,O bP l.length nc] d _;go_enter func273,ntmps273
 go_wp2;go_loopg [6,7,13] (l.length+1) (λq r t u wr=>∃(b:Nat) (f:List Int) (c:List RA) (g:aT) (n:Nat) (o:aT) (p:Nat),u=.int .i64 b/\r=.slice g b n/\t=.slice o b p/\b<=l.length/\l.length-b<q/\f.length=b/\c.length=b/\Hid (wr.ownsRow d.heap.size 3 1 (O g b n) b (f.flatMap cu))/\Hid (wr.ownsRow d.heap.size 111 6 (O o b p) b (c.flatMap RA.cells))/\Hid (∀x∈c,gZ x/\aJ x.at_.name/\aJ x.at_.dflt.s)/\Hid (Kp [] d wr)/\Hid (an=fH at_ (k.map RA.at_) f (c.map RA.at_) (l.drop b)))
 case atStart=>exact⟨0,[],[],none,0,none,0,rfl,rfl,rfl,by omega,by omega,rfl,rfl,Z ⟨rfl,.inl ⟨rfl,rfl⟩⟩,Z ⟨rfl,.inl ⟨rfl,rfl⟩⟩,Z (λx b=>by cases b),bS,bR⟩
 obtain⟨c,y,C,E,F,I,J,rfl,rfl,rfl,cT,bT,bU,bW,W,X,R,L,ao⟩:=hrel;have S:=Z bT;have T:=Z bU;have U:=Z bW;clear bT bU bW bR bS;have bY:=Z (bl.same L.same);have bZ:=Z (cq.same L.same);by_cases b0:c<l.length
 case neg=>
  have f:¬(c:Int)<l.length:=af
  have b:=Z (show an=.ok (y,C.map RA.at_) by rw[ao.out,List.drop_of_length_le af];rfl);clear ao;go_wp2;refine bodyPost_ret (v:=.tuple #[O E c F,O I c J]) (by simp[results,results273,go_sem]) rfl ?_;rw[b.out];have b:∀(b:aT) (f g:Nat) (e:aX) (n:Nat) (o:bg),wr.ownsRow d.heap.size e n (O b f g) f o->aV (Bw d.heap.size wr.heap.size) ⟨b,f,g⟩:=λb f g e n o o n p q=>b6 o n (by show(Value.slice b f g).ownBlock=_;have b:b=some ⟨n,p,none⟩:=q;rw[b];rfl);exact⟨L,_,rfl,⟨E,c,F⟩,⟨I,c,J⟩,C,rfl,cI (h:=⟨E,c,F⟩) cu.len T (by show c<=_;omega) W,b _ _ _ _ _ _ W,by show y.length<=_;have:=T.out;omega,omg U,rfl,⟨⟨cI (h:=⟨I,c,J⟩) RA.wY U.out (by show c<=_;omega) X.out,λx f=>⟨qU wr (R.out x f).1,(R.out x f).2⟩⟩,b _ _ _ _ _ _ X.out,(λx b=>(R.out x b).1),omg U⟩,X.out,W.out⟩
 have Q:(c:Int)<l.length:=af
 obtain⟨Q,of,ai,a1,b1⟩:=bZ.1.one c b0 (v:=.string l[c]) rfl;have bm:bP=some ⟨Q,of,none⟩:=ai;obtain⟨b2,Q⟩:=au (l[c]);rw[<-Q]at b1;have b4:=Z (show an=(em at_ (k.map RA.at_) b2).bind λb=>RO.ap (!y.any λf=>decide (f=b)) 9 at_ (fH at_ (k.map RA.at_) (y++[b]) (C.map RA.at_++[cE (k.map RA.at_) b]) (l.drop (c+1))) by rw[ao.out,List.drop_eq_getElem_cons b0,EN,<-Q]);clear ao Q ai;subst bm;have b5:=Z (Kp.refl [] wr);go_wp2_with fail
 refine dR b4 (ct b2 wr L.same) (fb L) ?_;intro a Q M b7 N b8 aq;have cv:Q=.int .i64 a:=b8;subst cv;obtain⟨b,cw,ca⟩:=qV b7;subst cw;have ar:b<k.length:=by simpa using ca
 clear ca b8 b7;have D:=Z (L.trans aq);have cx:=Z (bY.same aq.same);have bo:=Z (b5.trans aq);have Q:=D.size;clear aq;clear b1;have bp:=(D.cell a2 aj).trans cs;have az:=Z (aK bo.same W);have bq:=Z (aK bo.same X);have Q:=cI (h:=⟨E,c,F⟩) cu.len T (by show c<=_;omega) az;have aE:Hid (Calls prog 188 #[O E c F,(b:Int)] M λe w'=>e=.returned (.bool (y.any λf=>decide (f=(b:Int))))/\M=w'):=Z (qi ⟨E,c,F⟩ y (b:Int) M Q);have ai:=Z (show an=RO.ap (!y.any λf=>decide (f=(b:Int))) 9 at_ (fH at_ (k.map RA.at_) (y++[(b:Int)]) ((C++[k[b]]).map RA.at_) (l.drop (c+1))) by rw[N.out,ki k b ar,List.map_append];rfl);clear b4 N Q;have N:=ai;clear ai;generalize (y.any λf=>decide (f=(b:Int)))=cy at aE N;cases cy
 case true=>
  go_wp2_with (first|(go_at_call 188;refine aE.out.mono ?_;rintro e w' ⟨rfl,rfl⟩)|fail)
  exact b3 D N bp
 go_wp2_with (first|(go_at_call 188;refine aE.out.mono ?_;rintro e w' ⟨rfl,rfl⟩)|fail)
 refine bX D N bp λaZ=>?_;clear aE N bp;obtain⟨ba,f,N,cz,br,bs,bt,bv,bw,bx⟩:=iR bl b ar;have bm:al=some ⟨ba,f,none⟩:=N;have Q:(b:Int)<k.length:=af
 have Q:(0:Int)<=b:=af
 have a0:=Z (show gZ k[b]/\aJ k[b].at_.name/\aJ k[b].at_.dflt.s from⟨cr _ (List.getElem_mem ar),(bl.2 _ (List.getElem_mem ar)).2⟩);obtain⟨cA,k⟩:=au (k[b]);rw[<-k]at br bs bt bv bw bx a0 aZ;clear k N;obtain⟨⟨n,o,bz,⟨p,q,r⟩⟩,⟨t,u,w⟩⟩:=cA;have B:=cz;have bA:ae d (ac ba (f+b*6)) n:=br;have cb:=(D.cell B aj).trans bA;have bB:ae d (ac ba (f+b*6+1)) o:=bs;have cc:=(D.cell B aj).trans bB;have bC:ae d (ac ba (f+b*6+2)) (O t u w):=bt;have cd:=(D.cell B aj).trans bC;have bD:ae d (ac ba (f+b*6+3)) p:=bv;have ce:=(D.cell B aj).trans bD;have bE:ae d (ac ba (f+b*6+4)) q:=bw;have cf:=(D.cell B aj).trans bE;have bF:ae d (ac ba (f+b*6+5)) r:=bx;have cg:=(D.cell B aj).trans bF;have k:IntKind.i64.wrap ((c:Int)+1)=(c:Int)+1:=IntWalk.i64_in _ af;clear br bs bt bv bw bx;subst bm;go_upto_region 6 with(fail)
 refine vM 13 cb cc cd ce cf cg λhS=>?_;refine mx ?_;refine tk 4 hS ?_;refine sS ?_;have g:=Z (λ(g:ah) (k:Kp [] d g)=>show ae g (ac ba (f+b*6)) n/\ae g (ac ba (f+b*6+1)) o/\ae g (ac ba (f+b*6+2)) (O t u w)/\ae g (ac ba (f+b*6+3)) p/\ae g (ac ba (f+b*6+4)) q/\ae g (ac ba (f+b*6+5)) r from⟨(k.cell B aj).trans bA,(k.cell B aj).trans bB,(k.cell B aj).trans bC,(k.cell B aj).trans bD,(k.cell B aj).trans bE,(k.cell B aj).trans bF⟩);clear bA bB bC bD bE bF cb cc cd ce cf cg hS;have Y:=b6 az;have bG:=b6 bq;obtain⟨z,k⟩:=au M.drew;have ch:=Z (show Kp [] d z by rw[k];exact D.out.drew);have ci:=Z (show z.ownsRow d.heap.size 3 1 (O E c F) c (y.flatMap cu) by rw[k];exact aK ((ag.refl M).drew) az.out);have cj:=Z (show z.ownsRow d.heap.size 111 6 (O I c J) c (C.flatMap RA.cells) by rw[k];exact aK ((ag.refl M).drew) bq.out);have ck:M.heap.size<=z.heap.size:=by rw[k];exact Nat.le_refl _
 rw[<-k];clear k az bq W X bY cx bZ L b5 bo;refine oR (i:=2) (j:=9) (oi:=?ay) (oj:=?aA) am ?aC ?aD ?aF ?aG ?aH ?aI
 case aC=>simp only[bd,be,bf];rfl
 case aD=>rfl
 case aF=>simp only[bd,be,bf];rfl
 case aG=>rfl
 case aH=>
  intro K A;go_simp;have B:=Z (ch.alloc (.cells #[(b:Int)] 3));refine A _ _ (λ_=>g _ B) ?_;refine aw ?_;have k:=Z ((ag.refl z).alloc (.cells #[(b:Int)] 3));have D:=Z (aa.new z 3 #[(b:Int)]);obtain⟨V,L⟩:=au (z.alloc (.cells #[(b:Int)] 3));rw[<-L]at B k D⊢;clear L;have cl:=B;have bH:=Z (aK k ci);have bI:=Z (aK k cj);have cB:=bL ck k.size;have bJ:=D;refine oR (i:=3) (j:=9) (oi:=?aL) (oj:=?aN) am ?aO ?aP ?aS ?aU ?aW ?aY
  case aO=>simp only[bd,be,bf];rfl
  case aP=>rfl
  case aS=>simp only[bd,be,bf];rfl
  case aU=>rfl
  case aW=>
   intro K A;have k:=Z (jz bJ (m:=1) rfl);have B:=aa.lt bJ;have cC:=Z (ku bI bH ax);refine de V (.tmp 27) (.tmp 29) 60 rfl d.heap.size 3 a4 _ 1 8 underlying60 a5 a6 a7 a8 rfl ax (O E c F) c (y.flatMap cu) rfl bH (z.heap.size+1) (some ⟨z.heap.size,0,none⟩) 1 1 ((_:aQ).toList) rfl k bn b9 af af ?_;intro cD ab P G bK;obtain⟨cF,cG,rfl,bM⟩:=bu P;have B:=Z P;have k:=Z G;clear P G bK bM;have cm:=Z (cl.grown k (λD G=>.inr (Y D G).1));refine A _ _ (λ_=>g _ cm) ?_;refine aw ?_;have cH:=B;have cJ:=Z (kk bI k (λB D e=>cC B e D));have k:=bL cB k.size;refine aM 9 (λK A=>?_);go_simp;have k:=Z (cm.alloc (.cells #[n,o,O t u w,p,q,r] 111));refine A _ _ (λ_=>g _ k) ?_;refine aw ?_;have B:=Z ((ag.refl ab).alloc (.cells #[n,o,O t u w,p,q,r] 111));have D:=Z (aa.new ab 111 #[n,o,O t u w,p,q,r]);obtain⟨M,L⟩:=au (ab.alloc (.cells #[n,o,O t u w,p,q,r] 111));rw[<-L]at k B D⊢;clear L;have cK:=k;have cn:=Z (aK B cH);have k:=Z (aK B cJ);have B:=D;refine aM 10 (λK A=>?_);have D:=Z (jz B (m:=6) rfl);have B:=aa.lt B;have cL:=Z (ku cn k ax);refine de M (.tmp 31) (.tmp 36) 79 rfl d.heap.size 111 a9 _ 6 80 underlying79 bb bc bh bi rfl ax (O I c J) c (C.flatMap RA.cells) rfl k (ab.heap.size+1) (some ⟨ab.heap.size,0,none⟩) 1 1 ((_:aQ).toList) rfl D bn b9 af af ?_;intro cD cM P G bK;obtain⟨cN,cO,rfl,bM⟩:=bu P;have B:=Z P;have k:=Z G;clear P G bK bM;have H:=Z (cK.grown k (λD G=>.inr (bG D G).1));refine A _ _ (λ_=>g _ H) ?_;refine aw ?_;have cQ:=B;have cR:=Z (kk cn k (λk B e=>cL k e B));have k:(λw':World=>ae w' (ac ba (f+b*6)) n/\ae w' (ac ba (f+b*6+1)) o/\ae w' (ac ba (f+b*6+2)) (O t u w)/\ae w' (ac ba (f+b*6+3)) p/\ae w' (ac ba (f+b*6+4)) q/\ae w' (ac ba (f+b*6+5)) r) cM:=⟨(g _ H).1,(g _ H).2.1,(g _ H).2.2.1,(g _ H).2.2.2.1,(g _ H).2.2.2.2.1,(g _ H).2.2.2.2.2⟩;refine tk 11 k ?_;refine tk 12 k ?_;refine gS am ?_ _;go_wp2_with fail
   go_roundg (l.length-c)
   case measure=>have:=S.out;omega
   refine⟨c+1,y++[(b:Int)],C++[(⟨⟨n,o,bz,⟨p,q,r⟩⟩,⟨t,u,w⟩⟩:RA)],cF,cG,cN,cO,by go_num,rfl,rfl,by omega,omg S,by rw[List.length_append,T.out];rfl,by rw[List.length_append,U.out];rfl,Z ?_,Z ?_,Z ?_,H,aZ⟩
   ·rw[List.flatMap_append];exact cR.out
   ·rw[List.flatMap_append];exact cQ.out
   intro x ad;rcases cP ad with ad|ad
   ·exact R x ad
   rw[aB ad];exact a0.out
  intro K A;go_simp;have B:=Z (cl.alloc (.cells #[n,o,O t u w,p,q,r] 111));refine A _ _ (λ_=>g _ B) ?_;refine aw ?_;have k:=Z ((ag.refl V).alloc (.cells #[n,o,O t u w,p,q,r] 111));have D:=Z (aa.new V 111 #[n,o,O t u w,p,q,r]);obtain⟨M,L⟩:=au (V.alloc (.cells #[n,o,O t u w,p,q,r] 111));rw[<-L]at B k D⊢;clear L;have cC:=B;have B:=Z (aK k bH);have bM:=Z (aK k bI);have k:=qb k bJ;have cD:=D;refine aM 3 (λK A=>?_);have D:=Z (jz k (m:=1) rfl);have k:=aa.lt k;have cF:=Z (ku bM B ax);refine de M (.tmp 27) (.tmp 29) 60 rfl d.heap.size 3 a4 _ 1 8 underlying60 a5 a6 a7 a8 rfl ax (O E c F) c (y.flatMap cu) rfl B (z.heap.size+1) (some ⟨z.heap.size,0,none⟩) 1 1 ((_:aQ).toList) rfl D bn b9 af af ?_;intro cG cH P G ad;obtain⟨cJ,cK,rfl,bK⟩:=bu P;have B:=Z P;have k:=Z G;clear P G ad bK;have cm:=Z (cC.grown k (λD G=>.inr (Y D G).1));refine A _ _ (λ_=>g _ cm) ?_;refine aw ?_;have cn:=B;have B:=Z (kk bM k (λB D e=>cF B e D));have k:=Z (aa.grown cD k (λe=>by have:=Y _ e.symm;omega));refine aM 10 (λK A=>?_);have D:=Z (jz k (m:=6) rfl);have k:=aa.lt k;have cL:=Z (ku cn B ax);refine de cH (.tmp 31) (.tmp 36) 79 rfl d.heap.size 111 a9 _ 6 80 underlying79 bb bc bh bi rfl ax (O I c J) c (C.flatMap RA.cells) rfl B (V.heap.size+1) (some ⟨V.heap.size,0,none⟩) 1 1 ((_:aQ).toList) rfl D bn b9 af af ?_;intro cG cM P G ad;obtain⟨cN,cO,rfl,bK⟩:=bu P;have B:=Z P;have k:=Z G;clear P G ad bK;have H:=Z (cm.grown k (λD G=>.inr (bG D G).1));refine A _ _ (λ_=>g _ H) ?_;refine aw ?_;have cQ:=B;have cR:=Z (kk cn k (λk A e=>cL k e A));have k:(λw':World=>ae w' (ac ba (f+b*6)) n/\ae w' (ac ba (f+b*6+1)) o/\ae w' (ac ba (f+b*6+2)) (O t u w)/\ae w' (ac ba (f+b*6+3)) p/\ae w' (ac ba (f+b*6+4)) q/\ae w' (ac ba (f+b*6+5)) r) cM:=⟨(g _ H).1,(g _ H).2.1,(g _ H).2.2.1,(g _ H).2.2.2.1,(g _ H).2.2.2.2.1,(g _ H).2.2.2.2.2⟩;refine tk 11 k ?_;refine tk 12 k ?_;refine gS am ?_ _;go_wp2_with fail
  go_roundg (l.length-c)
  case measure=>have:=S.out;omega
  refine⟨c+1,y++[(b:Int)],C++[(⟨⟨n,o,bz,⟨p,q,r⟩⟩,⟨t,u,w⟩⟩:RA)],cJ,cK,cN,cO,by go_num,rfl,rfl,by omega,omg S,by rw[List.length_append,T.out];rfl,by rw[List.length_append,U.out];rfl,Z ?_,Z ?_,Z ?_,H,aZ⟩
  ·rw[List.flatMap_append];exact cR.out
  ·rw[List.flatMap_append];exact cQ.out
  intro x ab;rcases cP ab with ab|ab
  ·exact R x ab
  rw[aB ab];exact a0.out
 intro K H;go_simp;have B:=Z (ch.alloc (.cells #[n,o,O t u w,p,q,r] 111));refine H _ _ (λ_=>g _ B) ?_;refine aw ?_;have k:=Z ((ag.refl z).alloc (.cells #[n,o,O t u w,p,q,r] 111));have D:=Z (aa.new z 111 #[n,o,O t u w,p,q,r]);obtain⟨V,L⟩:=au (z.alloc (.cells #[n,o,O t u w,p,q,r] 111));rw[<-L]at B k D⊢;clear L;have bM:=B;have cl:=Z (aK k ci);have cm:=Z (aK k cj);have k:=bL ck k.size;have cn:=D;refine aM 2 (λK H=>?_);go_simp;have B:=Z (bM.alloc (.cells #[(b:Int)] 3));refine H _ _ (λ_=>g _ B) ?_;refine aw ?_;have k:=Z ((ag.refl V).alloc (.cells #[(b:Int)] 3));have D:=Z (aa.new V 3 #[(b:Int)]);obtain⟨M,L⟩:=au (V.alloc (.cells #[(b:Int)] 3));rw[<-L]at B k D⊢;clear L;have cB:=B;have B:=Z (aK k cl);have bI:=Z (aK k cm);have cC:=qb k cn;have k:=D;refine aM 3 (λK H=>?_);have D:=Z (jz k (m:=1) rfl);have k:=aa.lt k;have cD:=Z (ku bI B ax);refine de M (.tmp 27) (.tmp 29) 60 rfl d.heap.size 3 a4 _ 1 8 underlying60 a5 a6 a7 a8 rfl ax (O E c F) c (y.flatMap cu) rfl B (V.heap.size+1) (some ⟨V.heap.size,0,none⟩) 1 1 ((_:aQ).toList) rfl D bn b9 af af ?_;intro cF cG P A ad;obtain⟨cH,cJ,rfl,bH⟩:=bu P;have B:=Z P;have k:=Z A;clear P A ad bH;have bJ:=Z (cB.grown k (λD A=>.inr (Y D A).1));refine H _ _ (λ_=>g _ bJ) ?_;refine aw ?_;have bK:=B;have B:=Z (kk bI k (λB D e=>cD B e D));have k:=Z (aa.grown cC k (λe=>by have:=Y _ e.symm;omega));refine aM 10 (λK H=>?_);have D:=Z (jz k (m:=6) rfl);have k:=aa.lt k;have cK:=Z (ku bK B ax);refine de cG (.tmp 31) (.tmp 36) 79 rfl d.heap.size 111 a9 _ 6 80 underlying79 bb bc bh bi rfl ax (O I c J) c (C.flatMap RA.cells) rfl B (z.heap.size+1) (some ⟨z.heap.size,0,none⟩) 1 1 ((_:aQ).toList) rfl D bn b9 af af ?_;intro cF cL P A ad;obtain⟨cM,cN,rfl,bH⟩:=bu P;have k:=Z P;have d:=Z A;clear P A ad bH;have G:=Z (bJ.grown d (λz A=>.inr (bG z A).1));refine H _ _ (λ_=>g _ G) ?_;refine aw ?_;have cO:=k;have cQ:=Z (kk bK d (λd k e=>cK d e k));have d:(λw':World=>ae w' (ac ba (f+b*6)) n/\ae w' (ac ba (f+b*6+1)) o/\ae w' (ac ba (f+b*6+2)) (O t u w)/\ae w' (ac ba (f+b*6+3)) p/\ae w' (ac ba (f+b*6+4)) q/\ae w' (ac ba (f+b*6+5)) r) cL:=⟨(g _ G).1,(g _ G).2.1,(g _ G).2.2.1,(g _ G).2.2.2.1,(g _ G).2.2.2.2.1,(g _ G).2.2.2.2.2⟩;refine tk 11 d ?_;refine tk 12 d ?_;refine gS am ?_ _;go_wp2_with fail
 go_roundg (l.length-c)
 case measure=>have:=S.out;omega
 refine⟨c+1,y++[(b:Int)],C++[(⟨⟨n,o,bz,⟨p,q,r⟩⟩,⟨t,u,w⟩⟩:RA)],cH,cJ,cM,cN,by go_num,rfl,rfl,by omega,omg S,by rw[List.length_append,T.out];rfl,by rw[List.length_append,U.out];rfl,Z ?_,Z ?_,Z ?_,G,aZ⟩
 ·rw[List.flatMap_append];exact cQ.out
 ·rw[List.flatMap_append];exact cO.out
 intro x ab;rcases cP ab with ab|ab
 ·exact R x ab
 rw[aB ab];exact a0.out
inductive aC where
 |mk (kind table:Int) (hk:Hd) (kids:List aC) (ht:Hd) (tests:List cF) (hc:Hd) (cH:List Int) (col agg:Int) (ha:Hd) (attrs:List RA)
def aC.cells:aC->List Value
 |.mk kind table hk _ ht _ hc _ col agg ha _=>[.int .i64 kind,.int .i64 table,hk.val,ht.val,hc.val,.int .i64 col,.int .i64 agg,ha.val]
def aC.ha:aC->Hd
 |.mk _ _ _ _ _ _ _ _ _ _ ha _=>ha
def aC.attrs:aC->List RA
 |.mk _ _ _ _ _ _ _ _ _ _ _ l=>l
mutual
def aC.pl:aC->Pl
 |.mk kind table _ kids _ tests _ cH col agg _ attrs=>.mk kind table (aC.aO kids) tests cH col agg (attrs.map RA.at_)
def aC.aO:List aC->List Pl
 |[]=>[]
 |r::l=>r.pl::aC.aO l
end
theorem w0 {c:ah} {d:Nat} {e:aX} {f n b g:Nat} {i:aT} {l:bg} (h:c.ownsRow d e f (O i n b) g l):n<=b:=by
 rcases h.2 with⟨a,_⟩|⟨j,k,m,a,_,_,o,_⟩
 ·injection a;omega
 injection a;omega
inductive dM (w:ah) (S:Nat->Prop):aC->Prop where
 |mk {kind table:Int} {hk:Hd} {kids:List aC} {ht:Hd} {tests:List cF} {hc:Hd} {cH:List Int} {col agg:Int} {ha:Hd} {attrs:List RA}
  (lk:aD w 8 hk aC.cells kids) (ik:aV S hk) (sub:∀k∈kids,dM w S k) (lt:aD w 12 ht cF.cells tests) (it:aV S ht) (lc:cX w hc cH) (ic:aV S hc) (ra:go w S ha attrs) (cg:kind=8->ha.n<=ha.c:=by simp):dM w S (.mk kind table hk kids ht tests hc cH col agg ha attrs)
theorem dM.mono {w:ah} {S S':Nat->Prop} {r:aC} (a:dM w S r) (b:∀c,S c->S' c):dM w S' r:=by
 induction a with
 |mk d e n f g i j k l m=>exact .mk d (e.mono b) (λc d=>m c d) f (g.mono b) i (j.mono b) (k.mono b) l
theorem dM.keep {w c:ah} {S:Nat->Prop} {d:aC} (i:dM w S d) {l:List Nat} (k:Kp l w c) (b:∀a∈l,¬S a):dM c S d:=by
 induction i with
 |mk j e r m f n g o p q=>exact .mk (j.kp k (λa c d i=>b a i (e a c d))) e (λc d=>q c d) (m.kp k (λa c d e=>b a e (f a c d))) f (n.kp k (λa c d e=>b a e (g a c d))) g (o.keep k b) p
theorem aC.len (a:aC):a.cells.length=8:=by cases a;rfl
theorem aC.g0 (l:List aC):aC.aO l=l.map aC.pl:=by
 induction l with
 |nil=>rfl
 |cons b l a=>rw[aC.aO,a];rfl
theorem aC.EO (a:aC):a.pl.attrs=a.attrs.map RA.at_:=by cases a;rfl
theorem dM.res {b:ah} {S:Nat->Prop} {a:aC} (c:dM b S a):go b S a.ha a.attrs:=by
 cases c with
 |mk e f g i j k l d m=>exact d
theorem jJ (l:List aC) (a:Nat) (h:a<l.length):bG (aC.aO l) a=l[a].attrs.map RA.at_:=by
 rw[aC.g0];unfold bG;simp[h,aC.EO]
theorem jK {e:ah} {h:Hd} {l:List aC} (f:aD e 8 h aC.cells l) (b:Nat) (g:b<l.length):∃c d,h.a=some ⟨c,d,none⟩/\c<e.heap.size/\e.cell? (ac c (d+b*8+7))=some l[b].ha.val:=by
 obtain⟨c,d,e,f,g⟩:=f.2.2 b g;refine⟨c,d,e,f,g 7 _ ?_⟩;cases l[b];rfl
structure iV (w:ah) (X P lo:Nat) (h:Hd) (ts:List RT) (hk:Hd) (kids:List aC) (hc:Hd) (conds:List bv) (hn:Hd) (names:bk) (at_:Int):Prop where
 hX:X<w.heap.size
 xp:X<P
 kv:P<lo
 lw:lo<=w.heap.size
 c0:ae w (ac X 0) h.val
 c8:ae w (ac X 8) at_
 ta:∀W,Kp [P] w W->bJ W h ts
 lk:aD w 8 hk aC.cells kids
 ik:aV (Bw lo w.heap.size) hk
 sub:∀k∈kids,dM w (Bw lo w.heap.size) k
 lc:∀W,Kp [P] w W->aD W 14 hc bv.cells conds
 ln:∀W,Kp [P] w W->bV W hn names
 l5:names.length<=5001
def iW (b c:Nat) (p:Pl) (v:aA) (w:ah):Prop:=v=.tuple #[]/\∃a:aC,a.pl=p/\aa w b 105 a.cells.toArray/\dM w (Bw c w.heap.size) a
def po:List (Value×Value):=[(.int .i64 1,.int .i64 0),(.int .i64 2,.int .i64 1),(.int .i64 3,.int .i64 1),(.int .i64 4,.int .i64 2),(.int .i64 5,.int .i64 2),(.int .i64 6,.int .i64 2),(.int .i64 7,.int .i64 1),(.int .i64 8,.int .i64 1)]
theorem w4 {b:ah} {d:Nat} (h:cQ (.int .i64) b d po) (c:Int):
 (eF c=none/\(Instr.lookup 341 (.map (some d)) c true).run prog b=.ok (.tuple #[J 0,.bool false]) b)\/
 ∃f:Nat,eF c=some f/\(Instr.lookup 341 (.map (some d)) c true).run prog b=.ok (.tuple #[(f:Int),.bool true]) b:=by
 rcases h.look (P:=prog) (T:=341) underlying341 underlying3 (J 0) zeroValue3 c rfl with⟨e,a⟩|⟨i,j,e,a⟩
 ·refine .inl ⟨?_,a true⟩
  simp[po]at e;unfold eF;rw[if_neg af,if_neg af,if_neg af]
 refine .inr ?_;have g:=List.mem_of_getElem? e;simp[po]at g;rcases g with⟨rfl,rfl⟩|⟨rfl,rfl⟩|⟨rfl,rfl⟩|⟨rfl,rfl⟩|⟨rfl,rfl⟩|⟨rfl,rfl⟩|⟨rfl,rfl⟩|⟨rfl,rfl⟩
 ·exact⟨0,rfl,a true⟩
 ·exact⟨1,rfl,a true⟩
 ·exact⟨1,rfl,a true⟩
 ·exact⟨2,rfl,a true⟩
 ·exact⟨2,rfl,a true⟩
 ·exact⟨2,rfl,a true⟩
 ·exact⟨1,rfl,a true⟩
 exact⟨1,rfl,a true⟩
def km (k:Nat):Array MapEntry:=(([(0:Int),1,1,2,2,2,1,1].take k).zipIdx.map λ(b,a)=>(⟨.int .i64 (a+1:Nat),.int .i64 b,a⟩:MapEntry)).toArray
theorem kw (a:ah):(Instr.mapUpdate 341 (.map (some a.heap.size)) (J 1) (J 0)).run prog (a.alloc (.map #[] 0))=.ok () (a.alloc (.map (km 1) 1)):=
 d2 (P:=prog) (T:=341) underlying341 underlying3 a #[] 0 _ _ rfl rfl
theorem kx (a:ah):(Instr.mapUpdate 341 (.map (some a.heap.size)) (J 2) (J 1)).run prog (a.alloc (.map (km 1) 1))=.ok () (a.alloc (.map (km 2) 2)):=
 d2 (P:=prog) (T:=341) underlying341 underlying3 a (km 1) 1 _ _ rfl rfl
theorem ky (a:ah):(Instr.mapUpdate 341 (.map (some a.heap.size)) (J 3) (J 1)).run prog (a.alloc (.map (km 2) 2))=.ok () (a.alloc (.map (km 3) 3)):=
 d2 (P:=prog) (T:=341) underlying341 underlying3 a (km 2) 2 _ _ rfl rfl
theorem kz (a:ah):(Instr.mapUpdate 341 (.map (some a.heap.size)) (J 4) (J 2)).run prog (a.alloc (.map (km 3) 3))=.ok () (a.alloc (.map (km 4) 4)):=
 d2 (P:=prog) (T:=341) underlying341 underlying3 a (km 3) 3 _ _ rfl rfl
theorem kA (a:ah):(Instr.mapUpdate 341 (.map (some a.heap.size)) (J 5) (J 2)).run prog (a.alloc (.map (km 4) 4))=.ok () (a.alloc (.map (km 5) 5)):=
 d2 (P:=prog) (T:=341) underlying341 underlying3 a (km 4) 4 _ _ rfl rfl
theorem kB (a:ah):(Instr.mapUpdate 341 (.map (some a.heap.size)) (J 6) (J 2)).run prog (a.alloc (.map (km 5) 5))=.ok () (a.alloc (.map (km 6) 6)):=
 d2 (P:=prog) (T:=341) underlying341 underlying3 a (km 5) 5 _ _ rfl rfl
theorem kC (a:ah):(Instr.mapUpdate 341 (.map (some a.heap.size)) (J 7) (J 1)).run prog (a.alloc (.map (km 6) 6))=.ok () (a.alloc (.map (km 7) 7)):=
 d2 (P:=prog) (T:=341) underlying341 underlying3 a (km 6) 6 _ _ rfl rfl
theorem kD (a:ah):(Instr.mapUpdate 341 (.map (some a.heap.size)) (J 8) (J 1)).run prog (a.alloc (.map (km 7) 7))=.ok () (a.alloc (.map (km 8) 8)):=
 d2 (P:=prog) (T:=341) underlying341 underlying3 a (km 7) 7 _ _ rfl rfl
theorem kE (a:ah):cQ (.int .i64) (a.alloc (.map (km 8) 8)) a.heap.size po:=⟨(km 8),8,fP _ _,rfl,(List.forall_mem_cons.2 ⟨rfl,(List.forall_mem_cons.2 ⟨rfl,(List.forall_mem_cons.2 ⟨rfl,(List.forall_mem_cons.2 ⟨rfl,(List.forall_mem_cons.2 ⟨rfl,(List.forall_mem_cons.2 ⟨rfl,(List.forall_mem_cons.2 ⟨rfl,(List.forall_mem_cons.2 ⟨rfl,(λ_ h=>by cases h)⟩)⟩)⟩)⟩)⟩)⟩)⟩)⟩)⟩
theorem ly {b:ah} {c:Nat} (h:cQ (.int .i64) b c po) {k:Int} {n:Nat} (d:eF k=some n):(Instr.lookup 341 (.map (some c)) k true).run prog b=.ok (.tuple #[(n:Int),.bool true]) b:=by
 rcases w4 h k with⟨a,_⟩|⟨e,a,f⟩
 ·rw[d]at a;cases a
 have a:n=e:=Option.some.inj (d.symm.trans a);rw[a];exact f
theorem kH {w:ah} {b m n c:Nat} {d:aX} {a:aT} {e:bg} (f:w.ownsRow b d m (O a n c) n e):aV (Bw b w.heap.size) ⟨a,n,c⟩:=by
 intro b c d;have a:a=some ⟨b,c,none⟩:=d;exact b6 f b (by rw[a];rfl)
theorem lA {c:ah} {g n d:Nat} {e:aT} {b:List RA} (i:c.ownsRow g 111 6 (O e n d) n (b.flatMap RA.cells)) (j:b.length=n) (k:b.length<=10000) (f:∀a∈b,gZ a/\aJ a.at_.name/\aJ a.at_.dflt.s):
 go c (Bw g c.heap.size) ⟨e,n,d⟩ b:=
 ⟨⟨cI (h:=⟨e,n,d⟩) RA.wY j (by show n<=_;omega) i,λa b=>⟨qU c (f a b).1,(f a b).2⟩⟩,kH i,(λa b=>(f a b).1),k⟩
theorem go.bare {c:ah} {f:Nat->Prop} {h:Hd} {d:List RA} (e:go c f h d):∀c∈d,gZ c/\aJ c.at_.name/\aJ c.at_.dflt.s:=λc d=>⟨e.b c d,(e.a.2 c d).2⟩
theorem RA.EZ (a:RA):∀v∈a.cells,v.oneCell'=true:=by
 exact xj
theorem xl (h:Hd) (l:List RA) (a:ah) (e:fq a h l) (c:l.length<=10000):
 Calls prog 53 #[h.val] a λg c=>∃f b,g=.returned (O f l.length b)/\ag a c/\c.ownsRow a.heap.size 111 6 (O f l.length b) l.length (l.flatMap RA.cells):=by
 have f:l.length=h.n:=e.1.1;refine(w8 h RA.cells RA.eW RA.EZ l a e.1 af).mono ?_;rintro a c (⟨rfl,rfl,d⟩|⟨b,j,rfl,d,i⟩)
 ·exact⟨none,0,rfl,d,rfl,.inl ⟨rfl,rfl⟩⟩
 exact⟨_,b,rfl,d,i⟩
theorem E2 {e:ah} {j d n k b:Nat} {a:List RA} (o:e.ownsRow j 111 6 (O (some ⟨d,0,none⟩) n k) n (a.flatMap RA.cells)) (f:a.length=n) (g:a.length<=10000) (l:∀c∈a,gZ c/\aJ c.at_.name/\aJ c.at_.dflt.s)
 (m:b<a.length) {nm:av} (p:aJ nm):∃g:List RA,g.length=n/\g.map RA.at_=(a.map RA.at_).modify b (λq=>{q with name:=nm})/\
  go (e.setCell (ac d (b*6)) nm) (Bw j (e.setCell (ac d (b*6)) nm).heap.size) ⟨some ⟨d,0,none⟩,n,k⟩ g:=by
 obtain⟨d,i⟩:∃d:RA,d=⟨{a[b].at_ with name:=nm},a[b].h⟩:=⟨_,rfl⟩;have e:=nK RA.eW o f b af 0 af nm d (by rw[i];rfl);refine⟨a.set b d,by simp[f],sX a b m d _ (by rw[i]),lA e (by simp[f]) aF ?_⟩;intro c r;rcases List.mem_or_eq_of_mem_set r with h|h
 ·exact l c h
 rw[h,i];have:=l _ (List.getElem_mem m);exact⟨this.1,p,this.2.2⟩
theorem E3 (h:Hd) (l:bk) (a:ah) (e:bV a h l) (f:l.length<=1000000000):
 Calls prog 257 #[h.val] a λg c=>∃f b,g=.returned (O f l.length b)/\ag a c/\c.ownsRow a.heap.size 9 1 (O f l.length b) l.length (l.flatMap dt):=by
 have f:l.length=h.n:=e.1.1;refine(xb h dt (λ_=>rfl) (λf f d=>by simp[dt]at d;subst d;rfl) l a e.1 af).mono ?_;rintro a c (⟨rfl,rfl,d⟩|⟨b,j,rfl,d,i⟩)
 ·exact⟨none,0,rfl,d,rfl,.inl ⟨rfl,rfl⟩⟩
 exact⟨_,b,rfl,d,i⟩
theorem xm {a:ah} {b b' m n:Nat} {c:aX} {v:aA} {xs:bg} (d:a.ownsRow b c m v n xs) (h:b'<=b):a.ownsRow b' c m v n xs:=by
 refine⟨d.1,?_⟩;rcases d.2 with e|⟨f,g,i,j,k,l⟩
 ·exact .inl e
 exact .inr ⟨f,g,i,j,bL h k,l⟩
def lB (b:List Tb):Prop:=∀a∈b,a.attrs.length<=10000/\∀b∈a.attrs,b.was.length<=1000000
def jL (a:ah) (b:Nat):Prop:=∀c d,a.cell? (ac b c)≠some (.string d)
theorem aD.iX {e:Type} {w f:ah} {m a:Nat} {h:Hd} {enc:e->List Value} {c:List e} (l:aD w m h enc c) (d:∀x∈c,∃g,(enc x)[0]?=some (.string g)) (o:jL w a) (k:Kp [a] w f):aD f m h enc c:=by
 refine⟨l.1,l.2.1,λi n=>?_⟩;obtain⟨b,off,ha,hb,hc⟩:=l.2.2 i n;have hne:b≠a:=by
  rintro rfl;obtain⟨g,d⟩:=d _ (List.getElem_mem n);exact o _ _ (hc 0 _ d)
 exact xo
def g2 (a:Nat) (b:List RT):Prop:=∀c∈b,aV (λb=>b≠a) c.hk
theorem bJ.iX {w f:ah} {b:Nat} {h:Hd} {c:List RT} (a:bJ w h c) (e:jL w b) (i:g2 b c) (d:Kp [b] w f):bJ f h c:=
 ⟨a.1.iX (λb _=>⟨b.name,rfl⟩) e d,λb c=>⟨⟨(a.2 b c).1.1.iX (λf _=>⟨f.at_.name,rfl⟩) e d,λf g=>⟨⟨((a.2 b c).1.2 f g).1.1.iX (λj _=>⟨j,rfl⟩) e d,((a.2 b c).1.2 f g).1.2⟩,((a.2 b c).1.2 f g).2⟩⟩,
  (a.2 b c).2.1.kp d (λd e f g=>i b c d e f (aB g)),(a.2 b c).2.2⟩⟩
def gH (w:ah) (a:Nat) (h:Hd) (u:bg):Prop:=∃b:Int,aa w a 157 (h.val::(u++[.int .i64 b])).toArray
structure nM (u:bg):Prop where
 n:u.length=7
 s:∀v∈u,∀s,v≠.string s
theorem gH.ii {w:ah} {c:Nat} {h:Hd} {u:bg} (b:gH w c h u) (e:nM u):jL w c:=by
 obtain⟨f,b⟩:=b;intro g d c;rw[aa.cell b g]at c;have i:Value.string d∈(h.val::(u++[.int .i64 f])):=List.mem_of_getElem? (by simpa using c);rcases dh i with a|a
 ·cases a
 rcases cP a with a|a
 ·exact e.s _ a d rfl
 rw[List.mem_singleton]at a;cases a
structure jM (w:ah) (X Bf Bv:Nat) (h:Hd) (ts:List RT) (u:bg) (S:Nat->Prop):Prop where
 bx:gH w X h u
 us:nM u
 hf:Bf<w.heap.size
 cf:ae w (ac Bf 0) (.func (.func 200) #[] #[ak Bf,ak Bv])
 hv:Bv<w.heap.size
 cv:ae w (ac Bv 0) (ak X)
 nf:Bf≠X
 nv:Bv≠X
 ta:bJ w h ts
 ko:g2 X ts
 fa:lB (ts.map RT.tb)
 sx:¬S X
 sl:∀b,S b->b<w.heap.size
theorem jM.kp {w b:ah} {X c d:Nat} {h:Hd} {e:List RT} {u:bg} {S:Nat->Prop} (a:jM w X c d h e u S) (k:Kp [X] w b) (f:gH b X h u):jM b X c d h e u S:=
 ⟨f,a.us,aR a.hf k.size,(k.cell (p:=(ac c 0)) a.hf (by simpa using a.nf)).trans a.cf,aR a.hv k.size,(k.cell (p:=(ac d 0)) a.hv (by simpa using a.nv)).trans a.cv,a.nf,a.nv,
  a.ta.iX (a.bx.ii a.us) a.ko k,a.ko,a.fa,a.sx,λb c=>aR (a.sl b c) k.size⟩
theorem jM.hX {w:ah} {a b c:Nat} {h:Hd} {d:List RT} {u:bg} {S:Nat->Prop} (e:jM w a b c h d u S):a<w.heap.size:=by
 obtain⟨_,a⟩:=e.bx;exact a.lt
def nN {c:Type} (w:ah) (d:Nat) (h:Hd) (u:bg) (f:RO c) (V:c->Value->World->Prop) (e:Ending) (b:ah):Prop:=
 Kp [d] w b/\gH b d h u/\match f with
  |.bad er a=>e=.panicked [{v:=fC er a,recovered:=false}]
  |.ok a=>∃c,e=.returned c/\V a c b
def pv (b:Nat) (p:Pl×Int) (v:aA) (w:ah):Prop:=∃a:aC,a.pl=p.1/\v=.tuple #[.agg a.cells.toArray,p.2]/\dM w (Bw b w.heap.size) a
theorem xq {g j:Type} {w o:ah} {c:Nat} {h:Hd} {u:bg} {k:FuncId} {l:aQ} {i:RO j} {F:g->RO j} {V:g->Value->World->Prop} {d:RO g} {g:Ending->World->Prop} (j:Kp [c] o w) (e:i=d.bind F)
 (o:Calls prog k l w λj b=>nN w c h u d V j b)
 (p:∀er a b,Hid (i=.bad er a)->Hid (Kp [c] w b)->Hid (gH b c h u)->g (.panicked [{v:=fC er a,recovered:=false}]) b)
 (q:∀a v b,d=.ok a->Hid (i=F a)->V a v b->Hid (Kp [c] w b)->Hid (gH b c h u)->g (.returned v) b):Calls prog k l w g:=by
 refine o.mono ?_;rintro j b ⟨m,n,f⟩;cases hq:d with
 |bad er a=>
  rw[hq]at f e;subst f;exact p er a b (Z e) (Z m) (Z n)
 |ok a=>
  rw[hq]at f e;obtain⟨v,rfl,r⟩:=f;exact q a v b hq (Z e) r (Z m) (Z n)
theorem sY (a:List Tb):∀(b:List Ex) (c:List Pl×Int),dY a b=.ok c->1<=c.2
 |[],c,h=>by
  rw[dY]at h;injection h with h
  rw[<-h];decide
 |e::b,c,h=>by
  rw[dY]at h;cases h1:fg a e with
  |bad d f=>rw[h1]at h;cases h
  |ok d=>
   rw[h1]at h;cases h2:dY a b with
   |bad g i=>
    have f:(dY a b).bind (λf=>RO.ok (d.1::f.1,max (d.2+1) f.2))=.ok c:=h;rw[h2]at f;cases f
   |ok f=>
    have g:(dY a b).bind (λf=>RO.ok (d.1::f.1,max (d.2+1) f.2))=.ok c:=h;rw[h2]at g;injection g with g
    have a:=sY a b f h2;rw[<-g];show 1<=max (d.2+1) f.2;omega
theorem E8 {b:List Tb} {e:Ex} {p:Pl×Int} (h:fg b e=.ok p):1<=p.2/\p.2<=12:=by
 cases e with
 |mk f g i j k l m n d=>
  rw[fg]at h;cases h1:dY b i with
  |bad a c=>rw[h1]at h;cases h
  |ok c=>
   rw[h1]at h;have o:=sY b i c h1;have a:RO.ap (decide (c.2<=12)) 3 d ((cq b f g j k l m n d c.1).bind λa=>RO.ok (a,c.2))=.ok p:=h;unfold RO.ap at a;split at a
   ·rename_i q
    cases h3:cq b f g j k l m n d c.1 with
    |bad r s=>rw[h3]at a;cases a
    |ok r=>
     rw[h3]at a;injection a with a
     rw[<-a];exact⟨o,by simpa using q⟩
   cases a
theorem E9 (b:List Tb) {d:Type} (c:List Ex) (F:List Pl×Int->RO d):(dY b c).bind F=(dY b c).bind λa=>F (a.1,max 1 a.2):=by
 cases h:dY b c with
 |bad e f=>rfl
 |ok a=>
  have b:=sY b c a h;show F a=F (a.1,max 1 a.2);rw[Int.max_eq_right b]
theorem Fa (b:List Tb) {a:Type} (d:Ex) (e:List Ex) (l:List Pl) (c:Int) (F:List Pl×Int->RO a):
 (dY b (d::e)).bind (λa=>F (l++a.1,max c a.2))=(fg b d).bind λp=>(dY b e).bind λa=>F ((l++[p.1])++a.1,max (max c (p.2+1)) a.2):=by
 rw[dY,RO.bind_assoc];congr 1
 funext p
 rw[RO.bind_assoc];congr 1
 funext a
 show F (l++p.1::a.1,max c (max (p.2+1) a.2))=_;rw[List.append_assoc,Int.max_assoc];rfl
theorem Fb (b:List Tb) (d:av) (e:List bv) (f:bk) (g i:av) (j c:Int) (a:List Pl):cq b 1 d e f g i j c a=RO.ap (decide (a.length=0)) 1 c ((df b c d).bind λc=>.ok (.mk 1 c a [] [] 0 0 ((co b c).attrs.map fe))):=by
 have h:decide (eF 1=some a.length)=decide (a.length=0):=by
  have:eF 1=some 0:=rfl;rw[this];simp only[Option.some.injEq];by_cases b:a.length=0
  ·simp[b]
  have a:¬0=a.length:=λa=>b a.symm;simp[b,a]
 unfold cq;rw[h];rfl
theorem Fc (B c aW:Nat) (h:Hd) (x:List RT) (W:av) (cG a8:Hd) (i:List aC) (bN:Hd) (bO:List bv) (bP:Hd) (bR:bk) (a9 aX:av) (ba at_:Int) (f:ah) (fh:aJ aX) (cH:lB (x.map RT.tb))
 (bS:aa f c 105 #[J 1,J 0,a8.val,ab,ab,J 0,J 0,ab]) (I:iV f B c aW h x a8 i bN bO bP bR at_):
 Calls prog 201 #[ak B,.agg #[J 1,W,cG.val,bN.val,bP.val,a9,aX,ba,at_],ak c] f
  λe w'=>RP [c] f (cq (x.map RT.tb) 1 W bO bR a9 aX ba at_ (aC.aO i)) (iW c aW) e w':=by
 obtain⟨bT,X,bU⟩:=h;obtain⟨ad,cI,al⟩:=a8;obtain⟨cK,cL,cM⟩:=cG;obtain⟨cN,cO,cQ⟩:=bN;obtain⟨cR,cS,cT⟩:=bP;have R:=Z I;have dG:i.length=cI:=I.lk.1;have bN:cI<=9223372036854775807:=I.lk.2.1;have bN:x.length=X:=(I.ta f (Kp.refl _ f)).1.1;have bN:X<=9223372036854775807:=(I.ta f (Kp.refl _ f)).1.2.1;subst dG;have bN:=I.hX;have bP:=I.xp;have bP:=I.kv;have bP:=I.lw;have cG:=bS.lt;have dH:=Z bS;obtain⟨T,bO⟩:∃T,T=cq (x.map RT.tb) 1 W bO bR a9 aX ba at_ (aC.aO i):=⟨_,rfl⟩;rw[<-bO];have bP:(aC.aO i).length=i.length:=by rw[aC.g0,List.length_map]
 have br:=Z (show T=RO.ap (decide (i.length=0)) 1 at_ ((df (x.map RT.tb) at_ W).bind λa=>.ok (.mk 1 a (aC.aO i) [] [] 0 0 ((co (x.map RT.tb) a).attrs.map fe))) by rw[bO,Fb,bP]);clear bO I bS bP;have bO:f.heap.size<=f.heap.size:=Nat.le_refl _;have dI:=Z (Kp.refl [c] f);have dJ:=Z (λ(a:ah) (b:Kp [c] f a)=>R.lk.kp b (λa b e X=>by have a:=(R.out.ik a b e).1;have a:=aB X;omega));have cU:=Z (λ(a:ah) (b:Kp [c] f a)=>show ae a (ac B 0) (O bT X bU)from(b.cell (p:=(ac B 0)) bN aF).trans R.c0);have cV:=Z (λ(a:ah) (b:Kp [c] f a)=>show ae a (ac B 8) at_ from(b.cell (p:=(ac B 8)) bN aF).trans R.c8);have bN:=aZ bN;have bN:=aZ cG;have bN:∀(bN:Fn) (first cap:aQ) (f:ah),(Instr.makeFunc bN first cap).run prog f=.ok (.func bN first cap) f:=λ_ _ _ _=>rfl;have dK:=@run_makeMap prog;show Calls prog 201 #[ak B,.agg #[J 1,W,O cK cL cM,O cN cO cQ,O cR cS cT,a9,aX,ba,at_],ak c] f _;go_enter func201,ntmps201
 go_upto_region 1 with(fail)
 obtain⟨bR,bN,bP,a,bO⟩:=nb f 154 #[ak B];rw[bN];clear bN;have bN:=qk dI a;have bR:=qb a dH;have bS:=bN.size;clear a;obtain⟨C,aX,dL,a,a9⟩:=nc bO 93 #[J 1,W,O cK cL cM,O cN cO cQ,O cR cS cT,a9,aX,ba,at_];rw[aX];clear aX;have cW:=qk bN a;have dM:=qb a bR;have dN:=qb a bP;have aX:=cW.size;clear a;have aX:f.heap.size+1<C.heap.size:=af
 clear bO a9;have dO:=kw C;have dP:=kx C;have dQ:=ky C;have dS:=kz C;have dT:=kA C;have dU:=kB C;have dV:=kC C;have dW:=kD C;go_upto_region 2 with(fail)
 clear dO dP dQ dS dT dU dV dW dK;have M3:=Z (kE C);have a:=Z (show ag C (C.alloc (.map (km 8) 8))from(ag.refl C).alloc _);obtain⟨P,C⟩:∃P,P=C.alloc (.map (km 8) 8):=⟨_,rfl⟩;rw[<-C]at M3 a⊢;clear C;have bb:=qk cW a;have bV:=qb a dM;have bW:=qb a dN;have bY:=qb a dL;have C:=bb.size;have dX:=ly M3 (k:=1) (n:=0) rfl;clear a M3;have dY:=ay bY;have C:=aa.lt bY;go_upto_region 3 with(fail)
 clear dX dY;have bZ:=ay bW;have C:=aa.lt bW;have b0:ae P (ac c 2) (O ad i.length al):=aa.cell bV 2;have C:=aa.lt bV;have b2:=cV P bb;have C:f.heap.size<P.heap.size:=af
 have C:c<P.heap.size:=af
 by_cases b4:i.length=0
 case neg=>
  have d:(((0:Nat):Int)==(i.length:Int))=false:=aF
  have d:((0:Int)==(i.length:Int))=false:=aF
  have b:=Z (show T=RO.ap false 1 at_ _ by rw[br.out,decide_eq_false b4]);clear br b4;refine eG 12 (S:=(λw'=>ae w' (aq f 0) (ak B)/\ae w' (ac c 2) (O ad i.length al))) ⟨bZ,b0⟩ (λhS=>?_);refine dq ?_;refine eo ?_;refine aM 11 (λK d=>?_);go_simp;exact b3 bb.out.drew (show T=RO.ap false _ at_ _ from b.out) b2
 have dZ:(((0:Nat):Int)==(i.length:Int))=true:=aF
 have d0:((0:Int)==(i.length:Int))=true:=aF
 have cX:=Z (show T=RO.ap true 1 at_ ((df (x.map RT.tb) at_ W).bind λb=>.ok (.mk 1 b (aC.aO i) [] [] 0 0 ((co (x.map RT.tb) b).attrs.map fe))) by rw[br.out,decide_eq_true b4]);clear br;refine eG 12 (S:=(λw'=>ae w' (aq f 0) (ak B)/\ae w' (ac c 2) (O ad i.length al))) ⟨bZ,b0⟩ (λhS=>?_);refine dq ?_;refine eo ?_;refine aM 11 (λK t=>?_);go_simp;refine bX bb.out.drew (show T=RO.ap true _ at_ _ from cX.out) b2 λcY=>?_;try go_simp
 refine t.out _ _ (λ_=>hS) ?_;refine aw ?_;refine b1 ?_;refine bQ ?_;clear hS dZ d0 bZ b0 b2 cX;have a:=Z (show ag P P.drew from(ag.refl P).drew);obtain⟨U,C⟩:∃U,U=P.drew:=⟨_,rfl⟩;rw[<-C]at a⊢;clear C;have cZ:=qk bb a;have d1:=qb a bV;have d2:=qb a bW;have c1:=qb a bY;have C:=cZ.size;clear a;go_upto_region 5 with(fail)
 have y:=Z (show aa (U.alloc (.cells #[ab] 79)) U.heap.size 79 #[ab]from aa.new U 79 #[ab]);have a:=Z (show ag U (U.alloc (.cells #[ab] 79))from((ag.refl U)).alloc _);obtain⟨L,C⟩:∃L,L=U.alloc (.cells #[ab] 79):=⟨_,rfl⟩;rw[<-C]at y a⊢;clear C;have an:=qk cZ a;have bs:=qb a d1;have bt:=qb a d2;have bg:=qb a c1;have C:=an.size;have bh:=y;clear y a;have C:=aa.lt bh;have C:c<L.heap.size:=af
 have C:=aa.lt c1;have d3:=Z (Kp.refl [c] L);have d4:=Z cH;clear cH;have d5:=ay bt;have C:=aa.lt bt;have d6:=ay bg;have d7:=aS bg;have C:=aa.lt bg;have d8:=aS bs;have C:=aa.lt bs;have d9:=ay bh;have C:=aa.lt bh;have ea:=λb=>aa.frozen bs b;have c2:=Z (o5 B ⟨bT,X,bU⟩ x W at_ L af (cU L an) (cV L an) (R.ta L an));go_upto_region 11 with(fail)
 go_wp2_with fail
 refine dR cY.out (c2.out) ?au ?aA
 case au=>
  intro g I bq HX d;go_wp2;refine⟨rfl,?_⟩;rw[HX.out];exact⟨(an.out.trans ((d.out).mono (λ_ h=>by cases h))),rfl⟩
 intro I eb b5 c3 c4 c5 ao;obtain⟨o,rfl,c6⟩:=nE c3;have ec:eb=.int .i64 (o:Int):=c5;subst ec;have bw:o<x.length:=by simpa using c6
 clear c5 c3 c6;have c7:=qm an ao;have bx:=qo ao bs;have ed:=qo ao bt;have ee:=qo ao bg;have ef:=qo ao bh;have eg:=qm d3 ao;have C:=c7.size;clear ao;have eh:=aS bx;have C:=aa.lt bx;clear d5 d6 d7 d8 d9 ea c2;have ei:=λb=>aa.frozen bx b;go_upto_region 12 with(fail)
 have y:=Z (show aa (b5.setCell (ac c 1) (o:Int)) c 105 #[J 1,(o:Int),O ad i.length al,ab,ab,J 0,J 0,ab]from bx.aP 1 (o:Int));have u:=Z (Kp.aH (p:=(ac c 1)) (l:=[c]) aj (Kp.refl [c] b5) (o:Int));obtain⟨M,C⟩:∃M,M=b5.setCell (ac c 1) (o:Int):=⟨_,rfl⟩;rw[<-C]at y u⊢;clear C;have C:=u;have ej:=Z (eg.trans u);have bj:=Z (c7.trans u);have b8:=qo u ed;have ek:=qo u ee;have el:=qo u ef;have C:=bj.size;have C:=u;have ca:=y;clear y u;clear eh ei;obtain⟨z,bz,c9,C,da,cb,db⟩:=nD (R.out.ta M bj.out) o bw;have cc:bT=some ⟨z,bz,none⟩:=c9;have cd:=Z (λ(d:ah) (g:Kp [c] f d)=>(R.ta d g).2 _ (List.getElem_mem bw));have ce:=Z (nF x o bw);have bA:=Z (d4 x[o].tb (List.mem_map.2 ⟨x[o],List.getElem_mem bw,rfl⟩));obtain⟨tq,dc⟩:∃tq,tq=x[o]:=⟨_,rfl⟩;rw[<-dc]at da cb db cd ce bA;obtain⟨fi,⟨bB,cf,cg⟩,v,⟨fj,fk,fl⟩,fm⟩:=tq;have dd:ae M (ac z (bz+o*3+1)) (O bB cf cg):=cb;have ch:Hid (∀(d:ah),Kp [c] f d->fq d ⟨bB,cf,cg⟩ v):=Z (λd g=>(cd d g).1);have em:v.length=cf:=(ch M bj).1.1;have dg:Hid (v.length<=10000/\∀d∈v,d.at_.was.length<=1000000):=Z ⟨by have h:=bA.out.1;have d:(v.map RA.at_).length<=10000:=h;rwa[List.length_map]at d,λd g=>bA.out.2 d.at_ (List.mem_map.2 ⟨d,g,rfl⟩)⟩;have x:=dg.1;subst em;have en:Hid (T=.ok (.mk 1 (o:Int) (aC.aO i) [] [] 0 0 ((v.map RA.at_).map fe))):=Z (by rw[c4.out,ce.out];rfl);clear da cb db dc c9 cd bA ce c4 cY;have x:(o:Int)<X:=by omega
 have x:(0:Int)<=o:=af
 subst cc;have x:=cU M bj;have C:B<M.heap.size:=af
 have C:=ay b8;have I:=aa.lt b8;have I:=aS ca;have P:=aa.lt ca;refine eG 15 (S:=(λw'=>ae w' (aq f 0) (ak B)/\ae w' (ac B 0) (O (some ⟨z,bz,none⟩) X bU)/\ae w' (ac c 1) (o:Int)/\ae w' (ac z (bz+o*3+1)) (O bB v.length cg))) ⟨C,x,I,dd⟩ (λhS=>?_);refine dq ?_;refine eo ?_;refine sO ?_;refine gS am ?_ _;clear hS C x I dd;have a:=Z (show ag M M.drew from(ag.refl M).drew);obtain⟨x,x⟩:∃x,x=M.drew:=⟨_,rfl⟩;rw[<-x]at a⊢;clear x;have x:=qk bj a;have ep:=qb a ca;have B:=qb a b8;have B:=qb a ek;have B:=qb a el;have eq:=qk ej a;have x:=x.size;clear a;obtain⟨er,es,et,ev,ew⟩:=info_parts Tryz.infoAt;obtain⟨ex,ey,ez,eA,eB⟩:=info_parts Tryz.vH;go_wp2;go_loopg [85] (v.length+1) (λq r wr=>∃(b:Nat) (d:List RA) (g:aT) (j:Nat),r=.int .i64 b/\b<=v.length/\v.length-b<q/\d.length=b/\Hid (d.map RA.at_=((v.map RA.at_).map fe).take b)/\Hid (aa wr c 105 #[J 1,(o:Int),O ad i.length al,ab,ab,J 0,J 0,O g b j])/\Hid (wr.ownsRow L.heap.size 111 6 (O g b j) b (d.flatMap RA.cells))/\Hid (∀g∈d,gZ g/\aJ g.at_.name/\aJ g.at_.dflt.s)/\Hid (Kp [c] L wr))
 case atStart=>exact⟨0,[],none,0,rfl,by omega,by omega,rfl,Z aj,ep,Z ⟨rfl,.inl ⟨rfl,rfl⟩⟩,Z (λg d=>by cases d),eq⟩
 obtain⟨b,bl,bm,bo,rfl,fn,dh,di,ci,dk,cj,dl,aY⟩:=hrel;have dm:=Z dh;have ck:=Z di;clear dh di;have Q:=Z (an.trans aY);have x:=Q.size;have x:=aY.size;have eC:=qo aY bt;have eD:=qo aY bg;have eE:=qo aY bh;by_cases bC:b<v.length
 case neg=>
  have d:¬(b:Int)<v.length:=af
  have g:=Z (show T=.ok (.mk 1 (o:Int) (aC.aO i) [] [] 0 0 (bl.map RA.at_)) by rw[en.out,ci.out,List.take_of_length_le (by rw[List.length_map,List.length_map];omega)]);have j:=Z ((lA cj ck (omg ck) dl).mono (S':=Bw aW wr.heap.size) (λz d=>⟨by have:=d.1;omega,d.2⟩));go_wp2;first|go_end0|refine bodyPost_ret (results_none rfl _ _ _) rfl ?_
  rw[g.out];have d:=Q.size;have g:∀z∈[c],¬Bw aW f.heap.size z:=λz d hS=>by have q:=hS.1;have q:=aB d;omega
  have d:∀z,Bw aW f.heap.size z->Bw aW wr.heap.size z:=λz d=>⟨d.1,by have:=d.2;omega⟩;refine⟨Q.out,_,rfl,rfl,(aC.mk 1 (o) ⟨ad,i.length,al⟩ i aL [] aL [] (0) (0) ⟨bm,b,bo⟩ bl),kI,dk.out,.mk (dJ.out wr Q.out) (R.out.ik.mono d) (λq a8=>((R.out.sub q a8).keep Q.out g).mono d) (aD.none_ _ 12 _) (aV.none_ _ _ _) (aD.none_ _ 1 _) (aV.none_ _ _ _) (j.out)⟩
 have x:(b:Int)<v.length:=af
 have x:(0:Int)<=b:=af
 obtain⟨ar,az,dn,x,cl,cm,cn,cp,cr,cs⟩:=iR (ch.out wr Q.out) b bC;have cc:bB=some ⟨ar,az,none⟩:=dn;have a0:=Z (λ(d:ah) (g:Kp [c] f d)=>((ch d g).2 _ (List.getElem_mem bC)));have bE:=Z (dg.2 _ (List.getElem_mem bC));have ct:((v.map RA.at_).map fe).take (b+1)=((v.map RA.at_).map fe).take b++[fe v[b].at_]:=by
  rw[List.take_succ_eq_append_getElem (by simpa using bC)];simp
 obtain⟨cu,dp⟩:∃cu,cu=v[b]:=⟨_,rfl⟩;rw[<-dp]at cl cm cn cp cr cs a0 bE ct;obtain⟨⟨g,j,d,⟨a1,a2,a3⟩⟩,⟨D,eF,E⟩⟩:=cu;have eH:d.length=eF:=(a0 wr Q).1.1.1;subst eH;have eI:Hid (((v.map RA.at_).map fe).take (b+1)=bl.map RA.at_++[⟨(d++[g])[0]'aj,j,[],V.zero⟩]):=Z (by
  rw[ct,ci.out];congr 2
  show(⟨(d++[g]).headD e0,j,[],V.zero⟩:At)=_;congr 1
  cases d<;>rfl)
 have eJ:Hid (aJ ((d++[g])[0]'aj)):=Z (by
  have q:=(a0 wr Q).1.2;have r:=(a0 wr Q).2.1;rcases cP (List.getElem_mem (l:=d++[g]) (n:=0) aj)with h|h
  ·exact q _ h
  rw[aB h];exact r)
 have dr:Hid (∀q,Kp [c] f q->Calls prog 257 #[O D d.length E] q λe w'=>∃f r,e=.returned (O f d.length r)/\ag q w'/\w'.ownsRow q.heap.size 9 1 (O f d.length r) d.length (d.flatMap dt)):=Z (λf q=>E3 ⟨D,d.length,E⟩ d f (a0 f q).1 (by have:=bE.out;show d.length<=_;have f:d.length<=1000000:=this;omega));have f:d.length<=1000000:=bE;clear dp dn ct ci a0 bE;have eK:ae wr (ac ar (az+b*6)) g:=cl;have eL:ae wr (ac ar (az+b*6+1)) j:=cm;have ds:ae wr (ac ar (az+b*6+2)) (O D d.length E):=cn;have eM:ae wr (ac ar (az+b*6+3)) a1:=cp;have eN:ae wr (ac ar (az+b*6+4)) a2:=cr;have eO:ae wr (ac ar (az+b*6+5)) a3:=cs;have f:IntKind.i64.wrap ((b:Int)+1)=(b:Int)+1:=IntWalk.i64_in _ af;clear cl cm cn cp cr cs;subst cc;go_upto_region 15 with(fail)
 clear eK eL ds eM eN eO;have y:=Z (show aa (wr.alloc (.cells #[g,j,O D d.length E,a1,a2,a3] 111)) wr.heap.size 111 #[g,j,O D d.length E,a1,a2,a3]from aa.new wr 111 #[g,j,O D d.length E,a1,a2,a3]);have a:=Z (show ag wr (wr.alloc (.cells #[g,j,O D d.length E,a1,a2,a3] 111))from((ag.refl wr)).alloc _);obtain⟨f,x⟩:∃f,f=wr.alloc (.cells #[g,j,O D d.length E,a1,a2,a3] 111):=⟨_,rfl⟩;rw[<-x]at y a⊢;clear x;have B:=qk Q a;have I:=qb a dk;have M:=qb a eC;have P:=qb a eD;have Q:=qb a eE;have R:=Z (aK a cj);have T:=qk aY a;have x:=B.size;have x:=y;clear y a;have a:=aa.lt x;have a:=ay x;have C:=bc x;have U:=aa.lt x;refine eG 9 (S:=(λw'=>ae w' (aq wr 0) g/\ae w' (aq wr 2) (O D d.length E))) ⟨a,C⟩ (λhS=>?_);refine mx ?_;refine gl ?_;have q:=Z (show ag f f.drew from(ag.refl f).drew);obtain⟨H,f⟩:∃H,H=f.drew:=⟨_,rfl⟩;rw[<-f]at q hS⊢;clear f;have bG:=qk B q;have eP:=qb q I;have eQ:=qb q M;have eR:=qb q P;have eS:=qb q Q;have bH:=qb q x;have du:=Z (aK q R);have eT:=qk T q;have f:=bG.size;clear q a C;have bI:=ay bH;have bJ:=bc bH;have a:=aa.lt bH;refine mi 2 5 (λK t=>?aG) (λK t=>?aI)
 case' aG=>
  go_simp;refine(dr.out H bG.out).mono ?_;rintro e r ⟨cE,cF,rfl,w,G⟩;have N:=w.size;have F:(λw':World=>ae w' (aq wr 0) g/\ae w' (aq wr 2) (O D d.length E)) r:=⟨(w.cell (p:=(aq wr 0)) dj).trans bI,(w.cell (p:=(aq wr 2)) dj).trans bJ⟩;refine t.out _ _ (λ_=>F) ?_;refine aw ?_;refine aM 5 (λK t=>?_);go_simp;have a6:(λw':World=>ae w' (aq wr 0) g/\ae w' (aq wr 2) (O D d.length E)) (r.alloc (.cells #[g] 9)):=⟨(World.cell?_alloc_lt _ _ _ dj).trans F.1,(World.cell?_alloc_lt _ _ _ dj).trans F.2⟩;refine t.out _ _ (λ_=>a6) ?_;refine aw ?_;have Y:=Z (aa.new r 9 #[g]);have A:=Z (w.trans ((ag.refl r).alloc (.cells #[g] 9)));have aU:=Z (aK ((ag.refl r).alloc (.cells #[g] 9)) G);obtain⟨bq,f⟩:∃a,a=r.alloc (.cells #[g] 9):=⟨_,rfl⟩;obtain⟨a7,a⟩:∃a,a=r.heap.size:=⟨_,rfl⟩;have r:H.heap.size<=a7:=by rw[a];exact N
  rw[<-f]at Y A aU a6⊢;rw[<-a]at Y⊢;clear f a w G F N
 case' aI=>
  go_simp;have w:(λw':World=>ae w' (aq wr 0) g/\ae w' (aq wr 2) (O D d.length E)) (H.alloc (.cells #[g] 9)):=⟨bi bI,bi bJ⟩;refine t.out _ _ (λ_=>w) ?_;refine aw ?_;refine aM 2 (λK t=>?_);go_simp;refine(dr.out (H.alloc (.cells #[g] 9)) (bG.out.alloc (.cells #[g] 9))).mono ?_;rintro e bq ⟨cE,cF,rfl,r,F⟩;have A:=Z (((ag.refl H).alloc (.cells #[g] 9)).trans r);have Y:=Z ((Kp.of_same (l:=[]) r).blk (aa.new H 9 #[g]) aj);have aU:=Z (xm (b':=H.heap.size) F aj);have a6:(λw':World=>ae w' (aq wr 0) g/\ae w' (aq wr 2) (O D d.length E)) bq:=⟨(r.cell (p:=(aq wr 0)) (by show wr.heap.size<_;simp;omega)).trans w.1,(r.cell (p:=(aq wr 2)) (by show wr.heap.size<_;simp;omega)).trans w.2⟩;clear r F;refine t.out _ _ (λ_=>a6) ?_;refine aw ?_;obtain⟨a7,a⟩:∃a,a=H.heap.size:=⟨_,rfl⟩;have f:H.heap.size<=a7:=by omega
  rw[<-a]at Y⊢;clear a w
 all_goals
  have a:=A.size;have a:=aa.lt Y;have dv:=Z (jz Y (m:=1) rfl);have hrow:=b6 aU;refine aM 6 (λK t=>?_);refine de bq (.tmp 91) (.tmp 94) 83 rfl H.heap.size 9 ex _ 1 16 underlying83 ey ez eA eB rfl ax (O cE d.length cF) d.length (d.flatMap dt) rfl aU.out (a7+1) (some ⟨a7,0,none⟩) 1 1 ((#[g]:Array Value).toList) rfl dv.out bn b9 af af ?_;intro eU aE aN r cv;obtain⟨fo,ds,rfl,cw⟩:=bu aN;have cx:=Z aN;have w:=Z r;have aR:=Z (fK (Kp.of_same A) r);clear aN r cv cw a6;have bK:(λw':World=>ae w' (aq wr 0) g/\ae w' (aq wr 2) (O D d.length E)) aE:=⟨bF aR bI,bF aR.out bJ⟩;refine t.out _ _ (λ_=>bK) ?_;refine aw ?_;obtain⟨eV,a,eW,f,dw,_,_,_,_⟩:=fX cx.out af;subst eW;have dx:ae aE (ac eV 0) (.string ((d++[g])[0]'aj)):=kF (enc:=dt) (m:=1) (λ_=>rfl) (xs:=d++[g]) (by rw[List.flatMap_append];exact cx.out) aj 0 af 0 af;have cy:=Z (And.intro eI.out eJ.out);obtain⟨F,a⟩:∃a,a=((d++[g])[0]'aj):=⟨_,rfl⟩;rw[<-a]at dx cy;clear a;have eX:(0:Int)<((d.length+1:Nat):Int):=by omega
  have eY:(0:Int)<(d.length:Int)+1:=af
  have a:=aa.lt dw;refine tk 7 bK ?_;refine aM 8 (λK t=>?_);go_simp;refine t.out _ _ (λ_=>bK) ?_;refine aw ?_;refine b1 ?_;refine tq 9 ?_;refine bQ ?_;clear dx bK hS eX eY dw;have dy:=Z ((bG.trans (Kp.of_same A)).grown w (λa r=>.inr (by have:=hrow a r;omega)));have eZ:=Z ((eT.trans (Kp.of_same A)).grown w (λa r=>.inr (by have:=hrow a r;omega)));have e1:=Z (kk (aK A du) w (λz a=>ku aU (aK A du) ax z a));have a:=dy.size;have a:H.heap.size<=aE.heap.size:=by have:=w.out.size;omega
  have cz:=Z (aa.grown ((Kp.of_same (l:=[]) A).blk eP aj) w (λe=>by have:=hrow _ e.symm;omega));have e2:=Z (aa.grown ((Kp.of_same (l:=[]) A).blk eQ aj) w (λe=>by have:=hrow _ e.symm;omega));have e3:=Z (aa.grown ((Kp.of_same (l:=[]) A).blk eR aj) w (λe=>by have:=hrow _ e.symm;omega));have e4:=Z (aa.grown ((Kp.of_same (l:=[]) A).blk eS aj) w (λe=>by have:=hrow _ e.symm;omega));have cA:=Z (aa.grown ((Kp.of_same (l:=[]) A).blk bH aj) w (λe=>by have:=hrow _ e.symm;omega));clear aU Y A dv w aR hrow cx bI bJ;go_upto_region 16 with(fail)
  have a:=b7 cz;have d:=aa.lt cz;have d:=aS cA;have f:=aa.lt cA;refine eG 11 (S:=(λw'=>ae w' (ac c 7) (O bm b bo)/\ae w' (aq wr 1) j)) ⟨a,d⟩ (λhS=>?_);refine dq ?_;have q:=Z (show ag aE aE.drew from(ag.refl aE).drew);obtain⟨N,a⟩:∃N,N=aE.drew:=⟨_,rfl⟩;rw[<-a]at q hS⊢;clear a;have dz:=qk dy q;have bL:=qb q cz;have e5:=qb q e2;have e6:=qb q e3;have e7:=qb q e4;have cB:=qb q cA;have cC:=Z (aK q e1);have e8:=qk eZ q;have a:=dz.size;clear q hS;have dA:=b7 bL;have a:=aa.lt bL;have dB:=aS cB;have a:=aa.lt cB;have dC:(λw':World=>ae w' (ac c 7) (O bm b bo)/\ae w' (aq wr 1) j) (N.alloc (.cells #[F,j,ab,J 0,J 0,ai] 111)):=⟨bi dA,bi dB⟩;refine aM 9 (λK t=>?_);go_simp;refine t.out _ _ (λ_=>dC) ?_;refine aw ?_;have dD:=Z (aK ((ag.refl N).alloc (.cells #[F,j,ab,J 0,J 0,ai] 111)) cC);have dE:=Z (cJ N #[F,j,ab,J 0,J 0,ai] 111 6 rfl);have hrow:∀G,(Value.slice bm b bo).ownBlock=some G->L.heap.size<=G/\G<N.heap.size/\G<wr.heap.size:=λG r=>⟨(b6 cC G r).1,(b6 cC G r).2,(λG r=>(b6 cj G r).2) G r⟩;have a:=aa.lt bL;refine aM 10 (λK t=>?_);refine de (N.alloc (.cells #[F,j,ab,J 0,J 0,ai] 111)) (.tmp 102) (.tmp 107) 79 rfl (L.heap.size) 111 er _ 6 80 underlying79 es et ev ew rfl ax (O bm b bo) b (bl.flatMap RA.cells) rfl dD.out (N.heap.size+1) (some ⟨N.heap.size,0,none⟩) 1 1 ((#[F,j,ab,J 0,J 0,ai]:Array Value).toList) rfl dE.out bn b9 af aF ?_;intro eU bM aN r cv;obtain⟨a4,a5,rfl,cw⟩:=bu aN;have e9:=Z aN;have w:=Z r;have aR:=Z (fK ((Kp.refl [] N).alloc (.cells #[F,j,ab,J 0,J 0,ai] 111)) r);clear aN r cv cw;have cD:=Z (aa.grown (bL.alloc (.cells #[F,j,ab,J 0,J 0,ai] 111)) w (λe=>by have:=hrow _ e.symm;omega));have fa:=b7 cD;have fb:=λb=>aa.frozen cD b;refine t.out _ _ (λ_=>⟨bF aR.out dA,bF aR.out dB⟩) ?_;clear t K dC;refine aw ?_;refine b1 ?_;refine tq 11 ?_;refine tq 12 ?_;refine dF 13 (λK t=>?_);go_simp;refine t _ _ ?_;refine aw ?_;refine bQ ?_;have f:=Z (aa.grown (e5.alloc (.cells #[F,j,ab,J 0,J 0,ai] 111)) w (λe=>by have:=hrow _ e.symm;omega));have g:=Z (aa.grown (e6.alloc (.cells #[F,j,ab,J 0,J 0,ai] 111)) w (λe=>by have:=hrow _ e.symm;omega));have q:=Z (aa.grown (e7.alloc (.cells #[F,j,ab,J 0,J 0,ai] 111)) w (λe=>by have:=hrow _ e.symm;omega));have t:=Z (aa.grown (cB.alloc (.cells #[F,j,ab,J 0,J 0,ai] 111)) w (λe=>by have:=hrow _ e.symm;omega));have a:=Z ((dz.alloc (.cells #[F,j,ab,J 0,J 0,ai] 111)).grown w (λG r=>.inr (by have:=hrow G r;omega)));have r:=Z ((e8.alloc (.cells #[F,j,ab,J 0,J 0,ai] 111)).grown w (λG r=>.inr (by have:=hrow G r;omega)));have d:=a.size;have d:N.heap.size<=bM.heap.size:=by have:=w.out.size;simp at this;omega
  clear dD dE w aR hrow fa fb;have y:=Z (show aa (bM.setCell (ac c 7) (O a4 (b+1) a5)) c 105 #[J 1,(o:Int),O ad i.length al,ab,ab,J 0,J 0,O a4 (b+1) a5]from cD.aP 7 (O a4 (b+1) a5));have u:=Z (Kp.aH (p:=(ac c 7)) (l:=[c]) aj (Kp.refl [c] bM) (O a4 (b+1) a5));obtain⟨d,c⟩:∃d,d=bM.setCell (ac c 7) (O a4 (b+1) a5):=⟨_,rfl⟩;rw[<-c]at y u⊢;clear c;have c:=u;have fc:=Z (r.trans u);have a:=Z (a.trans u);have c:=qo u f;have c:=qo u g;have c:=qo u q;have c:=qo u t;have a:=a.size;have fd:=u;have ff:=y;clear y u;go_wp2_with fail
  go_roundg (v.length-b)
  case measure=>have:=dm.out;omega
  refine⟨b+1,bl++[(⟨⟨F,j,[],V.zero⟩,aL⟩:RA)],a4,a5,by go_num,by omega,omg dm,by rw[List.length_append,ck.out];rfl,Z (by rw[List.map_append];exact cy.out.1.symm),ff,Z (bD (by rw[List.flatMap_append];exact e9.out) fd.out (λz a=>by have:=aB a;omega)),Z ?_,fc⟩;intro fg bp;rcases cP bp with bp|bp
  ·exact dl.out fg bp
  rw[aB bp];exact⟨⟨rfl,rfl⟩,cy.out.2,by show(0:Nat)<=_;omega⟩
structure pw (w:ah) (X Bw Bl:Nat) (h:Hd) (ra:List RA) (at_:Int):Prop where
 hX:X<w.heap.size
 c8:ae w (ac X 8) at_
 hw:Bw<w.heap.size
 cw:ae w (ac Bw 0) (ak X)
 hl:Bl<w.heap.size
 cl:ae w (ac Bl 0) h.val
 a:fq w h ra
theorem pw.same {w c:ah} {X Bw b:Nat} {h:Hd} {ra:List RA} {at_:Int} (a:pw w X Bw b h ra at_) (s:ag w c):pw c X Bw b h ra at_:=
 ⟨aR a.hX s.size,(s.cell (p:=(ac X 8)) a.hX).trans a.c8,aR a.hw s.size,(s.cell (p:=(ac Bw 0)) a.hw).trans a.cw,aR a.hl s.size,(s.cell (p:=(ac b 0)) a.hl).trans a.cl,a.a.same s⟩
theorem Fd (z Bw d:Nat) (h:Hd) (b:List RA) (g:dl) (at_:Int) (f:ah) (a:pw f z Bw d h b at_):
 Calls prog 271 #[.agg g.cells.toArray,ak Bw,ak d] f λe w'=>RP [] f (mh at_ (b.map RA.at_) g) mB e w':=by
 obtain⟨p,i,l⟩:=h;have E:=Z a;have aU:b.length=i:=a.a.1.1;have aU:=a.hX;have aU:=a.hl;clear a;obtain⟨q,A⟩:=au (mh at_ (b.map RA.at_) g);rw[<-A];obtain⟨j,k,G,⟨ad,al,an⟩⟩:=g;have r:=Z (show q=RO.ap (decide (j=e0)) 8 at_ ((em at_ (b.map RA.at_) k).bind λc=>.ok (⟨0,c,V.zero⟩,(cE (b.map RA.at_) c).kind))from A);clear A;have F:=j1 j e0;have ao:=Z (Kp.refl [] f);show Calls prog 271 #[.agg #[j,k,G,ad,al,an],ak Bw,ak d] f _;go_enter func271,ntmps271
 go_upto_region 1 with(fail)
 obtain⟨al,A,ad,g,G⟩:=nb f 284 _;rw[A];clear A;have al:=qk ao g;have an:=Z (E.same g);clear g;obtain⟨m,A,aq,g,ao⟩:=nc G 71 _;rw[A];clear A;have s:=qk al g;have H:=qb g ad;have n:=Z (an.same g);clear g;have g:f.heap.size+1<m.heap.size:=af
 clear G ao;have ar:=ay H;have av:=n.cw;have t:=n.c8;have B:j.toList.isEmpty=decide (j=e0):=by
  rw[<-F];have c:e0.toList=[]:=by simp[e0]
  rw[c];cases j.toList<;>rfl
 generalize ax:j.toList.isEmpty=az at B;have u:=Z B.symm;clear B F;cases az
 case false=>
  have c:=Z (show q=RO.ap false 8 at_ _ by rw[r.out,u.out]);clear r u;go_wp2_with fail
  exact b3 s c t
 have I:=Z (show q=RO.ap true 8 at_ ((em at_ (b.map RA.at_) k).bind λc=>.ok (⟨0,c,V.zero⟩,(cE (b.map RA.at_) c).kind)) by rw[r.out,u.out]);clear r u;go_wp2_with fail
 refine bX s I t λL=>?_;clear I ax ar;have aA:ae m (ac d 0) (O p i l):=n.cl;have g:=Z (qE z ⟨p,i,l⟩ b k at_ m af t n.a);have M:Hid (Calls prog 272 #[ak z,O p i l,k] m λe w'=>RP [] m (em at_ (b.map RA.at_) k) h8 e w'):=g;clear g;have aB:=aS H;go_wp2_with fail
 refine dR L M (fb s) ?_;intro a g C N P Q w;have aC:g=.int .i64 a:=Q;subst aC;obtain⟨c,aD,R⟩:=qV N;subst aD;have j:c<b.length:=by simpa using R
 clear R Q N;have S:=Z (s.trans w);have aE:=qo w aq;have aF:=Z (n.same w.same);clear w;clear aB av t aA M;obtain⟨ba,x,k,T,m,g,n,r,s,t⟩:=iR E.a c j;have U:=(S.cell T aj).trans g;clear g;have aG:p=some ⟨ba,x,none⟩:=k;have g:(c:Int)<i:=af
 have g:(0:Int)<=c:=af
 obtain⟨D,g⟩:=au (b[c].at_.kind);rw[<-g]at U;have aH:=Z (show q=.ok ((⟨0,(c:Int),V.zero⟩:Sd),D) by rw[P.out,ki b c j,<-g]);clear L P g m n r s t k;subst aG;have aI:ae C (ac d 0) (O (some ⟨ba,x,none⟩) i l):=aF.cl;go_upto_region 3 with(fail)
 have y:=Z ((ag.refl C).drew);refine dQ 9 aI U λhS=>?_;refine cR ?_;refine jH ?_;obtain⟨W,b⟩:=au C.drew;rw[<-b]at y hS⊢;clear b;have X:=qk S y;have Y:=qb y aE;have aJ:=X.size;obtain⟨aK,aL⟩:=hS;have b:=aR T aJ;have b:d<W.heap.size:=af
 clear y;have b:(λw':World=>ae w' (ac d 0) (O (some ⟨ba,x,none⟩) i l)/\ae w' (ac ba (x+c*6+1)) D) (W.setRow ((f.heap.size+1)) #[J 0,(c:Int),J 0,J 0,ai]):=⟨(mC (by show d<_;omega) (by show d≠_;omega)).trans aK,(mC (by show ba<_;omega) (by show ba≠_;omega)).trans aL⟩;refine aM 7 (λK d=>?_);refine wp_store_row 71 (.tmp 4) (.tmp 18) rfl ((f.heap.size+1)) _ rfl rfl 71 _ Y am rfl bn (d _ _ (λ_=>b) ?_);refine aw ?_;refine tk 8 b ?_;refine gS am ?_ _;clear b;obtain⟨d,b,o,aa⟩:=mA Y #[J 0,(c:Int),J 0,J 0,ai];rw[b];clear b;have ab:=Z (X.grown aa (λb ab=>.inr (by injection ab with ab;omega)));clear aa;have aN:=ay o;have aO:=aS o;have aP:=bc o;have aQ:=bj o;have aT:=bo o;go_wp2_with fail
 refine bodyPost_ret (v:=.tuple #[.agg #[J 0,(c:Int),J 0,J 0,ai],D]) ?_ rfl ?_
 ·simp[results,results271,go_sem,aN,aO,aP,aQ,aT]
 rw[aH.out];exact⟨ab,_,rfl,rfl⟩
end Go.Proofs.YteamkimbmdgdbaaGreatDoor

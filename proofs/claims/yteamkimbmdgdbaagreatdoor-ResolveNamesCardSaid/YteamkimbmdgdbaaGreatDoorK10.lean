import Derived.Test.YteamkimbmdgdbaaGreatDoorK09
set_option linter.unusedSimpArgs false
set_option linter.unusedVariables false
set_option maxHeartbeats 16000000
set_option maxRecDepth 100000
namespace Go.Proofs.YteamkimbmdgdbaaGreatDoor
open Go.Proofs.Tryz
open Go.RowKit
theorem DM {d:Type} (g:Nat) (caps:aQ) (f:∀f a,(callFunc g f).run prog a=.ok (.enter g f) a) (h:Hd) (enc:d->List Value) (m:∀f,∃o b i,enc f=[o,b,i]) (p:d->Bool) (xs:List d) (a:ah)
 (c:aD a 3 h enc xs) (n:gx g caps a (λf=>.agg (enc f).toArray) p xs):
 Calls prog 268 #[h.val,.func (.func g) #[] caps] a λe w'=>e=.returned (J (ce p xs))/\ag a w':=by
 obtain⟨A,l,i⟩:=h;show Calls prog 268 #[O A l i,.func (.func g) #[] caps] a _;have q:xs.length=l:=c.1;have d:l<=9223372036854775807:=c.2.1;subst q;have HL:=Z c;have HT:=Z n;have H3:=Z m;clear c n m;go_enter func268,ntmps268
 go_wp2;go_loopw [8] (λc wr=>∃k:Nat,k<=xs.length/\c=.int .i64 k/\Hid (ag a wr)/\Hid (∀j (hj:j<xs.length),j<k->p xs[j]=false)) (λc _=>xs.length-(intOf c).toNat)
 case atStart=>exact⟨0,Nat.zero_le _,rfl,ag.refl a,λj _ hj=>absurd hj (Nat.not_lt_zero _)⟩
 obtain⟨k,r,rfl,S,N⟩:=hrel;by_cases hlt:k<xs.length
 ·exact uU
 go_wp2;go_ret;exact⟨ej (lZ (λj hj=>N.out j hj af)).symm,S.out⟩
theorem DN {m:Type} (c:Nat) (f:aQ) (n:∀n b,(callFunc c n).run prog b=.ok (.enter c n) b) (h:Hd) (g:m->List Value) (t:∀n,∃A o p B,g n=[A,o,p,B]) (d:m->Bool) (a:List m) (b:ah)
 (i:aD b 4 h g a) (u:gx c f b (λn=>.agg (g n).toArray) d a):
 Calls prog 269 #[h.val,.func (.func c) #[] f] b λe q=>e=.returned (J (ce d a))/\ag b q:=by
 obtain⟨v,r,p⟩:=h;show Calls prog 269 #[O v r p,.func (.func c) #[] f] b _;have C:a.length=r:=i.1;have m:r<=9223372036854775807:=i.2.1;subst C;have D:=Z i;have E:=Z u;have F:=Z t;clear i u t;go_enter func269,ntmps269
 go_wp2;go_loopw [8] (λi wr=>∃k:Nat,k<=a.length/\i=.int .i64 k/\Hid (ag b wr)/\Hid (∀j (hj:j<a.length),j<k->d a[j]=false)) (λi _=>a.length-(intOf i).toNat)
 case atStart=>exact⟨0,Nat.zero_le _,rfl,ag.refl b,λj _ hj=>absurd hj (Nat.not_lt_zero _)⟩
 obtain⟨k,H,rfl,S,N⟩:=hrel;by_cases hlt:k<a.length
 ·obtain⟨o,m,i,n,b⟩:=(D.out.same S.out).2.2 k hlt
  have G:v=some ⟨o,m,none⟩:=i;obtain⟨n,o,p,r,m⟩:=F.out a[k];have c:Calls prog c (#[Value.agg (g a[k]).toArray]++f) wr λe c=>e=.returned (.bool (d a[k]))/\ag wr c:=E.out a[k] (List.getElem_mem hlt) wr S.out;rw[m]at b c;have s:=b 0 _ rfl;have w:=b 1 _ rfl;have x:=b 2 _ rfl;have y:=b 3 _ rfl;simp only[Nat.add_zero]at s;have l:=Z c;clear c b m i;subst G;cases hq:d a[k]with
  |true=>
   rw[hq]at l;have HQ:=Z hq;clear hq;go_wp2_with fail
   refine l.out.mono ?_;rintro e q ⟨rfl,z⟩;have S1:=Z z;clear z s w x y;exact r3
  |false=>
   rw[hq]at l;have HQ:=Z hq;clear hq;go_wp2_with fail
   refine l.out.mono ?_;rintro e q ⟨rfl,z⟩;have S1:=Z z;clear z s w x y;exact r4
 go_wp2;go_ret;exact⟨ej (lZ (λj hj=>N.out j hj af)).symm,S.out⟩
theorem DO {j:Type} (b:Nat) (d:aQ) (n:∀c a,(callFunc b c).run prog a=.ok (.enter b c) a) (h:Hd) (f:j->List Value) (s:∀k,∃c e g,f k=[c,e,g]) (e:j->Bool) (c:List j) (a:ah)
 (j:aD a 3 h f c) (o:gx b d a (λk=>.agg (f k).toArray) e c):
 Calls prog 193 #[h.val,.func (.func b) #[] d] a λi l=>i=.returned (.bool (c.any e))/\ag a l:=by
 have m:=Z (DM b d n h f s e c a j o);have p:=Z (oD e c);obtain⟨t,c⟩:=au (ce e c);rw[<-c]at m p;clear c j o n;obtain⟨q,r,g⟩:=h;have u:Hid (Calls prog 268 #[O q r g,.func (.func b) #[] d] a λi l=>i=.returned t/\ag a l):=m;clear m;show Calls prog 193 #[O q r g,.func (.func b) #[] d] a _;go_enter func193,ntmps193
 go_wp2_with fail
 refine u.mono ?_;rintro i a ⟨rfl,v⟩;go_wp2;go_ret;exact⟨cn p.symm,v⟩
theorem DP {i:Type} (b:Nat) (d:aQ) (n:∀c a,(callFunc b c).run prog a=.ok (.enter b c) a) (h:Hd) (e:i->List Value) (s:∀j,∃c t f u,e j=[c,t,f,u]) (p:i->Bool) (c:List i) (a:ah)
 (l:aD a 4 h e c) (i:gx b d a (λj=>.agg (e j).toArray) p c):
 Calls prog 196 #[h.val,.func (.func b) #[] d] a λg k=>g=.returned (.bool (c.any p))/\ag a k:=by
 have m:=Z (DN b d n h e s p c a l i);have o:=Z (oD p c);obtain⟨v,c⟩:=au (ce p c);rw[<-c]at m o;clear c l i n;obtain⟨q,r,f⟩:=h;have w:Hid (Calls prog 269 #[O q r f,.func (.func b) #[] d] a λg k=>g=.returned v/\ag a k):=m;clear m;show Calls prog 196 #[O q r f,.func (.func b) #[] d] a _;go_enter func196,ntmps196
 go_wp2_with fail
 refine w.mono ?_;rintro g a ⟨rfl,x⟩;go_wp2;go_ret;exact⟨cn o.symm,x⟩
theorem DQ (c d:Nat) (a e:Int) (f:ah) (l:c<f.heap.size) (m:d<f.heap.size) (o:ae f (ac c 0) a) (p:ae f (ac d 0) e) (q:List dX):
 gx 192 #[ak c,ak d] f (λn=>.agg n.cells.toArray) (λf:dX=>decide (f.table=a)&&decide (f.col=e)) q:=by
 intro n _ i g;have f:=(g.cell l).trans o;have f:=(g.cell m).trans p;have f:=aR l g.size;have f:c≠i.heap.size:=af
 have f:=aR m g.size;have f:d≠i.heap.size:=af
 obtain⟨b,j,r⟩:=n;clear o p g l m;show Calls prog 192 #[.agg #[b,j,r],ak c,ak d] i λc d=>c=.returned (.bool (decide (b=a)&&decide (j=e)))/\ag i d;have c:(b==a)=decide (b=a):=rfl;have c:(j==e)=decide (j=e):=rfl;by_cases k:b=a
 ·have c:(b==a)=true:=by simp[k]
  go_enter func192,ntmps192
  go_wp2;go_ret;exact⟨cn (by simp[k]),(ag.refl _).alloc _⟩
 have a:(b==a)=false:=by simp[k]
 go_enter func192,ntmps192
 go_wp2;go_ret;exact⟨cn (by simp[k]),(ag.refl _).alloc _⟩
theorem DR (a:Nat) (b:Int) (c:ah) (d:a<c.heap.size) (i:ae c (ac a 0) b) (k:List Fx):
 gx 197 #[ak a] c (λe=>.agg e.cells.toArray) (λc:Fx=>decide (c.col=b)) k:=by
 intro e _ f g;have c:=(g.cell d).trans i;have c:=aR d g.size;have c:a≠f.heap.size:=af
 obtain⟨j,⟨l,m,n⟩⟩:=e;clear i g d;show Calls prog 197 #[.agg #[j,l,m,n],ak a] f λa c=>a=.returned (.bool (decide (j=b)))/\ag f c;go_enter func197,ntmps197
 go_wp2;go_ret;exact⟨cn (by first|rfl|simp),(ag.refl _).alloc _⟩
def sH (d:List Tb) (e:List dX) (c:Int) (a:aE):RO dX:=
 (fu d c a.table a.attr).bind λb=>RO.ap (aY a.bh 1 6) 1 c<|
  RO.ap (!e.any λd=>decide (d.table=b.1)&&decide (d.col=b.2.1)) 9 c<|RO.ap (!decide (a.bh=4)||decide (b.2.2=1)) 10 c<|.ok ⟨b.1,b.2.1,a.bh⟩
theorem Tryz.DS:(prog.info? 52).map (λa=>(a.zero,a.size,a.bytes))=some (some (.agg #[J 0,J 0,J 0]),3,24):=am
theorem dX.len (k:dX):k.cells.length=3:=rfl
theorem DT (n r:Nat) (C:RI) (h:Hd) (u:List RT) (at_:Int) (u1 u2 u3 u5 u6 u7:aA) (j:aT) (b k:Nat) (o:List dX) (f:ah) (ar:aa f n 157 #[h.val,u1,u2,u3,O j b k,u5,u6,u7,at_]) (av:bJ f h u) (N:f.ownsRow r 52 3 (O j b k) b (o.flatMap dX.cells)) (a9:o.length=b) (az:n<r) (P:r<=f.heap.size) (P:b<=1000):
 Calls prog 117 #[ak n,.agg C.cells.toArray] f λe w'=>jD f (sH (u.map RT.tb) o at_ C.it) (λaB w'=>fL f w' n r 52 3 dX.cells j b k o aB (λP=>#[h.val,u1,u2,u3,P,u5,u6,u7,at_])) e w':=by
 obtain⟨aC,aD,aE,aF,aG⟩:=info_parts Tryz.DS;obtain⟨D,P⟩:=au (sH (u.map RT.tb) o at_ C.it);rw[<-P];have aH:=Z P;clear P;obtain⟨ba,bb,bc,Q,R,⟨bg,bh,bi⟩,cv,⟨bk,bl,bm⟩,cw,l,bp,bq,⟨br,bs,bt⟩,cx,bv,bw,⟨bx,bz,bA⟩,cy,⟨bB,bC,bD⟩,cz,⟨bE,bF,bG⟩,cA,⟨bH,bI,⟨bK,bL,bM⟩,cB,⟨bN,bO,bP⟩,cC,⟨bR,bS,bT⟩,cD,bU,bV,bW,bY⟩⟩:=C;have aI:=Z (show D=(fu (u.map RT.tb) at_ Q R).bind λc=>RO.ap (aY l 1 6) 1 at_<|RO.ap (!o.any λd=>decide (d.table=c.1)&&decide (d.col=c.2.1)) 9 at_<|RO.ap (!decide (l=4)||decide (c.2.2=1)) 10 at_<|.ok (⟨c.1,c.2.1,l⟩:dX)from aH);clear aH;have bZ:=Z (Kp.refl [] f);have b0:=Z av;have b2:=Z ar;have b5:=Z N;have aJ:=Z N;show Calls prog 117 #[ak n,.agg #[ba,bb,bc,Q,R,O bg bh bi,O bk bl bm,l,bp,bq,O br bs bt,bv,bw,O bx bz bA,O bB bC bD,O bE bF bG,bH,bI,O bK bL bM,O bN bO bP,O bR bS bT,bU,bV,bW,bY]] f _;clear ar av N;go_enter func117,ntmps117
 go_upto_region 1 with(fail)
 obtain⟨b8,C,S,c,N⟩:=nb f 95 _;rw[C];clear C;have aL:=qk bZ c;have ca:=Z (b0.same c);have cb:=Z (aK c b5);have E:=qb c b2;clear c;have aN:=ay E;have aO:=b4 E;have cc:=aa.lt E;have cd:=bj S;have ce:=bo S;go_wp2_with fail
 refine dR aI (qR n h u Q R at_ b8 cc aN aO ca) (fb aL) ?_;intro a cf m cg s aP v;obtain⟨g,i,F⟩:=a;have ch:cf=.tuple #[g,i,F]:=aP;subst ch;have aR:=Z (aL.trans v);have ci:=Z (aK (v.same) cb);have cj:=qo v E;have ck:=qo v S;have u:=aR.size;clear v;clear aP cg aN aO cd ce;go_upto_region 2 with(fail)
 obtain⟨E,u,v,c,C⟩:=nb m 3 _;rw[u];clear u;have E:=qk aR c;have N:=Z (aK c ci);have P:=qb c cj;have Q:=qb c ck;clear c;obtain⟨w,u,T,c,C⟩:=nc C 3 _;rw[u];clear u;have U:=qk E c;have aS:=Z (aK c N);have V:=qb c P;have aU:=qb c Q;have W:=qb c v;clear c;have X:=Z (λc=>fI l 1 6 c);have Y:=Z s.out;generalize aY l 1 6=cl at X Y;clear s aI;have cm:=b7 aU;have ab:=b4 V;go_wp2_with fail
 refine(X w).mono ?_;rintro e w' ⟨rfl,rfl⟩;have s:=Y;cases cl
 case false=>
  go_wp2_with fail
  exact b3 U s ab
 go_wp2_with fail
 refine bX U s ab λG=>?_;clear Y X s;have aV:∀c f,(callFunc 192 c).run prog f=.ok (.enter 192 c) f:=enters_of func192 am rfl;have cn:=bo V;have aW:=ay W;have s:=aa.lt W;have aX:=ay T;have u:=aa.lt T;have aZ:=cI (h:=⟨j,b,k⟩) dX.len a9 (by show b<=_;omega) aS;have ad:Hid (Calls prog 193 #[O j b k,.func (.func 192) #[] #[ak m.heap.size,ak (m.heap.size+1)]] w λe w'=>e=.returned (.bool (o.any λc=>decide (c.table=g)&&decide (c.col=i)))/\ag w w'):=
  Z (DO 192 _ aV ⟨j,b,k⟩ dX.cells (λaB=>⟨_,_,_,rfl⟩) _ o w aZ (DQ m.heap.size (m.heap.size+1) g i w s u aW aX o))
 generalize (o.any λc=>decide (c.table=g)&&decide (c.col=i))=co at ad G;clear aZ aV;go_wp2_with fail
 refine ad.mono ?_;rintro e d ⟨rfl,p⟩;have q:=en U p;have a0:=Z (aK p aS);have x:=cO p V;have c:=cO p aU;have H:=cO p W;have I:=cO p T;clear p ad cn aW aX cm ab;have L:=bo x;have y:=b4 x;have p:=aa.lt x;have t:=b7 c;have c:=aa.lt c;cases co
 case true=>
  go_wp2_with fail
  exact b3 q G y
 go_wp2_with fail
 refine bX q G y λz=>?_;clear G;by_cases ai:l=4
 case neg=>
  have a8:(l !=4)=true:=by simp[ai]
  have ao:=Z (show D=RO.ap true 10 at_ (.ok (⟨g,i,l⟩:dX)) by rw[z.out];simp[ai]);go_wp2_with fail
  refine bX q ao y λcp=>?_;clear ao z;try clear tk
  clear a8;have M:=ay H;have c:=aa.lt H;have aj:=ay I;have c:=aa.lt I;go_upto_region 6 with(fail)
  refine lm 13 L M aj t λhS=>?_;refine dq ?_;refine eo ?_;have cq:(λw':World=>ae w' (ac n 4) (O j b k)/\ae w' (aq m 0) g/\ae w' (ac (m.heap.size+1) 0) i/\ae w' (aq f 7) l) (d.drew.alloc (.cells #[g,i,l] 52)):=⟨(World.cell?_alloc_lt _ _ _ cK).trans L,(World.cell?_alloc_lt _ _ _ cK).trans M,(World.cell?_alloc_lt _ _ _ cK).trans aj,(World.cell?_alloc_lt _ _ _ cK).trans t⟩;refine aM 11 (λK A=>?_);go_simp;refine A _ _ (λ_=>cq) ?_;refine aw ?_;have a1:=Z (aK ((ag.refl d.drew).alloc (.cells #[g,i,l] 52)) (aK ((ag.refl d).drew) a0));have a2:=Z (cJ d.drew #[g,i,l] 52 3 rfl);have a3:=Z (x.drew.alloc (.cells #[g,i,l] 52));refine aM 12 (λK A=>?_);refine de (d.drew.alloc _) (.tmp 48) (.tmp 54) 33 rfl r 52 aC _ 3 24 underlying33 aD aE aF aG rfl ax (O j b k) b (o.flatMap dX.cells) rfl a1 (d.heap.size+1) (some ⟨d.heap.size,0,none⟩) 1 1 ((_:aQ).toList) rfl a2 bn b9 af cK ?_;intro c c al a4 a5;obtain⟨a6,a7,rfl,cr⟩:=bu al;have c:=b6 aJ;have l:some n≠(.slice j b k:aA).ownBlock:=λe=>by have:=c n e.symm;omega
  have an:=Z (a3.grown a4 l);have p:=bo an;have l:=λl=>aa.frozen an l;have cs:=Z al;have B:=Z (fK (((Kp.refl [] d).drew).alloc _) a4);have ct:=Z (show(Value.slice a6 (b+1) a7).ownBlock=(.slice j b k:aA).ownBlock\/∃l,(Value.slice a6 (b+1) a7).ownBlock=some l/\d.heap.size<=l from a5.imp id (λh=>⟨_,h,by simp[eu]⟩));clear al a5 cr a1 a2 a3;refine A _ _ (λ_=>⟨p,cV B (by show m.heap.size<_;omega) (λe=>by have h:=c _ e.symm;dsimp only at h;omega) M,cV B.out (by show m.heap.size+1<_;omega) (λe=>by have h:=c _ e.symm;dsimp only at h;omega) aj,cV B.out (by show f.heap.size<_;omega) (λe=>by have h:=c _ e.symm;dsimp only at h;omega) t⟩) ?_;refine aw ?_;refine b1 ?_;refine tq 13 ?_;refine tq 14 ?_;refine tq 15 ?_;refine dF 16 (λK A=>?_);go_simp;refine A _ _ ?_;refine aw ?_;refine bQ ?_;go_wp2_with fail
  refine bodyPost_ret (results_none rfl _ _ _) rfl ?_;rw[cp.out];exact⟨rfl,fL.jC q.same an cs B az rfl ct⟩
 subst ai;have cp:((4:Int) !=4)=false:=rfl;by_cases A:F=1
 case neg=>
  have tk:(F==1)=false:=by simp[A]
  have B:=Z (show D=RO.ap false 10 at_ (.ok (⟨g,i,4⟩:dX)) by rw[z.out];simp[A]);go_wp2_with fail
  exact b3 q B y
 have tk:(F==1)=true:=by simp[A]
 have a1:=Z (show D=RO.ap true 10 at_ (.ok (⟨g,i,4⟩:dX)) by rw[z.out];simp[A]);clear A;go_wp2_with fail
 refine bX q a1 y λcq=>?_;clear a1 z;try clear tk
 clear cp;have aj:=ay H;have c:=aa.lt H;have al:=ay I;have c:=aa.lt I;go_upto_region 6 with(fail)
 refine lm 13 L aj al t λhS=>?_;refine dq ?_;refine eo ?_;have cr:(λw':World=>ae w' (ac n 4) (O j b k)/\ae w' (aq m 0) g/\ae w' (ac (m.heap.size+1) 0) i/\ae w' (aq f 7) (J 4)) (d.drew.alloc (.cells #[g,i,J 4] 52)):=⟨(World.cell?_alloc_lt _ _ _ cK).trans L,(World.cell?_alloc_lt _ _ _ cK).trans aj,(World.cell?_alloc_lt _ _ _ cK).trans al,(World.cell?_alloc_lt _ _ _ cK).trans t⟩;refine aM 11 (λK B=>?_);go_simp;refine B _ _ (λ_=>cr) ?_;refine aw ?_;have a2:=Z (aK ((ag.refl d.drew).alloc (.cells #[g,i,J 4] 52)) (aK ((ag.refl d).drew) a0));have a3:=Z (cJ d.drew #[g,i,J 4] 52 3 rfl);have a4:=Z (x.drew.alloc (.cells #[g,i,J 4] 52));refine aM 12 (λK B=>?_);refine de (d.drew.alloc _) (.tmp 48) (.tmp 54) 33 rfl r 52 aC _ 3 24 underlying33 aD aE aF aG rfl ax (O j b k) b (o.flatMap dX.cells) rfl a2 (d.heap.size+1) (some ⟨d.heap.size,0,none⟩) 1 1 ((_:aQ).toList) rfl a3 bn b9 af cK ?_;intro c c an a5 a6;obtain⟨a7,a8,rfl,cs⟩:=bu an;have c:=b6 aJ;have g:some n≠(.slice j b k:aA).ownBlock:=λe=>by have:=c n e.symm;omega
 have ao:=Z (a4.grown a5 g);have i:=bo ao;have g:=λg=>aa.frozen ao g;have ct:=Z an;have M:=Z (fK (((Kp.refl [] d).drew).alloc _) a5);have cu:=Z (show(Value.slice a7 (b+1) a8).ownBlock=(.slice j b k:aA).ownBlock\/∃g,(Value.slice a7 (b+1) a8).ownBlock=some g/\d.heap.size<=g from a6.imp id (λh=>⟨_,h,by simp[eu]⟩));clear an a6 cs a2 a3 a4;refine B _ _ (λ_=>⟨i,cV M (by show m.heap.size<_;omega) (λe=>by have h:=c _ e.symm;dsimp only at h;omega) aj,cV M.out (by show m.heap.size+1<_;omega) (λe=>by have h:=c _ e.symm;dsimp only at h;omega) al,cV M.out (by show f.heap.size<_;omega) (λe=>by have h:=c _ e.symm;dsimp only at h;omega) t⟩) ?_;refine aw ?_;refine b1 ?_;refine tq 13 ?_;refine tq 14 ?_;refine tq 15 ?_;refine dF 16 (λK B=>?_);go_simp;refine B _ _ ?_;refine aw ?_;refine bQ ?_;go_wp2_with fail
 refine bodyPost_ret (results_none rfl _ _ _) rfl ?_;rw[cq.out];exact⟨rfl,fL.jC q.same ao ct M az rfl cu⟩
theorem D1 (c:Int) (f:Nat) (b:List ao) (w:ah) (X:az w f c b):
 Calls prog 170 #[ak f] w λa4 w'=>PP c f w (iB c b) (jt cL.cells cL.bW) a4 w':=by
 have a4:=X.lt;have a5:=Z X;have a6:=Z (Kp.refl [f] w);have a4:w.heap.size<=w.heap.size:=Nat.le_refl _;clear X;have al:=Z (show iB c b=(bN c b).bind λa b=>(dP c b [⟨_⟩,⟨_⟩,⟨_⟩,⟨_⟩,⟨_⟩]).bind λd b=>(if d=5 then cB c b else .ok 0 b).bind λe b=>l9 c a d e b from rfl);generalize iB c b=n at al⊢;go_enter func170,ntmps170
 have a7:=Z (aa.new w 260 #[ai,J 0,J 0,J 0,J 0,J 0,J 0]);go_wp2_with fail
 refine aU aj (a6.alloc _) al (eM c f b _ (a5.alloc _)) aN ?_;intro i a8 X a9 ba k d bb bc X;have bg:=bl d a7;obtain⟨rfl,bh⟩:=k;clear d;go_wp2_with fail
 refine aU aj (bb.alloc _) ba (mo c f a8 [⟨_⟩,⟨_⟩,⟨_⟩,⟨_⟩,⟨_⟩] _ a9 _ (bc.alloc _) (cG [⟨_⟩,⟨_⟩,⟨_⟩,⟨_⟩,⟨_⟩] ax) ax) aN ?_;intro e Y X F D k d am an X;have E:=b5 d bg;obtain⟨rfl,ap,aq⟩:=k;clear d;have X:1<=e/\e<=100:=⟨ap,aq⟩;clear ap aq;have ar:=Z (aa.new F 260 #[i,e,J 0,J 0,J 0,J 0,J 0]);have X:=aa.lt E;obtain⟨aw,aA,aB,aC,aD,aE,aH⟩:=ka E;have aI:=λm=>aa.frozen E m;have H:=aa.lt E;have aJ:=aZ H;have X:=trivial;clear aw aA aB aC aD aE aH aI H aJ;go_upto_if 12 with(fail)
 go_cut [] (λwx=>∃(j:Int) (l:List ao),(0<=j/\j<=9999999999)/\Hid (aa wx (w.heap.size) 260 #[ai,J 0,J 0,J 0,J 0,J 0,J 0]/\aa wx (F.heap.size) 260 #[i,e,j,J 0,J 0,J 0,J 0]/\Kp [f] w wx/\az wx f c l/\n=l9 c i e j l))
 case first=>
  by_cases j:e=5
  ·
   have z:(e==5)=true:=by simp[j]
   replace D:Hid (n=(cB c Y).bind λl b=>l9 c i e l b):=Z (by rw[D.out,if_pos j]);clear j;go_wp2_with fail
   refine aU aj (am.alloc _) D (gi c f Y _ (an.alloc _)) aN ?_;intro l z z z r k d s u z;have x:=b5 d E;have o:=bl d ar;obtain⟨rfl,p,q⟩:=k;clear d;have y:0<=l/\l<=9999999999:=⟨p,q⟩;clear p q;obtain⟨p,q,z,A,B,C,G⟩:=ka o;have p:=λm=>aa.frozen o m;have p:=aa.lt o;have p:=aZ p;go_wp2_with fail
   go_meet;exact⟨l,_,y,Z ⟨(aa.far x aG l),(o.aP 2 l),(Kp.set aG s _),(az.set aG u _),r⟩⟩
  have l:(e==5)=false:=by simp[j]
  replace D:Hid (n=l9 c i e 0 Y):=Z (by rw[D.out,if_neg j];rfl);clear j;go_wp2_with fail
  go_meet;exact⟨0,_,⟨by omega,by omega⟩,Z ⟨(E.out.alloc _),ar.out,(am.out.alloc _),(an.out.alloc _),D.out⟩⟩
 obtain⟨l,aK,b1,HX⟩:=hcut;obtain⟨bi,rfl⟩:=au wc;obtain⟨bk,bm,aL,bj,y⟩:=HX.out;have ab:=Z y;have D:=aL.size;clear y HX;replace ab:Hid (n=(aW c aK [⟨#[108,101,97,115,116]⟩]).bind λ_ b=>(cB c b).bind λj b=>ql c i e l j b):=ab;go_wp2_with fail
 refine aU aj (aL.alloc _) ab (c6 c f aK [⟨_⟩] _ bi _ (bj.alloc _) (cG [⟨_⟩] ax)) aN ?_;intro D bn D D bo k d bp bq D;have br:=b5 d bk;have bs:=b5 d bm;obtain rfl:=k;clear d;go_wp2_with fail
 refine aU aj bp bo (gi c f bn _ bq) aN ?_;intro j s D D ac k d bt bu D;have bv:=bl d br;have I:=bl d bs;obtain⟨rfl,p,q⟩:=k;clear d;have D:0<=j/\j<=9999999999:=⟨p,q⟩;clear p q;obtain⟨K,L,M,N,O,P,Q⟩:=ka I;have R:=λm=>aa.frozen I m;have u:=aa.lt I;have S:=aZ u;replace ac:Hid (n=(if bB s ⟨#[47]⟩then cB c s.tail else .ok 1 s).bind λo b=>(aW c b [⟨#[103,105,118,101,115]⟩]).bind λ_ b=>(cB c b).bind λr b=>k7 c i e l j o r b):=ac;go_wp2_with fail
 refine vJ ⟨#[47]⟩ aj (Kp.set aG (Kp.set aG bt _) _) (az.set aG (az.set aG bu _) _) (b2 _ ax) ?av;intro aM d aO z D;have aQ:=Z (d.blk (aa.far (aa.far bv aG j) aG (J 1)) aF);have aR:=Z (d.blk (g:=F.heap.size) (t:=260) (cs:=#[i,e,l,j,J 1,J 0,J 0]) ((I.aP 3 j).aP 4 (J 1)) aF);clear d;have A:=ac;go_upto_if 24 with(fail)
 go_cut [] (λwx=>∃(o:Int) (r:List ao),(0<=o/\o<=9999999999)/\Hid (aa wx (w.heap.size) 260 #[ai,J 0,J 0,J 0,J 0,J 0,J 0]/\aa wx (F.heap.size) 260 #[i,e,l,j,.int .i64 o,J 0,J 0]/\Kp [f] w wx/\az wx f c r/\n=(λo b=>(aW c b [⟨#[103,105,118,101,115]⟩]).bind λ_ b=>(cB c b).bind λx b=>k7 c i e l j o x b) o r))
 case first=>
  obtain⟨B,x⟩:=au (bB s ⟨#[47]⟩);rw[<-x]at A z⊢;cases B
  case true=>
   replace A:Hid (n=(cB c s.tail).bind (λo b=>(aW c b [⟨#[103,105,118,101,115]⟩]).bind λ_ b=>(cB c b).bind λr b=>k7 c i e l j o r b)):=A;replace z:Hid (az aM f c s.tail):=z;clear x;go_wp2_with fail
   refine aU aj aO A (gi c f s.tail _ z) aN ?_;intro o B B B C k d G T B;have U:=bl d aQ;have r:=bl d aR;obtain⟨rfl,p,q⟩:=k;clear d;have V:0<=o/\o<=9999999999:=⟨p,q⟩;clear p q;obtain⟨K,L,M,N,O,P,Q⟩:=ka r;have R:=λm=>aa.frozen r m;have u:=aa.lt r;have S:=aZ u;go_wp2_with fail
   go_meet;exact⟨o,_,V,Z ⟨(aa.far U aG o),(r.aP 4 o),(Kp.set aG G _),(az.set aG T _),C⟩⟩
  replace A:Hid (n=(λo b=>(aW c b [⟨#[103,105,118,101,115]⟩]).bind λ_ b=>(cB c b).bind λr b=>k7 c i e l j o r b) 1 s):=A;replace z:Hid (az aM f c s):=z;clear x;go_wp2_with fail
  go_meet;exact⟨1,_,⟨by omega,by omega⟩,Z ⟨aQ.out,aR.out,aO.out,z.out,A.out⟩⟩
 obtain⟨r,aS,b3,HX⟩:=hcut;obtain⟨bw,rfl⟩:=au wc;obtain⟨bz,bA,aT,bx,y⟩:=HX.out;have ad:=Z y;have s:=aT.size;clear y HX;replace ad:Hid (n=(aW c aS [⟨#[103,105,118,101,115]⟩]).bind λ_ b=>(cB c b).bind λo b=>k7 c i e l j r o b):=ad;go_wp2_with fail
 refine aU aj (aT.alloc _) ad (c6 c f aS [⟨_⟩] _ bw _ (bx.alloc _) (cG [⟨_⟩] ax)) aN ?_;intro s bC s s bD k d bE bF s;have bG:=b5 d bz;have bH:=b5 d bA;obtain rfl:=k;clear d;go_wp2_with fail
 refine aU aj bE bD (gi c f bC _ bF) aN ?_;intro o x s s ae k d T U s;have bI:=bl d bG;have V:=bl d bH;obtain⟨rfl,p,q⟩:=k;clear d;have s:0<=o/\o<=9999999999:=⟨p,q⟩;clear p q;obtain⟨K,L,M,N,O,P,Q⟩:=ka V;have R:=λm=>aa.frozen V m;have u:=aa.lt V;have S:=aZ u;replace ae:Hid (n=(if bB x ⟨#[116,97,107,101,115]⟩then cB c x.tail else .ok 0 x).bind (λs b=>(aW c b [⟨#[59]⟩]).bind λ_ b=>.ok ⟨i,e,l,j,r,o,s⟩ b)):=ae;go_wp2_with fail
 refine vJ ⟨_⟩ aj (Kp.set aG T _) (az.set aG U _) (b2 _ ax) ?ay;intro aV d aX B s;have aY:=Z (d.blk (aa.far bI aG o) aF);have a0:=Z (d.blk (j0 V o) aF);clear d;have C:=ae;go_upto_if 36 with(fail)
 go_cut [] (λwx=>∃(tk:Int) (s:List ao),(0<=tk/\tk<=9999999999)/\Hid (aa wx (w.heap.size) 260 #[ai,J 0,J 0,J 0,J 0,J 0,J 0]/\aa wx (F.heap.size) 260 #[i,e,l,j,r,o,tk]/\Kp [f] w wx/\az wx f c s/\n=(λz b=>(aW c b [⟨#[59]⟩]).bind λ_ b=>.ok ⟨i,e,l,j,r,o,z⟩ b) tk s))
 case first=>
  obtain⟨a1,ag⟩:=au (bB x ⟨#[116,97,107,101,115]⟩);rw[<-ag]at C B⊢;cases a1
  case true=>
   replace C:Hid (n=(cB c x.tail).bind (λs b=>(aW c b [⟨#[59]⟩]).bind λ_ b=>.ok ⟨i,e,l,j,r,o,s⟩ b)):=C;replace B:Hid (az aV f c x.tail):=B;clear ag;go_wp2_with fail
   refine aU aj aX C (gi c f x.tail _ B) aN ?_;intro G s s s a2 k d a3 bJ s;have bK:=bl d aY;have W:=bl d a0;obtain⟨rfl,p,q⟩:=k;clear d;have bL:0<=G/\G<=9999999999:=⟨p,q⟩;clear p q;obtain⟨K,L,M,N,O,P,Q⟩:=ka W;have R:=λm=>aa.frozen W m;have u:=aa.lt W;have S:=aZ u;go_wp2_with fail
   go_meet;exact⟨G,_,bL,Z ⟨(aa.far bK aG G),(W.aP 6 G),(Kp.set aG a3 _),(az.set aG bJ _),a2⟩⟩
  replace C:Hid (n=(λp b=>(aW c b [⟨#[59]⟩]).bind λ_ b=>.ok ⟨i,e,l,j,r,o,p⟩ b) 0 x):=C;replace B:Hid (az aV f c x):=B;clear ag;go_wp2_with fail
  go_meet;exact⟨0,_,⟨by omega,by omega⟩,Z ⟨aY.out,a0.out,aX.out,B.out,C.out⟩⟩
 obtain⟨tk,a1,b4,HX⟩:=hcut;obtain⟨bJ,rfl⟩:=au wc;obtain⟨bL,bM,a2,bK,y⟩:=HX.out;have W:=Z y;have p:=a2.size;clear y HX;replace W:Hid (n=(aW c a1 [⟨#[59]⟩]).bind λ_ b=>.ok ⟨i,e,l,j,r,o,tk⟩ b):=W;go_wp2_with fail
 refine aU aj (a2.alloc _) W (c6 c f a1 [⟨#[59]⟩] _ bJ _ (bK.alloc _) (cG [⟨#[59]⟩] ax)) aN ?_;intro b b b b bO k d bP bQ b;have G:=b5 d bL;have ag:=b5 d bM;obtain rfl:=k;clear d;obtain⟨aw,aA,aB,aC,aD,aE,aH⟩:=ka G;have aI:=λm=>aa.frozen G m;have H:=aa.lt G;have aJ:=aZ H;obtain⟨K,L,M,N,O,P,Q⟩:=ka ag;have R:=λm=>aa.frozen ag m;have u:=aa.lt ag;have S:=aZ u;go_wp2;have bR:=eg G bP bQ [.string i,.int .i64 e,.int .i64 l,.int .i64 j,.int .i64 r,.int .i64 o,.int .i64 tk] rfl af af;obtain⟨a3,T,U⟩:=bR;simp only[bZ,Nat.zero_add,Nat.reduceAdd]at a3 T U;obtain⟨bS,bT,bU,bV,bX,bY,b0⟩:=ka a3;refine bodyPost_ret (v:=.agg #[i,e,l,j,r,o,tk]) ?_ rfl ?_
 ·simp[results,results170,go_sem,bS,bT,bU,bV,bX,bY,b0]
 rw[bO.out];exact⟨T,_,rfl,⟨rfl,⟨bh,⟨by show _<=e;omega,by show e<=_;omega⟩,⟨by show _<=l;omega,by show l<=_;omega⟩,⟨by show _<=j;omega,by show j<=_;omega⟩,⟨by show _<=r;omega,by show r<=_;omega⟩,⟨by show _<=o;omega,by show o<=_;omega⟩,⟨by show _<=tk;omega,by show tk<=_;omega⟩⟩⟩,U⟩
end Go.Proofs.YteamkimbmdgdbaaGreatDoor

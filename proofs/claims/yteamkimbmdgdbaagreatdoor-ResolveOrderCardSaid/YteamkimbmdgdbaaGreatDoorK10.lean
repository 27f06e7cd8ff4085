import Derived.Test.YteamkimbmdgdbaaGreatDoorK09
set_option linter.unusedSimpArgs false
set_option linter.unusedVariables false
set_option maxHeartbeats 16000000
set_option maxRecDepth 100000
namespace Go.Proofs.YteamkimbmdgdbaaGreatDoor
open Go.Proofs.Tryz
open Go.RowKit
theorem DD {d:Type} (g:Nat) (caps:aQ) (f:∀f a,(callFunc g f).run prog a=.ok (.enter g f) a) (h:Hd) (enc:d->List Value) (m:∀f,∃o b i,enc f=[o,b,i]) (p:d->Bool) (xs:List d) (a:ah)
 (c:aE a 3 h enc xs) (n:gD g caps a (λf=>.agg (enc f).toArray) p xs):
 Calls prog 268 #[h.val,.func (.func g) #[] caps] a λe w'=>e=.returned (J (co p xs))/\ag a w':=by
 obtain⟨A,l,i⟩:=h;show Calls prog 268 #[O A l i,.func (.func g) #[] caps] a _;have q:xs.length=l:=c.1;have d:l<=9223372036854775807:=c.2.1;subst q;have HL:=Z c;have HT:=Z n;have H3:=Z m;clear c n m;go_enter func268,ntmps268
 go_wp2;go_loopw [8] (λc wr=>∃k:Nat,k<=xs.length/\c=.int .i64 k/\Hid (ag a wr)/\Hid (∀j (hj:j<xs.length),j<k->p xs[j]=false)) (λc _=>xs.length-(intOf c).toNat)
 case atStart=>exact⟨0,Nat.zero_le _,rfl,ag.refl a,λj _ hj=>absurd hj (Nat.not_lt_zero _)⟩
 obtain⟨k,r,rfl,S,N⟩:=hrel;by_cases hlt:k<xs.length
 ·exact uP
 go_wp2;go_ret;exact⟨eg (lV (λj hj=>N.out j hj af)).symm,S.out⟩
theorem DE {m:Type} (c:Nat) (f:aQ) (n:∀n b,(callFunc c n).run prog b=.ok (.enter c n) b) (h:Hd) (g:m->List Value) (t:∀n,∃A o p B,g n=[A,o,p,B]) (d:m->Bool) (a:List m) (b:ah)
 (i:aE b 4 h g a) (u:gD c f b (λn=>.agg (g n).toArray) d a):
 Calls prog 269 #[h.val,.func (.func c) #[] f] b λe q=>e=.returned (J (co d a))/\ag b q:=by
 obtain⟨v,r,p⟩:=h;show Calls prog 269 #[O v r p,.func (.func c) #[] f] b _;have C:a.length=r:=i.1;have m:r<=9223372036854775807:=i.2.1;subst C;have D:=Z i;have E:=Z u;have F:=Z t;clear i u t;go_enter func269,ntmps269
 go_wp2;go_loopw [8] (λi wr=>∃k:Nat,k<=a.length/\i=.int .i64 k/\Hid (ag b wr)/\Hid (∀j (hj:j<a.length),j<k->d a[j]=false)) (λi _=>a.length-(intOf i).toNat)
 case atStart=>exact⟨0,Nat.zero_le _,rfl,ag.refl b,λj _ hj=>absurd hj (Nat.not_lt_zero _)⟩
 obtain⟨k,H,rfl,S,N⟩:=hrel;by_cases hlt:k<a.length
 ·obtain⟨o,m,i,n,b⟩:=(D.out.same S.out).2.2 k hlt
  have G:v=some ⟨o,m,none⟩:=i;obtain⟨n,o,p,r,m⟩:=F.out a[k];have c:Calls prog c (#[Value.agg (g a[k]).toArray]++f) wr λe c=>e=.returned (.bool (d a[k]))/\ag wr c:=E.out a[k] (List.getElem_mem hlt) wr S.out;rw[m]at b c;have s:=b 0 _ rfl;have w:=b 1 _ rfl;have x:=b 2 _ rfl;have y:=b 3 _ rfl;simp only[Nat.add_zero]at s;have l:=Z c;clear c b m i;subst G;cases hq:d a[k]with
  |true=>
   rw[hq]at l;have HQ:=Z hq;clear hq;go_wp2_with fail
   refine l.out.mono ?_;rintro e q ⟨rfl,z⟩;have S1:=Z z;clear z s w x y;exact rR
  |false=>
   rw[hq]at l;have HQ:=Z hq;clear hq;go_wp2_with fail
   refine l.out.mono ?_;rintro e q ⟨rfl,z⟩;have S1:=Z z;clear z s w x y;exact rS
 go_wp2;go_ret;exact⟨eg (lV (λj hj=>N.out j hj af)).symm,S.out⟩
theorem DF {j:Type} (b:Nat) (d:aQ) (n:∀c a,(callFunc b c).run prog a=.ok (.enter b c) a) (h:Hd) (f:j->List Value) (s:∀k,∃c e g,f k=[c,e,g]) (e:j->Bool) (c:List j) (a:ah)
 (j:aE a 3 h f c) (o:gD b d a (λk=>.agg (f k).toArray) e c):
 Calls prog 193 #[h.val,.func (.func b) #[] d] a λi l=>i=.returned (.bool (c.any e))/\ag a l:=by
 have m:=Z (DD b d n h f s e c a j o);have p:=Z (oy e c);obtain⟨t,c⟩:=av (co e c);rw[<-c]at m p;clear c j o n;obtain⟨q,r,g⟩:=h;have u:Hid (Calls prog 268 #[O q r g,.func (.func b) #[] d] a λi l=>i=.returned t/\ag a l):=m;clear m;show Calls prog 193 #[O q r g,.func (.func b) #[] d] a _;go_enter func193,ntmps193
 go_wp2_with fail
 refine u.mono ?_;rintro i a ⟨rfl,v⟩;go_wp2;go_ret;exact⟨cj p.symm,v⟩
theorem DG {i:Type} (b:Nat) (d:aQ) (n:∀c a,(callFunc b c).run prog a=.ok (.enter b c) a) (h:Hd) (e:i->List Value) (s:∀j,∃c t f u,e j=[c,t,f,u]) (p:i->Bool) (c:List i) (a:ah)
 (l:aE a 4 h e c) (i:gD b d a (λj=>.agg (e j).toArray) p c):
 Calls prog 196 #[h.val,.func (.func b) #[] d] a λg k=>g=.returned (.bool (c.any p))/\ag a k:=by
 have m:=Z (DE b d n h e s p c a l i);have o:=Z (oy p c);obtain⟨v,c⟩:=av (co p c);rw[<-c]at m o;clear c l i n;obtain⟨q,r,f⟩:=h;have w:Hid (Calls prog 269 #[O q r f,.func (.func b) #[] d] a λg k=>g=.returned v/\ag a k):=m;clear m;show Calls prog 196 #[O q r f,.func (.func b) #[] d] a _;go_enter func196,ntmps196
 go_wp2_with fail
 refine w.mono ?_;rintro g a ⟨rfl,x⟩;go_wp2;go_ret;exact⟨cj o.symm,x⟩
theorem DH (c d:Nat) (a e:Int) (f:ah) (l:c<f.heap.size) (m:d<f.heap.size) (o:ae f (ac c 0) a) (p:ae f (ac d 0) e) (q:List dV):
 gD 192 #[ak c,ak d] f (λn=>.agg n.cells.toArray) (λf:dV=>decide (f.table=a)&&decide (f.col=e)) q:=by
 intro n _ i g;have f:=(g.cell l).trans o;have f:=(g.cell m).trans p;have f:=aV l g.size;have f:c≠i.heap.size:=af
 have f:=aV m g.size;have f:d≠i.heap.size:=af
 obtain⟨b,j,r⟩:=n;clear o p g l m;show Calls prog 192 #[.agg #[b,j,r],ak c,ak d] i λc d=>c=.returned (.bool (decide (b=a)&&decide (j=e)))/\ag i d;have c:(b==a)=decide (b=a):=rfl;have c:(j==e)=decide (j=e):=rfl;by_cases k:b=a
 ·have c:(b==a)=true:=by simp[k]
  go_enter func192,ntmps192
  go_wp2;go_ret;exact⟨cj (by simp[k]),(ag.refl _).alloc _⟩
 have a:(b==a)=false:=by simp[k]
 go_enter func192,ntmps192
 go_wp2;go_ret;exact⟨cj (by simp[k]),(ag.refl _).alloc _⟩
theorem DI (a:Nat) (b:Int) (c:ah) (d:a<c.heap.size) (i:ae c (ac a 0) b) (k:List Fx):
 gD 197 #[ak a] c (λe=>.agg e.cells.toArray) (λc:Fx=>decide (c.col=b)) k:=by
 intro e _ f g;have c:=(g.cell d).trans i;have c:=aV d g.size;have c:a≠f.heap.size:=af
 obtain⟨j,⟨l,m,n⟩⟩:=e;clear i g d;show Calls prog 197 #[.agg #[j,l,m,n],ak a] f λa c=>a=.returned (.bool (decide (j=b)))/\ag f c;go_enter func197,ntmps197
 go_wp2;go_ret;exact⟨cj (by first|rfl|simp),(ag.refl _).alloc _⟩
def sw (d:List Tb) (e:List dV) (c:Int) (a:aB):RO dV:=
 (fT d c a.table a.attr).bind λb=>RO.ap (aY a.bh 1 6) 1 c<|
  RO.ap (!e.any λd=>decide (d.table=b.1)&&decide (d.col=b.2.1)) 9 c<|RO.ap (!decide (a.bh=4)||decide (b.2.2=1)) 10 c<|.ok ⟨b.1,b.2.1,a.bh⟩
theorem Tryz.DJ:(prog.info? 52).map (λa=>(a.zero,a.size,a.bytes))=some (some (.agg #[J 0,J 0,J 0]),3,24):=am
theorem dV.len (k:dV):k.cells.length=3:=rfl
theorem DK (n r:Nat) (C:RI) (h:Hd) (u:List RT) (at_:Int) (u1 u2 u3 u5 u6 u7:aA) (j:aU) (b k:Nat) (o:List dV) (f:ah) (ar:aa f n 157 #[h.val,u1,u2,u3,O j b k,u5,u6,u7,at_]) (ax:bI f h u) (N:f.ownsRow r 52 3 (O j b k) b (o.flatMap dV.cells)) (a9:o.length=b) (az:n<r) (P:r<=f.heap.size) (P:b<=1000):
 Calls prog 117 #[ak n,.agg C.cells.toArray] f λe w'=>jy f (sw (u.map RT.tb) o at_ C.it) (λaB w'=>fP f w' n r 52 3 dV.cells j b k o aB (λP=>#[h.val,u1,u2,u3,P,u5,u6,u7,at_])) e w':=by
 obtain⟨aC,aD,aE,aF,aG⟩:=info_parts Tryz.DJ;obtain⟨D,P⟩:=av (sw (u.map RT.tb) o at_ C.it);rw[<-P];have aH:=Z P;clear P;obtain⟨ba,bb,bc,Q,R,⟨bd,bh,bj⟩,cv,⟨bk,bm,bn⟩,cw,l,bo,bp,⟨bq,br,bs⟩,cx,bt,bu,⟨bx,bz,bA⟩,cy,⟨bB,bC,bD⟩,cz,⟨bE,bF,bG⟩,cA,⟨bH,bJ,⟨bK,bL,bN⟩,cB,⟨bO,bP,bQ⟩,cC,⟨bR,bS,bT⟩,cD,bU,bW,bX,bY⟩⟩:=C;have aI:=Z (show D=(fT (u.map RT.tb) at_ Q R).bind λc=>RO.ap (aY l 1 6) 1 at_<|RO.ap (!o.any λd=>decide (d.table=c.1)&&decide (d.col=c.2.1)) 9 at_<|RO.ap (!decide (l=4)||decide (c.2.2=1)) 10 at_<|.ok (⟨c.1,c.2.1,l⟩:dV)from aH);clear aH;have b0:=Z (Kp.refl [] f);have b3:=Z ax;have b5:=Z ar;have b6:=Z N;have aJ:=Z N;show Calls prog 117 #[ak n,.agg #[ba,bb,bc,Q,R,O bd bh bj,O bk bm bn,l,bo,bp,O bq br bs,bt,bu,O bx bz bA,O bB bC bD,O bE bF bG,bH,bJ,O bK bL bN,O bO bP bQ,O bR bS bT,bU,bW,bX,bY]] f _;clear ar ax N;go_enter func117,ntmps117
 go_upto_region 1 with(fail)
 obtain⟨b8,C,S,c,N⟩:=nb f 95 _;rw[C];clear C;have aL:=qk b0 c;have b9:=Z (b3.same c);have ca:=Z (aK c b6);have E:=qb c b5;clear c;have aN:=ay E;have aO:=b4 E;have cb:=aa.lt E;have cd:=bi S;have ce:=bl S;go_wp2_with fail
 refine dQ aI (qI n h u Q R at_ b8 cb aN aO b9) (fb aL) ?_;intro a cf m cg s aP v;obtain⟨g,i,F⟩:=a;have ch:cf=.tuple #[g,i,F]:=aP;subst ch;have aR:=Z (aL.trans v);have ci:=Z (aK (v.same) ca);have cj:=qo v E;have ck:=qo v S;have u:=aR.size;clear v;clear aP cg aN aO cd ce;go_upto_region 2 with(fail)
 obtain⟨E,u,v,c,C⟩:=nb m 3 _;rw[u];clear u;have E:=qk aR c;have N:=Z (aK c ci);have P:=qb c cj;have Q:=qb c ck;clear c;obtain⟨w,u,T,c,C⟩:=nc C 3 _;rw[u];clear u;have U:=qk E c;have aS:=Z (aK c N);have V:=qb c P;have aT:=qb c Q;have W:=qb c v;clear c;have X:=Z (λc=>fM l 1 6 c);have Y:=Z s.out;generalize aY l 1 6=cl at X Y;clear s aI;have cm:=b7 aT;have ab:=b4 V;go_wp2_with fail
 refine(X w).mono ?_;rintro e w' ⟨rfl,rfl⟩;have s:=Y;cases cl
 case false=>
  go_wp2_with fail
  exact b1 U s ab
 go_wp2_with fail
 refine bV U s ab λG=>?_;clear Y X s;have aV:∀c f,(callFunc 192 c).run prog f=.ok (.enter 192 c) f:=enters_of func192 am rfl;have cn:=bl V;have aW:=ay W;have s:=aa.lt W;have aX:=ay T;have u:=aa.lt T;have aZ:=cJ (h:=⟨j,b,k⟩) dV.len a9 (by show b<=_;omega) aS;have ad:Hid (Calls prog 193 #[O j b k,.func (.func 192) #[] #[ak m.heap.size,ak (m.heap.size+1)]] w λe w'=>e=.returned (.bool (o.any λc=>decide (c.table=g)&&decide (c.col=i)))/\ag w w'):=
  Z (DF 192 _ aV ⟨j,b,k⟩ dV.cells (λaB=>⟨_,_,_,rfl⟩) _ o w aZ (DH m.heap.size (m.heap.size+1) g i w s u aW aX o))
 generalize (o.any λc=>decide (c.table=g)&&decide (c.col=i))=co at ad G;clear aZ aV;go_wp2_with fail
 refine ad.mono ?_;rintro e d ⟨rfl,p⟩;have q:=el U p;have a0:=Z (aK p aS);have x:=cN p V;have c:=cN p aT;have H:=cN p W;have I:=cN p T;clear p ad cn aW aX cm ab;have L:=bl x;have y:=b4 x;have p:=aa.lt x;have t:=b7 c;have c:=aa.lt c;cases co
 case true=>
  go_wp2_with fail
  exact b1 q G y
 go_wp2_with fail
 refine bV q G y λz=>?_;clear G;by_cases ai:l=4
 case neg=>
  have a8:(l !=4)=true:=by simp[ai]
  have aq:=Z (show D=RO.ap true 10 at_ (.ok (⟨g,i,l⟩:dV)) by rw[z.out];simp[ai]);go_wp2_with fail
  refine bV q aq y λcp=>?_;clear aq z;try clear tk
  clear a8;have M:=ay H;have c:=aa.lt H;have aj:=ay I;have c:=aa.lt I;go_upto_region 6 with(fail)
  refine lj 13 L M aj t λhS=>?_;refine dv ?_;refine eA ?_;have cq:(λw':World=>ae w' (ac n 4) (O j b k)/\ae w' (ao m 0) g/\ae w' (ac (m.heap.size+1) 0) i/\ae w' (ao f 7) l) (d.drew.alloc (.cells #[g,i,l] 52)):=⟨(World.cell?_alloc_lt _ _ _ cK).trans L,(World.cell?_alloc_lt _ _ _ cK).trans M,(World.cell?_alloc_lt _ _ _ cK).trans aj,(World.cell?_alloc_lt _ _ _ cK).trans t⟩;refine aM 11 (λK A=>?_);go_simp;refine A _ _ (λ_=>cq) ?_;refine aw ?_;have a1:=Z (aK ((ag.refl d.drew).alloc (.cells #[g,i,l] 52)) (aK ((ag.refl d).drew) a0));have a2:=Z (cO d.drew #[g,i,l] 52 3 rfl);have a3:=Z (x.drew.alloc (.cells #[g,i,l] 52));refine aM 12 (λK A=>?_);refine di (d.drew.alloc _) (.tmp 48) (.tmp 54) 33 rfl r 52 aC _ 3 24 underlying33 aD aE aF aG rfl au (O j b k) b (o.flatMap dV.cells) rfl a1 (d.heap.size+1) (some ⟨d.heap.size,0,none⟩) 1 1 ((_:aQ).toList) rfl a2 bw cc af cK ?_;intro c c al a4 a5;obtain⟨a6,a7,rfl,cr⟩:=bv al;have c:=b2 aJ;have l:some n≠(.slice j b k:aA).ownBlock:=λe=>by have:=c n e.symm;omega
  have an:=Z (a3.grown a4 l);have p:=bl an;have l:=λl=>aa.frozen an l;have cs:=Z al;have B:=Z (fO (((Kp.refl [] d).drew).alloc _) a4);have ct:=Z (show(Value.slice a6 (b+1) a7).ownBlock=(.slice j b k:aA).ownBlock\/∃l,(Value.slice a6 (b+1) a7).ownBlock=some l/\d.heap.size<=l from a5.imp id (λh=>⟨_,h,by simp[eo]⟩));clear al a5 cr a1 a2 a3;refine A _ _ (λ_=>⟨p,cX B (by show m.heap.size<_;omega) (λe=>by have h:=c _ e.symm;dsimp only at h;omega) M,cX B.out (by show m.heap.size+1<_;omega) (λe=>by have h:=c _ e.symm;dsimp only at h;omega) aj,cX B.out (by show f.heap.size<_;omega) (λe=>by have h:=c _ e.symm;dsimp only at h;omega) t⟩) ?_;refine aw ?_;refine bZ ?_;refine tq 13 ?_;refine tq 14 ?_;refine tq 15 ?_;refine dt 16 (λK A=>?_);go_simp;refine A _ _ ?_;refine aw ?_;refine bM ?_;go_wp2_with fail
  refine bodyPost_ret (results_none rfl _ _ _) rfl ?_;rw[cp.out];exact⟨rfl,fP.jx q.same an cs B az rfl ct⟩
 subst ai;have cp:((4:Int) !=4)=false:=rfl;by_cases A:F=1
 case neg=>
  have tk:(F==1)=false:=by simp[A]
  have B:=Z (show D=RO.ap false 10 at_ (.ok (⟨g,i,4⟩:dV)) by rw[z.out];simp[A]);go_wp2_with fail
  exact b1 q B y
 have tk:(F==1)=true:=by simp[A]
 have a1:=Z (show D=RO.ap true 10 at_ (.ok (⟨g,i,4⟩:dV)) by rw[z.out];simp[A]);clear A;go_wp2_with fail
 refine bV q a1 y λcq=>?_;clear a1 z;try clear tk
 clear cp;have aj:=ay H;have c:=aa.lt H;have al:=ay I;have c:=aa.lt I;go_upto_region 6 with(fail)
 refine lj 13 L aj al t λhS=>?_;refine dv ?_;refine eA ?_;have cr:(λw':World=>ae w' (ac n 4) (O j b k)/\ae w' (ao m 0) g/\ae w' (ac (m.heap.size+1) 0) i/\ae w' (ao f 7) (J 4)) (d.drew.alloc (.cells #[g,i,J 4] 52)):=⟨(World.cell?_alloc_lt _ _ _ cK).trans L,(World.cell?_alloc_lt _ _ _ cK).trans aj,(World.cell?_alloc_lt _ _ _ cK).trans al,(World.cell?_alloc_lt _ _ _ cK).trans t⟩;refine aM 11 (λK B=>?_);go_simp;refine B _ _ (λ_=>cr) ?_;refine aw ?_;have a2:=Z (aK ((ag.refl d.drew).alloc (.cells #[g,i,J 4] 52)) (aK ((ag.refl d).drew) a0));have a3:=Z (cO d.drew #[g,i,J 4] 52 3 rfl);have a4:=Z (x.drew.alloc (.cells #[g,i,J 4] 52));refine aM 12 (λK B=>?_);refine di (d.drew.alloc _) (.tmp 48) (.tmp 54) 33 rfl r 52 aC _ 3 24 underlying33 aD aE aF aG rfl au (O j b k) b (o.flatMap dV.cells) rfl a2 (d.heap.size+1) (some ⟨d.heap.size,0,none⟩) 1 1 ((_:aQ).toList) rfl a3 bw cc af cK ?_;intro c c an a5 a6;obtain⟨a7,a8,rfl,cs⟩:=bv an;have c:=b2 aJ;have g:some n≠(.slice j b k:aA).ownBlock:=λe=>by have:=c n e.symm;omega
 have aq:=Z (a4.grown a5 g);have i:=bl aq;have g:=λg=>aa.frozen aq g;have ct:=Z an;have M:=Z (fO (((Kp.refl [] d).drew).alloc _) a5);have cu:=Z (show(Value.slice a7 (b+1) a8).ownBlock=(.slice j b k:aA).ownBlock\/∃g,(Value.slice a7 (b+1) a8).ownBlock=some g/\d.heap.size<=g from a6.imp id (λh=>⟨_,h,by simp[eo]⟩));clear an a6 cs a2 a3 a4;refine B _ _ (λ_=>⟨i,cX M (by show m.heap.size<_;omega) (λe=>by have h:=c _ e.symm;dsimp only at h;omega) aj,cX M.out (by show m.heap.size+1<_;omega) (λe=>by have h:=c _ e.symm;dsimp only at h;omega) al,cX M.out (by show f.heap.size<_;omega) (λe=>by have h:=c _ e.symm;dsimp only at h;omega) t⟩) ?_;refine aw ?_;refine bZ ?_;refine tq 13 ?_;refine tq 14 ?_;refine tq 15 ?_;refine dt 16 (λK B=>?_);go_simp;refine B _ _ ?_;refine aw ?_;refine bM ?_;go_wp2_with fail
 refine bodyPost_ret (results_none rfl _ _ _) rfl ?_;rw[cq.out];exact⟨rfl,fP.jx q.same aq ct M az rfl cu⟩
theorem DS (c:Int) (f:Nat) (b:List aq) (w:ah) (X:az w f c b):
 Calls prog 170 #[ak f] w λa3 w'=>PP c f w (jg c b) (jo ct.cells ct.bo) a3 w':=by
 have a3:=X.lt;have a4:=Z X;have a5:=Z (Kp.refl [f] w);have a3:w.heap.size<=w.heap.size:=Nat.le_refl _;clear X;have al:=Z (show jg c b=(bW c b).bind λa b=>(dZ c b [⟨_⟩,⟨_⟩,⟨_⟩,⟨_⟩,⟨_⟩]).bind λd b=>(if d=5 then cu c b else .ok 0 b).bind λe b=>m8 c a d e b from rfl);generalize jg c b=n at al⊢;go_enter func170,ntmps170
 have a6:=Z (aa.new w 260 #[ai,J 0,J 0,J 0,J 0,J 0,J 0]);go_wp2_with fail
 refine aT aj (a5.alloc _) al (eJ c f b _ (a4.alloc _)) aN ?_;intro i a7 X a8 a9 k d ba bc X;have bd:=bn d a6;obtain⟨rfl,bh⟩:=k;clear d;go_wp2_with fail
 refine aT aj (ba.alloc _) a9 (mh c f a7 [⟨_⟩,⟨_⟩,⟨_⟩,⟨_⟩,⟨_⟩] _ a8 _ (bc.alloc _) (cC [⟨_⟩,⟨_⟩,⟨_⟩,⟨_⟩,⟨_⟩] au) au) aN ?_;intro e Y X F D k d am an X;have E:=b6 d bd;obtain⟨rfl,ao,ap⟩:=k;clear d;have X:1<=e/\e<=100:=⟨ao,ap⟩;clear ao ap;have ar:=Z (aa.new F 260 #[i,e,J 0,J 0,J 0,J 0,J 0]);have X:=aa.lt E;obtain⟨aw,ax,aB,aC,aD,aE,aH⟩:=j9 E;have aI:=λm=>aa.frozen E m;have H:=aa.lt E;have aJ:=bb H;have X:=trivial;clear aw ax aB aC aD aE aH aI H aJ;go_upto_if 12 with(fail)
 go_cut [] (λwx=>∃(j:Int) (l:List aq),(0<=j/\j<=9999999999)/\Hid (aa wx (w.heap.size) 260 #[ai,J 0,J 0,J 0,J 0,J 0,J 0]/\aa wx (F.heap.size) 260 #[i,e,j,J 0,J 0,J 0,J 0]/\Kp [f] w wx/\az wx f c l/\n=m8 c i e j l))
 case first=>
  by_cases j:e=5
  ·
   have z:(e==5)=true:=by simp[j]
   replace D:Hid (n=(cu c Y).bind λl b=>m8 c i e l b):=Z (by rw[D.out,if_pos j]);clear j;go_wp2_with fail
   refine aT aj (am.alloc _) D (gq c f Y _ (an.alloc _)) aN ?_;intro l z z z r k d s u z;have x:=b6 d E;have o:=bn d ar;obtain⟨rfl,p,q⟩:=k;clear d;have y:0<=l/\l<=9999999999:=⟨p,q⟩;clear p q;obtain⟨p,q,z,A,B,C,G⟩:=j9 o;have p:=λm=>aa.frozen o m;have p:=aa.lt o;have p:=bb p;go_wp2_with fail
   go_meet;exact⟨l,_,y,Z ⟨(aa.far x aG l),(o.aR 2 l),(Kp.set aG s _),(az.set aG u _),r⟩⟩
  have l:(e==5)=false:=by simp[j]
  replace D:Hid (n=m8 c i e 0 Y):=Z (by rw[D.out,if_neg j];rfl);clear j;go_wp2_with fail
  go_meet;exact⟨0,_,⟨by omega,by omega⟩,Z ⟨(E.out.alloc _),ar.out,(am.out.alloc _),(an.out.alloc _),D.out⟩⟩
 obtain⟨l,aK,b2,HX⟩:=hcut;obtain⟨bi,rfl⟩:=av wc;obtain⟨bk,bl,aL,bj,y⟩:=HX.out;have ab:=Z y;have D:=aL.size;clear y HX;replace ab:Hid (n=(aW c aK [⟨#[108,101,97,115,116]⟩]).bind λ_ b=>(cu c b).bind λj b=>rW c i e l j b):=ab;go_wp2_with fail
 refine aT aj (aL.alloc _) ab (df c f aK [⟨_⟩] _ bi _ (bj.alloc _) (cC [⟨_⟩] au)) aN ?_;intro D bm D D bp k d bq br D;have bs:=b6 d bk;have bt:=b6 d bl;obtain rfl:=k;clear d;go_wp2_with fail
 refine aT aj bq bp (gq c f bm _ br) aN ?_;intro j s D D ac k d bu bv D;have bw:=bn d bs;have I:=bn d bt;obtain⟨rfl,p,q⟩:=k;clear d;have D:0<=j/\j<=9999999999:=⟨p,q⟩;clear p q;obtain⟨K,L,M,N,O,P,Q⟩:=j9 I;have R:=λm=>aa.frozen I m;have u:=aa.lt I;have S:=bb u;replace ac:Hid (n=(if bB s ⟨#[47]⟩then cu c s.tail else .ok 1 s).bind λo b=>(aW c b [⟨#[103,105,118,101,115]⟩]).bind λ_ b=>(cu c b).bind λr b=>lZ c i e l j o r b):=ac;go_wp2_with fail
 refine vD ⟨#[47]⟩ aj (Kp.set aG (Kp.set aG bu _) _) (az.set aG (az.set aG bv _) _) (bY _ au) ?ay;intro aM d aO z D;have aP:=Z (d.blk (aa.far (aa.far bw aG j) aG (J 1)) aF);have aQ:=Z (d.blk (g:=F.heap.size) (t:=260) (cs:=#[i,e,l,j,J 1,J 0,J 0]) ((I.aR 3 j).aR 4 (J 1)) aF);clear d;have A:=ac;go_upto_if 24 with(fail)
 go_cut [] (λwx=>∃(o:Int) (r:List aq),(0<=o/\o<=9999999999)/\Hid (aa wx (w.heap.size) 260 #[ai,J 0,J 0,J 0,J 0,J 0,J 0]/\aa wx (F.heap.size) 260 #[i,e,l,j,.int .i64 o,J 0,J 0]/\Kp [f] w wx/\az wx f c r/\n=(λo b=>(aW c b [⟨#[103,105,118,101,115]⟩]).bind λ_ b=>(cu c b).bind λx b=>lZ c i e l j o x b) o r))
 case first=>
  obtain⟨B,x⟩:=av (bB s ⟨#[47]⟩);rw[<-x]at A z⊢;cases B
  case true=>
   replace A:Hid (n=(cu c s.tail).bind (λo b=>(aW c b [⟨#[103,105,118,101,115]⟩]).bind λ_ b=>(cu c b).bind λr b=>lZ c i e l j o r b)):=A;replace z:Hid (az aM f c s.tail):=z;clear x;go_wp2_with fail
   refine aT aj aO A (gq c f s.tail _ z) aN ?_;intro o B B B C k d G T B;have U:=bn d aP;have r:=bn d aQ;obtain⟨rfl,p,q⟩:=k;clear d;have V:0<=o/\o<=9999999999:=⟨p,q⟩;clear p q;obtain⟨K,L,M,N,O,P,Q⟩:=j9 r;have R:=λm=>aa.frozen r m;have u:=aa.lt r;have S:=bb u;go_wp2_with fail
   go_meet;exact⟨o,_,V,Z ⟨(aa.far U aG o),(r.aR 4 o),(Kp.set aG G _),(az.set aG T _),C⟩⟩
  replace A:Hid (n=(λo b=>(aW c b [⟨#[103,105,118,101,115]⟩]).bind λ_ b=>(cu c b).bind λr b=>lZ c i e l j o r b) 1 s):=A;replace z:Hid (az aM f c s):=z;clear x;go_wp2_with fail
  go_meet;exact⟨1,_,⟨by omega,by omega⟩,Z ⟨aP.out,aQ.out,aO.out,z.out,A.out⟩⟩
 obtain⟨r,aS,b3,HX⟩:=hcut;obtain⟨bx,rfl⟩:=av wc;obtain⟨bA,bC,aU,bz,y⟩:=HX.out;have ad:=Z y;have s:=aU.size;clear y HX;replace ad:Hid (n=(aW c aS [⟨#[103,105,118,101,115]⟩]).bind λ_ b=>(cu c b).bind λo b=>lZ c i e l j r o b):=ad;go_wp2_with fail
 refine aT aj (aU.alloc _) ad (df c f aS [⟨_⟩] _ bx _ (bz.alloc _) (cC [⟨_⟩] au)) aN ?_;intro s bD s s bE k d bF bG s;have bH:=b6 d bA;have bI:=b6 d bC;obtain rfl:=k;clear d;go_wp2_with fail
 refine aT aj bF bE (gq c f bD _ bG) aN ?_;intro o x s s ae k d T U s;have bJ:=bn d bH;have V:=bn d bI;obtain⟨rfl,p,q⟩:=k;clear d;have s:0<=o/\o<=9999999999:=⟨p,q⟩;clear p q;obtain⟨K,L,M,N,O,P,Q⟩:=j9 V;have R:=λm=>aa.frozen V m;have u:=aa.lt V;have S:=bb u;replace ae:Hid (n=(if bB x ⟨#[116,97,107,101,115]⟩then cu c x.tail else .ok 0 x).bind (λs b=>(aW c b [⟨#[59]⟩]).bind λ_ b=>.ok ⟨i,e,l,j,r,o,s⟩ b)):=ae;go_wp2_with fail
 refine vD ⟨_⟩ aj (Kp.set aG T _) (az.set aG U _) (bY _ au) ?aA;intro aV d aX B s;have aY:=Z (d.blk (aa.far bJ aG o) aF);have aZ:=Z (d.blk (jU V o) aF);clear d;have C:=ae;go_upto_if 36 with(fail)
 go_cut [] (λwx=>∃(tk:Int) (s:List aq),(0<=tk/\tk<=9999999999)/\Hid (aa wx (w.heap.size) 260 #[ai,J 0,J 0,J 0,J 0,J 0,J 0]/\aa wx (F.heap.size) 260 #[i,e,l,j,r,o,tk]/\Kp [f] w wx/\az wx f c s/\n=(λz b=>(aW c b [⟨#[59]⟩]).bind λ_ b=>.ok ⟨i,e,l,j,r,o,z⟩ b) tk s))
 case first=>
  obtain⟨a0,ag⟩:=av (bB x ⟨#[116,97,107,101,115]⟩);rw[<-ag]at C B⊢;cases a0
  case true=>
   replace C:Hid (n=(cu c x.tail).bind (λs b=>(aW c b [⟨#[59]⟩]).bind λ_ b=>.ok ⟨i,e,l,j,r,o,s⟩ b)):=C;replace B:Hid (az aV f c x.tail):=B;clear ag;go_wp2_with fail
   refine aT aj aX C (gq c f x.tail _ B) aN ?_;intro G s s s a1 k d a2 bK s;have bL:=bn d aY;have W:=bn d aZ;obtain⟨rfl,p,q⟩:=k;clear d;have bM:0<=G/\G<=9999999999:=⟨p,q⟩;clear p q;obtain⟨K,L,M,N,O,P,Q⟩:=j9 W;have R:=λm=>aa.frozen W m;have u:=aa.lt W;have S:=bb u;go_wp2_with fail
   go_meet;exact⟨G,_,bM,Z ⟨(aa.far bL aG G),(W.aR 6 G),(Kp.set aG a2 _),(az.set aG bK _),a1⟩⟩
  replace C:Hid (n=(λp b=>(aW c b [⟨#[59]⟩]).bind λ_ b=>.ok ⟨i,e,l,j,r,o,p⟩ b) 0 x):=C;replace B:Hid (az aV f c x):=B;clear ag;go_wp2_with fail
  go_meet;exact⟨0,_,⟨by omega,by omega⟩,Z ⟨aY.out,aZ.out,aX.out,B.out,C.out⟩⟩
 obtain⟨tk,a0,b4,HX⟩:=hcut;obtain⟨bK,rfl⟩:=av wc;obtain⟨bM,bN,a1,bL,y⟩:=HX.out;have W:=Z y;have p:=a1.size;clear y HX;replace W:Hid (n=(aW c a0 [⟨#[59]⟩]).bind λ_ b=>.ok ⟨i,e,l,j,r,o,tk⟩ b):=W;go_wp2_with fail
 refine aT aj (a1.alloc _) W (df c f a0 [⟨#[59]⟩] _ bK _ (bL.alloc _) (cC [⟨#[59]⟩] au)) aN ?_;intro b b b b bO k d bP bQ b;have G:=b6 d bM;have ag:=b6 d bN;obtain rfl:=k;clear d;obtain⟨aw,ax,aB,aC,aD,aE,aH⟩:=j9 G;have aI:=λm=>aa.frozen G m;have H:=aa.lt G;have aJ:=bb H;obtain⟨K,L,M,N,O,P,Q⟩:=j9 ag;have R:=λm=>aa.frozen ag m;have u:=aa.lt ag;have S:=bb u;go_wp2;have bR:=ed G bP bQ [.string i,.int .i64 e,.int .i64 l,.int .i64 j,.int .i64 r,.int .i64 o,.int .i64 tk] rfl af af;obtain⟨a2,T,U⟩:=bR;simp only[bX,Nat.zero_add,Nat.reduceAdd]at a2 T U;obtain⟨bS,bT,bU,bV,bZ,b0,b1⟩:=j9 a2;refine bodyPost_ret (v:=.agg #[i,e,l,j,r,o,tk]) ?_ rfl ?_
 ·simp[results,results170,go_sem,bS,bT,bU,bV,bZ,b0,b1]
 rw[bO.out];exact⟨T,_,rfl,⟨rfl,⟨bh,⟨by show _<=e;omega,by show e<=_;omega⟩,⟨by show _<=l;omega,by show l<=_;omega⟩,⟨by show _<=j;omega,by show j<=_;omega⟩,⟨by show _<=r;omega,by show r<=_;omega⟩,⟨by show _<=o;omega,by show o<=_;omega⟩,⟨by show _<=tk;omega,by show tk<=_;omega⟩⟩⟩,U⟩
end Go.Proofs.YteamkimbmdgdbaaGreatDoor

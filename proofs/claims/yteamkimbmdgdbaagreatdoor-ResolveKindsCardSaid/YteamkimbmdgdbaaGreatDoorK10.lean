import Derived.Test.YteamkimbmdgdbaaGreatDoorK09
set_option linter.unusedSimpArgs false
set_option linter.unusedVariables false
set_option maxHeartbeats 16000000
set_option maxRecDepth 100000
namespace Go.Proofs.YteamkimbmdgdbaaGreatDoor
open Go.RowKit
theorem AH {d:Type} (g:Nat) (caps:aO) (f:∀f a,(callFunc g f).run Tryz.prog a=.ok (.enter g f) a) (h:Hd) (enc:d->List Value) (m:∀f,∃o b i,enc f=[o,b,i]) (p:d->Bool) (xs:List d) (a:af)
 (c:aF a 3 h enc xs) (n:go g caps a (λf=>.agg (enc f).toArray) p xs):
 Calls Tryz.prog 268 #[h.val,.func (.func g) #[] caps] a λe w'=>e=.returned (O (cn p xs))/\ag a w':=by
 obtain⟨A,l,i⟩:=h;show Calls Tryz.prog 268 #[U A l i,.func (.func g) #[] caps] a _;have q:xs.length=l:=c.1;have d:l<=9223372036854775807:=c.2.1;subst q;have HL:=Z c;have HT:=Z n;have H3:=Z m;clear c n m;go_enter Tryz.func268,Tryz.ntmps268
 go_wp2;go_loopw [8] (λc wr=>∃k:Nat,k<=xs.length/\c=.int .i64 k/\Hid (ag a wr)/\Hid (∀j (hj:j<xs.length),j<k->p xs[j]=false)) (λc _=>xs.length-(intOf c).toNat)
 case atStart=>exact⟨0,Nat.zero_le _,rfl,ag.refl a,λj _ hj=>absurd hj (Nat.not_lt_zero _)⟩
 obtain⟨k,r,rfl,S,N⟩:=hrel;by_cases hlt:k<xs.length
 ·exact vg
 go_wp2;go_ret;exact⟨d0 (lq (λj hj=>N.out j hj ae)).symm,S.out⟩
theorem AI {m:Type} (c:Nat) (f:aO) (n:∀n b,(callFunc c n).run Tryz.prog b=.ok (.enter c n) b) (h:Hd) (g:m->List Value) (t:∀n,∃A o p B,g n=[A,o,p,B]) (d:m->Bool) (a:List m) (b:af)
 (i:aF b 4 h g a) (u:go c f b (λn=>.agg (g n).toArray) d a):
 Calls Tryz.prog 269 #[h.val,.func (.func c) #[] f] b λe q=>e=.returned (O (cn d a))/\ag b q:=by
 obtain⟨v,r,p⟩:=h;show Calls Tryz.prog 269 #[U v r p,.func (.func c) #[] f] b _;have C:a.length=r:=i.1;have m:r<=9223372036854775807:=i.2.1;subst C;have D:=Z i;have E:=Z u;have F:=Z t;clear i u t;go_enter Tryz.func269,Tryz.ntmps269
 go_wp2;go_loopw [8] (λi wr=>∃k:Nat,k<=a.length/\i=.int .i64 k/\Hid (ag b wr)/\Hid (∀j (hj:j<a.length),j<k->d a[j]=false)) (λi _=>a.length-(intOf i).toNat)
 case atStart=>exact⟨0,Nat.zero_le _,rfl,ag.refl b,λj _ hj=>absurd hj (Nat.not_lt_zero _)⟩
 obtain⟨k,H,rfl,S,N⟩:=hrel;by_cases hlt:k<a.length
 ·obtain⟨o,m,i,n,b⟩:=(D.out.same S.out).2.2 k hlt
  have G:v=some ⟨o,m,none⟩:=i;obtain⟨n,o,p,r,m⟩:=F.out a[k];have c:Calls Tryz.prog c (#[Value.agg (g a[k]).toArray]++f) wr λe c=>e=.returned (.bool (d a[k]))/\ag wr c:=E.out a[k] (List.getElem_mem hlt) wr S.out;rw[m]at b c;have s:=b 0 _ rfl;have w:=b 1 _ rfl;have x:=b 2 _ rfl;have y:=b 3 _ rfl;simp only[Nat.add_zero]at s;have l:=Z c;clear c b m i;subst G;cases hq:d a[k]with
  |true=>
   rw[hq]at l;have HQ:=Z hq;clear hq;go_wp2_with fail
   refine l.out.mono ?_;rintro e q ⟨rfl,z⟩;have S1:=Z z;clear z s w x y;exact pS
  |false=>
   rw[hq]at l;have HQ:=Z hq;clear hq;go_wp2_with fail
   refine l.out.mono ?_;rintro e q ⟨rfl,z⟩;have S1:=Z z;clear z s w x y;exact uV
 go_wp2;go_ret;exact⟨d0 (lq (λj hj=>N.out j hj ae)).symm,S.out⟩
theorem AJ {j:Type} (b:Nat) (d:aO) (n:∀c a,(callFunc b c).run Tryz.prog a=.ok (.enter b c) a) (h:Hd) (f:j->List Value) (s:∀k,∃c e g,f k=[c,e,g]) (e:j->Bool) (c:List j) (a:af)
 (j:aF a 3 h f c) (o:go b d a (λk=>.agg (f k).toArray) e c):
 Calls Tryz.prog 193 #[h.val,.func (.func b) #[] d] a λi l=>i=.returned (.bool (c.any e))/\ag a l:=by
 have m:=Z (AH b d n h f s e c a j o);have p:=Z (no e c);obtain⟨t,c⟩:=aq (cn e c);rw[<-c]at m p;clear c j o n;obtain⟨q,r,g⟩:=h;have u:Hid (Calls Tryz.prog 268 #[U q r g,.func (.func b) #[] d] a λi l=>i=.returned t/\ag a l):=m;clear m;show Calls Tryz.prog 193 #[U q r g,.func (.func b) #[] d] a _;go_enter Tryz.func193,Tryz.ntmps193
 go_wp2_with fail
 refine u.mono ?_;rintro i a ⟨rfl,v⟩;go_wp2;go_ret;exact⟨ch p.symm,v⟩
theorem AK {i:Type} (b:Nat) (d:aO) (n:∀c a,(callFunc b c).run Tryz.prog a=.ok (.enter b c) a) (h:Hd) (e:i->List Value) (s:∀j,∃c t f u,e j=[c,t,f,u]) (p:i->Bool) (c:List i) (a:af)
 (l:aF a 4 h e c) (i:go b d a (λj=>.agg (e j).toArray) p c):
 Calls Tryz.prog 196 #[h.val,.func (.func b) #[] d] a λg k=>g=.returned (.bool (c.any p))/\ag a k:=by
 have m:=Z (AI b d n h e s p c a l i);have o:=Z (no p c);obtain⟨v,c⟩:=aq (cn p c);rw[<-c]at m o;clear c l i n;obtain⟨q,r,f⟩:=h;have w:Hid (Calls Tryz.prog 269 #[U q r f,.func (.func b) #[] d] a λg k=>g=.returned v/\ag a k):=m;clear m;show Calls Tryz.prog 196 #[U q r f,.func (.func b) #[] d] a _;go_enter Tryz.func196,Tryz.ntmps196
 go_wp2_with fail
 refine w.mono ?_;rintro g a ⟨rfl,x⟩;go_wp2;go_ret;exact⟨ch o.symm,x⟩
theorem AL (c d:Nat) (a e:Int) (f:af) (l:c<f.heap.size) (m:d<f.heap.size) (o:ac f (ab c 0) a) (p:ac f (ab d 0) e) (q:List dR):
 go 192 #[aj c,aj d] f (λn=>.agg n.cells.toArray) (λf:dR=>decide (f.table=a)&&decide (f.col=e)) q:=by
 intro n _ i g;have f:=(g.cell l).trans o;have f:=(g.cell m).trans p;have f:=aT l g.size;have f:c≠i.heap.size:=ae
 have f:=aT m g.size;have f:d≠i.heap.size:=ae
 obtain⟨b,j,r⟩:=n;clear o p g l m;show Calls Tryz.prog 192 #[.agg #[b,j,r],aj c,aj d] i λc d=>c=.returned (.bool (decide (b=a)&&decide (j=e)))/\ag i d;have c:(b==a)=decide (b=a):=rfl;have c:(j==e)=decide (j=e):=rfl;by_cases k:b=a
 ·have c:(b==a)=true:=by simp[k]
  go_enter Tryz.func192,Tryz.ntmps192
  go_wp2;go_ret;exact⟨ch (by simp[k]),(ag.refl _).alloc _⟩
 have a:(b==a)=false:=by simp[k]
 go_enter Tryz.func192,Tryz.ntmps192
 go_wp2;go_ret;exact⟨ch (by simp[k]),(ag.refl _).alloc _⟩
theorem AM (a:Nat) (b:Int) (c:af) (d:a<c.heap.size) (i:ac c (ab a 0) b) (k:List Fx):
 go 197 #[aj a] c (λe=>.agg e.cells.toArray) (λc:Fx=>decide (c.col=b)) k:=by
 intro e _ f g;have c:=(g.cell d).trans i;have c:=aT d g.size;have c:a≠f.heap.size:=ae
 obtain⟨j,⟨l,m,n⟩⟩:=e;clear i g d;show Calls Tryz.prog 197 #[.agg #[j,l,m,n],aj a] f λa c=>a=.returned (.bool (decide (j=b)))/\ag f c;go_enter Tryz.func197,Tryz.ntmps197
 go_wp2;go_ret;exact⟨ch (by first|rfl|simp),(ag.refl _).alloc _⟩
def re (d:List Tb) (e:List dR) (c:Int) (a:aI):RO dR:=
 (fC d c a.table a.attr).bind λb=>RO.ap (aZ a.bf 1 6) 1 c<|
  RO.ap (!e.any λd=>decide (d.table=b.1)&&decide (d.col=b.2.1)) 9 c<|RO.ap (!decide (a.bf=4)||decide (b.2.2=1)) 10 c<|.ok ⟨b.1,b.2.1,a.bf⟩
theorem Tryz.AN:(Tryz.prog.info? 52).map (λa=>(a.zero,a.size,a.bytes))=some (some (.agg #[O 0,O 0,O 0]),3,24):=ak
theorem dR.len (k:dR):k.cells.length=3:=rfl
theorem AO (n r:Nat) (C:RI) (h:Hd) (u:List RT) (at_:Int) (u1 u2 u3 u5 u6 u7:ay) (j:aX) (b k:Nat) (o:List dR) (f:af) (aw:J f n 157 #[h.val,u1,u2,u3,U j b k,u5,u6,u7,at_]) (ax:bI f h u) (N:f.ownsRow r 52 3 (U j b k) b (o.flatMap dR.cells)) (a9:o.length=b) (aA:n<r) (P:r<=f.heap.size) (P:b<=1000):
 Calls Tryz.prog 117 #[aj n,.agg C.cells.toArray] f λe w'=>jh f (re (u.map RT.tb) o at_ C.it) (λaB w'=>fo f w' n r 52 3 dR.cells j b k o aB (λP=>#[h.val,u1,u2,u3,P,u5,u6,u7,at_])) e w':=by
 obtain⟨aC,aD,aE,aF,aG⟩:=info_parts Tryz.AN;obtain⟨D,P⟩:=aq (re (u.map RT.tb) o at_ C.it);rw[<-P];have aI:=Z P;clear P;obtain⟨ba,bb,bf,Q,R,⟨bg,bh,bi⟩,cw,⟨bk,bm,bp⟩,cx,l,bq,br,⟨bs,bt,bu⟩,cy,bw,bx,⟨bz,bA,bB⟩,cA,⟨bC,bD,bE⟩,cD,⟨bF,bH,bK⟩,cE,⟨bL,bM,⟨bO,bP,bQ⟩,cG,⟨bR,bS,bT⟩,cH,⟨bU,bW,bX⟩,cI,bY,bZ,b0,b4⟩⟩:=C;have aJ:=Z (show D=(fC (u.map RT.tb) at_ Q R).bind λc=>RO.ap (aZ l 1 6) 1 at_<|RO.ap (!o.any λd=>decide (d.table=c.1)&&decide (d.col=c.2.1)) 9 at_<|RO.ap (!decide (l=4)||decide (c.2.2=1)) 10 at_<|.ok (⟨c.1,c.2.1,l⟩:dR)from aI);clear aI;have b5:=Z (Kp.refl [] f);have b6:=Z ax;have b8:=Z aw;have b9:=Z N;have aL:=Z N;show Calls Tryz.prog 117 #[aj n,.agg #[ba,bb,bf,Q,R,U bg bh bi,U bk bm bp,l,bq,br,U bs bt bu,bw,bx,U bz bA bB,U bC bD bE,U bF bH bK,bL,bM,U bO bP bQ,U bR bS bT,U bU bW bX,bY,bZ,b0,b4]] f _;clear aw ax N;go_enter Tryz.func117,Tryz.ntmps117
 go_upto_region 1 with(fail)
 obtain⟨ca,C,S,c,N⟩:=nb f 95 _;rw[C];clear C;have aM:=qk b5 c;have cb:=Z (b6.same c);have cc:=Z (aH c b9);have E:=qb c b8;clear c;have aN:=az E;have aP:=bN E;have cd:=J.lt E;have ce:=bj S;have cf:=bn S;go_wp2_with fail
 refine dC aJ (pI n h u Q R at_ ca cd aN aP cb) (eL aM) ?_;intro a cg m ch s aQ v;obtain⟨g,i,F⟩:=a;have ci:cg=.tuple #[g,i,F]:=aQ;subst ci;have aR:=Z (aM.trans v);have cj:=Z (aH (v.same) cc);have ck:=qo v E;have cl:=qo v S;have u:=aR.size;clear v;clear aQ ch aN aP ce cf;go_upto_region 2 with(fail)
 obtain⟨E,u,v,c,C⟩:=nb m 3 _;rw[u];clear u;have E:=qk aR c;have N:=Z (aH c cj);have P:=qb c ck;have Q:=qb c cl;clear c;obtain⟨w,u,T,c,C⟩:=nc C 3 _;rw[u];clear u;have V:=qk E c;have aS:=Z (aH c N);have W:=qb c P;have aT:=qb c Q;have X:=qb c v;clear c;have Y:=Z (λc=>fj l 1 6 c);have aa:=Z s.out;generalize aZ l 1 6=cm at Y aa;clear s aJ;have cn:=b7 aT;have ad:=bN W;go_wp2_with fail
 refine(Y w).mono ?_;rintro e w' ⟨rfl,rfl⟩;have s:=aa;cases cm
 case false=>
  go_wp2_with fail
  exact bv V s ad
 go_wp2_with fail
 refine bJ V s ad λG=>?_;clear aa Y s;have aU:∀c f,(callFunc 192 c).run Tryz.prog f=.ok (.enter 192 c) f:=enters_of Tryz.func192 ak rfl;have co:=bn W;have aV:=az X;have s:=J.lt X;have aW:=az T;have u:=J.lt T;have aY:=cF (h:=⟨j,b,k⟩) dR.len a9 (by show b<=_;omega) aS;have ah:Hid (Calls Tryz.prog 193 #[U j b k,.func (.func 192) #[] #[aj m.heap.size,aj (m.heap.size+1)]] w λe w'=>e=.returned (.bool (o.any λc=>decide (c.table=g)&&decide (c.col=i)))/\ag w w'):=
  Z (AJ 192 _ aU ⟨j,b,k⟩ dR.cells (λaB=>⟨_,_,_,rfl⟩) _ o w aY (AL m.heap.size (m.heap.size+1) g i w s u aV aW o))
 generalize (o.any λc=>decide (c.table=g)&&decide (c.col=i))=cp at ah G;clear aY aU;go_wp2_with fail
 refine ah.mono ?_;rintro e d ⟨rfl,p⟩;have q:=cz V p;have a0:=Z (aH p aS);have x:=bG p W;have c:=bG p aT;have H:=bG p X;have I:=bG p T;clear p ah co aV aW cn ad;have L:=bn x;have y:=bN x;have p:=J.lt x;have t:=b7 c;have c:=J.lt c;cases cp
 case true=>
  go_wp2_with fail
  exact bv q G y
 go_wp2_with fail
 refine bJ q G y λz=>?_;clear G;by_cases ai:l=4
 case neg=>
  have a8:(l !=4)=true:=by simp[ai]
  have ar:=Z (show D=RO.ap true 10 at_ (.ok (⟨g,i,l⟩:dR)) by rw[z.out];simp[ai]);go_wp2_with fail
  refine bJ q ar y λcq=>?_;clear ar z;try clear tk
  clear a8;have M:=az H;have c:=J.lt H;have al:=az I;have c:=J.lt I;go_upto_region 6 with(fail)
  refine kH 13 L M al t λhS=>?_;refine dg ?_;refine eh ?_;have cr:(λw':World=>ac w' (ab n 4) (U j b k)/\ac w' (am m 0) g/\ac w' (ab (m.heap.size+1) 0) i/\ac w' (am f 7) l) (d.drew.alloc (.cells #[g,i,l] 52)):=⟨(World.cell?_alloc_lt _ _ _ cB).trans L,(World.cell?_alloc_lt _ _ _ cB).trans M,(World.cell?_alloc_lt _ _ _ cB).trans al,(World.cell?_alloc_lt _ _ _ cB).trans t⟩;refine aK 11 (λK A=>?_);go_simp;refine A _ _ (λ_=>cr) ?_;refine av ?_;have a1:=Z (aH ((ag.refl d.drew).alloc (.cells #[g,i,l] 52)) (aH ((ag.refl d).drew) a0));have a2:=Z (cC d.drew #[g,i,l] 52 3 rfl);have a3:=Z (x.drew.alloc (.cells #[g,i,l] 52));refine aK 12 (λK A=>?_);refine c7 (d.drew.alloc _) (.tmp 48) (.tmp 54) 33 rfl r 52 aC _ 3 24 Tryz.underlying33 aD aE aF aG rfl au (U j b k) b (o.flatMap dR.cells) rfl a1 (d.heap.size+1) (some ⟨d.heap.size,0,none⟩) 1 1 ((_:aO).toList) rfl a2 bl b1 ae cB ?_;intro c c an a4 a5;obtain⟨a6,a7,rfl,cs⟩:=bo an;have c:=b3 aL;have l:some n≠(.slice j b k:ay).ownBlock:=λe=>by have:=c n e.symm;omega
  have ao:=Z (a3.grown a4 l);have p:=bn ao;have l:=λl=>J.frozen ao l;have ct:=Z an;have B:=Z (fm (((Kp.refl [] d).drew).alloc _) a4);have cu:=Z (show(Value.slice a6 (b+1) a7).ownBlock=(.slice j b k:ay).ownBlock\/∃l,(Value.slice a6 (b+1) a7).ownBlock=some l/\d.heap.size<=l from a5.imp id (λh=>⟨_,h,by simp[d5]⟩));clear an a5 cs a1 a2 a3;refine A _ _ (λ_=>⟨p,cR B (by show m.heap.size<_;omega) (λe=>by have h:=c _ e.symm;dsimp only at h;omega) M,cR B.out (by show m.heap.size+1<_;omega) (λe=>by have h:=c _ e.symm;dsimp only at h;omega) al,cR B.out (by show f.heap.size<_;omega) (λe=>by have h:=c _ e.symm;dsimp only at h;omega) t⟩) ?_;refine av ?_;refine b2 ?_;refine tq 13 ?_;refine tq 14 ?_;refine tq 15 ?_;refine dp 16 (λK A=>?_);go_simp;refine A _ _ ?_;refine av ?_;refine bV ?_;go_wp2_with fail
  refine bodyPost_ret (results_none rfl _ _ _) rfl ?_;rw[cq.out];exact⟨rfl,fo.jg q.same ao ct B aA rfl cu⟩
 subst ai;have cq:((4:Int) !=4)=false:=rfl;by_cases A:F=1
 case neg=>
  have tk:(F==1)=false:=by simp[A]
  have B:=Z (show D=RO.ap false 10 at_ (.ok (⟨g,i,4⟩:dR)) by rw[z.out];simp[A]);go_wp2_with fail
  exact bv q B y
 have tk:(F==1)=true:=by simp[A]
 have a1:=Z (show D=RO.ap true 10 at_ (.ok (⟨g,i,4⟩:dR)) by rw[z.out];simp[A]);clear A;go_wp2_with fail
 refine bJ q a1 y λcr=>?_;clear a1 z;try clear tk
 clear cq;have al:=az H;have c:=J.lt H;have an:=az I;have c:=J.lt I;go_upto_region 6 with(fail)
 refine kH 13 L al an t λhS=>?_;refine dg ?_;refine eh ?_;have cs:(λw':World=>ac w' (ab n 4) (U j b k)/\ac w' (am m 0) g/\ac w' (ab (m.heap.size+1) 0) i/\ac w' (am f 7) (O 4)) (d.drew.alloc (.cells #[g,i,O 4] 52)):=⟨(World.cell?_alloc_lt _ _ _ cB).trans L,(World.cell?_alloc_lt _ _ _ cB).trans al,(World.cell?_alloc_lt _ _ _ cB).trans an,(World.cell?_alloc_lt _ _ _ cB).trans t⟩;refine aK 11 (λK B=>?_);go_simp;refine B _ _ (λ_=>cs) ?_;refine av ?_;have a2:=Z (aH ((ag.refl d.drew).alloc (.cells #[g,i,O 4] 52)) (aH ((ag.refl d).drew) a0));have a3:=Z (cC d.drew #[g,i,O 4] 52 3 rfl);have a4:=Z (x.drew.alloc (.cells #[g,i,O 4] 52));refine aK 12 (λK B=>?_);refine c7 (d.drew.alloc _) (.tmp 48) (.tmp 54) 33 rfl r 52 aC _ 3 24 Tryz.underlying33 aD aE aF aG rfl au (U j b k) b (o.flatMap dR.cells) rfl a2 (d.heap.size+1) (some ⟨d.heap.size,0,none⟩) 1 1 ((_:aO).toList) rfl a3 bl b1 ae cB ?_;intro c c ao a5 a6;obtain⟨a7,a8,rfl,ct⟩:=bo ao;have c:=b3 aL;have g:some n≠(.slice j b k:ay).ownBlock:=λe=>by have:=c n e.symm;omega
 have ar:=Z (a4.grown a5 g);have i:=bn ar;have g:=λg=>J.frozen ar g;have cu:=Z ao;have M:=Z (fm (((Kp.refl [] d).drew).alloc _) a5);have cv:=Z (show(Value.slice a7 (b+1) a8).ownBlock=(.slice j b k:ay).ownBlock\/∃g,(Value.slice a7 (b+1) a8).ownBlock=some g/\d.heap.size<=g from a6.imp id (λh=>⟨_,h,by simp[d5]⟩));clear ao a6 ct a2 a3 a4;refine B _ _ (λ_=>⟨i,cR M (by show m.heap.size<_;omega) (λe=>by have h:=c _ e.symm;dsimp only at h;omega) al,cR M.out (by show m.heap.size+1<_;omega) (λe=>by have h:=c _ e.symm;dsimp only at h;omega) an,cR M.out (by show f.heap.size<_;omega) (λe=>by have h:=c _ e.symm;dsimp only at h;omega) t⟩) ?_;refine av ?_;refine b2 ?_;refine tq 13 ?_;refine tq 14 ?_;refine tq 15 ?_;refine dp 16 (λK B=>?_);go_simp;refine B _ _ ?_;refine av ?_;refine bV ?_;go_wp2_with fail
 refine bodyPost_ret (results_none rfl _ _ _) rfl ?_;rw[cr.out];exact⟨rfl,fo.jg q.same ar cu M aA rfl cv⟩
theorem AW (c:Int) (f:Nat) (b:List ao) (w:af) (Y:ax w f c b):
 Calls Tryz.prog 170 #[aj f] w λa4 w'=>PP c f w (iU c b) (iZ cL.cells cL.bY) a4 w':=by
 have a4:=Y.lt;have a5:=Z Y;have a6:=Z (Kp.refl [f] w);have a4:w.heap.size<=w.heap.size:=Nat.le_refl _;clear Y;have am:=Z (show iU c b=(bW c b).bind λa b=>(dK c b [⟨_⟩,⟨_⟩,⟨_⟩,⟨_⟩,⟨_⟩]).bind λd b=>(if d=5 then cq c b else .ok 0 b).bind λe b=>mq c a d e b from rfl);generalize iU c b=n at am⊢;go_enter Tryz.func170,Tryz.ntmps170
 have a7:=Z (J.new w 260 #[ah,O 0,O 0,O 0,O 0,O 0,O 0]);go_wp2_with fail
 refine aQ ai (a6.alloc _) am (eq c f b _ (a5.alloc _)) aM ?_;intro i a8 Y a9 ba k d bb bf Y;have bg:=bk d a7;obtain⟨rfl,bh⟩:=k;clear d;go_wp2_with fail
 refine aQ ai (bb.alloc _) ba (lJ c f a8 [⟨_⟩,⟨_⟩,⟨_⟩,⟨_⟩,⟨_⟩] _ a9 _ (bf.alloc _) (cA [⟨_⟩,⟨_⟩,⟨_⟩,⟨_⟩,⟨_⟩] au) au) aM ?_;intro e aa Y F D k d an ap Y;have E:=b0 d bg;obtain⟨rfl,ar,aw⟩:=k;clear d;have Y:1<=e/\e<=100:=⟨ar,aw⟩;clear ar aw;have ay:=Z (J.new F 260 #[i,e,O 0,O 0,O 0,O 0,O 0]);have Y:=J.lt E;obtain⟨az,aA,aB,aE,aF,aG,aH⟩:=jO E;have aI:=λm=>J.frozen E m;have H:=J.lt E;have aJ:=aW H;have Y:=trivial;clear az aA aB aE aF aG aH aI H aJ;go_upto_if 12 with(fail)
 go_cut [] (λwx=>∃(j:Int) (l:List ao),(0<=j/\j<=9999999999)/\Hid (J wx (w.heap.size) 260 #[ah,O 0,O 0,O 0,O 0,O 0,O 0]/\J wx (F.heap.size) 260 #[i,e,j,O 0,O 0,O 0,O 0]/\Kp [f] w wx/\ax wx f c l/\n=mq c i e j l))
 case first=>
  by_cases j:e=5
  ·
   have z:(e==5)=true:=by simp[j]
   replace D:Hid (n=(cq c aa).bind λl b=>mq c i e l b):=Z (by rw[D.out,if_pos j]);clear j;go_wp2_with fail
   refine aQ ai (an.alloc _) D (fT c f aa _ (ap.alloc _)) aM ?_;intro l z z z r k d s u z;have x:=b0 d E;have o:=bk d ay;obtain⟨rfl,p,q⟩:=k;clear d;have y:0<=l/\l<=9999999999:=⟨p,q⟩;clear p q;obtain⟨p,q,z,A,B,C,G⟩:=jO o;have p:=λm=>J.frozen o m;have p:=J.lt o;have p:=aW p;go_wp2_with fail
   go_meet;exact⟨l,_,y,Z ⟨(J.far x aD l),(o.aP 2 l),(Kp.set aD s _),(ax.set aD u _),r⟩⟩
  have l:(e==5)=false:=by simp[j]
  replace D:Hid (n=mq c i e 0 aa):=Z (by rw[D.out,if_neg j];rfl);clear j;go_wp2_with fail
  go_meet;exact⟨0,_,⟨by omega,by omega⟩,Z ⟨(E.out.alloc _),ay.out,(an.out.alloc _),(ap.out.alloc _),D.out⟩⟩
 obtain⟨l,aK,b3,HX⟩:=hcut;obtain⟨bi,rfl⟩:=aq wc;obtain⟨bl,bm,aL,bj,y⟩:=HX.out;have ab:=Z y;have D:=aL.size;clear y HX;replace ab:Hid (n=(aR c aK [⟨#[108,101,97,115,116]⟩]).bind λ_ b=>(cq c b).bind λj b=>qJ c i e l j b):=ab;go_wp2_with fail
 refine aQ ai (aL.alloc _) ab (cU c f aK [⟨_⟩] _ bi _ (bj.alloc _) (cA [⟨_⟩] au)) aM ?_;intro D bn D D bo k d bp bq D;have br:=b0 d bl;have bs:=b0 d bm;obtain rfl:=k;clear d;go_wp2_with fail
 refine aQ ai bp bo (fT c f bn _ bq) aM ?_;intro j s D D ac k d bt bv D;have bw:=bk d br;have I:=bk d bs;obtain⟨rfl,p,q⟩:=k;clear d;have D:0<=j/\j<=9999999999:=⟨p,q⟩;clear p q;obtain⟨K,L,M,N,P,Q,R⟩:=jO I;have S:=λm=>J.frozen I m;have u:=J.lt I;have T:=aW u;replace ac:Hid (n=(if bu s ⟨#[47]⟩then cq c s.tail else .ok 1 s).bind λo b=>(aR c b [⟨#[103,105,118,101,115]⟩]).bind λ_ b=>(cq c b).bind λr b=>ly c i e l j o r b):=ac;go_wp2_with fail
 refine tm ⟨#[47]⟩ ai (Kp.set aD (Kp.set aD bt _) _) (ax.set aD (ax.set aD bv _) _) (bZ _ au) ?ak;intro aN d aO z D;have aS:=Z (d.blk (J.far (J.far bw aD j) aD (O 1)) aC);have aT:=Z (d.blk (g:=F.heap.size) (t:=260) (cs:=#[i,e,l,j,O 1,O 0,O 0]) ((I.aP 3 j).aP 4 (O 1)) aC);clear d;have A:=ac;go_upto_if 24 with(fail)
 go_cut [] (λwx=>∃(o:Int) (r:List ao),(0<=o/\o<=9999999999)/\Hid (J wx (w.heap.size) 260 #[ah,O 0,O 0,O 0,O 0,O 0,O 0]/\J wx (F.heap.size) 260 #[i,e,l,j,.int .i64 o,O 0,O 0]/\Kp [f] w wx/\ax wx f c r/\n=(λo b=>(aR c b [⟨#[103,105,118,101,115]⟩]).bind λ_ b=>(cq c b).bind λx b=>ly c i e l j o x b) o r))
 case first=>
  obtain⟨B,x⟩:=aq (bu s ⟨#[47]⟩);rw[<-x]at A z⊢;cases B
  case true=>
   replace A:Hid (n=(cq c s.tail).bind (λo b=>(aR c b [⟨#[103,105,118,101,115]⟩]).bind λ_ b=>(cq c b).bind λr b=>ly c i e l j o r b)):=A;replace z:Hid (ax aN f c s.tail):=z;clear x;go_wp2_with fail
   refine aQ ai aO A (fT c f s.tail _ z) aM ?_;intro o B B B C k d G U B;have V:=bk d aS;have r:=bk d aT;obtain⟨rfl,p,q⟩:=k;clear d;have W:0<=o/\o<=9999999999:=⟨p,q⟩;clear p q;obtain⟨K,L,M,N,P,Q,R⟩:=jO r;have S:=λm=>J.frozen r m;have u:=J.lt r;have T:=aW u;go_wp2_with fail
   go_meet;exact⟨o,_,W,Z ⟨(J.far V aD o),(r.aP 4 o),(Kp.set aD G _),(ax.set aD U _),C⟩⟩
  replace A:Hid (n=(λo b=>(aR c b [⟨#[103,105,118,101,115]⟩]).bind λ_ b=>(cq c b).bind λr b=>ly c i e l j o r b) 1 s):=A;replace z:Hid (ax aN f c s):=z;clear x;go_wp2_with fail
  go_meet;exact⟨1,_,⟨by omega,by omega⟩,Z ⟨aS.out,aT.out,aO.out,z.out,A.out⟩⟩
 obtain⟨r,aU,b4,HX⟩:=hcut;obtain⟨bx,rfl⟩:=aq wc;obtain⟨bA,bB,aV,bz,y⟩:=HX.out;have ad:=Z y;have s:=aV.size;clear y HX;replace ad:Hid (n=(aR c aU [⟨#[103,105,118,101,115]⟩]).bind λ_ b=>(cq c b).bind λo b=>ly c i e l j r o b):=ad;go_wp2_with fail
 refine aQ ai (aV.alloc _) ad (cU c f aU [⟨_⟩] _ bx _ (bz.alloc _) (cA [⟨_⟩] au)) aM ?_;intro s bC s s bD k d bE bF s;have bG:=b0 d bA;have bH:=b0 d bB;obtain rfl:=k;clear d;go_wp2_with fail
 refine aQ ai bE bD (fT c f bC _ bF) aM ?_;intro o x s s ag k d U V s;have bI:=bk d bG;have W:=bk d bH;obtain⟨rfl,p,q⟩:=k;clear d;have s:0<=o/\o<=9999999999:=⟨p,q⟩;clear p q;obtain⟨K,L,M,N,P,Q,R⟩:=jO W;have S:=λm=>J.frozen W m;have u:=J.lt W;have T:=aW u;replace ag:Hid (n=(if bu x ⟨#[116,97,107,101,115]⟩then cq c x.tail else .ok 0 x).bind (λs b=>(aR c b [⟨#[59]⟩]).bind λ_ b=>.ok ⟨i,e,l,j,r,o,s⟩ b)):=ag;go_wp2_with fail
 refine tm ⟨_⟩ ai (Kp.set aD U _) (ax.set aD V _) (bZ _ au) ?av;intro aX d aY B s;have aZ:=Z (d.blk (J.far bI aD o) aC);have a0:=Z (d.blk (jC W o) aC);clear d;have C:=ag;go_upto_if 36 with(fail)
 go_cut [] (λwx=>∃(tk:Int) (s:List ao),(0<=tk/\tk<=9999999999)/\Hid (J wx (w.heap.size) 260 #[ah,O 0,O 0,O 0,O 0,O 0,O 0]/\J wx (F.heap.size) 260 #[i,e,l,j,r,o,tk]/\Kp [f] w wx/\ax wx f c s/\n=(λz b=>(aR c b [⟨#[59]⟩]).bind λ_ b=>.ok ⟨i,e,l,j,r,o,z⟩ b) tk s))
 case first=>
  obtain⟨a1,al⟩:=aq (bu x ⟨#[116,97,107,101,115]⟩);rw[<-al]at C B⊢;cases a1
  case true=>
   replace C:Hid (n=(cq c x.tail).bind (λs b=>(aR c b [⟨#[59]⟩]).bind λ_ b=>.ok ⟨i,e,l,j,r,o,s⟩ b)):=C;replace B:Hid (ax aX f c x.tail):=B;clear al;go_wp2_with fail
   refine aQ ai aY C (fT c f x.tail _ B) aM ?_;intro G s s s a2 k d a3 bJ s;have bK:=bk d aZ;have X:=bk d a0;obtain⟨rfl,p,q⟩:=k;clear d;have bL:0<=G/\G<=9999999999:=⟨p,q⟩;clear p q;obtain⟨K,L,M,N,P,Q,R⟩:=jO X;have S:=λm=>J.frozen X m;have u:=J.lt X;have T:=aW u;go_wp2_with fail
   go_meet;exact⟨G,_,bL,Z ⟨(J.far bK aD G),(X.aP 6 G),(Kp.set aD a3 _),(ax.set aD bJ _),a2⟩⟩
  replace C:Hid (n=(λp b=>(aR c b [⟨#[59]⟩]).bind λ_ b=>.ok ⟨i,e,l,j,r,o,p⟩ b) 0 x):=C;replace B:Hid (ax aX f c x):=B;clear al;go_wp2_with fail
  go_meet;exact⟨0,_,⟨by omega,by omega⟩,Z ⟨aZ.out,a0.out,aY.out,B.out,C.out⟩⟩
 obtain⟨tk,a1,b5,HX⟩:=hcut;obtain⟨bJ,rfl⟩:=aq wc;obtain⟨bL,bM,a2,bK,y⟩:=HX.out;have X:=Z y;have p:=a2.size;clear y HX;replace X:Hid (n=(aR c a1 [⟨#[59]⟩]).bind λ_ b=>.ok ⟨i,e,l,j,r,o,tk⟩ b):=X;go_wp2_with fail
 refine aQ ai (a2.alloc _) X (cU c f a1 [⟨#[59]⟩] _ bJ _ (bK.alloc _) (cA [⟨#[59]⟩] au)) aM ?_;intro b b b b bN k d bO bP b;have G:=b0 d bL;have al:=b0 d bM;obtain rfl:=k;clear d;obtain⟨az,aA,aB,aE,aF,aG,aH⟩:=jO G;have aI:=λm=>J.frozen G m;have H:=J.lt G;have aJ:=aW H;obtain⟨K,L,M,N,P,Q,R⟩:=jO al;have S:=λm=>J.frozen al m;have u:=J.lt al;have T:=aW u;go_wp2;have bQ:=dW G bO bP [.string i,.int .i64 e,.int .i64 l,.int .i64 j,.int .i64 r,.int .i64 o,.int .i64 tk] rfl ae ae;obtain⟨a3,U,V⟩:=bQ;simp only[bX,Nat.zero_add,Nat.reduceAdd]at a3 U V;obtain⟨bR,bS,bT,bU,bV,b1,b2⟩:=jO a3;refine bodyPost_ret (v:=.agg #[i,e,l,j,r,o,tk]) ?_ rfl ?_
 ·simp[results,Tryz.results170,go_sem,bR,bS,bT,bU,bV,b1,b2]
 rw[bN.out];exact⟨U,_,rfl,⟨rfl,⟨bh,⟨by show _<=e;omega,by show e<=_;omega⟩,⟨by show _<=l;omega,by show l<=_;omega⟩,⟨by show _<=j;omega,by show j<=_;omega⟩,⟨by show _<=r;omega,by show r<=_;omega⟩,⟨by show _<=o;omega,by show o<=_;omega⟩,⟨by show _<=tk;omega,by show tk<=_;omega⟩⟩⟩,V⟩
end Go.Proofs.YteamkimbmdgdbaaGreatDoor

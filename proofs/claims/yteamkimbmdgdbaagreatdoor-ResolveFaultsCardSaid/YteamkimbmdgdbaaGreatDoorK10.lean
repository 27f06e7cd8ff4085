import Derived.Test.YteamkimbmdgdbaaGreatDoorK09
set_option linter.unusedSimpArgs false
set_option linter.unusedVariables false
set_option maxHeartbeats 16000000
set_option maxRecDepth 100000
namespace Go.Proofs.YteamkimbmdgdbaaGreatDoor
open Go.RowKit
theorem AH {d:Type} (g:Nat) (caps:aO) (f:∀f a,(callFunc g f).run Tryz.prog a=.ok (.enter g f) a) (h:Hd) (enc:d->List Value) (l:∀f,∃n b i,enc f=[n,b,i]) (p:d->Bool) (xs:List d) (a:af)
 (c:aF a 3 h enc xs) (m:go g caps a (λf=>.agg (enc f).toArray) p xs):
 Calls Tryz.prog 268 #[h.val,.func (.func g) #[] caps] a λe w'=>e=.returned (O (cn p xs))/\ag a w':=by
 obtain⟨A,d,i⟩:=h;show Calls Tryz.prog 268 #[U A d i,.func (.func g) #[] caps] a _;have o:xs.length=d:=c.1;have d:d<=9223372036854775807:=c.2.1;subst o;have HL:=Z c;have HT:=Z m;have H3:=Z l;clear c m l;go_enter Tryz.func268,Tryz.ntmps268
 go_wp2;go_loopw [8] (λc wr=>∃k:Nat,k<=xs.length/\c=.int .i64 k/\Hid (ag a wr)/\Hid (∀j (hj:j<xs.length),j<k->p xs[j]=false)) (λc _=>xs.length-(intOf c).toNat)
 case atStart=>exact⟨0,Nat.zero_le _,rfl,ag.refl a,λj _ hj=>absurd hj (Nat.not_lt_zero _)⟩
 obtain⟨k,q,rfl,S,N⟩:=hrel;by_cases hlt:k<xs.length
 ·exact vg
 go_wp2;go_ret;exact⟨d0 (lq (λj hj=>N.out j hj ae)).symm,S.out⟩
theorem AI {m:Type} (c:Nat) (f:aO) (n:∀n b,(callFunc c n).run Tryz.prog b=.ok (.enter c n) b) (h:Hd) (g:m->List Value) (s:∀n,∃z o p A,g n=[z,o,p,A]) (d:m->Bool) (a:List m) (b:af)
 (i:aF b 4 h g a) (t:go c f b (λn=>.agg (g n).toArray) d a):
 Calls Tryz.prog 269 #[h.val,.func (.func c) #[] f] b λe q=>e=.returned (O (cn d a))/\ag b q:=by
 obtain⟨u,m,p⟩:=h;show Calls Tryz.prog 269 #[U u m p,.func (.func c) #[] f] b _;have B:a.length=m:=i.1;have m:m<=9223372036854775807:=i.2.1;subst B;have C:=Z i;have D:=Z t;have E:=Z s;clear i t s;go_enter Tryz.func269,Tryz.ntmps269
 go_wp2;go_loopw [8] (λi wr=>∃k:Nat,k<=a.length/\i=.int .i64 k/\Hid (ag b wr)/\Hid (∀j (hj:j<a.length),j<k->d a[j]=false)) (λi _=>a.length-(intOf i).toNat)
 case atStart=>exact⟨0,Nat.zero_le _,rfl,ag.refl b,λj _ hj=>absurd hj (Nat.not_lt_zero _)⟩
 obtain⟨k,G,rfl,S,N⟩:=hrel;by_cases hlt:k<a.length
 ·obtain⟨o,m,i,n,b⟩:=(C.out.same S.out).2.2 k hlt
  have F:u=some ⟨o,m,none⟩:=i;obtain⟨n,o,p,s,m⟩:=E.out a[k];have c:Calls Tryz.prog c (#[Value.agg (g a[k]).toArray]++f) wr λe c=>e=.returned (.bool (d a[k]))/\ag wr c:=D.out a[k] (List.getElem_mem hlt) wr S.out;rw[m]at b c;have r:=b 0 _ rfl;have v:=b 1 _ rfl;have w:=b 2 _ rfl;have x:=b 3 _ rfl;simp only[Nat.add_zero]at r;have l:=Z c;clear c b m i;subst F;cases hq:d a[k]with
  |true=>
   rw[hq]at l;have HQ:=Z hq;clear hq;go_wp2_with fail
   refine l.out.mono ?_;rintro e q ⟨rfl,y⟩;have S1:=Z y;clear y r v w x;exact pS
  |false=>
   rw[hq]at l;have HQ:=Z hq;clear hq;go_wp2_with fail
   refine l.out.mono ?_;rintro e q ⟨rfl,y⟩;have S1:=Z y;clear y r v w x;exact uV
 go_wp2;go_ret;exact⟨d0 (lq (λj hj=>N.out j hj ae)).symm,S.out⟩
theorem AJ {j:Type} (b:Nat) (d:aO) (l:∀c a,(callFunc b c).run Tryz.prog a=.ok (.enter b c) a) (h:Hd) (f:j->List Value) (p:∀k,∃c e g,f k=[c,e,g]) (e:j->Bool) (c:List j) (a:af)
 (m:aF a 3 h f c) (n:go b d a (λk=>.agg (f k).toArray) e c):
 Calls Tryz.prog 193 #[h.val,.func (.func b) #[] d] a λi j=>i=.returned (.bool (c.any e))/\ag a j:=by
 have f:=Z (AH b d l h f p e c a m n);have o:=Z (no e c);obtain⟨k,c⟩:=aq (cn e c);rw[<-c]at f o;clear c m n l;obtain⟨c,e,g⟩:=h;have q:Hid (Calls Tryz.prog 268 #[U c e g,.func (.func b) #[] d] a λi j=>i=.returned k/\ag a j):=f;clear f;show Calls Tryz.prog 193 #[U c e g,.func (.func b) #[] d] a _;go_enter Tryz.func193,Tryz.ntmps193
 go_wp2_with fail
 refine q.mono ?_;rintro i a ⟨rfl,r⟩;go_wp2;go_ret;exact⟨ch o.symm,r⟩
theorem AK {i:Type} (b:Nat) (d:aO) (k:∀c a,(callFunc b c).run Tryz.prog a=.ok (.enter b c) a) (h:Hd) (e:i->List Value) (o:∀j,∃c m f q,e j=[c,m,f,q]) (p:i->Bool) (c:List i) (a:af)
 (l:aF a 4 h e c) (m:go b d a (λj=>.agg (e j).toArray) p c):
 Calls Tryz.prog 196 #[h.val,.func (.func b) #[] d] a λg i=>g=.returned (.bool (c.any p))/\ag a i:=by
 have e:=Z (AI b d k h e o p c a l m);have n:=Z (no p c);obtain⟨o,c⟩:=aq (cn p c);rw[<-c]at e n;clear c l m k;obtain⟨c,j,f⟩:=h;have r:Hid (Calls Tryz.prog 269 #[U c j f,.func (.func b) #[] d] a λg i=>g=.returned o/\ag a i):=e;clear e;show Calls Tryz.prog 196 #[U c j f,.func (.func b) #[] d] a _;go_enter Tryz.func196,Tryz.ntmps196
 go_wp2_with fail
 refine r.mono ?_;rintro g a ⟨rfl,s⟩;go_wp2;go_ret;exact⟨ch n.symm,s⟩
theorem AL (c d:Nat) (a e:Int) (f:af) (k:c<f.heap.size) (l:d<f.heap.size) (m:ac f (ab c 0) a) (n:ac f (ab d 0) e) (g:List dR):
 go 192 #[aj c,aj d] f (λi=>.agg i.cells.toArray) (λf:dR=>decide (f.table=a)&&decide (f.col=e)) g:=by
 intro i _ g f;have o:=(f.cell k).trans m;have o:=(f.cell l).trans n;have o:=aT k f.size;have o:c≠g.heap.size:=ae
 have o:=aT l f.size;have o:d≠g.heap.size:=ae
 obtain⟨b,i,o⟩:=i;clear m n f k l;show Calls Tryz.prog 192 #[.agg #[b,i,o],aj c,aj d] g λc d=>c=.returned (.bool (decide (b=a)&&decide (i=e)))/\ag g d;have c:(b==a)=decide (b=a):=rfl;have c:(i==e)=decide (i=e):=rfl;by_cases j:b=a
 ·have c:(b==a)=true:=by simp[j]
  go_enter Tryz.func192,Tryz.ntmps192
  go_wp2;go_ret;exact⟨ch (by simp[j]),(ag.refl _).alloc _⟩
 have a:(b==a)=false:=by simp[j]
 go_enter Tryz.func192,Tryz.ntmps192
 go_wp2;go_ret;exact⟨ch (by simp[j]),(ag.refl _).alloc _⟩
theorem AM (a:Nat) (b:Int) (c:af) (d:a<c.heap.size) (g:ac c (ab a 0) b) (e:List Fx):
 go 197 #[aj a] c (λc=>.agg c.cells.toArray) (λf:Fx=>decide (f.col=b)) e:=by
 intro c _ e f;have i:=(f.cell d).trans g;have i:=aT d f.size;have i:a≠e.heap.size:=ae
 obtain⟨c,⟨i,j,k⟩⟩:=c;clear g f d;show Calls Tryz.prog 197 #[.agg #[c,i,j,k],aj a] e λa d=>a=.returned (.bool (decide (c=b)))/\ag e d;go_enter Tryz.func197,Tryz.ntmps197
 go_wp2;go_ret;exact⟨ch (by first|rfl|simp),(ag.refl _).alloc _⟩
def re (b:List Tb) (d:List dR) (c:Int) (a:aI):RO dR:=
 (fC b c a.table a.attr).bind λb=>RO.ap (aZ a.bf 1 6) 1 c<|
  RO.ap (!d.any λd=>decide (d.table=b.1)&&decide (d.col=b.2.1)) 9 c<|RO.ap (!decide (a.bf=4)||decide (b.2.2=1)) 10 c<|.ok ⟨b.1,b.2.1,a.bf⟩
theorem Tryz.AN:(Tryz.prog.info? 52).map (λa=>(a.zero,a.size,a.bytes))=some (some (.agg #[O 0,O 0,O 0]),3,24):=ak
theorem dR.len (k:dR):k.cells.length=3:=rfl
theorem AO (n s:Nat) (C:RI) (h:Hd) (v:List RT) (at_:Int) (u1 u2 u3 u5 u6 u7:ay) (j:aX) (b k:Nat) (o:List dR) (f:af) (aw:J f n 157 #[h.val,u1,u2,u3,U j b k,u5,u6,u7,at_]) (ax:bI f h v) (N:f.ownsRow s 52 3 (U j b k) b (o.flatMap dR.cells)) (a9:o.length=b) (aA:n<s) (P:s<=f.heap.size) (P:b<=1000):
 Calls Tryz.prog 117 #[aj n,.agg C.cells.toArray] f λe w'=>jh f (re (v.map RT.tb) o at_ C.it) (λaB w'=>fo f w' n s 52 3 dR.cells j b k o aB (λP=>#[h.val,u1,u2,u3,P,u5,u6,u7,at_])) e w':=by
 obtain⟨aC,aD,aE,aF,aG⟩:=info_parts Tryz.AN;obtain⟨D,P⟩:=aq (re (v.map RT.tb) o at_ C.it);rw[<-P];have aI:=Z P;clear P;obtain⟨C,P,ba,Q,R,⟨bb,bf,bg⟩,ct,⟨bh,bi,bk⟩,cu,l,bm,bp,⟨bq,br,bs⟩,cv,bt,bu,⟨bw,bx,bz⟩,cw,⟨bA,bB,bC⟩,cx,⟨bD,bE,bF⟩,cy,⟨bH,bK,⟨bL,bM,bO⟩,cA,⟨bP,bQ,bR⟩,cD,⟨bS,bT,bU⟩,cE,bW,bX,bY,bZ⟩⟩:=C;have aJ:=Z (show D=(fC (v.map RT.tb) at_ Q R).bind λc=>RO.ap (aZ l 1 6) 1 at_<|RO.ap (!o.any λd=>decide (d.table=c.1)&&decide (d.col=c.2.1)) 9 at_<|RO.ap (!decide (l=4)||decide (c.2.2=1)) 10 at_<|.ok (⟨c.1,c.2.1,l⟩:dR)from aI);clear aI;have b0:=Z (Kp.refl [] f);have b4:=Z ax;have b5:=Z aw;have b6:=Z N;have aL:=Z N;show Calls Tryz.prog 117 #[aj n,.agg #[C,P,ba,Q,R,U bb bf bg,U bh bi bk,l,bm,bp,U bq br bs,bt,bu,U bw bx bz,U bA bB bC,U bD bE bF,bH,bK,U bL bM bO,U bP bQ bR,U bS bT bU,bW,bX,bY,bZ]] f _;clear aw ax N;go_enter Tryz.func117,Tryz.ntmps117
 go_upto_region 1 with(fail)
 obtain⟨b8,C,S,c,N⟩:=nb f 95 _;rw[C];clear C;have aM:=qk b0 c;have b9:=Z (b4.same c);have ca:=Z (aH c b6);have E:=qb c b5;clear c;have aN:=az E;have aP:=bN E;have cb:=J.lt E;have cc:=bj S;have cd:=bn S;go_wp2_with fail
 refine dC aJ (pI n h v Q R at_ b8 cb aN aP b9) (eL aM) ?_;intro a v m ce t aQ w;obtain⟨g,i,F⟩:=a;have cf:v=.tuple #[g,i,F]:=aQ;subst cf;have aR:=Z (aM.trans w);have cg:=Z (aH (w.same) ca);have ch:=qo w E;have ci:=qo w S;have v:=aR.size;clear w;clear aQ ce aN aP cc cd;go_upto_region 2 with(fail)
 obtain⟨E,v,w,c,C⟩:=nb m 3 _;rw[v];clear v;have E:=qk aR c;have N:=Z (aH c cg);have P:=qb c ch;have Q:=qb c ci;clear c;obtain⟨x,v,T,c,C⟩:=nc C 3 _;rw[v];clear v;have V:=qk E c;have aS:=Z (aH c N);have W:=qb c P;have aT:=qb c Q;have X:=qb c w;clear c;have Y:=Z (λc=>fj l 1 6 c);have aa:=Z t.out;generalize aZ l 1 6=cj at Y aa;clear t aJ;have ck:=b7 aT;have ad:=bN W;go_wp2_with fail
 refine(Y x).mono ?_;rintro e w' ⟨rfl,rfl⟩;have t:=aa;cases cj
 case false=>
  go_wp2_with fail
  exact bv V t ad
 go_wp2_with fail
 refine bJ V t ad λG=>?_;clear aa Y t;have aU:∀c f,(callFunc 192 c).run Tryz.prog f=.ok (.enter 192 c) f:=enters_of Tryz.func192 ak rfl;have cl:=bn W;have aV:=az X;have t:=J.lt X;have aW:=az T;have v:=J.lt T;have aY:=cF (h:=⟨j,b,k⟩) dR.len a9 (by show b<=_;omega) aS;have ah:Hid (Calls Tryz.prog 193 #[U j b k,.func (.func 192) #[] #[aj m.heap.size,aj (m.heap.size+1)]] x λe w'=>e=.returned (.bool (o.any λc=>decide (c.table=g)&&decide (c.col=i)))/\ag x w'):=
  Z (AJ 192 _ aU ⟨j,b,k⟩ dR.cells (λaB=>⟨_,_,_,rfl⟩) _ o x aY (AL m.heap.size (m.heap.size+1) g i x t v aV aW o))
 generalize (o.any λc=>decide (c.table=g)&&decide (c.col=i))=cm at ah G;clear aY aU;go_wp2_with fail
 refine ah.mono ?_;rintro e d ⟨rfl,q⟩;have r:=cz V q;have a0:=Z (aH q aS);have y:=bG q W;have c:=bG q aT;have H:=bG q X;have I:=bG q T;clear q ah cl aV aW ck ad;have L:=bn y;have z:=bN y;have q:=J.lt y;have u:=b7 c;have c:=J.lt c;cases cm
 case true=>
  go_wp2_with fail
  exact bv r G z
 go_wp2_with fail
 refine bJ r G z λA=>?_;clear G;by_cases ai:l=4
 case neg=>
  have a8:(l !=4)=true:=by simp[ai]
  have ar:=Z (show D=RO.ap true 10 at_ (.ok (⟨g,i,l⟩:dR)) by rw[A.out];simp[ai]);go_wp2_with fail
  refine bJ r ar z λcn=>?_;clear ar A;try clear tk
  clear a8;have M:=az H;have c:=J.lt H;have al:=az I;have c:=J.lt I;go_upto_region 6 with(fail)
  refine kH 13 L M al u λhS=>?_;refine dg ?_;refine eh ?_;have co:(λw':World=>ac w' (ab n 4) (U j b k)/\ac w' (am m 0) g/\ac w' (ab (m.heap.size+1) 0) i/\ac w' (am f 7) l) (d.drew.alloc (.cells #[g,i,l] 52)):=⟨(World.cell?_alloc_lt _ _ _ cB).trans L,(World.cell?_alloc_lt _ _ _ cB).trans M,(World.cell?_alloc_lt _ _ _ cB).trans al,(World.cell?_alloc_lt _ _ _ cB).trans u⟩;refine aK 11 (λK p=>?_);go_simp;refine p _ _ (λ_=>co) ?_;refine av ?_;have a1:=Z (aH ((ag.refl d.drew).alloc (.cells #[g,i,l] 52)) (aH ((ag.refl d).drew) a0));have a2:=Z (cC d.drew #[g,i,l] 52 3 rfl);have a3:=Z (y.drew.alloc (.cells #[g,i,l] 52));refine aK 12 (λK p=>?_);refine c7 (d.drew.alloc _) (.tmp 48) (.tmp 54) 33 rfl s 52 aC _ 3 24 Tryz.underlying33 aD aE aF aG rfl au (U j b k) b (o.flatMap dR.cells) rfl a1 (d.heap.size+1) (some ⟨d.heap.size,0,none⟩) 1 1 ((_:aO).toList) rfl a2 bl b1 ae cB ?_;intro c c an a4 a5;obtain⟨a6,a7,rfl,cp⟩:=bo an;have c:=b3 aL;have l:some n≠(.slice j b k:ay).ownBlock:=λe=>by have:=c n e.symm;omega
  have ao:=Z (a3.grown a4 l);have q:=bn ao;have l:=λl=>J.frozen ao l;have cq:=Z an;have B:=Z (fm (((Kp.refl [] d).drew).alloc _) a4);have cr:=Z (show(Value.slice a6 (b+1) a7).ownBlock=(.slice j b k:ay).ownBlock\/∃l,(Value.slice a6 (b+1) a7).ownBlock=some l/\d.heap.size<=l from a5.imp id (λh=>⟨_,h,by simp[d5]⟩));clear an a5 cp a1 a2 a3;refine p _ _ (λ_=>⟨q,cR B (by show m.heap.size<_;omega) (λe=>by have h:=c _ e.symm;dsimp only at h;omega) M,cR B.out (by show m.heap.size+1<_;omega) (λe=>by have h:=c _ e.symm;dsimp only at h;omega) al,cR B.out (by show f.heap.size<_;omega) (λe=>by have h:=c _ e.symm;dsimp only at h;omega) u⟩) ?_;refine av ?_;refine b2 ?_;refine tq 13 ?_;refine tq 14 ?_;refine tq 15 ?_;refine dp 16 (λK p=>?_);go_simp;refine p _ _ ?_;refine av ?_;refine bV ?_;go_wp2_with fail
  refine bodyPost_ret (results_none rfl _ _ _) rfl ?_;rw[cn.out];exact⟨rfl,fo.jg r.same ao cq B aA rfl cr⟩
 subst ai;have cn:((4:Int) !=4)=false:=rfl;by_cases B:F=1
 case neg=>
  have tk:(F==1)=false:=by simp[B]
  have M:=Z (show D=RO.ap false 10 at_ (.ok (⟨g,i,4⟩:dR)) by rw[A.out];simp[B]);go_wp2_with fail
  exact bv r M z
 have tk:(F==1)=true:=by simp[B]
 have a1:=Z (show D=RO.ap true 10 at_ (.ok (⟨g,i,4⟩:dR)) by rw[A.out];simp[B]);clear B;go_wp2_with fail
 refine bJ r a1 z λco=>?_;clear a1 A;try clear tk
 clear cn;have al:=az H;have c:=J.lt H;have an:=az I;have c:=J.lt I;go_upto_region 6 with(fail)
 refine kH 13 L al an u λhS=>?_;refine dg ?_;refine eh ?_;have cp:(λw':World=>ac w' (ab n 4) (U j b k)/\ac w' (am m 0) g/\ac w' (ab (m.heap.size+1) 0) i/\ac w' (am f 7) (O 4)) (d.drew.alloc (.cells #[g,i,O 4] 52)):=⟨(World.cell?_alloc_lt _ _ _ cB).trans L,(World.cell?_alloc_lt _ _ _ cB).trans al,(World.cell?_alloc_lt _ _ _ cB).trans an,(World.cell?_alloc_lt _ _ _ cB).trans u⟩;refine aK 11 (λK p=>?_);go_simp;refine p _ _ (λ_=>cp) ?_;refine av ?_;have a2:=Z (aH ((ag.refl d.drew).alloc (.cells #[g,i,O 4] 52)) (aH ((ag.refl d).drew) a0));have a3:=Z (cC d.drew #[g,i,O 4] 52 3 rfl);have a4:=Z (y.drew.alloc (.cells #[g,i,O 4] 52));refine aK 12 (λK p=>?_);refine c7 (d.drew.alloc _) (.tmp 48) (.tmp 54) 33 rfl s 52 aC _ 3 24 Tryz.underlying33 aD aE aF aG rfl au (U j b k) b (o.flatMap dR.cells) rfl a2 (d.heap.size+1) (some ⟨d.heap.size,0,none⟩) 1 1 ((_:aO).toList) rfl a3 bl b1 ae cB ?_;intro c c ao a5 a6;obtain⟨a7,a8,rfl,cq⟩:=bo ao;have c:=b3 aL;have g:some n≠(.slice j b k:ay).ownBlock:=λe=>by have:=c n e.symm;omega
 have ar:=Z (a4.grown a5 g);have i:=bn ar;have g:=λg=>J.frozen ar g;have cr:=Z ao;have M:=Z (fm (((Kp.refl [] d).drew).alloc _) a5);have cs:=Z (show(Value.slice a7 (b+1) a8).ownBlock=(.slice j b k:ay).ownBlock\/∃g,(Value.slice a7 (b+1) a8).ownBlock=some g/\d.heap.size<=g from a6.imp id (λh=>⟨_,h,by simp[d5]⟩));clear ao a6 cq a2 a3 a4;refine p _ _ (λ_=>⟨i,cR M (by show m.heap.size<_;omega) (λe=>by have h:=c _ e.symm;dsimp only at h;omega) al,cR M.out (by show m.heap.size+1<_;omega) (λe=>by have h:=c _ e.symm;dsimp only at h;omega) an,cR M.out (by show f.heap.size<_;omega) (λe=>by have h:=c _ e.symm;dsimp only at h;omega) u⟩) ?_;refine av ?_;refine b2 ?_;refine tq 13 ?_;refine tq 14 ?_;refine tq 15 ?_;refine dp 16 (λK p=>?_);go_simp;refine p _ _ ?_;refine av ?_;refine bV ?_;go_wp2_with fail
 refine bodyPost_ret (results_none rfl _ _ _) rfl ?_;rw[co.out];exact⟨rfl,fo.jg r.same ar cr M aA rfl cs⟩
theorem AW (c:Int) (f:Nat) (b:List ao) (w:af) (Y:ax w f c b):
 Calls Tryz.prog 170 #[aj f] w λa3 w'=>PP c f w (iU c b) (iZ cL.cells cL.bY) a3 w':=by
 have a3:=Y.lt;have a4:=Z Y;have a5:=Z (Kp.refl [f] w);have a3:w.heap.size<=w.heap.size:=Nat.le_refl _;clear Y;have am:=Z (show iU c b=(bW c b).bind λa b=>(dK c b [⟨_⟩,⟨_⟩,⟨_⟩,⟨_⟩,⟨_⟩]).bind λd b=>(if d=5 then cq c b else .ok 0 b).bind λe b=>mq c a d e b from rfl);generalize iU c b=n at am⊢;go_enter Tryz.func170,Tryz.ntmps170
 have a6:=Z (J.new w 260 #[ah,O 0,O 0,O 0,O 0,O 0,O 0]);go_wp2_with fail
 refine aQ ai (a5.alloc _) am (eq c f b _ (a4.alloc _)) aM ?_;intro i a7 Y a8 a9 k d ba bb Y;have bf:=bk d a6;obtain⟨rfl,bg⟩:=k;clear d;go_wp2_with fail
 refine aQ ai (ba.alloc _) a9 (lJ c f a7 [⟨_⟩,⟨_⟩,⟨_⟩,⟨_⟩,⟨_⟩] _ a8 _ (bb.alloc _) (cA [⟨_⟩,⟨_⟩,⟨_⟩,⟨_⟩,⟨_⟩] au) au) aM ?_;intro e aa Y F D k d an ap Y;have E:=b0 d bf;obtain⟨rfl,ar,aw⟩:=k;clear d;have Y:1<=e/\e<=100:=⟨ar,aw⟩;clear ar aw;have ay:=Z (J.new F 260 #[i,e,O 0,O 0,O 0,O 0,O 0]);have Y:=J.lt E;obtain⟨az,aA,aB,aE,aF,aG,aH⟩:=jO E;have aI:=λm=>J.frozen E m;have H:=J.lt E;have aJ:=aW H;have Y:=trivial;clear az aA aB aE aF aG aH aI H aJ;go_upto_if 12 with(fail)
 go_cut [] (λwx=>∃(j:Int) (l:List ao),(0<=j/\j<=9999999999)/\Hid (J wx (w.heap.size) 260 #[ah,O 0,O 0,O 0,O 0,O 0,O 0]/\J wx (F.heap.size) 260 #[i,e,j,O 0,O 0,O 0,O 0]/\Kp [f] w wx/\ax wx f c l/\n=mq c i e j l))
 case first=>
  by_cases j:e=5
  ·
   have z:(e==5)=true:=by simp[j]
   replace D:Hid (n=(cq c aa).bind λl b=>mq c i e l b):=Z (by rw[D.out,if_pos j]);clear j;go_wp2_with fail
   refine aQ ai (an.alloc _) D (fT c f aa _ (ap.alloc _)) aM ?_;intro l z z z r k d s u z;have x:=b0 d E;have o:=bk d ay;obtain⟨rfl,p,q⟩:=k;clear d;have y:0<=l/\l<=9999999999:=⟨p,q⟩;clear p q;obtain⟨p,q,z,A,B,C,G⟩:=jO o;have p:=λm=>J.frozen o m;have p:=J.lt o;have p:=aW p;go_wp2_with fail
   go_meet;exact⟨l,_,y,Z ⟨(J.far x aD l),(o.aP 2 l),(Kp.set aD s _),(ax.set aD u _),r⟩⟩
  have l:(e==5)=false:=by simp[j]
  replace D:Hid (n=mq c i e 0 aa):=Z (by rw[D.out,if_neg j];rfl);clear j;go_wp2_with fail
  go_meet;exact⟨0,_,⟨by omega,by omega⟩,Z ⟨(E.out.alloc _),ay.out,(an.out.alloc _),(ap.out.alloc _),D.out⟩⟩
 obtain⟨l,aK,D,HX⟩:=hcut;obtain⟨bh,rfl⟩:=aq wc;obtain⟨bj,bl,aL,bi,y⟩:=HX.out;have ab:=Z y;have D:=aL.size;clear y HX;replace ab:Hid (n=(aR c aK [⟨#[108,101,97,115,116]⟩]).bind λ_ b=>(cq c b).bind λj b=>qJ c i e l j b):=ab;go_wp2_with fail
 refine aQ ai (aL.alloc _) ab (cU c f aK [⟨_⟩] _ bh _ (bi.alloc _) (cA [⟨_⟩] au)) aM ?_;intro D bm D D bn k d bo bp D;have bq:=b0 d bj;have br:=b0 d bl;obtain rfl:=k;clear d;go_wp2_with fail
 refine aQ ai bo bn (fT c f bm _ bp) aM ?_;intro j s D D ac k d bs bt D;have bv:=bk d bq;have I:=bk d br;obtain⟨rfl,p,q⟩:=k;clear d;have D:0<=j/\j<=9999999999:=⟨p,q⟩;clear p q;obtain⟨K,L,M,N,P,Q,R⟩:=jO I;have S:=λm=>J.frozen I m;have u:=J.lt I;have T:=aW u;replace ac:Hid (n=(if bu s ⟨#[47]⟩then cq c s.tail else .ok 1 s).bind λo b=>(aR c b [⟨#[103,105,118,101,115]⟩]).bind λ_ b=>(cq c b).bind λr b=>ly c i e l j o r b):=ac;go_wp2_with fail
 refine tm ⟨#[47]⟩ ai (Kp.set aD (Kp.set aD bs _) _) (ax.set aD (ax.set aD bt _) _) (bZ _ au) ?ak;intro aN d aO z D;have aS:=Z (d.blk (J.far (J.far bv aD j) aD (O 1)) aC);have aT:=Z (d.blk (g:=F.heap.size) (t:=260) (cs:=#[i,e,l,j,O 1,O 0,O 0]) ((I.aP 3 j).aP 4 (O 1)) aC);clear d;have A:=ac;go_upto_if 24 with(fail)
 go_cut [] (λwx=>∃(o:Int) (r:List ao),(0<=o/\o<=9999999999)/\Hid (J wx (w.heap.size) 260 #[ah,O 0,O 0,O 0,O 0,O 0,O 0]/\J wx (F.heap.size) 260 #[i,e,l,j,.int .i64 o,O 0,O 0]/\Kp [f] w wx/\ax wx f c r/\n=(λo b=>(aR c b [⟨#[103,105,118,101,115]⟩]).bind λ_ b=>(cq c b).bind λx b=>ly c i e l j o x b) o r))
 case first=>
  obtain⟨B,x⟩:=aq (bu s ⟨#[47]⟩);rw[<-x]at A z⊢;cases B
  case true=>
   replace A:Hid (n=(cq c s.tail).bind (λo b=>(aR c b [⟨#[103,105,118,101,115]⟩]).bind λ_ b=>(cq c b).bind λr b=>ly c i e l j o r b)):=A;replace z:Hid (ax aN f c s.tail):=z;clear x;go_wp2_with fail
   refine aQ ai aO A (fT c f s.tail _ z) aM ?_;intro o B B B C k d G U B;have V:=bk d aS;have r:=bk d aT;obtain⟨rfl,p,q⟩:=k;clear d;have W:0<=o/\o<=9999999999:=⟨p,q⟩;clear p q;obtain⟨K,L,M,N,P,Q,R⟩:=jO r;have S:=λm=>J.frozen r m;have u:=J.lt r;have T:=aW u;go_wp2_with fail
   go_meet;exact⟨o,_,W,Z ⟨(J.far V aD o),(r.aP 4 o),(Kp.set aD G _),(ax.set aD U _),C⟩⟩
  replace A:Hid (n=(λo b=>(aR c b [⟨#[103,105,118,101,115]⟩]).bind λ_ b=>(cq c b).bind λr b=>ly c i e l j o r b) 1 s):=A;replace z:Hid (ax aN f c s):=z;clear x;go_wp2_with fail
  go_meet;exact⟨1,_,⟨by omega,by omega⟩,Z ⟨aS.out,aT.out,aO.out,z.out,A.out⟩⟩
 obtain⟨r,aU,s,HX⟩:=hcut;obtain⟨bw,rfl⟩:=aq wc;obtain⟨bz,bA,aV,bx,y⟩:=HX.out;have ad:=Z y;have s:=aV.size;clear y HX;replace ad:Hid (n=(aR c aU [⟨#[103,105,118,101,115]⟩]).bind λ_ b=>(cq c b).bind λo b=>ly c i e l j r o b):=ad;go_wp2_with fail
 refine aQ ai (aV.alloc _) ad (cU c f aU [⟨_⟩] _ bw _ (bx.alloc _) (cA [⟨_⟩] au)) aM ?_;intro s bB s s bC k d bD bE s;have bF:=b0 d bz;have bG:=b0 d bA;obtain rfl:=k;clear d;go_wp2_with fail
 refine aQ ai bD bC (fT c f bB _ bE) aM ?_;intro o x s s ag k d U V s;have bH:=bk d bF;have W:=bk d bG;obtain⟨rfl,p,q⟩:=k;clear d;have s:0<=o/\o<=9999999999:=⟨p,q⟩;clear p q;obtain⟨K,L,M,N,P,Q,R⟩:=jO W;have S:=λm=>J.frozen W m;have u:=J.lt W;have T:=aW u;replace ag:Hid (n=(if bu x ⟨#[116,97,107,101,115]⟩then cq c x.tail else .ok 0 x).bind (λs b=>(aR c b [⟨#[59]⟩]).bind λ_ b=>.ok ⟨i,e,l,j,r,o,s⟩ b)):=ag;go_wp2_with fail
 refine tm ⟨_⟩ ai (Kp.set aD U _) (ax.set aD V _) (bZ _ au) ?av;intro aX d aY B s;have aZ:=Z (d.blk (J.far bH aD o) aC);have a0:=Z (d.blk (jC W o) aC);clear d;have C:=ag;go_upto_if 36 with(fail)
 go_cut [] (λwx=>∃(tk:Int) (s:List ao),(0<=tk/\tk<=9999999999)/\Hid (J wx (w.heap.size) 260 #[ah,O 0,O 0,O 0,O 0,O 0,O 0]/\J wx (F.heap.size) 260 #[i,e,l,j,r,o,tk]/\Kp [f] w wx/\ax wx f c s/\n=(λz b=>(aR c b [⟨#[59]⟩]).bind λ_ b=>.ok ⟨i,e,l,j,r,o,z⟩ b) tk s))
 case first=>
  obtain⟨a1,al⟩:=aq (bu x ⟨#[116,97,107,101,115]⟩);rw[<-al]at C B⊢;cases a1
  case true=>
   replace C:Hid (n=(cq c x.tail).bind (λs b=>(aR c b [⟨#[59]⟩]).bind λ_ b=>.ok ⟨i,e,l,j,r,o,s⟩ b)):=C;replace B:Hid (ax aX f c x.tail):=B;clear al;go_wp2_with fail
   refine aQ ai aY C (fT c f x.tail _ B) aM ?_;intro G s s s a2 k d bI bJ s;have bK:=bk d aZ;have X:=bk d a0;obtain⟨rfl,p,q⟩:=k;clear d;have bL:0<=G/\G<=9999999999:=⟨p,q⟩;clear p q;obtain⟨K,L,M,N,P,Q,R⟩:=jO X;have S:=λm=>J.frozen X m;have u:=J.lt X;have T:=aW u;go_wp2_with fail
   go_meet;exact⟨G,_,bL,Z ⟨(J.far bK aD G),(X.aP 6 G),(Kp.set aD bI _),(ax.set aD bJ _),a2⟩⟩
  replace C:Hid (n=(λp b=>(aR c b [⟨#[59]⟩]).bind λ_ b=>.ok ⟨i,e,l,j,r,o,p⟩ b) 0 x):=C;replace B:Hid (ax aX f c x):=B;clear al;go_wp2_with fail
  go_meet;exact⟨0,_,⟨by omega,by omega⟩,Z ⟨aZ.out,a0.out,aY.out,B.out,C.out⟩⟩
 obtain⟨tk,a1,p,HX⟩:=hcut;obtain⟨bI,rfl⟩:=aq wc;obtain⟨bK,bL,a2,bJ,y⟩:=HX.out;have X:=Z y;have p:=a2.size;clear y HX;replace X:Hid (n=(aR c a1 [⟨#[59]⟩]).bind λ_ b=>.ok ⟨i,e,l,j,r,o,tk⟩ b):=X;go_wp2_with fail
 refine aQ ai (a2.alloc _) X (cU c f a1 [⟨#[59]⟩] _ bI _ (bJ.alloc _) (cA [⟨#[59]⟩] au)) aM ?_;intro b b b b bM k d bN bO b;have G:=b0 d bK;have al:=b0 d bL;obtain rfl:=k;clear d;obtain⟨az,aA,aB,aE,aF,aG,aH⟩:=jO G;have aI:=λm=>J.frozen G m;have H:=J.lt G;have aJ:=aW H;obtain⟨K,L,M,N,P,Q,R⟩:=jO al;have S:=λm=>J.frozen al m;have u:=J.lt al;have T:=aW u;go_wp2;have b:=dW G bN bO [.string i,.int .i64 e,.int .i64 l,.int .i64 j,.int .i64 r,.int .i64 o,.int .i64 tk] rfl ae ae;obtain⟨b,U,V⟩:=b;simp only[bX,Nat.zero_add,Nat.reduceAdd]at b U V;obtain⟨bP,bQ,bR,bS,bT,bU,bV⟩:=jO b;refine bodyPost_ret (v:=.agg #[i,e,l,j,r,o,tk]) ?_ rfl ?_
 ·simp[results,Tryz.results170,go_sem,bP,bQ,bR,bS,bT,bU,bV]
 rw[bM.out];exact⟨U,_,rfl,⟨rfl,⟨bg,⟨by show _<=e;omega,by show e<=_;omega⟩,⟨by show _<=l;omega,by show l<=_;omega⟩,⟨by show _<=j;omega,by show j<=_;omega⟩,⟨by show _<=r;omega,by show r<=_;omega⟩,⟨by show _<=o;omega,by show o<=_;omega⟩,⟨by show _<=tk;omega,by show tk<=_;omega⟩⟩⟩,V⟩
end Go.Proofs.YteamkimbmdgdbaaGreatDoor

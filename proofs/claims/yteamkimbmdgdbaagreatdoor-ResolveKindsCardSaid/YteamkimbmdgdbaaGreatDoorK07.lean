import Derived.Test.YteamkimbmdgdbaaGreatDoorK05
import Derived.Test.YteamkimbmdgdbaaGreatDoorK06
set_option linter.unusedSimpArgs false
set_option linter.unusedVariables false
set_option maxHeartbeats 16000000
set_option maxRecDepth 100000
namespace Go.Proofs.YteamkimbmdgdbaaGreatDoor
open Go.RowKit
theorem AA {f l:Type} {g:List Nat} {c:af} {m:FuncId} {n:aO} {i:Ending->World->Prop} {j:RO l} {k:RO f} {V:f->Value->World->Prop} {o:f->RO l} (d:j=k.bind o) (l:Calls Tryz.prog m n c (λf b=>RP g c k V f b))
 (q:∀er a b,Hid (j=.bad er a)->Hid (Kp g c b)->i (.panicked [{v:=eY er a,recovered:=false}]) b)
 (r:∀a e b,Hid (j=o a)->V a e b->Hid (Kp g c b)->i (.returned e) b):Calls Tryz.prog m n c i:=by
 refine l.mono ?_;rintro f b ⟨p,h⟩;cases hr:k with
 |bad er a=>rw[hr]at h d;subst h;exact q er a b (Z d) (Z p)
 |ok a=>rw[hr]at h d;obtain⟨e,rfl,s⟩:=h;exact r a e b (Z d) s (Z p)
theorem Tryz.rc:(Tryz.prog.info? 3).map (λi=>(i.zero,i.size,i.bytes))=some (some (.int .i64 0),1,8):=ak
theorem cj.len (n:Int):(cj n).length=1:=rfl
theorem AB (a:Int) (b:List At) (c:List Int) (d:aw) (e:bm):dv a b c (d::e)=(cO a b d).bind λd=>RO.ap (!c.any λf=>decide (f=d)) 9 a (dv a b (c++[d]) e):=rfl
def pG (b:Nat) (c:aX) (a d:Nat) (e:List Int) (f:af):Prop:=f.ownsRow b 3 1 (U c a d) a (e.flatMap cj)
theorem pG.lies {d a b:Nat} {c:aX} {l:List Int} {w:af} (o:pG d c a b l w) (d:l.length=a) (e:a<=9223372036854775807):dQ w ⟨c,a,b⟩ l:=cF (h:=⟨c,a,b⟩) cj.len d e o
theorem ua (m:Nat) (f:RT) (G:Hd) (c:bm) (at_:Int) (b:af) (w:m<b.heap.size) (H:ac b (ab m 8) at_) (a:fw b f) (x:b4 b G c) (a2:c.length<=5001):
 Calls Tryz.prog 113 #[aj m,f.val,G.val] b λe l=>RP [] b (dv at_ f.tb.attrs [] c) (dM b.heap.size 1 cj (λ_=>True)) e l:=by
 obtain⟨av,aw,ax,ay,aA⟩:=info_parts Tryz.rc;have R:=Z a;have aB:=Z (rfl:dv at_ f.tb.attrs [] c=dv at_ f.tb.attrs [] c);obtain⟨I,L⟩:=aq (dv at_ f.tb.attrs [] c);have M:=Z L;rw[<-L];obtain⟨aD,a3,aE⟩:=G;have aF:=x.1.1;have G:=x.1.2.1;have aG:=Z x;obtain⟨G,aI⟩:∃G:Array Value,G=#[.string f.name,f.ha.val,f.hk.val]:=⟨_,rfl⟩;have G:=aW w;clear a L aB x;subst aF;have N:=Z (λi g (d:ag b g)=>nV m f i at_ g (aT w d.size) ((d.cell w).trans H) (R.same d));have aJ:=Z H;clear H;generalize aK:f.tb.attrs=y at N M;clear aK;obtain⟨n,⟨o,p,k⟩,a4,⟨q,r,s⟩,a5⟩:=f;clear R aI;have aL:Hid (∀f d,ag b d->Calls Tryz.prog 187 #[aj m,.agg #[n,U o p k,U q r s],.string f] d λe l=>RP [] d (cO at_ y f) g7 e l):=N;clear N;have S:=Z (J.new b 81 #[n,U o p k,U q r s]);have T:=Z ((Kp.refl [] b).alloc (.cells #[n,U o p k,U q r s] 81));show Calls Tryz.prog 113 #[aj m,.agg #[n,U o p k,U q r s],U aD c.length aE] b _;go_enter Tryz.func113,Tryz.ntmps113
 go_wp2;go_loopg [6,12] (c.length+1) (λj m t wr=>∃(d:Nat) (f:List Int) (g:aX) (i:Nat),t=.int .i64 d/\m=.slice g d i/\d<=c.length/\c.length-d<j/\f.length=d/\Hid (pG (b.heap.size+1) g d i f wr)/\Hid (J wr b.heap.size 81 #[n,U o p k,U q r s])/\Hid (Kp [] b wr)/\Hid (I=dv at_ y f (c.drop d)))
 case atStart=>exact⟨0,[],none,0,rfl,rfl,by omega,by omega,rfl,Z ⟨rfl,.inl ⟨rfl,rfl⟩⟩,S,T,M⟩
 obtain⟨d,g,t,u,rfl,rfl,a6,V,W,z,v,K,A⟩:=hrel;clear S T M;have X:=Z V;have B:=Z W;clear V W;by_cases Y:d<c.length
 case neg=>
  have f:¬(d:Int)<c.length:=ae
  have i:=Z (show I=.ok g by rw[A.out,List.drop_of_length_le ae];rfl);clear A;go_wp2;go_ret;rw[i.out];exact⟨K.out,_,rfl,dM.kx (base:=b.heap.size) cj.len (show wr.ownsRow b.heap.size 3 1 _ _ _ from⟨z.out.1,by
   rcases z.out.2 with h|⟨j,C,D,E,hb,F,O⟩
   ·exact .inl h
   exact .inr ⟨j,C,D,E,by omega,F,O⟩⟩) B.out (λ_ _=>trivial) (by have:=B.out;omega)⟩
 have f:(d:Int)<c.length:=ae
 obtain⟨n,o,aM,f,m⟩:=aG.1.one d Y rfl;have aa:=(K.cell f ai).trans m;obtain⟨ad,f⟩:=aq (c[d]);rw[<-f]at aa;have aN:=az v;have aO:=aY v;have aP:=bh v;have ah:=Z (show I=(cO at_ y ad).bind λk=>RO.ap (!g.any λi=>decide (i=k)) 9 at_ (dv at_ y (g++[k]) (c.drop (d+1))) by
  rw[A.out,List.drop_eq_getElem_cons Y,AB,<-f])
 have ak:=Z K.same;clear A f m;subst aM;go_wp2_with fail
 refine AA ah (aL ad wr ak) (eL K) ?_;intro i f j C al D;have aQ:f=.int .i64 i:=al;subst aQ;have E:=Z (K.trans D);have am:=Z (show pG (b.heap.size+1) t d u g j from bC z D (λ_ h=>by cases h));have an:=Z (D.blk v ai);have ao:=Z (am.lies B ae);have O:=(E.cell w ai).trans aJ;clear al ah D z v ak K aa aN aO aP;have F:Hid (Calls Tryz.prog 188 #[U t d u,i] j λe l=>e=.returned (.bool (g.any λf=>decide (f=i)))/\j=l):=Z (o9 ⟨t,d,u⟩ g i j ao);generalize (g.any λf=>decide (f=i))=aR at F C;cases aR
 case true=>
  go_wp2_with (go_at_call 188;refine F.out.mono ?_;rintro e l ⟨rfl,rfl⟩)
  exact bv E C O
 go_wp2_with (go_at_call 188;refine F.out.mono ?_;rintro e l ⟨rfl,rfl⟩)
 refine bJ E C O λaS=>?_;clear C F ao O;have ar:=Z (aH ((ag.refl j).alloc (.cells #[i] 3)) am);have aU:=Z (cC j #[i] 3 1 rfl);have f:b.heap.size+1<=j.heap.size:=an.lt;have f:IntKind.i64.wrap ((d:Int)+1)=(d:Int)+1:=IntWalk.i64_in _ ae;go_wp2_with (at_builtin;refine d6 _ rfl (.tmp 26) (.tmp 28) 60 rfl (b.heap.size+1) 3 av _ 1 8 Tryz.underlying60 aw ax ay aA rfl au (U t d u) d (g.flatMap cj) rfl ar.out (j.heap.size+1) (some ⟨j.heap.size,0,none⟩) 1 1 (#[i]:Array Value).toList rfl aU.out bl b1 ae aC ?_;intro f f f j k;have P:=Z f;have Q:=Z j;clear f j k)
 obtain⟨aV,aZ,rfl,a7⟩:=bo P;have b:∀f,(Value.slice t d u).ownBlock=some f->b.heap.size+1<=f:=λf hg=>by
  obtain⟨_,_,_,ho⟩:=bo ar;exact oD
 have a0:=Z ((E.alloc _).grown Q (λf hg=>.inr (by have:=b f hg;omega)));have a1:=Z (J.grown (an.alloc _) Q (λe=>by have:=b _ e.symm;omega));go_wp2;go_roundg (c.length-d)
 case measure=>have:=X.out;omega
 exact⟨d+1,g++[i],aV,aZ,by go_num,rfl,by omega,by have:=X.out;omega,by rw[List.length_append,B.out];rfl,Z (by show World.ownsRow _ _ _ _ _ _ _;rw[List.flatMap_append];exact P.out),a1,a0,aS⟩
theorem lQ {d:af} {h:Hd} {e:List RT} (f:bI d h e) (q:Nat) (g:q<e.length):∃b c,h.a=some ⟨b,c,none⟩/\b<d.heap.size/\ac d (ab b (c+q*3)) (.string e[q].name)/\d.cell? (ab b (c+q*3+1))=some e[q].ha.val/\d.cell? (ab b (c+q*3+2))=some e[q].hk.val:=by
 obtain⟨b,c,e,f,d⟩:=f.1.2.2 q g;exact⟨b,c,e,f,by simpa using d 0 _ rfl,d 1 _ rfl,d 2 _ rfl⟩
theorem iq {d:af} {h:Hd} {e:List RA} (f:fu d h e) (q:Nat) (g:q<e.length):∃b c,h.a=some ⟨b,c,none⟩/\b<d.heap.size/\ac d (ab b (c+q*6)) (.string e[q].at_.name)/\ac d (ab b (c+q*6+1)) (O e[q].at_.kind)/\d.cell? (ab b (c+q*6+2))=some e[q].h.val/\ac d (ab b (c+q*6+3)) (O e[q].at_.dflt.k)/\ac d (ab b (c+q*6+4)) (O e[q].at_.dflt.n)/\ac d (ab b (c+q*6+5)) (.string e[q].at_.dflt.s):=by
 obtain⟨b,c,e,f,d⟩:=f.1.2.2 q g;exact⟨b,c,e,f,by simpa using d 0 _ rfl,d 1 _ rfl,d 2 _ rfl,d 3 _ rfl,d 4 _ rfl,d 5 _ rfl⟩
theorem mM {tabs:List Tb} {at_:Int} {s:aw} {q:Int} (h:dS tabs at_ s=.ok q):∃k:Nat,q=k/\k<tabs.length:=by
 have a:=lr (λa:Tb=>decide (a.name=s)) tabs;unfold dS RO.ap at h;split at h
 ·rename_i b
  have b:0<=cS tabs s:=by simpa using b
  injection h with h
  subst h;refine⟨(cS tabs s).toNat,by omega,?_⟩;have:cS tabs s<tabs.length:=a.2;omega
 cases h
theorem pH {l:List At} {at_:Int} {s:aw} {q:Int} (h:cO at_ l s=.ok q):∃a:Nat,q=a/\a<l.length:=by
 have a:=nj l s;unfold cO RO.ap at h;split at h
 ·rename_i a
  have a:0<=bH l s:=by simpa using a
  injection h with h
  subst h;refine⟨(bH l s).toNat,by omega,?_⟩;omega
 cases h
theorem dC {f k:Type} {g:List Nat} {c:af} {l:FuncId} {m:aO} {i:Ending->World->Prop} {j:RO k} {d:RO f} {V:f->Value->World->Prop} {n:f->RO k} (e:j=d.bind n) (k:Calls Tryz.prog l m c (λf b=>RP g c d V f b))
 (p:∀er a b,Hid (j=.bad er a)->Hid (Kp g c b)->i (.panicked [{v:=eY er a,recovered:=false}]) b)
 (q:∀a v b,d=.ok a->Hid (j=n a)->V a v b->Hid (Kp g c b)->i (.returned v) b):Calls Tryz.prog l m c i:=by
 refine k.mono ?_;rintro f b ⟨o,h⟩;cases hr:d with
 |bad er a=>rw[hr]at h e;subst h;exact p er a b (Z e) (Z o)
 |ok a=>rw[hr]at h e;obtain⟨v,rfl,r⟩:=h;exact q a v b hr (Z e) r (Z o)
def AC (p:Int×Int×Int) (a:ay) (_:af):Prop:=a=.tuple #[p.1,p.2.1,p.2.2]
theorem lR (a:List RT) (q:Nat) (b:q<a.length):dw (a.map RT.tb) q=a[q].tb:=by
 unfold dw;simp[b]
theorem jY (a:List RA) (q:Nat) (b:q<a.length):cE (a.map RA.at_) q=a[q].at_:=by
 unfold cE;simp[b]
theorem pI (c:Nat) (h:Hd) (b:List RT) (e d:aw) (at_:Int) (k:af) (y:c<k.heap.size) (A:ac k (ab c 0) h.val) (N:ac k (ab c 8) at_) (t:bI k h b):
 Calls Tryz.prog 189 #[aj c,e,d] k λB w'=>RP [] k (fC (b.map RT.tb) at_ e d) AC B w':=by
 have aA:=Z t;have O:=Z (nU c h b e at_ k y A N t);have P:=Z (show fC (b.map RT.tb) at_ e d=(dS (b.map RT.tb) at_ e).bind λe=>(cO at_ (dw (b.map RT.tb) e).attrs d).bind λa=>.ok (e,a,(cE (dw (b.map RT.tb) e).attrs a).kind)from rfl);have Q:=Z (λa=>mM (tabs:=b.map RT.tb) (at_:=at_) (s:=e) (q:=a));obtain⟨C,n,j⟩:=h;have aM:b.length=n:=t.1.1;have aM:n<=9223372036854775807:=t.1.2.1;have k:ac k (ab c 0) (U C n j):=A;have aB:=Z N;have aC:=Z k;generalize fC (b.map RT.tb) at_ e d=D at P⊢;clear A t;go_enter Tryz.func189,Tryz.ntmps189
 go_wp2_with fail
 refine dC P.out O.out ?ah ?ak
 case ah=>
  intro e d e a f;go_wp2;refine⟨rfl,?_⟩;rw[a.out];exact⟨f.out,rfl⟩
 intro a E i R S u v;obtain⟨a,rfl,aD⟩:=Q.out a R;have F:E=.int .i64 (a:Int):=u;subst F;have e:a<b.length:=by simpa using aD
 have T:=Z v.out;have k:=Z (aA.out.same v.out.same);have G:=Z (show D=(cO at_ b[a].tb.attrs d).bind λj=>.ok ((a:Int),j,(cE b[a].tb.attrs j).kind) by rw[S.out,lR b a e]);obtain⟨m,o,V,aE,H,I,J⟩:=lQ k.out a e;have aF:C=some ⟨m,o,none⟩:=V;have W:ac i (ab c 0) (U C n j):=(v.out.cell (p:=(ab c 0)) y ai).trans aC.out;have X:ac i (ab c 8) at_:=(v.out.cell (p:=(ab c 8)) y ai).trans aB.out;have Y:c<i.heap.size:=aT y v.out.size;have K:=Z (nV c b[a] d at_ i Y X (k.out.2 _ (List.getElem_mem e)));have L:=Z (λf=>pH (l:=b[a].tb.attrs) (at_:=at_) (s:=d) (q:=f));have M:=Z (k.out.2 _ (List.getElem_mem e));obtain⟨tq,aa⟩:∃tq,tq=b[a]:=⟨_,rfl⟩;rw[<-aa]at H I J K G L M;obtain⟨ad,⟨w,r,z⟩,f,⟨ag,al,am⟩,aN⟩:=tq;have an:ac i (ab m (o+a*3+1)) (U w r z):=I;have aG:ac i (ab m (o+a*3+2)) (U ag al am):=J;have aH:ac i (ab m (o+a*3)) ad:=H;have ao:Hid (Calls Tryz.prog 187 #[aj c,.agg #[ad,U w r z,U ag al am],d] i λB w'=>RP [] i (cO at_ (f.map RA.at_) d) g7 B w'):=K;have ap:Hid (∀b,cO at_ (f.map RA.at_) d=.ok b->∃e:Nat,b=e/\e<(f.map RA.at_).length):=L;have aq:Hid (D=(cO at_ (f.map RA.at_) d).bind λj=>.ok ((a:Int),j,(cE (f.map RA.at_) j).kind)):=G;have aI:Hid (fu i ⟨w,r,z⟩ f):=Z M.out.1;clear H I J K S G L aa u R Q O M V;subst aF;have b:(a:Int)<n:=ae
 have b:(0:Int)<=a:=ae
 go_wp2_with fail
 refine dC aq.out ao.out ?au ?av
 case au=>
  intro b d b g x;go_wp2;refine⟨rfl,?_⟩;rw[g.out];exact⟨T.out.trans x.out,rfl⟩
 intro g E ar ax ay u x;obtain⟨g,rfl,aJ⟩:=ap.out g ax;have F:E=.int .i64 (g:Int):=u;subst F;have d:g<f.length:=by simpa using aJ
 have aK:=Z (T.out.trans x.out);have b:=aI.out.same x.out.same;obtain⟨e,i,hA2,t,-,k,-,-,-,-⟩:=iq b g d;have aL:w=some ⟨e,i,none⟩:=hA2;have e:f.length=r:=b.1.1;have e0:ac ar (ab c 0) (U (some ⟨m,o,none⟩) n j):=(x.out.cell (p:=(ab c 0)) Y ai).trans W;have c:ac ar (ab m (o+a*3+1)) (U w r z):=(x.out.cell (p:=⟨m,_,none⟩) aE ai).trans an;have az:=Z (show D=.ok ((a:Int),(g:Int),f[g].at_.kind) by rw[ay.out,jY f g d]);obtain⟨a,a⟩:∃a,a=f[g].at_.kind:=⟨_,rfl⟩;rw[<-a]at k az;have c:(g:Int)<r:=ae
 have c:(0:Int)<=g:=ae
 clear u ax ay aq x b hA2 aH an aG W X ao ap a;subst aL;go_wp2_with fail
 go_quiet (fail)
 go_wp2;refine bodyPost_ret (results_tmp3 rfl _ _ _) rfl ?_;rw[az.out];exact⟨(aK.out.drewN _),_,rfl,rfl⟩
theorem AD (a:Int) (b:-9223372036854775808<=a) (b:a<=9223372036854775807) (b:af):
 Calls Tryz.prog 266 #[a] b λc d=>c=.returned (.int .u64 (a.natAbs:Int))/\b=d:=by
 by_cases b:a<0
 ·have b:IntKind.u64.wrap a=a+18446744073709551616:=by
   unfold IntKind.wrap;simp[IntKind.bits,IntKind.signed];omega
  have b:IntKind.u64.wrap (-(a+18446744073709551616))= -a:=by
   unfold IntKind.wrap;simp[IntKind.bits,IntKind.signed];omega
  have b:(a.natAbs:Int)= -a:=ae
  rw[b];go_enter Tryz.func266,Tryz.ntmps266
  go_wp2;go_ret;exact⟨rfl,rfl⟩
 have b:IntKind.u64.wrap a=a:=by
  unfold IntKind.wrap;simp[IntKind.bits,IntKind.signed];omega
 have a:(a.natAbs:Int)=a:=ae
 rw[a];go_enter Tryz.func266,Tryz.ntmps266
 go_wp2;go_ret;exact⟨rfl,rfl⟩
def mN (a:Nat):List Value:=[.int .u64 (a:Int)]
theorem AE (h:Hd) (a:List Nat) (i:af) (l:aF i 1 h mN a) (r:∀f∈a,f<18446744073709551616):
 Calls Tryz.prog 267 #[h.val] i λn F=>n=.returned (.int .u64 ((a.foldl Nat.gcd 0:Nat):Int))/\∃d,F=i.drewN d:=by
 obtain⟨s,d,G⟩:=h;have m:a.length=d:=l.1;have n:d<=9223372036854775807:=l.2.1;subst m;have H:=Z l;have I:=Z r;obtain⟨g,n⟩:∃g,g=a.foldl Nat.gcd 0:=⟨_,rfl⟩;rw[<-n];have t:=Z (show(a.drop 0).foldl Nat.gcd 0=g by rw[n];rfl);clear l r n;show Calls Tryz.prog 267 #[U s a.length G] i _;go_enter Tryz.func267,Tryz.ntmps267
 go_wp2;go_loopg [3,8] (a.length+1) (λe j k wr=>∃(b c:Nat),k=.int .i64 b/\j=.int .u64 (c:Int)/\b<=a.length/\a.length-b<e/\c<18446744073709551616/\Hid (∃d,wr=i.drewN d)/\Hid ((a.drop b).foldl Nat.gcd c=g))
 case atStart=>exact⟨0,0,rfl,rfl,by omega,by omega,by omega,Z ⟨0,rfl⟩,t⟩
 obtain⟨c,j,rfl,rfl,R,u,J,o,p⟩:=hrel;clear t;have w:=Z u;clear u;by_cases q:c<a.length
 case neg=>
  have e:¬(c:Int)<a.length:=ae
  have b:=Z (show j=g by rw[<-p.out,List.drop_of_length_le ae];rfl);go_wp2;go_ret;rw[b.out];exact⟨rfl,o.out⟩
 have l:(c:Int)<a.length:=ae
 obtain⟨l,n,x,r,y⟩:=H.out.one c q (v:=.int .u64 (a[c]:Int)) rfl;have K:s=some ⟨l,n,none⟩:=x;have L:ac wr (ab l (n+c)) (.int .u64 (a[c]:Int)):=by obtain⟨d,rfl⟩:=o.out;exact y
 have z:=I.out _ (List.getElem_mem q);have A:=Z (show(a.drop (c+1)).foldl Nat.gcd (Nat.gcd j a[c])=g by rw[<-p.out,List.drop_eq_getElem_cons q];rfl);obtain⟨f,l⟩:∃f,f=a[c]:=⟨_,rfl⟩;rw[<-l]at L z A;have n:IntKind.i64.wrap ((c:Int)+1)=(c:Int)+1:=IntWalk.i64_in _ ae;clear y p l x;subst K;go_wp2_with fail
 go_loopg [3,5] (f+1) (λk l n p=>∃(e b:Nat),l=.int .u64 (e:Int)/\n=.int .u64 (b:Int)/\b<k/\e<18446744073709551616/\b<18446744073709551616/\Hid (∃d,p=i.drewN d)/\Hid (Nat.gcd e b=Nat.gcd j f))
 case atStart=>exact⟨j,f,rfl,rfl,by omega,J,z,o,Z rfl⟩
 obtain⟨e,b,rfl,rfl,B,M,N,C,D⟩:=hrel;have O:=Z B;clear B;by_cases k:b=0
 ·have i:((b:Int) !=0)=false:=by simp[k]
  have i:((b:Int)==0)=true:=by simp[k]
  have E:=Z (show(a.drop (c+1)).foldl Nat.gcd e=g by rw[<-A.out,<-D.out,k,Nat.gcd_zero_right]);go_wp2_with fail
  go_roundg (a.length-c)
  case measure=>have:=w.out;omega
  exact⟨c+1,e,by go_num,rfl,by omega,by have:=w.out;omega,M,C,E⟩
 have a:((b:Int) !=0)=true:=by simp[k]
 have a:((b:Int)==0)=false:=by simp[k]
 have a:¬(b:Int)=0:=ae
 have E:(e:Int).tmod (b:Int)=((e%b:Nat):Int):=by rw[Int.tmod_eq_emod_of_nonneg ae];rfl
 have P:=Nat.mod_lt e (show 0<b by omega);have Q:=Z (show Nat.gcd b (e%b)=Nat.gcd j f by rw[<-D.out,Nat.gcd_comm e b,Nat.gcd_rec b e,Nat.gcd_comm]);go_wp2_with fail
 go_quiet (fail)
 go_wp2_with fail
 go_roundg b
 case measure=>have:=O.out;omega
 exact⟨b,e%b,rfl,by first|rfl|(simp only[E];done)|(rw[E])|(simp;done),P,N,by omega,Z (by obtain⟨d,m⟩:=C.out;rw[m];exact⟨_,World.drewN_drewN _ _ _⟩),Q⟩
theorem AF (a:af) (b c:Nat):aF (a.alloc (.cells #[.int .u64 (b:Int),.int .u64 (c:Int)] 316)) 1 ⟨some ⟨a.heap.size,0,none⟩,2,2⟩ mN [b,c]:=by
 refine⟨rfl,by show 2<=_;omega,λi j=>⟨a.heap.size,0,rfl,by simp,λd f e=>?_⟩⟩;have g:=J.new a 316 #[.int .u64 (b:Int),.int .u64 (c:Int)];match i,j with
 |0,_=>
  match d with
  |0=>
   have:f=.int .u64 (b:Int):=by simpa[mN]using e.symm
   subst this;exact J.cell g 0
  |d+1=>simp[mN]at e
 |1,_=>
  match d with
  |0=>
   have:f=.int .u64 (c:Int):=by simpa[mN]using e.symm
   subst this;exact J.cell g 1
  |d+1=>simp[mN]at e
theorem AG (b a:Int) (c:af) (r:b8 b) (s:b8 a):Calls Tryz.prog 191 #[.agg #[b,a]] c λg w'=>g=.returned (.bool (lC b a))/\ag c w':=by
 have t:=Z (λd f (e:b8 d)=>AD d e.1 e.2 f);have HE:Hid (lC b a=((decide (0<a)&&decide (a<=1000000000))&&(decide (b.natAbs<=1000000000)&&decide (Nat.gcd b.natAbs a.natAbs=1)))):=Z rfl;generalize lC b a=l at HE⊢;have S1:=Z ((ag.refl c).alloc (.cells #[b,a] 57));by_cases k:0<a
 case neg=>
  have d:=decide_eq_false k;have HR:=Z (show l=false by rw[HE.out,decide_eq_false k];rfl);exact vn
 by_cases m:a<=1000000000
 case neg=>
  have d:=decide_eq_true k;have d:=decide_eq_false m;have HR:=Z (show l=false by rw[HE.out,decide_eq_false m];simp);exact vn
 obtain⟨d,u⟩:∃d:Nat,d=b.natAbs:=⟨_,rfl⟩;obtain⟨e,w⟩:∃e:Nat,e=a.natAbs:=⟨_,rfl⟩;have x:Hid (Rq 266 #[b] (.int .u64 (d:Int))):=Z (λf=>by rw[u];exact t.out b f r);have G:Hid (Rq 266 #[a] (.int .u64 (e:Int))):=Z (λf=>by rw[w];exact t.out a f s);have K:d<18446744073709551616:=by have:=r.1;have:=r.2;omega
 have r:e<18446744073709551616:=by have:=s.1;have:=s.2;omega
 rw[<-u,<-w]at HE;clear u w t;have r:=decide_eq_true k;have r:=decide_eq_true m;by_cases ah:d<=1000000000
 case neg=>
  have j:¬(d:Int)<=1000000000:=ae
  have j:=decide_eq_false j;have HR:=Z (show l=false by rw[HE.out,decide_eq_false ah];simp);clear HE;have f:=J.new c 57 #[b,a];have n:=az f;have o:=aY f;go_enter Tryz.func191,Tryz.ntmps191
  go_upto_region 1 with(fail)
  obtain⟨p,j⟩:=aq (c.alloc (.cells #[b,a] 57));rw[<-j]at n o S1⊢;have r:c.heap.size<p.heap.size:=by rw[j];simp
  clear j f;refine nG (S:=λw'=>ac w' (am c 0) b/\ac w' (am c 1) a) (B:=λ_=>true) ak ?_;have hS:(λw':World=>ac w' (am c 0) b/\ac w' (am c 1) a) p.drew:=⟨n,o⟩;refine lO ?_;refine dU (i:=2) (oi:=?aj) (v:=.bool true) ?ah ak ak ak ak ?au (Or.inl ⟨?ay,?aA⟩) hS ?aB
  case ah=>simp only[bc,bd,be];rfl
  case au=>exact λ_ _ _ h=>h
  case ay=>rfl
  case aA=>
   rintro w' ⟨f,f⟩;go_simp;try (first|rfl|(simp[*];done))
  refine av ?_;refine dU (i:=3) (oi:=?aC) (v:=.bool true) ?aD ak ak ak ak ?aF (Or.inl ⟨?aG,?aH⟩) hS ?aI
  case aD=>simp only[bc,bd,be];rfl
  case aF=>exact λ_ _ _ h=>h
  case aG=>rfl
  case aH=>
   rintro w' ⟨f,f⟩;go_simp;try (first|rfl|(simp[*];done))
  refine av ?_;refine tk 4 hS ?_;refine tk 5 hS ?_;refine dU (i:=6) (oi:=?aJ) (v:=.bool true) ?aK ak ak ak ak ?aL (Or.inl ⟨?aM,?aN⟩) hS ?aO
  case aK=>simp only[bc,bd,be];rfl
  case aL=>exact λ_ _ _ h=>h
  case aM=>rfl
  case aN=>
   rintro w' ⟨f,f⟩;go_simp;try (first|rfl|(simp[*];done))
  refine av ?_;refine dU (i:=7) (oi:=?aP) (v:=.bool true) ?aQ ak ak ak ak ?aR (Or.inl ⟨?aS,?aT⟩) hS ?aU
  case aQ=>simp only[bc,bd,be];rfl
  case aR=>exact λ_ _ _ h=>h
  case aS=>rfl
  case aT=>
   rintro w' ⟨f,f⟩;go_simp;try (first|rfl|(simp[*];done))
  refine av ?_;refine dU (i:=8) (oi:=?aV) (v:=.bool true) ?aW ak ak ak ak ?aX (Or.inl ⟨?aZ,?bf⟩) hS ?bg
  case aW=>simp only[bc,bd,be];rfl
  case aX=>exact λ_ _ _ h=>h
  case aZ=>rfl
  case bf=>
   rintro w' ⟨f,f⟩;go_simp;try (first|rfl|(simp[*];done))
  refine av ?_;refine eh ?_;refine dV 11 (λf q=>?_);go_simp;refine(x _).mono ?_;rintro g w' ⟨rfl,rfl⟩;try go_simp
  refine q _ _ (λ_=>hS) ?_;refine av ?_;refine dU (i:=12) (oi:=?bn) (v:=.bool false) ?bq ak ak ak ak ?bA (Or.inl ⟨?bB,?bC⟩) hS ?bD
  case bq=>simp only[bc,bd,be];rfl
  case bA=>exact λ_ _ _ h=>h
  case bB=>rfl
  case bC=>
   rintro w' ⟨f,f⟩;go_simp;try (first|rfl|(simp[*];done))
  refine av ?_;refine dU (i:=13) (oi:=?bE) (v:=.bool false) ?bF ak ak ak ak ?bG (Or.inl ⟨?bH,?bI⟩) hS ?bJ
  case bF=>simp only[bc,bd,be];rfl
  case bG=>exact λ_ _ _ h=>h
  case bH=>rfl
  case bI=>
   rintro w' ⟨f,f⟩;go_simp;try (first|rfl|(simp[*];done))
  refine av ?_;refine dU (i:=14) (oi:=?bK) (v:=.bool false) ?bL ak ak ak ak ?bM (Or.inl ⟨?bN,?bO⟩) hS ?bP
  case bL=>simp only[bc,bd,be];rfl
  case bM=>exact λ_ _ _ h=>h
  case bN=>rfl
  case bO=>
   rintro w' ⟨f,f⟩;go_simp;try (first|rfl|(simp[*];done))
  refine av ?_;refine sk 15 hS ?_;refine sk 16 hS ?_;refine sk 18 hS ?_;refine sk 19 hS ?_;refine sk 17 hS ?_;refine sk 20 hS ?_;refine sk 21 hS ?_;refine sk 22 hS ?_;refine sk 23 hS ?_;refine dU (i:=24) (oi:=?bQ) (v:=.bool false) ?bR ak ak ak ak ?bS (Or.inl ⟨?bT,?bU⟩) hS ?bV
  case bR=>simp only[bc,bd,be];rfl
  case bS=>exact λ_ _ _ h=>h
  case bT=>rfl
  case bU=>
   rintro w' ⟨f,f⟩;go_simp;try (first|rfl|(simp[*];done))
  refine av ?_;refine dU (i:=25) (oi:=?bW) (v:=.bool false) ?bX ak ak ak ak ?bY (Or.inl ⟨?bZ,?cu⟩) hS ?cK
  case bX=>simp only[bc,bd,be];rfl
  case bY=>exact λ_ _ _ h=>h
  case bZ=>rfl
  case cu=>
   rintro w' ⟨f,f⟩;go_simp;try (first|rfl|(simp[*];done))
  refine av ?_;refine gH ak ?_ _;go_wp2;go_ret;exact⟨ch HR.symm,S1.drew⟩
 have r:decide ((d:Int)<=1000000000)=true:=decide_eq_true ae;have n:=Z (λf=>AE ⟨some ⟨f.heap.size,0,none⟩,2,2⟩ [d,e] (f.alloc _) (AF f d e) (by intro f j;simp at j;rcases j with rfl|rfl<;>assumption));have s:[d,e].foldl Nat.gcd 0=Nat.gcd d e:=by simp
 rw[s]at n;obtain⟨j,r⟩:=aq (Nat.gcd d e);have HR:=Z (show l=decide (j=1) by rw[HE.out,decide_eq_true k,decide_eq_true m,decide_eq_true ah,r];simp);rw[<-r]at n;clear HE s r;have H:Hid (∀f:World,Calls Tryz.prog 267 #[U (some ⟨f.heap.size,0,none⟩) 2 2] (f.alloc (.cells #[.int .u64 (d:Int),.int .u64 (e:Int)] 316)) λg w'=>g=.returned (.int .u64 (j:Int))/\∃b,w'=(f.alloc (.cells #[.int .u64 (d:Int),.int .u64 (e:Int)] 316)).drewN b):=n;clear n;have k:((j:Int)==1)=decide (j=1):=by rw[Bool.eq_iff_iff];simp;omega
 have y:=J.new c 57 #[b,a];have z:=az y;have A:=aY y;go_enter Tryz.func191,Tryz.ntmps191
 go_upto_region 1 with(fail)
 obtain⟨o,k⟩:=aq (c.alloc (.cells #[b,a] 57));rw[<-k]at z A S1⊢;have l:c.heap.size<o.heap.size:=by rw[k];simp
 clear k y;refine nG (S:=λw'=>ac w' (am c 0) b/\ac w' (am c 1) a) (B:=λ_=>true) ak ?_;have hS:(λw':World=>ac w' (am c 0) b/\ac w' (am c 1) a) o.drew:=⟨z,A⟩;refine lO ?_;refine dU (i:=2) (oi:=?cO) (v:=.bool true) ?cZ ak ak ak ak ?dh (Or.inl ⟨?dn,?dw⟩) hS ?dx
 case cZ=>simp only[bc,bd,be];rfl
 case dh=>exact λ_ _ _ h=>h
 case dn=>rfl
 case dw=>
  rintro w' ⟨f,f⟩;go_simp;try (first|rfl|(simp[*];done))
 refine av ?_;refine dU (i:=3) (oi:=?dz) (v:=.bool true) ?dA ak ak ak ak ?dB (Or.inl ⟨?dD,?dF⟩) hS ?dG
 case dA=>simp only[bc,bd,be];rfl
 case dB=>exact λ_ _ _ h=>h
 case dD=>rfl
 case dF=>
  rintro w' ⟨f,f⟩;go_simp;try (first|rfl|(simp[*];done))
 refine av ?_;refine tk 4 hS ?_;refine tk 5 hS ?_;refine dU (i:=6) (oi:=?dH) (v:=.bool true) ?dI ak ak ak ak ?dJ (Or.inl ⟨?dK,?dL⟩) hS ?dM
 case dI=>simp only[bc,bd,be];rfl
 case dJ=>exact λ_ _ _ h=>h
 case dK=>rfl
 case dL=>
  rintro w' ⟨f,f⟩;go_simp;try (first|rfl|(simp[*];done))
 refine av ?_;refine dU (i:=7) (oi:=?dN) (v:=.bool true) ?dO ak ak ak ak ?dP (Or.inl ⟨?dQ,?dR⟩) hS ?dS
 case dO=>simp only[bc,bd,be];rfl
 case dP=>exact λ_ _ _ h=>h
 case dQ=>rfl
 case dR=>
  rintro w' ⟨f,f⟩;go_simp;try (first|rfl|(simp[*];done))
 refine av ?_;refine dU (i:=8) (oi:=?dW) (v:=.bool true) ?dX ak ak ak ak ?dY (Or.inl ⟨?dZ,?d9⟩) hS ?eu
 case dX=>simp only[bc,bd,be];rfl
 case dY=>exact λ_ _ _ h=>h
 case dZ=>rfl
 case d9=>
  rintro w' ⟨f,f⟩;go_simp;try (first|rfl|(simp[*];done))
 refine av ?_;refine eh ?_;refine dV 11 (λp f=>?_);go_simp;refine(x _).mono ?_;rintro g w' ⟨rfl,rfl⟩;try go_simp
 refine f _ _ (λ_=>hS) ?_;refine av ?_;refine dU (i:=12) (oi:=?eB) (v:=.bool true) ?eD ak ak ak ak ?eF (Or.inl ⟨?eG,?eH⟩) hS ?eO
 case eD=>simp only[bc,bd,be];rfl
 case eF=>exact λ_ _ _ h=>h
 case eG=>rfl
 case eH=>
  rintro w' ⟨k,k⟩;go_simp;try (first|rfl|(simp[*];done))
 refine av ?_;refine dU (i:=13) (oi:=?eP) (v:=.bool true) ?eT ak ak ak ak ?eU (Or.inl ⟨?eX,?eY⟩) hS ?eZ
 case eT=>simp only[bc,bd,be];rfl
 case eU=>exact λ_ _ _ h=>h
 case eX=>rfl
 case eY=>
  rintro w' ⟨k,k⟩;go_simp;try (first|rfl|(simp[*];done))
 refine av ?_;refine dU (i:=14) (oi:=?fq) (v:=.bool true) ?fu ak ak ak ak ?fA (Or.inl ⟨?fB,?fC⟩) hS ?fD
 case fu=>simp only[bc,bd,be];rfl
 case fA=>exact λ_ _ _ h=>h
 case fB=>rfl
 case fC=>
  rintro w' ⟨k,k⟩;go_simp;try (first|rfl|(simp[*];done))
 refine av ?_;refine tk 15 hS ?_;refine tk 16 hS ?_;refine tk 18 hS ?_;refine tk 19 hS ?_;refine dV 17 (λp f=>?_);go_simp;refine(x _).mono ?_;rintro g w' ⟨rfl,rfl⟩;try go_simp
 refine f _ _ (λ_=>hS) ?_;refine av ?_;refine dV 20 (λp f=>?_);go_simp;refine(G _).mono ?_;rintro g w' ⟨rfl,rfl⟩;try go_simp
 refine f _ _ (λ_=>hS) ?_;refine av ?_;have C:(λw':World=>ac w' (am c 0) b/\ac w' (am c 1) a) (o.drew.alloc (.cells #[.int .u64 (d:Int),.int .u64 (e:Int)] 316)):=⟨(World.cell?_alloc_lt _ _ _ cB).trans z,(World.cell?_alloc_lt _ _ _ cB).trans A⟩;refine dV 21 (λp f=>?_);go_simp;try go_simp
 refine f _ _ (λ_=>C) ?_;refine av ?_;have E:=Z ((S1.drew).alloc (.cells #[.int .u64 (d:Int),.int .u64 (e:Int)] 316));refine dV 22 (λp f=>?_);go_simp;refine(H o.drew).mono ?_;rintro g w' ⟨rfl,D⟩;have q:(λw':World=>ac w' (am c 0) b/\ac w' (am c 1) a) w':=by obtain⟨F,rfl⟩:=D;exact C
 have I:=Z (show ag c w' by obtain⟨F,rfl⟩:=D;exact E.out.drewN F);clear D C E;try go_simp
 refine f _ _ (λ_=>q) ?_;refine av ?_;refine dU (i:=23) (oi:=?fE) (v:=.bool (decide (j=1))) ?fF ak ak ak ak ?fG (Or.inl ⟨?fH,?fI⟩) q ?fJ
 case fF=>simp only[bc,bd,be];rfl
 case fG=>exact λ_ _ _ h=>h
 case fH=>rfl
 case fI=>
  rintro w' ⟨a,a⟩;go_simp;try (first|rfl|(simp[*];done))
 refine av ?_;refine dU (i:=24) (oi:=?fK) (v:=.bool (decide (j=1))) ?fM ak ak ak ak ?fO (Or.inl ⟨?fP,?fQ⟩) q ?fT
 case fM=>simp only[bc,bd,be];rfl
 case fO=>exact λ_ _ _ h=>h
 case fP=>rfl
 case fQ=>
  rintro w' ⟨a,a⟩;go_simp;try (first|rfl|(simp[*];done))
 refine av ?_;refine dU (i:=25) (oi:=?fU) (v:=.bool (decide (j=1))) ?fV ak ak ak ak ?fZ (Or.inl ⟨?gq,?gu⟩) q ?gy
 case fV=>simp only[bc,bd,be];rfl
 case fZ=>exact λ_ _ _ h=>h
 case gq=>rfl
 case gu=>
  rintro w' ⟨a,a⟩;go_simp;try (first|rfl|(simp[*];done))
 refine av ?_;refine gH ak ?_ _;go_wp2;go_ret;exact⟨ch HR.symm,I⟩
open Go.RowKit Go.Sort
theorem DC {d:af} {e:Nat} {f:aX} {g:Nat} {a:bm} (h:d.ownsRow e 9 1 (U f a.length g) a.length (a.map .string)) (i:0<a.length):
 ∃b,f=some ⟨b,0,none⟩/\e<=b/\b<d.heap.size/\Holds encStr d b 0 (a.map ba).toArray/\a.length<=g:=by
 obtain⟨b,d,j,k,l⟩:=h.form i;injection j with e1 e2 e3
 subst e1 e3;refine⟨b,rfl,k,l,?_,?_⟩
 ·intro b c
  have a:b<a.length:=by simpa using c
  refine⟨?_,h.frozenAt _⟩;rw[Nat.zero_add,h.cellAt b ae];simp[a,encStr,ba]
 rcases h.2 with⟨c,_⟩|⟨n,o,p,c,_,_,m,_⟩
 ·cases c
 injection c with _ _ c;subst c;exact m
theorem DD {d:af} {i:Nat} {e:aX} {f b:Nat} {c:bm} (h:d.ownsRow i 9 1 (U e b f) b (c.map .string)) (i:c.length=b) (j:b<=9223372036854775807):aF d 1 ⟨e,b,f⟩ dF c:=by
 refine⟨i,j,λk l=>?_⟩;obtain⟨m,b,a,c,n⟩:=h.form ae;injection a with e1 e2 e3
 subst e1 e3;refine⟨m,0,rfl,n,λg b a=>?_⟩;match g,a with
 |0,a=>
  simp[dF]at a;subst a;have:=h.cellAt k ae;simp only[Nat.zero_add,Nat.mul_one,Nat.add_zero];rw[this];simp[l]
 |g+1,a=>simp[dF]at a
theorem vI {α:Type} [Inhabited α] (d:α->Value) (b:af) (c e:Nat) (f:Array α) (a:Nat) (h:a≠c):(putRow d b c e f).heap[a]?=b.heap[a]?:=by
 simp only[putRow,mapBlock];rw[Array.getElem?_modify,if_neg (λa=>h a.symm)]
theorem DE (g a i:Nat) (b:bm) (c:af) (j:Holds encStr c a 0 (b.map ba).toArray) (l:a<c.heap.size) (d:g<=a) (m:b.length<4611686018427387904):
 Calls Tryz.prog 76 #[U (some ⟨a,0,none⟩) b.length i] c λk d=>k=.returned (.tuple #[])/\Below g c d/\a<d.heap.size/\Holds encStr d a 0 ((b.map ba).mergeSort λe f=>decide (e<=f)).toArray:=by
 have h:=Tryz.slices_Sort_string a 0 i (b.map ba) c j l (by simpa using m);rw[List.length_map]at h;refine h.mono ?_;rintro k d ⟨n,o,d,rfl⟩;have b:((b.map ba).mergeSort λe f=>decide (e<=f)).toArray.size=(b.map ba).toArray.size:=by simp
 refine⟨n,⟨rfl,rfl,rfl,by simp[Sort.ahead],λd d=>?_⟩,by simp[Sort.ahead];omega,holds_grow _ _ _ _ _ _ (by simp[Sort.ahead];omega) (holds_putRow encStr (Sort.ahead c o) a 0 _ _ (holds_ahead _ _ _ _ _ _ j) b)⟩;rw[heap_grow_old _ _ (by simp[Sort.ahead];omega),vI _ _ _ _ _ _ ae];rfl
theorem DF (e b c:Nat) (a:List (List UInt8)) (d:af) (i:Holds encStr d b 0 a.toArray) (f:e<=b) (j:a.length<=9223372036854775807) (k:a.length<=c):
 Calls Tryz.prog 77 #[U (some ⟨b,0,none⟩) a.length c] d λf g=>f=.returned (U (some ⟨b,0,none⟩) (Lib.compact a).length c)/\Below e d g:=by
 refine(Tryz.slices_Compact_string b 0 c a d i j k).mono ?_;rintro f g ⟨l,a,rfl⟩;refine⟨l,⟨rfl,rfl,rfl,by simp[Sort.ahead],λa a=>?_⟩⟩;rw[vI _ _ _ _ _ _ ae];rfl
section
variable {α:Type} [Inhabited α] [DecidableEq α]
theorem DG (a:List α):(Lib.compact a).length<=a.length/\((Lib.compact a).length=a.length↔∀b,b<a.length->Lib.keeps a.toArray b=true):=by
 unfold Lib.compact Lib.compactUpTo;rw[List.length_map];have c:=List.length_filter_le (Lib.keeps a.toArray) (List.range a.length);rw[List.length_range]at c;refine⟨c,?_,?_⟩
 ·intro h b c
  have:=(List.length_filter_eq_length_iff (p:=Lib.keeps a.toArray) (l:=List.range a.length)).1 (by rw[h,List.length_range]);exact this b (List.mem_range.2 c)
 intro h;rw[List.filter_eq_self.2 (λb a=>h b (List.mem_range.1 a)),List.length_range]
end
theorem DH (b:List (List UInt8)) (g:b.Pairwise (λk l=>decide (k<=l)=true)):(∀a,a<b.length->Lib.keeps b.toArray a=true)↔b.Nodup:=by
 have f:∀a (d:a<b.length),b.toArray[a]! =b[a]:=λa d=>by simp[d]
 constructor
 ·intro h
  rw[List.nodup_iff_pairwise_ne,List.pairwise_iff_getElem];intro c a i d k j;have e:=h (c+1) ae;simp only[Lib.keeps,Nat.add_sub_cancel,decide_eq_true_eq]at e;rcases e with e|e
  ·omega
  rw[f _ ae,f _ i]at e;rw[List.pairwise_iff_getElem]at g;have m:b[c]<=b[c+1]:=by simpa using g c (c+1) i ae ae
  apply e;by_cases n:c+1=a
  ·subst n;exact j.symm
  have b:b[c+1]<=b[a]:=by simpa using g (c+1) a ae d ae
  rw[<-j]at b;exact List.le_antisymm b m
 intro h a d;simp only[Lib.keeps,decide_eq_true_eq];by_cases b:a=0
 ·exact .inl b
 right
 rw[f a d,f (a-1) ae];intro b;rw[List.nodup_iff_pairwise_ne,List.pairwise_iff_getElem]at h;exact h (a-1) a ae d ae b.symm
theorem DI (a:bm):decide ((Lib.compact ((a.map ba).mergeSort λb c=>decide (b<=c))).length<a.length)=jA a:=by
 have f:=List.mergeSort_perm (a.map ba) (λb c=>decide (b<=c));have e:((a.map ba).mergeSort λb c=>decide (b<=c)).length=a.length:=ai
 have g:((a.map ba).mergeSort λb c=>decide (b<=c)).Pairwise (λb c=>decide (b<=c)=true):=by
  apply List.pairwise_mergeSort
  ·intro d d d d i
   simp only[decide_eq_true_eq]at*;exact List.le_trans d i
  intro d i;simp only[Bool.or_eq_true,decide_eq_true_eq];exact List.le_total d i
 obtain⟨b,d⟩:=DG ((a.map ba).mergeSort λb c=>decide (b<=c));rw[DH _ g,f.nodup_iff,e]at d;have c:(a.map ba).Nodup↔a.Nodup:=by
  unfold List.Nodup;rw[List.pairwise_map];constructor
  ·intro h;exact h.imp (λf g=>f (by rw[g]))
  intro h;exact h.imp (λf g=>f (m7 g))
 rw[c,<-sF]at d;rw[e]at b;cases hd:jA a with
 |false=>rw[hd]at d;have:=d.2 rfl;simp;omega
 |true=>rw[hd]at d;simp at d⊢;omega
theorem DJ (c:Nat) (f:aO) (n:∀n b,(callFunc c n).run Tryz.prog b=.ok (.enter c n) b) (h:Hd) (d:ByteArray->Bool) (a:bm) (b:af)
 (g:aF b 1 h dF a) (o:go c f b (λn=>.string n) d a):
 Calls Tryz.prog 150 #[h.val,.func (.func c) #[] f] b λe l=>e=.returned (O (cn d a))/\ag b l:=by
 obtain⟨p,m,s⟩:=h;show Calls Tryz.prog 150 #[U p m s,.func (.func c) #[] f] b _;have t:a.length=m:=g.1;have m:m<=9223372036854775807:=g.2.1;subst t;have u:=Z g;have w:=Z o;clear g o;go_enter Tryz.func150,Tryz.ntmps150
 go_wp2;go_loopw [8] (λg wr=>∃k:Nat,k<=a.length/\g=.int .i64 k/\Hid (ag b wr)/\Hid (∀j (hj:j<a.length),j<k->d a[j]=false)) (λg _=>a.length-(intOf g).toNat)
 case atStart=>exact⟨0,Nat.zero_le _,rfl,ag.refl b,λj _ hj=>absurd hj (Nat.not_lt_zero _)⟩
 obtain⟨k,y,rfl,S,N⟩:=hrel;by_cases hlt:k<a.length
 ·obtain⟨g,m,b,n,q⟩:=(u.out.same S.out).one k hlt (v:=.string a[k]) rfl
  have x:p=some ⟨g,m,none⟩:=b;have c:Calls Tryz.prog c (#[Value.string a[k]]++f) wr λe c=>e=.returned (.bool (d a[k]))/\ag wr c:=w.out a[k] (List.getElem_mem hlt) wr S.out;have i:=Z c;clear c b;subst x;cases hq:d a[k]with
  |true=>
   rw[hq]at i;have HQ:=Z hq;clear hq;go_wp2_with fail
   refine i.out.mono ?_;rintro e l ⟨rfl,r⟩;have S1:=Z r;clear r q;exact pS
  |false=>
   rw[hq]at i;have HQ:=Z hq;clear hq;go_wp2_with fail
   refine i.out.mono ?_;rintro e l ⟨rfl,r⟩;have S1:=Z r;clear r q;exact uV
 go_wp2;go_ret;exact⟨d0 (lq (λj hj=>N.out j hj ae)).symm,S.out⟩
theorem DK (f:af) (b:bm) (h:∀a∈b,aG a):go 75 #[] f (λa=>.string a) (λa=>!bD a) b:=by
 intro a c b _;have d:=Z (o5 a b (h a c));show Calls Tryz.prog 75 #[a] b λe f=>e=.returned (.bool (!bD a))/\ag b f;generalize bD a=g at d⊢;clear h c;go_enter Tryz.func75,Tryz.ntmps75
 go_wp2_with (go_at_call 72;refine d.out.mono ?_;rintro e a ⟨rfl,rfl⟩)
 go_ret;exact⟨rfl,ag.refl _⟩
theorem DL (h:Hd) (d:bm) (b:af) (a:b4 b h d):
 Calls Tryz.prog 74 #[h.val,.func (.func 75) #[] #[]] b λe f=>e=.returned (.bool (d.any λc=>!bD c))/\ag b f:=by
 have k:∀j b,(callFunc 75 j).run Tryz.prog b=.ok (.enter 75 j) b:=enters_of Tryz.func75 ak rfl;have g:=Z (DJ 75 #[] k h (λc=>!bD c) d b a.1 (DK b d a.2));have i:=Z (no (λc=>!bD c) d);generalize cn (λc=>!bD c) d=q at g i;generalize (d.any λc=>!bD c)=s at i⊢;clear a k;obtain⟨l,m,n⟩:=h;have r:Hid (Calls Tryz.prog 150 #[U l m n,.func (.func 75) #[] #[]] b λe f=>e=.returned q/\ag b f):=g;clear g;show Calls Tryz.prog 74 #[U l m n,.func (.func 75) #[] #[]] b _;go_enter Tryz.func74,Tryz.ntmps74
 go_wp2_with (go_at_call 150;refine r.out.mono ?_;rintro e f ⟨rfl,o⟩;have p:=Z o;clear o)
 go_ret;exact⟨ch i.out.symm,p.out⟩
theorem Tryz.DM:(Tryz.prog.info? 9).map (λa=>(a.zero,a.size,a.bytes))=some (some (.string ByteArray.empty),1,16):=ak
theorem m1 (a:Tb):g0 a=(bD a.name&&(decide (1<=a.attrs.length)&&decide (a.attrs.length<=12)&&decide (1<=a.key.length))&&a.attrs.all gB&&(kz a).all bD&&!jA (kz a)&&o6 a.attrs.length a.key):=rfl
def d4 (rs:List RA):List ByteArray:=d9 (rs.map RA.at_)
theorem DN (a:List RA) (b:Nat) (h:b<a.length):d4 (a.take (b+1))=d4 (a.take b)++[a[b].at_.name]++a[b].at_.was:=by
 rw[List.take_succ_eq_append_getElem h];unfold d4 d9;rw[List.map_append,List.flatMap_append,List.append_assoc];simp only[List.map_cons,List.map_nil,List.flatMap_cons,List.flatMap_nil,List.append_nil,List.cons_append,List.nil_append]
theorem vJ {rs:List RA} (h:∀a∈rs,a.at_.was.length<=1000000):(d4 rs).length<=rs.length*1000001:=by
 induction rs with
 |nil=>simp[d4,d9]
 |cons a rs b=>
  have c:=h a ai;have b:=b (λa b=>h a (by simp[b]));have:d4 (a::rs)=a.at_.name::a.at_.was++d4 rs:=by simp[d4,d9]
  rw[this];simp only[List.length_append,List.length_cons];omega
def vK (c:af) (a:List RA) (b:Nat) (v:ay) (wr:af):Prop:=
 ag c wr/\wr.ownsRow c.heap.size 9 1 v (d4 (a.take b)).length ((d4 (a.take b)).map .string)/\∀c (d:c<a.length),c<b->gB a[c].at_=true
theorem rV {b:Tb} {a:List RA} (d:b.attrs=a.map RA.at_) (c:Nat) (e:c<a.length) (h:gB a[c].at_=false):g0 b=false:=by
 have:b.attrs.all gB=false:=by
  rw[List.all_eq_false];exact⟨a[c].at_,by rw[d];exact List.mem_map_of_mem (List.getElem_mem e),by simp[h]⟩
 rw[m1,this];simp
theorem DO (a:RT) (d:af) (f:fw d a) (b:bD a.name=false\/a.ra.length=0\/12<a.ra.length\/a.key.length=0):
 Calls Tryz.prog 40 #[a.val] d λe w'=>e=.returned (.bool false)/\ag d w':=by
 have i:a.ra.length=a.ha.n:=f.1.1.1;have j:a.key.length=a.hk.n:=f.2.1.1;have HN:=Z (λc=>o5 a.name c f.2.2);clear f;obtain⟨k,⟨m,s,o⟩,c,⟨p,t,q⟩,g⟩:=a;simp only at i j b HN;subst i j;show Calls Tryz.prog 40 #[.agg #[k,U m c.length o,U p g.length q]] d _;generalize bD k=r at HN b;have l:=Z b;clear b;cases r
 case false=>
  go_enter Tryz.func40,Tryz.ntmps40
  exact r3
 have b:c.length=0\/12<c.length\/g.length=0:=by simpa using l.out
 clear l;go_enter Tryz.func40,Tryz.ntmps40
 by_cases a:c.length=0
 ·exact r3
 have a:((c.length:Int)==0)=false:=by simpa using a
 by_cases a:12<c.length
 ·exact r3
 have a:g.length=0:=ae
 clear b;go_wp2_with (go_at_call 72;refine(HN.out _).mono ?_;rintro e w' ⟨rfl,rfl⟩)
 go_ret;exact⟨rfl,(ag.refl _).alloc _⟩
end Go.Proofs.YteamkimbmdgdbaaGreatDoor

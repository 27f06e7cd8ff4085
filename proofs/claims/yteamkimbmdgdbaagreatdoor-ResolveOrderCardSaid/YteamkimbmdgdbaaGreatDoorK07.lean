import Derived.Test.YteamkimbmdgdbaaGreatDoorK05
import Derived.Test.YteamkimbmdgdbaaGreatDoorK06
set_option linter.unusedSimpArgs false
set_option linter.unusedVariables false
set_option maxHeartbeats 16000000
set_option maxRecDepth 100000
namespace Go.Proofs.YteamkimbmdgdbaaGreatDoor
open Go.Proofs.Tryz
open Go.RowKit
theorem Dw {f l:Type} {g:List Nat} {c:ah} {m:FuncId} {n:aQ} {i:Ending->World->Prop} {j:RO l} {k:RO f} {V:f->Value->World->Prop} {o:f->RO l} (d:j=k.bind o) (l:Calls prog m n c (λf b=>RP g c k V f b))
 (q:∀er a b,Hid (j=.bad er a)->Hid (Kp g c b)->i (.panicked [{v:=fD er a,recovered:=false}]) b)
 (r:∀a e b,Hid (j=o a)->V a e b->Hid (Kp g c b)->i (.returned e) b):Calls prog m n c i:=by
 refine l.mono ?_;rintro f b ⟨p,h⟩;cases hr:k with
 |bad er a=>rw[hr]at h d;subst h;exact q er a b (Z d) (Z p)
 |ok a=>rw[hr]at h d;obtain⟨e,rfl,s⟩:=h;exact r a e b (Z d) s (Z p)
theorem Tryz.sv:(prog.info? 3).map (λi=>(i.zero,i.size,i.bytes))=some (some (.int .i64 0),1,8):=am
theorem bU.len (n:Int):(bU n).length=1:=rfl
theorem Dx (a:Int) (b:List At) (c:List Int) (d:ax) (e:bk):dA a b c (d::e)=(cS a b d).bind λd=>RO.ap (!c.any λf=>decide (f=d)) 9 a (dA a b (c++[d]) e):=rfl
def qG (b:Nat) (c:aU) (a d:Nat) (e:List Int) (f:ah):Prop:=f.ownsRow b 3 1 (O c a d) a (e.flatMap bU)
theorem qG.lies {d a b:Nat} {c:aU} {l:List Int} {w:ah} (o:qG d c a b l w) (d:l.length=a) (e:a<=9223372036854775807):cY w ⟨c,a,b⟩ l:=cJ (h:=⟨c,a,b⟩) bU.len d e o
theorem wj (m:Nat) (f:RT) (G:Hd) (c:bk) (at_:Int) (b:ah) (w:m<b.heap.size) (H:ae b (ac m 8) at_) (a:fq b f) (x:b5 b G c) (a2:c.length<=5001):
 Calls prog 113 #[ak m,f.val,G.val] b λe l=>RP [] b (dA at_ f.tb.attrs [] c) (d3 b.heap.size 1 bU (λ_=>True)) e l:=by
 obtain⟨ar,aw,ax,az,aA⟩:=info_parts Tryz.sv;have R:=Z a;have aB:=Z (rfl:dA at_ f.tb.attrs [] c=dA at_ f.tb.attrs [] c);obtain⟨I,J⟩:=av (dA at_ f.tb.attrs [] c);have L:=Z J;rw[<-J];obtain⟨aC,a3,aD⟩:=G;have aE:=x.1.1;have G:=x.1.2.1;have aG:=Z x;obtain⟨G,aH⟩:∃G:Array Value,G=#[.string f.name,f.ha.val,f.hk.val]:=⟨_,rfl⟩;have G:=bb w;clear a J aB x;subst aE;have M:=Z (λi g (d:ag b g)=>o2 m f i at_ g (aV w d.size) ((d.cell w).trans H) (R.same d));have aI:=Z H;clear H;generalize aJ:f.tb.attrs=y at M L;clear aJ;obtain⟨n,⟨o,p,k⟩,a4,⟨q,r,s⟩,a5⟩:=f;clear R aH;have aL:Hid (∀f d,ag b d->Calls prog 187 #[ak m,.agg #[n,O o p k,O q r s],.string f] d λe l=>RP [] d (cS at_ y f) hP e l):=M;clear M;have S:=Z (aa.new b 81 #[n,O o p k,O q r s]);have T:=Z ((Kp.refl [] b).alloc (.cells #[n,O o p k,O q r s] 81));show Calls prog 113 #[ak m,.agg #[n,O o p k,O q r s],O aC c.length aD] b _;go_enter func113,ntmps113
 go_wp2;go_loopg [6,12] (c.length+1) (λj m t wr=>∃(d:Nat) (f:List Int) (g:aU) (i:Nat),t=.int .i64 d/\m=.slice g d i/\d<=c.length/\c.length-d<j/\f.length=d/\Hid (qG (b.heap.size+1) g d i f wr)/\Hid (aa wr b.heap.size 81 #[n,O o p k,O q r s])/\Hid (Kp [] b wr)/\Hid (I=dA at_ y f (c.drop d)))
 case atStart=>exact⟨0,[],none,0,rfl,rfl,by omega,by omega,rfl,Z ⟨rfl,.inl ⟨rfl,rfl⟩⟩,S,T,L⟩
 obtain⟨d,g,t,u,rfl,rfl,a6,U,V,z,v,K,A⟩:=hrel;clear S T L;have W:=Z U;have B:=Z V;clear U V;by_cases X:d<c.length
 case neg=>
  have f:¬(d:Int)<c.length:=af
  have i:=Z (show I=.ok g by rw[A.out,List.drop_of_length_le af];rfl);clear A;go_wp2;go_ret;rw[i.out];exact⟨K.out,_,rfl,d3.kY (base:=b.heap.size) bU.len (show wr.ownsRow b.heap.size 3 1 _ _ _ from⟨z.out.1,by
   rcases z.out.2 with h|⟨j,C,D,E,hb,F,N⟩
   ·exact .inl h
   exact .inr ⟨j,C,D,E,by omega,F,N⟩⟩) B.out (λ_ _=>trivial) (omg B)⟩
 have f:(d:Int)<c.length:=af
 obtain⟨n,o,aM,f,m⟩:=aG.1.one d X rfl;have Y:=(K.cell f aj).trans m;obtain⟨ab,f⟩:=av (c[d]);rw[<-f]at Y;have aN:=ay v;have aO:=aS v;have aP:=aZ v;have ad:=Z (show I=(cS at_ y ab).bind λk=>RO.ap (!g.any λi=>decide (i=k)) 9 at_ (dA at_ y (g++[k]) (c.drop (d+1))) by
  rw[A.out,List.drop_eq_getElem_cons X,Dx,<-f])
 have ai:=Z K.same;clear A f m;subst aM;go_wp2_with fail
 refine Dw ad (aL ab wr ai) (fb K) ?_;intro i f j C al D;have aQ:f=.int .i64 i:=al;subst aQ;have E:=Z (K.trans D);have am:=Z (show qG (b.heap.size+1) t d u g j from bG z D (λ_ h=>by cases h));have an:=Z (D.blk v aj);have ao:=Z (am.lies B af);have N:=(E.cell w aj).trans aI;clear al ad D z v ai K Y aN aO aP;have F:Hid (Calls prog 188 #[O t d u,i] j λe l=>e=.returned (.bool (g.any λf=>decide (f=i)))/\j=l):=Z (qa ⟨t,d,u⟩ g i j ao);generalize (g.any λf=>decide (f=i))=aR at F C;cases aR
 case true=>
  go_wp2_with (go_at_call 188;refine F.out.mono ?_;rintro e l ⟨rfl,rfl⟩)
  exact b1 E C N
 go_wp2_with (go_at_call 188;refine F.out.mono ?_;rintro e l ⟨rfl,rfl⟩)
 refine bV E C N λaT=>?_;clear C F ao N;have aq:=Z (aK ((ag.refl j).alloc (.cells #[i] 3)) am);have aW:=Z (cO j #[i] 3 1 rfl);have f:b.heap.size+1<=j.heap.size:=an.lt;have f:IntKind.i64.wrap ((d:Int)+1)=(d:Int)+1:=IntWalk.i64_in _ af;go_wp2_with (at_builtin;refine eL _ rfl (.tmp 26) (.tmp 28) 60 rfl (b.heap.size+1) 3 ar _ 1 8 underlying60 aw ax az aA rfl au (O t d u) d (g.flatMap bU) rfl aq.out (j.heap.size+1) (some ⟨j.heap.size,0,none⟩) 1 1 (#[i]:Array Value).toList rfl aW.out bw cc af aF ?_;intro f f f j k;have P:=Z f;have Q:=Z j;clear f j k)
 obtain⟨aX,aY,rfl,a7⟩:=bv P;have b:∀f,(Value.slice t d u).ownBlock=some f->b.heap.size+1<=f:=λf hg=>by
  obtain⟨_,_,_,ho⟩:=bv aq;exact f0
 have a0:=Z ((E.alloc _).grown Q (λf hg=>.inr (by have:=b f hg;omega)));have a1:=Z (aa.grown (an.alloc _) Q (λe=>by have:=b _ e.symm;omega));go_wp2;go_roundg (c.length-d)
 case measure=>have:=W.out;omega
 exact⟨d+1,g++[i],aX,aY,by go_num,rfl,by omega,omg W,by rw[List.length_append,B.out];rfl,Z (by show World.ownsRow _ _ _ _ _ _ _;rw[List.flatMap_append];exact P.out),a1,a0,aT⟩
theorem nx {d:ah} {h:Hd} {e:List RT} (f:bI d h e) (q:Nat) (g:q<e.length):∃b c,h.a=some ⟨b,c,none⟩/\b<d.heap.size/\ae d (ac b (c+q*3)) (.string e[q].name)/\d.cell? (ac b (c+q*3+1))=some e[q].ha.val/\d.cell? (ac b (c+q*3+2))=some e[q].hk.val:=by
 obtain⟨b,c,e,f,d⟩:=f.1.2.2 q g;exact⟨b,c,e,f,by simpa using d 0 _ rfl,d 1 _ rfl,d 2 _ rfl⟩
theorem iJ {d:ah} {h:Hd} {e:List RA} (f:fp d h e) (q:Nat) (g:q<e.length):∃b c,h.a=some ⟨b,c,none⟩/\b<d.heap.size/\ae d (ac b (c+q*6)) (.string e[q].at_.name)/\ae d (ac b (c+q*6+1)) (J e[q].at_.kind)/\d.cell? (ac b (c+q*6+2))=some e[q].h.val/\ae d (ac b (c+q*6+3)) (J e[q].at_.dflt.k)/\ae d (ac b (c+q*6+4)) (J e[q].at_.dflt.n)/\ae d (ac b (c+q*6+5)) (.string e[q].at_.dflt.s):=by
 obtain⟨b,c,e,f,d⟩:=f.1.2.2 q g;exact⟨b,c,e,f,by simpa using d 0 _ rfl,d 1 _ rfl,d 2 _ rfl,d 3 _ rfl,d 4 _ rfl,d 5 _ rfl⟩
theorem ny {tabs:List Tb} {at_:Int} {s:ax} {q:Int} (h:d1 tabs at_ s=.ok q):∃k:Nat,q=k/\k<tabs.length:=by
 have a:=lW (λa:Tb=>decide (a.name=s)) tabs;unfold d1 RO.ap at h;split at h
 ·rename_i b
  have b:0<=cE tabs s:=by simpa using b
  injection h with h
  subst h;refine⟨(cE tabs s).toNat,by omega,?_⟩;have:cE tabs s<tabs.length:=a.2;omega
 cases h
theorem qH {l:List At} {at_:Int} {s:ax} {q:Int} (h:cS at_ l s=.ok q):∃a:Nat,q=a/\a<l.length:=by
 have a:=ou l s;unfold cS RO.ap at h;split at h
 ·rename_i a
  have a:0<=bu l s:=by simpa using a
  injection h with h
  subst h;refine⟨(bu l s).toNat,by omega,?_⟩;omega
 cases h
theorem dQ {f k:Type} {g:List Nat} {c:ah} {l:FuncId} {m:aQ} {i:Ending->World->Prop} {j:RO k} {d:RO f} {V:f->Value->World->Prop} {n:f->RO k} (e:j=d.bind n) (k:Calls prog l m c (λf b=>RP g c d V f b))
 (p:∀er a b,Hid (j=.bad er a)->Hid (Kp g c b)->i (.panicked [{v:=fD er a,recovered:=false}]) b)
 (q:∀a v b,d=.ok a->Hid (j=n a)->V a v b->Hid (Kp g c b)->i (.returned v) b):Calls prog l m c i:=by
 refine k.mono ?_;rintro f b ⟨o,h⟩;cases hr:d with
 |bad er a=>rw[hr]at h e;subst h;exact p er a b (Z e) (Z o)
 |ok a=>rw[hr]at h e;obtain⟨v,rfl,r⟩:=h;exact q a v b hr (Z e) r (Z o)
def Dy (p:Int×Int×Int) (a:aA) (_:ah):Prop:=a=.tuple #[p.1,p.2.1,p.2.2]
theorem nz (a:List RT) (q:Nat) (b:q<a.length):dB (a.map RT.tb) q=a[q].tb:=by
 unfold dB;simp[b]
theorem ku (a:List RA) (q:Nat) (b:q<a.length):cH (a.map RA.at_) q=a[q].at_:=by
 unfold cH;simp[b]
theorem qI (c:Nat) (h:Hd) (b:List RT) (e d:ax) (at_:Int) (k:ah) (y:c<k.heap.size) (A:ae k (ac c 0) h.val) (N:ae k (ac c 8) at_) (t:bI k h b):
 Calls prog 189 #[ak c,e,d] k λB w'=>RP [] k (fT (b.map RT.tb) at_ e d) Dy B w':=by
 have az:=Z t;have P:=Z (o1 c h b e at_ k y A N t);have Q:=Z (show fT (b.map RT.tb) at_ e d=(d1 (b.map RT.tb) at_ e).bind λe=>(cS at_ (dB (b.map RT.tb) e).attrs d).bind λa=>.ok (e,a,(cH (dB (b.map RT.tb) e).attrs a).kind)from rfl);have R:=Z (λa=>ny (tabs:=b.map RT.tb) (at_:=at_) (s:=e) (q:=a));obtain⟨C,n,j⟩:=h;have aM:b.length=n:=t.1.1;have aM:n<=9223372036854775807:=t.1.2.1;have k:ae k (ac c 0) (O C n j):=A;have aB:=Z N;have aC:=Z k;generalize fT (b.map RT.tb) at_ e d=D at Q⊢;clear A t;go_enter func189,ntmps189
 go_wp2_with fail
 refine dQ Q.out P.out ?au ?av
 case au=>
  intro e d e a f;go_wp2;refine⟨rfl,?_⟩;rw[a.out];exact⟨f.out,rfl⟩
 intro a E i S T u v;obtain⟨a,rfl,aD⟩:=R.out a S;have F:E=.int .i64 (a:Int):=u;subst F;have e:a<b.length:=by simpa using aD
 have U:=Z v.out;have k:=Z (az.out.same v.out.same);have G:=Z (show D=(cS at_ b[a].tb.attrs d).bind λj=>.ok ((a:Int),j,(cH b[a].tb.attrs j).kind) by rw[T.out,nz b a e]);obtain⟨m,o,V,aE,H,I,J⟩:=nx k.out a e;have aF:C=some ⟨m,o,none⟩:=V;have W:ae i (ac c 0) (O C n j):=(v.out.cell (p:=(ac c 0)) y aj).trans aC.out;have X:ae i (ac c 8) at_:=(v.out.cell (p:=(ac c 8)) y aj).trans aB.out;have Y:c<i.heap.size:=aV y v.out.size;have K:=Z (o2 c b[a] d at_ i Y X (k.out.2 _ (List.getElem_mem e)));have L:=Z (λf=>qH (l:=b[a].tb.attrs) (at_:=at_) (s:=d) (q:=f));have M:=Z (k.out.2 _ (List.getElem_mem e));obtain⟨tq,aa⟩:∃tq,tq=b[a]:=⟨_,rfl⟩;rw[<-aa]at H I J K G L M;obtain⟨ab,⟨w,r,z⟩,f,⟨ad,ag,ai⟩,aN⟩:=tq;have al:ae i (ac m (o+a*3+1)) (O w r z):=I;have aG:ae i (ac m (o+a*3+2)) (O ad ag ai):=J;have aH:ae i (ac m (o+a*3)) ab:=H;have am:Hid (Calls prog 187 #[ak c,.agg #[ab,O w r z,O ad ag ai],d] i λB w'=>RP [] i (cS at_ (f.map RA.at_) d) hP B w'):=K;have an:Hid (∀b,cS at_ (f.map RA.at_) d=.ok b->∃e:Nat,b=e/\e<(f.map RA.at_).length):=L;have ao:Hid (D=(cS at_ (f.map RA.at_) d).bind λj=>.ok ((a:Int),j,(cH (f.map RA.at_) j).kind)):=G;have aI:Hid (fp i ⟨w,r,z⟩ f):=Z M.out.1;clear H I J K T G L aa u S R P M V;subst aF;have b:(a:Int)<n:=af
 have b:(0:Int)<=a:=af
 go_wp2_with fail
 refine dQ ao.out am.out ?ay ?aA
 case ay=>
  intro b d b g x;go_wp2;refine⟨rfl,?_⟩;rw[g.out];exact⟨U.out.trans x.out,rfl⟩
 intro g E ap aq ar u x;obtain⟨g,rfl,aJ⟩:=an.out g aq;have F:E=.int .i64 (g:Int):=u;subst F;have d:g<f.length:=by simpa using aJ
 have aK:=Z (U.out.trans x.out);have b:=aI.out.same x.out.same;obtain⟨e,i,hA2,t,-,k,-,-,-,-⟩:=iJ b g d;have aL:w=some ⟨e,i,none⟩:=hA2;have e:f.length=r:=b.1.1;have e0:ae ap (ac c 0) (O (some ⟨m,o,none⟩) n j):=(x.out.cell (p:=(ac c 0)) Y aj).trans W;have c:ae ap (ac m (o+a*3+1)) (O w r z):=(x.out.cell (p:=⟨m,_,none⟩) aE aj).trans al;have aw:=Z (show D=.ok ((a:Int),(g:Int),f[g].at_.kind) by rw[ar.out,ku f g d]);obtain⟨a,a⟩:∃a,a=f[g].at_.kind:=⟨_,rfl⟩;rw[<-a]at k aw;have c:(g:Int)<r:=af
 have c:(0:Int)<=g:=af
 clear u aq ar ao x b hA2 aH al aG W X am an a;subst aL;go_wp2_with fail
 go_quiet (fail)
 go_wp2;refine bodyPost_ret (results_tmp3 rfl _ _ _) rfl ?_;rw[aw.out];exact⟨(aK.out.drewN _),_,rfl,rfl⟩
theorem Dz (a:Int) (b:-9223372036854775808<=a) (b:a<=9223372036854775807) (b:ah):
 Calls prog 266 #[a] b λc d=>c=.returned (.int .u64 (a.natAbs:Int))/\b=d:=by
 by_cases b:a<0
 ·have b:IntKind.u64.wrap a=a+18446744073709551616:=by
   unfold IntKind.wrap;simp[IntKind.bits,IntKind.signed];omega
  have b:IntKind.u64.wrap (-(a+18446744073709551616))= -a:=by
   unfold IntKind.wrap;simp[IntKind.bits,IntKind.signed];omega
  have b:(a.natAbs:Int)= -a:=af
  rw[b];go_enter func266,ntmps266
  go_wp2;go_ret;exact⟨rfl,rfl⟩
 have b:IntKind.u64.wrap a=a:=by
  unfold IntKind.wrap;simp[IntKind.bits,IntKind.signed];omega
 have a:(a.natAbs:Int)=a:=af
 rw[a];go_enter func266,ntmps266
 go_wp2;go_ret;exact⟨rfl,rfl⟩
def nA (a:Nat):List Value:=[.int .u64 (a:Int)]
theorem DA (h:Hd) (a:List Nat) (i:ah) (l:aE i 1 h nA a) (r:∀f∈a,f<18446744073709551616):
 Calls prog 267 #[h.val] i λn F=>n=.returned (.int .u64 ((a.foldl Nat.gcd 0:Nat):Int))/\∃d,F=i.drewN d:=by
 obtain⟨s,d,G⟩:=h;have m:a.length=d:=l.1;have n:d<=9223372036854775807:=l.2.1;subst m;have H:=Z l;have I:=Z r;obtain⟨g,n⟩:∃g,g=a.foldl Nat.gcd 0:=⟨_,rfl⟩;rw[<-n];have t:=Z (show(a.drop 0).foldl Nat.gcd 0=g by rw[n];rfl);clear l r n;show Calls prog 267 #[O s a.length G] i _;go_enter func267,ntmps267
 go_wp2;go_loopg [3,8] (a.length+1) (λe j k wr=>∃(b c:Nat),k=.int .i64 b/\j=.int .u64 (c:Int)/\b<=a.length/\a.length-b<e/\c<18446744073709551616/\Hid (∃d,wr=i.drewN d)/\Hid ((a.drop b).foldl Nat.gcd c=g))
 case atStart=>exact⟨0,0,rfl,rfl,by omega,by omega,by omega,Z ⟨0,rfl⟩,t⟩
 obtain⟨c,j,rfl,rfl,S,u,J,o,p⟩:=hrel;clear t;have w:=Z u;clear u;by_cases q:c<a.length
 case neg=>
  have e:¬(c:Int)<a.length:=af
  have b:=Z (show j=g by rw[<-p.out,List.drop_of_length_le af];rfl);go_wp2;go_ret;rw[b.out];exact⟨rfl,o.out⟩
 have l:(c:Int)<a.length:=af
 obtain⟨l,n,x,r,y⟩:=H.out.one c q (v:=.int .u64 (a[c]:Int)) rfl;have K:s=some ⟨l,n,none⟩:=x;have L:ae wr (ac l (n+c)) (.int .u64 (a[c]:Int)):=by obtain⟨d,rfl⟩:=o.out;exact y
 have z:=I.out _ (List.getElem_mem q);have A:=Z (show(a.drop (c+1)).foldl Nat.gcd (Nat.gcd j a[c])=g by rw[<-p.out,List.drop_eq_getElem_cons q];rfl);obtain⟨f,l⟩:∃f,f=a[c]:=⟨_,rfl⟩;rw[<-l]at L z A;have n:IntKind.i64.wrap ((c:Int)+1)=(c:Int)+1:=IntWalk.i64_in _ af;clear y p l x;subst K;go_wp2_with fail
 go_loopg [3,5] (f+1) (λk l n p=>∃(e b:Nat),l=.int .u64 (e:Int)/\n=.int .u64 (b:Int)/\b<k/\e<18446744073709551616/\b<18446744073709551616/\Hid (∃d,p=i.drewN d)/\Hid (Nat.gcd e b=Nat.gcd j f))
 case atStart=>exact⟨j,f,rfl,rfl,by omega,J,z,o,Z rfl⟩
 obtain⟨e,b,rfl,rfl,B,M,N,C,D⟩:=hrel;have P:=Z B;clear B;by_cases k:b=0
 ·have i:((b:Int) !=0)=false:=by simp[k]
  have i:((b:Int)==0)=true:=by simp[k]
  have E:=Z (show(a.drop (c+1)).foldl Nat.gcd e=g by rw[<-A.out,<-D.out,k,Nat.gcd_zero_right]);go_wp2_with fail
  go_roundg (a.length-c)
  case measure=>have:=w.out;omega
  exact⟨c+1,e,by go_num,rfl,by omega,omg w,M,C,E⟩
 have a:((b:Int) !=0)=true:=by simp[k]
 have a:((b:Int)==0)=false:=by simp[k]
 have a:¬(b:Int)=0:=af
 have E:(e:Int).tmod (b:Int)=((e%b:Nat):Int):=by rw[Int.tmod_eq_emod_of_nonneg af];rfl
 have Q:=Nat.mod_lt e (show 0<b by omega);have R:=Z (show Nat.gcd b (e%b)=Nat.gcd j f by rw[<-D.out,Nat.gcd_comm e b,Nat.gcd_rec b e,Nat.gcd_comm]);go_wp2_with fail
 go_quiet (fail)
 go_wp2_with fail
 go_roundg b
 case measure=>have:=P.out;omega
 exact⟨b,e%b,rfl,by first|rfl|(simp only[E];done)|(rw[E])|(simp;done),Q,N,by omega,Z (by obtain⟨d,m⟩:=C.out;rw[m];exact⟨_,World.drewN_drewN _ _ _⟩),R⟩
theorem DB (a:ah) (b c:Nat):aE (a.alloc (.cells #[.int .u64 (b:Int),.int .u64 (c:Int)] 316)) 1 ⟨some ⟨a.heap.size,0,none⟩,2,2⟩ nA [b,c]:=by
 refine⟨rfl,by show 2<=_;omega,λi j=>⟨a.heap.size,0,rfl,by simp,λd f e=>?_⟩⟩;have g:=aa.new a 316 #[.int .u64 (b:Int),.int .u64 (c:Int)];match i,j with
 |0,_=>
  match d with
  |0=>
   have:f=.int .u64 (b:Int):=by simpa[nA]using e.symm
   subst this;exact aa.cell g 0
  |d+1=>simp[nA]at e
 |1,_=>
  match d with
  |0=>
   have:f=.int .u64 (c:Int):=by simpa[nA]using e.symm
   subst this;exact aa.cell g 1
  |d+1=>simp[nA]at e
theorem DC (b a:Int) (c:ah) (r:cb b) (s:cb a):Calls prog 191 #[.agg #[b,a]] c λg w'=>g=.returned (.bool (l9 b a))/\ag c w':=by
 have t:=Z (λd f (e:cb d)=>Dz d e.1 e.2 f);have HE:Hid (l9 b a=((decide (0<a)&&decide (a<=1000000000))&&(decide (b.natAbs<=1000000000)&&decide (Nat.gcd b.natAbs a.natAbs=1)))):=Z rfl;generalize l9 b a=l at HE⊢;have S1:=Z ((ag.refl c).alloc (.cells #[b,a] 57));by_cases k:0<a
 case neg=>
  have d:=decide_eq_false k;have HR:=Z (show l=false by rw[HE.out,decide_eq_false k];rfl);exact wl
 by_cases m:a<=1000000000
 case neg=>
  have d:=decide_eq_true k;have d:=decide_eq_false m;have HR:=Z (show l=false by rw[HE.out,decide_eq_false m];simp);exact wl
 obtain⟨d,u⟩:∃d:Nat,d=b.natAbs:=⟨_,rfl⟩;obtain⟨e,w⟩:∃e:Nat,e=a.natAbs:=⟨_,rfl⟩;have x:Hid (Rq 266 #[b] (.int .u64 (d:Int))):=Z (λf=>by rw[u];exact t.out b f r);have G:Hid (Rq 266 #[a] (.int .u64 (e:Int))):=Z (λf=>by rw[w];exact t.out a f s);have J:d<18446744073709551616:=by have:=r.1;have:=r.2;omega
 have r:e<18446744073709551616:=by have:=s.1;have:=s.2;omega
 rw[<-u,<-w]at HE;clear u w t;have r:=decide_eq_true k;have r:=decide_eq_true m;by_cases aj:d<=1000000000
 case neg=>
  have j:¬(d:Int)<=1000000000:=af
  have j:=decide_eq_false j;have HR:=Z (show l=false by rw[HE.out,decide_eq_false aj];simp);clear HE;have f:=aa.new c 57 #[b,a];have n:=ay f;have o:=aS f;go_enter func191,ntmps191
  go_upto_region 1 with(fail)
  obtain⟨p,j⟩:=av (c.alloc (.cells #[b,a] 57));rw[<-j]at n o S1⊢;have r:c.heap.size<p.heap.size:=by rw[j];simp
  clear j f;refine oN (S:=λw'=>ae w' (ao c 0) b/\ae w' (ao c 1) a) (B:=λ_=>true) am ?_;have hS:(λw':World=>ae w' (ao c 0) b/\ae w' (ao c 1) a) p.drew:=⟨n,o⟩;refine mn ?_;refine d2 (i:=2) (oi:=?ak) (v:=.bool true) ?aj am am am am ?au (Or.inl ⟨?aA,?aB⟩) hS ?aC
  case aj=>simp only[be,bf,bg];rfl
  case au=>exact λ_ _ _ h=>h
  case aA=>rfl
  case aB=>
   rintro w' ⟨f,f⟩;go_simp;try (first|rfl|(simp[*];done))
  refine aw ?_;refine d2 (i:=3) (oi:=?aD) (v:=.bool true) ?aF am am am am ?aG (Or.inl ⟨?aH,?aI⟩) hS ?aJ
  case aF=>simp only[be,bf,bg];rfl
  case aG=>exact λ_ _ _ h=>h
  case aH=>rfl
  case aI=>
   rintro w' ⟨f,f⟩;go_simp;try (first|rfl|(simp[*];done))
  refine aw ?_;refine mo ?_;refine d2 (i:=6) (oi:=?aK) (v:=.bool true) ?aL am am am am ?aM (Or.inl ⟨?aN,?aO⟩) hS ?aP
  case aL=>simp only[be,bf,bg];rfl
  case aM=>exact λ_ _ _ h=>h
  case aN=>rfl
  case aO=>
   rintro w' ⟨f,f⟩;go_simp;try (first|rfl|(simp[*];done))
  refine aw ?_;refine d2 (i:=7) (oi:=?aQ) (v:=.bool true) ?aR am am am am ?aT (Or.inl ⟨?aU,?aV⟩) hS ?aW
  case aR=>simp only[be,bf,bg];rfl
  case aT=>exact λ_ _ _ h=>h
  case aU=>rfl
  case aV=>
   rintro w' ⟨f,f⟩;go_simp;try (first|rfl|(simp[*];done))
  refine aw ?_;refine d2 (i:=8) (oi:=?aX) (v:=.bool true) ?aY am am am am ?aZ (Or.inl ⟨?bn,?bq⟩) hS ?bA
  case aY=>simp only[be,bf,bg];rfl
  case aZ=>exact λ_ _ _ h=>h
  case bn=>rfl
  case bq=>
   rintro w' ⟨f,f⟩;go_simp;try (first|rfl|(simp[*];done))
  refine aw ?_;refine eA ?_;refine eb 11 (λf q=>?_);go_simp;refine(x _).mono ?_;rintro g w' ⟨rfl,rfl⟩;try go_simp
  refine q _ _ (λ_=>hS) ?_;refine aw ?_;refine d2 (i:=12) (oi:=?bB) (v:=.bool false) ?bC am am am am ?bD (Or.inl ⟨?bE,?bF⟩) hS ?bG
  case bC=>simp only[be,bf,bg];rfl
  case bD=>exact λ_ _ _ h=>h
  case bE=>rfl
  case bF=>
   rintro w' ⟨f,f⟩;go_simp;try (first|rfl|(simp[*];done))
  refine aw ?_;refine d2 (i:=13) (oi:=?bH) (v:=.bool false) ?bI am am am am ?bJ (Or.inl ⟨?bK,?bL⟩) hS ?bM
  case bI=>simp only[be,bf,bg];rfl
  case bJ=>exact λ_ _ _ h=>h
  case bK=>rfl
  case bL=>
   rintro w' ⟨f,f⟩;go_simp;try (first|rfl|(simp[*];done))
  refine aw ?_;refine d2 (i:=14) (oi:=?bN) (v:=.bool false) ?bO am am am am ?bP (Or.inl ⟨?bQ,?bR⟩) hS ?bS
  case bO=>simp only[be,bf,bg];rfl
  case bP=>exact λ_ _ _ h=>h
  case bQ=>rfl
  case bR=>
   rintro w' ⟨f,f⟩;go_simp;try (first|rfl|(simp[*];done))
  refine aw ?_;refine sk 15 hS ?_;refine sk 16 hS ?_;refine sk 18 hS ?_;refine sk 19 hS ?_;refine sk 17 hS ?_;refine sk 20 hS ?_;refine sk 21 hS ?_;refine sk 22 hS ?_;refine sk 23 hS ?_;refine d2 (i:=24) (oi:=?bT) (v:=.bool false) ?bU am am am am ?bV (Or.inl ⟨?bW,?bX⟩) hS ?bY
  case bU=>simp only[be,bf,bg];rfl
  case bV=>exact λ_ _ _ h=>h
  case bW=>rfl
  case bX=>
   rintro w' ⟨f,f⟩;go_simp;try (first|rfl|(simp[*];done))
  refine aw ?_;refine d2 (i:=25) (oi:=?bZ) (v:=.bool false) ?cu am am am am ?cB (Or.inl ⟨?cO,?cZ⟩) hS ?dh
  case cu=>simp only[be,bf,bg];rfl
  case cB=>exact λ_ _ _ h=>h
  case cO=>rfl
  case cZ=>
   rintro w' ⟨f,f⟩;go_simp;try (first|rfl|(simp[*];done))
  refine aw ?_;refine gS am ?_ _;go_wp2;go_ret;exact⟨cj HR.symm,S1.drew⟩
 have r:decide ((d:Int)<=1000000000)=true:=decide_eq_true af;have n:=Z (λf=>DA ⟨some ⟨f.heap.size,0,none⟩,2,2⟩ [d,e] (f.alloc _) (DB f d e) (by intro f j;simp at j;rcases j with rfl|rfl<;>assumption));have s:[d,e].foldl Nat.gcd 0=Nat.gcd d e:=by simp
 rw[s]at n;obtain⟨j,r⟩:=av (Nat.gcd d e);have HR:=Z (show l=decide (j=1) by rw[HE.out,decide_eq_true k,decide_eq_true m,decide_eq_true aj,r];simp);rw[<-r]at n;clear HE s r;have H:Hid (∀f:World,Calls prog 267 #[O (some ⟨f.heap.size,0,none⟩) 2 2] (f.alloc (.cells #[.int .u64 (d:Int),.int .u64 (e:Int)] 316)) λg w'=>g=.returned (.int .u64 (j:Int))/\∃b,w'=(f.alloc (.cells #[.int .u64 (d:Int),.int .u64 (e:Int)] 316)).drewN b):=n;clear n;have k:((j:Int)==1)=decide (j=1):=by rw[Bool.eq_iff_iff];simp;omega
 have y:=aa.new c 57 #[b,a];have z:=ay y;have A:=aS y;go_enter func191,ntmps191
 go_upto_region 1 with(fail)
 obtain⟨o,k⟩:=av (c.alloc (.cells #[b,a] 57));rw[<-k]at z A S1⊢;have l:c.heap.size<o.heap.size:=by rw[k];simp
 clear k y;refine oN (S:=λw'=>ae w' (ao c 0) b/\ae w' (ao c 1) a) (B:=λ_=>true) am ?_;have hS:(λw':World=>ae w' (ao c 0) b/\ae w' (ao c 1) a) o.drew:=⟨z,A⟩;refine mn ?_;refine d2 (i:=2) (oi:=?dn) (v:=.bool true) ?dw am am am am ?dx (Or.inl ⟨?dz,?dA⟩) hS ?dB
 case dw=>simp only[be,bf,bg];rfl
 case dx=>exact λ_ _ _ h=>h
 case dz=>rfl
 case dA=>
  rintro w' ⟨f,f⟩;go_simp;try (first|rfl|(simp[*];done))
 refine aw ?_;refine d2 (i:=3) (oi:=?dD) (v:=.bool true) ?dF am am am am ?dG (Or.inl ⟨?dH,?dI⟩) hS ?dJ
 case dF=>simp only[be,bf,bg];rfl
 case dG=>exact λ_ _ _ h=>h
 case dH=>rfl
 case dI=>
  rintro w' ⟨f,f⟩;go_simp;try (first|rfl|(simp[*];done))
 refine aw ?_;refine mo ?_;refine d2 (i:=6) (oi:=?dK) (v:=.bool true) ?dL am am am am ?dM (Or.inl ⟨?dN,?dO⟩) hS ?dP
 case dL=>simp only[be,bf,bg];rfl
 case dM=>exact λ_ _ _ h=>h
 case dN=>rfl
 case dO=>
  rintro w' ⟨f,f⟩;go_simp;try (first|rfl|(simp[*];done))
 refine aw ?_;refine d2 (i:=7) (oi:=?dQ) (v:=.bool true) ?dR am am am am ?dS (Or.inl ⟨?dU,?dV⟩) hS ?dW
 case dR=>simp only[be,bf,bg];rfl
 case dS=>exact λ_ _ _ h=>h
 case dU=>rfl
 case dV=>
  rintro w' ⟨f,f⟩;go_simp;try (first|rfl|(simp[*];done))
 refine aw ?_;refine d2 (i:=8) (oi:=?dX) (v:=.bool true) ?dY am am am am ?dZ (Or.inl ⟨?d9,?eu⟩) hS ?eB
 case dY=>simp only[be,bf,bg];rfl
 case dZ=>exact λ_ _ _ h=>h
 case d9=>rfl
 case eu=>
  rintro w' ⟨f,f⟩;go_simp;try (first|rfl|(simp[*];done))
 refine aw ?_;refine eA ?_;refine eb 11 (λp f=>?_);go_simp;refine(x _).mono ?_;rintro g w' ⟨rfl,rfl⟩;try go_simp
 refine f _ _ (λ_=>hS) ?_;refine aw ?_;refine d2 (i:=12) (oi:=?eD) (v:=.bool true) ?eF am am am am ?eG (Or.inl ⟨?eH,?eO⟩) hS ?eP
 case eF=>simp only[be,bf,bg];rfl
 case eG=>exact λ_ _ _ h=>h
 case eH=>rfl
 case eO=>
  rintro w' ⟨k,k⟩;go_simp;try (first|rfl|(simp[*];done))
 refine aw ?_;refine d2 (i:=13) (oi:=?eT) (v:=.bool true) ?eU am am am am ?eX (Or.inl ⟨?eY,?eZ⟩) hS ?fq
 case eU=>simp only[be,bf,bg];rfl
 case eX=>exact λ_ _ _ h=>h
 case eY=>rfl
 case eZ=>
  rintro w' ⟨k,k⟩;go_simp;try (first|rfl|(simp[*];done))
 refine aw ?_;refine d2 (i:=14) (oi:=?fu) (v:=.bool true) ?fA am am am am ?fB (Or.inl ⟨?fC,?fD⟩) hS ?fE
 case fA=>simp only[be,bf,bg];rfl
 case fB=>exact λ_ _ _ h=>h
 case fC=>rfl
 case fD=>
  rintro w' ⟨k,k⟩;go_simp;try (first|rfl|(simp[*];done))
 refine aw ?_;refine tk 15 hS ?_;refine tk 16 hS ?_;refine tk 18 hS ?_;refine tk 19 hS ?_;refine eb 17 (λp f=>?_);go_simp;refine(x _).mono ?_;rintro g w' ⟨rfl,rfl⟩;try go_simp
 refine f _ _ (λ_=>hS) ?_;refine aw ?_;refine eb 20 (λp f=>?_);go_simp;refine(G _).mono ?_;rintro g w' ⟨rfl,rfl⟩;try go_simp
 refine f _ _ (λ_=>hS) ?_;refine aw ?_;have C:(λw':World=>ae w' (ao c 0) b/\ae w' (ao c 1) a) (o.drew.alloc (.cells #[.int .u64 (d:Int),.int .u64 (e:Int)] 316)):=⟨(World.cell?_alloc_lt _ _ _ cK).trans z,(World.cell?_alloc_lt _ _ _ cK).trans A⟩;refine eb 21 (λp f=>?_);go_simp;try go_simp
 refine f _ _ (λ_=>C) ?_;refine aw ?_;have E:=Z ((S1.drew).alloc (.cells #[.int .u64 (d:Int),.int .u64 (e:Int)] 316));refine eb 22 (λp f=>?_);go_simp;refine(H o.drew).mono ?_;rintro g w' ⟨rfl,D⟩;have q:(λw':World=>ae w' (ao c 0) b/\ae w' (ao c 1) a) w':=by obtain⟨F,rfl⟩:=D;exact C
 have I:=Z (show ag c w' by obtain⟨F,rfl⟩:=D;exact E.out.drewN F);clear D C E;try go_simp
 refine f _ _ (λ_=>q) ?_;refine aw ?_;refine d2 (i:=23) (oi:=?fF) (v:=.bool (decide (j=1))) ?fG am am am am ?fH (Or.inl ⟨?fI,?fJ⟩) q ?fK
 case fG=>simp only[be,bf,bg];rfl
 case fH=>exact λ_ _ _ h=>h
 case fI=>rfl
 case fJ=>
  rintro w' ⟨a,a⟩;go_simp;try (first|rfl|(simp[*];done))
 refine aw ?_;refine d2 (i:=24) (oi:=?fM) (v:=.bool (decide (j=1))) ?fO am am am am ?fP (Or.inl ⟨?fQ,?fT⟩) q ?fU
 case fO=>simp only[be,bf,bg];rfl
 case fP=>exact λ_ _ _ h=>h
 case fQ=>rfl
 case fT=>
  rintro w' ⟨a,a⟩;go_simp;try (first|rfl|(simp[*];done))
 refine aw ?_;refine d2 (i:=25) (oi:=?fV) (v:=.bool (decide (j=1))) ?fZ am am am am ?gq (Or.inl ⟨?gu,?gy⟩) q ?gB
 case fZ=>simp only[be,bf,bg];rfl
 case gq=>exact λ_ _ _ h=>h
 case gu=>rfl
 case gy=>
  rintro w' ⟨a,a⟩;go_simp;try (first|rfl|(simp[*];done))
 refine aw ?_;refine gS am ?_ _;go_wp2;go_ret;exact⟨cj HR.symm,I⟩
open Go.RowKit Go.Sort
theorem GE {d:ah} {e:Nat} {f:aU} {g:Nat} {a:bk} (h:d.ownsRow e 9 1 (O f a.length g) a.length (a.map .string)) (i:0<a.length):
 ∃b,f=some ⟨b,0,none⟩/\e<=b/\b<d.heap.size/\Holds encStr d b 0 (a.map ba).toArray/\a.length<=g:=by
 obtain⟨b,d,j,k,l⟩:=h.form i;injection j with e1 e2 e3
 subst e1 e3;refine⟨b,rfl,k,l,?_,?_⟩
 ·intro b c
  have a:b<a.length:=by simpa using c
  refine⟨?_,h.frozenAt _⟩;rw[Nat.zero_add,h.cellAt b af];simp[a,encStr,ba]
 rcases h.2 with⟨c,_⟩|⟨n,o,p,c,_,_,m,_⟩
 ·cases c
 injection c with _ _ c;subst c;exact m
theorem GF {d:ah} {i:Nat} {e:aU} {f b:Nat} {c:bk} (h:d.ownsRow i 9 1 (O e b f) b (c.map .string)) (i:c.length=b) (j:b<=9223372036854775807):aE d 1 ⟨e,b,f⟩ cq c:=by
 refine⟨i,j,λk l=>?_⟩;obtain⟨m,b,a,c,n⟩:=h.form af;injection a with e1 e2 e3
 subst e1 e3;refine⟨m,0,rfl,n,λg b a=>?_⟩;match g,a with
 |0,a=>
  simp[cq]at a;subst a;have:=h.cellAt k af;simp only[Nat.zero_add,Nat.mul_one,Nat.add_zero];rw[this];simp[l]
 |g+1,a=>simp[cq]at a
theorem ya {α:Type} [Inhabited α] (d:α->Value) (b:ah) (c e:Nat) (f:Array α) (a:Nat) (h:a≠c):(putRow d b c e f).heap[a]?=b.heap[a]?:=by
 simp only[putRow,mapBlock];rw[Array.getElem?_modify,if_neg (λa=>h a.symm)]
theorem GG (g a i:Nat) (b:bk) (c:ah) (j:Holds encStr c a 0 (b.map ba).toArray) (l:a<c.heap.size) (d:g<=a) (m:b.length<4611686018427387904):
 Calls prog 76 #[O (some ⟨a,0,none⟩) b.length i] c λk d=>k=.returned (.tuple #[])/\Below g c d/\a<d.heap.size/\Holds encStr d a 0 ((b.map ba).mergeSort λe f=>decide (e<=f)).toArray:=by
 have h:=Tryz.slices_Sort_string a 0 i (b.map ba) c j l (by simpa using m);rw[List.length_map]at h;refine h.mono ?_;rintro k d ⟨n,o,d,rfl⟩;have b:((b.map ba).mergeSort λe f=>decide (e<=f)).toArray.size=(b.map ba).toArray.size:=by simp
 refine⟨n,⟨rfl,rfl,rfl,by simp[Sort.ahead],λd d=>?_⟩,by simp[Sort.ahead];omega,holds_grow _ _ _ _ _ _ (by simp[Sort.ahead];omega) (holds_putRow encStr (Sort.ahead c o) a 0 _ _ (holds_ahead _ _ _ _ _ _ j) b)⟩;rw[heap_grow_old _ _ (by simp[Sort.ahead];omega),ya _ _ _ _ _ _ af];rfl
theorem GH (e b c:Nat) (a:List (List UInt8)) (d:ah) (i:Holds encStr d b 0 a.toArray) (f:e<=b) (j:a.length<=9223372036854775807) (k:a.length<=c):
 Calls prog 77 #[O (some ⟨b,0,none⟩) a.length c] d λf g=>f=.returned (O (some ⟨b,0,none⟩) (Lib.compact a).length c)/\Below e d g:=by
 refine(Tryz.slices_Compact_string b 0 c a d i j k).mono ?_;rintro f g ⟨l,a,rfl⟩;refine⟨l,⟨rfl,rfl,rfl,by simp[Sort.ahead],λa a=>?_⟩⟩;rw[ya _ _ _ _ _ _ af];rfl
section
variable {α:Type} [Inhabited α] [DecidableEq α]
theorem GI (a:List α):(Lib.compact a).length<=a.length/\((Lib.compact a).length=a.length↔∀b,b<a.length->Lib.keeps a.toArray b=true):=by
 unfold Lib.compact Lib.compactUpTo;rw[List.length_map];have c:=List.length_filter_le (Lib.keeps a.toArray) (List.range a.length);rw[List.length_range]at c;refine⟨c,?_,?_⟩
 ·intro h b c
  have:=(List.length_filter_eq_length_iff (p:=Lib.keeps a.toArray) (l:=List.range a.length)).1 (by rw[h,List.length_range]);exact this b (List.mem_range.2 c)
 intro h;rw[List.filter_eq_self.2 (λb a=>h b (List.mem_range.1 a)),List.length_range]
end
theorem GJ (b:List (List UInt8)) (g:b.Pairwise (λk l=>decide (k<=l)=true)):(∀a,a<b.length->Lib.keeps b.toArray a=true)↔b.Nodup:=by
 have f:∀a (d:a<b.length),b.toArray[a]! =b[a]:=λa d=>by simp[d]
 constructor
 ·intro h
  rw[List.nodup_iff_pairwise_ne,List.pairwise_iff_getElem];intro c a i d k j;have e:=h (c+1) af;simp only[Lib.keeps,Nat.add_sub_cancel,decide_eq_true_eq]at e;rcases e with e|e
  ·omega
  rw[f _ af,f _ i]at e;rw[List.pairwise_iff_getElem]at g;have m:b[c]<=b[c+1]:=by simpa using g c (c+1) i af af
  apply e;by_cases n:c+1=a
  ·subst n;exact j.symm
  have b:b[c+1]<=b[a]:=by simpa using g (c+1) a af d af
  rw[<-j]at b;exact List.le_antisymm b m
 intro h a d;simp only[Lib.keeps,decide_eq_true_eq];by_cases b:a=0
 ·exact .inl b
 right
 rw[f a d,f (a-1) af];intro b;rw[List.nodup_iff_pairwise_ne,List.pairwise_iff_getElem]at h;exact h (a-1) a af d af b.symm
theorem GK (a:bk):decide ((Lib.compact ((a.map ba).mergeSort λb c=>decide (b<=c))).length<a.length)=jT a:=by
 have f:=List.mergeSort_perm (a.map ba) (λb c=>decide (b<=c));have e:((a.map ba).mergeSort λb c=>decide (b<=c)).length=a.length:=aj
 have g:((a.map ba).mergeSort λb c=>decide (b<=c)).Pairwise (λb c=>decide (b<=c)=true):=by
  apply List.pairwise_mergeSort
  ·intro d d d d i
   simp only[decide_eq_true_eq]at*;exact List.le_trans d i
  intro d i;simp only[Bool.or_eq_true,decide_eq_true_eq];exact List.le_total d i
 obtain⟨b,d⟩:=GI ((a.map ba).mergeSort λb c=>decide (b<=c));rw[GJ _ g,f.nodup_iff,e]at d;have c:(a.map ba).Nodup↔a.Nodup:=by
  unfold List.Nodup;rw[List.pairwise_map];constructor
  ·intro h;exact h.imp (λf g=>f (by rw[g]))
  intro h;exact h.imp (λf g=>f (oc g))
 rw[c,<-uN]at d;rw[e]at b;cases hd:jT a with
 |false=>rw[hd]at d;have:=d.2 rfl;simp;omega
 |true=>rw[hd]at d;simp at d⊢;omega
theorem GL (c:Nat) (f:aQ) (n:∀n b,(callFunc c n).run prog b=.ok (.enter c n) b) (h:Hd) (d:ByteArray->Bool) (a:bk) (b:ah)
 (g:aE b 1 h cq a) (o:gD c f b (λn=>.string n) d a):
 Calls prog 150 #[h.val,.func (.func c) #[] f] b λe l=>e=.returned (J (co d a))/\ag b l:=by
 obtain⟨p,m,s⟩:=h;show Calls prog 150 #[O p m s,.func (.func c) #[] f] b _;have t:a.length=m:=g.1;have m:m<=9223372036854775807:=g.2.1;subst t;have u:=Z g;have w:=Z o;clear g o;go_enter func150,ntmps150
 go_wp2;go_loopw [8] (λg wr=>∃k:Nat,k<=a.length/\g=.int .i64 k/\Hid (ag b wr)/\Hid (∀j (hj:j<a.length),j<k->d a[j]=false)) (λg _=>a.length-(intOf g).toNat)
 case atStart=>exact⟨0,Nat.zero_le _,rfl,ag.refl b,λj _ hj=>absurd hj (Nat.not_lt_zero _)⟩
 obtain⟨k,y,rfl,S,N⟩:=hrel;by_cases hlt:k<a.length
 ·obtain⟨g,m,b,n,q⟩:=(u.out.same S.out).one k hlt (v:=.string a[k]) rfl
  have x:p=some ⟨g,m,none⟩:=b;have c:Calls prog c (#[Value.string a[k]]++f) wr λe c=>e=.returned (.bool (d a[k]))/\ag wr c:=w.out a[k] (List.getElem_mem hlt) wr S.out;have i:=Z c;clear c b;subst x;cases hq:d a[k]with
  |true=>
   rw[hq]at i;have HQ:=Z hq;clear hq;go_wp2_with fail
   refine i.out.mono ?_;rintro e l ⟨rfl,r⟩;have S1:=Z r;clear r q;exact rR
  |false=>
   rw[hq]at i;have HQ:=Z hq;clear hq;go_wp2_with fail
   refine i.out.mono ?_;rintro e l ⟨rfl,r⟩;have S1:=Z r;clear r q;exact rS
 go_wp2;go_ret;exact⟨eg (lV (λj hj=>N.out j hj af)).symm,S.out⟩
theorem GM (f:ah) (b:bk) (h:∀a∈b,aJ a):gD 75 #[] f (λa=>.string a) (λa=>!bC a) b:=by
 intro a c b _;have d:=Z (p3 a b (h a c));show Calls prog 75 #[a] b λe f=>e=.returned (.bool (!bC a))/\ag b f;generalize bC a=g at d⊢;clear h c;go_enter func75,ntmps75
 go_wp2_with (go_at_call 72;refine d.out.mono ?_;rintro e a ⟨rfl,rfl⟩)
 go_ret;exact⟨rfl,ag.refl _⟩
theorem GO (h:Hd) (d:bk) (b:ah) (a:b5 b h d):
 Calls prog 74 #[h.val,.func (.func 75) #[] #[]] b λe f=>e=.returned (.bool (d.any λc=>!bC c))/\ag b f:=by
 have k:∀j b,(callFunc 75 j).run prog b=.ok (.enter 75 j) b:=enters_of func75 am rfl;have g:=Z (GL 75 #[] k h (λc=>!bC c) d b a.1 (GM b d a.2));have i:=Z (oy (λc=>!bC c) d);generalize co (λc=>!bC c) d=q at g i;generalize (d.any λc=>!bC c)=s at i⊢;clear a k;obtain⟨l,m,n⟩:=h;have r:Hid (Calls prog 150 #[O l m n,.func (.func 75) #[] #[]] b λe f=>e=.returned q/\ag b f):=g;clear g;show Calls prog 74 #[O l m n,.func (.func 75) #[] #[]] b _;go_enter func74,ntmps74
 go_wp2_with (go_at_call 150;refine r.out.mono ?_;rintro e f ⟨rfl,o⟩;have p:=Z o;clear o)
 go_ret;exact⟨cj i.out.symm,p.out⟩
theorem Tryz.GP:(prog.info? 9).map (λa=>(a.zero,a.size,a.bytes))=some (some (.string ByteArray.empty),1,16):=am
theorem nZ (a:Tb):hE a=(bC a.name&&(decide (1<=a.attrs.length)&&decide (a.attrs.length<=12)&&decide (1<=a.key.length))&&a.attrs.all gN&&(k4 a).all bC&&!jT (k4 a)&&p5 a.attrs.length a.key):=rfl
def en (rs:List RA):List ByteArray:=d7 (rs.map RA.at_)
theorem GQ (a:List RA) (b:Nat) (h:b<a.length):en (a.take (b+1))=en (a.take b)++[a[b].at_.name]++a[b].at_.was:=by
 rw[List.take_succ_eq_append_getElem h];unfold en d7;rw[List.map_append,List.flatMap_append,List.append_assoc];simp only[List.map_cons,List.map_nil,List.flatMap_cons,List.flatMap_nil,List.append_nil,List.cons_append,List.nil_append]
theorem yb {rs:List RA} (h:∀a∈rs,a.at_.was.length<=1000000):(en rs).length<=rs.length*1000001:=by
 induction rs with
 |nil=>simp[en,d7]
 |cons a rs b=>
  have c:=h a aj;have b:=b (λa b=>h a (by simp[b]));have:en (a::rs)=a.at_.name::a.at_.was++en rs:=by simp[en,d7]
  rw[this];simp only[List.length_append,List.length_cons];omega
def yd (c:ah) (a:List RA) (b:Nat) (v:aA) (wr:ah):Prop:=
 ag c wr/\wr.ownsRow c.heap.size 9 1 v (en (a.take b)).length ((en (a.take b)).map .string)/\∀c (d:c<a.length),c<b->gN a[c].at_=true
theorem s9 {b:Tb} {a:List RA} (d:b.attrs=a.map RA.at_) (c:Nat) (e:c<a.length) (h:gN a[c].at_=false):hE b=false:=by
 have:b.attrs.all gN=false:=by
  rw[List.all_eq_false];exact⟨a[c].at_,by rw[d];exact List.mem_map_of_mem (List.getElem_mem e),by simp[h]⟩
 rw[nZ,this];simp
theorem GS (a:RT) (d:ah) (f:fq d a) (b:bC a.name=false\/a.ra.length=0\/12<a.ra.length\/a.key.length=0):
 Calls prog 40 #[a.val] d λe w'=>e=.returned (.bool false)/\ag d w':=by
 have i:a.ra.length=a.ha.n:=f.1.1.1;have j:a.key.length=a.hk.n:=f.2.1.1;have HN:=Z (λc=>p3 a.name c f.2.2);clear f;obtain⟨k,⟨m,s,o⟩,c,⟨p,t,q⟩,g⟩:=a;simp only at i j b HN;subst i j;show Calls prog 40 #[.agg #[k,O m c.length o,O p g.length q]] d _;generalize bC k=r at HN b;have l:=Z b;clear b;cases r
 case false=>
  go_enter func40,ntmps40
  exact tc
 have b:c.length=0\/12<c.length\/g.length=0:=by simpa using l.out
 clear l;go_enter func40,ntmps40
 by_cases a:c.length=0
 ·exact tc
 have a:((c.length:Int)==0)=false:=by simpa using a
 by_cases a:12<c.length
 ·exact tc
 have a:g.length=0:=af
 clear b;go_wp2_with (go_at_call 72;refine(HN.out _).mono ?_;rintro e w' ⟨rfl,rfl⟩)
 go_ret;exact⟨rfl,(ag.refl _).alloc _⟩
end Go.Proofs.YteamkimbmdgdbaaGreatDoor

import Derived.Test.YteamkimbmdgdbaaGreatDoorK01
import Derived.Test.YteamkimbmdgdbaaGreatDoorK02
import Derived.Test.YteamkimbmdgdbaaGreatDoorK04
import Derived.Test.YteamkimbmdgdbaaGreatDoorK18
import Derived.Test.YteamkimbmdgdbaaGreatDoorK26
import Derived.Test.YteamkimbmdgdbaaGreatDoorK27
import Derived.Test.YteamkimbmdgdbaaGreatDoorK28
import Derived.Test.YteamkimbmdgdbaaGreatDoorK29
import Derived.Test.YteamkimbmdgdbaaGreatDoorK31
import Derived.Test.YteamkimbmdgdbaaGreatDoorK32
import Derived.Test.YteamkimbmdgdbaaGreatDoorKA0
import Derived.ChangeOld
import Derived.ChangeSame
import Derived.Deep.Fields
import Derived.Deep.Slices
import Derived.OpenShut
import Derived.ProofKit
set_option linter.unusedSimpArgs false
set_option linter.unusedVariables false
set_option maxHeartbeats 16000000
set_option maxRecDepth 100000
namespace Go.Proofs.YteamkimbmdgdbaaGreatDoor
open Go.RowKit
theorem Li {w:af} {aC n:Nat->Prop} {o p:cG} (e:eZ w aC o) (g:eZ w n p) (h:o.ru=p.ru):
 Calls Tryz.prog 49 #[.agg o.cells.toArray,.agg p.cells.toArray] w λq aC=>q=.returned (.bool true)/\ag w aC:=by
 obtain⟨r,s,t,⟨z,A,B⟩,aD,u,⟨C,a,W⟩,i,v,x,⟨D,E,F⟩,aE,⟨G,H,I⟩,aG⟩:=o;obtain⟨ba,bb,bc,⟨J,K,L⟩,bd,be,⟨M,X,Y⟩,bf,bg,bi,⟨N,O,P⟩,bk,⟨Q,R,S⟩,bl⟩:=p;simp only[cG.ru]at h;injection h with l m e3 e4 e5 e6 e7 e8 e9 e10
 subst l m e3 e4 e5 e6 e7 e8 e9 e10;have aa:i.length=a:=e.lf.1;have aH:i.length=X:=g.lf.1;obtain rfl:a=X:=ae
 have o:a<=9223372036854775807:=e.lf.2.1;have aI:=Z aa;have L1:Hid (aF w 4 ⟨C,a,W⟩ Fx.cells i):=Z e.lf;have L2:Hid (aF w 4 ⟨M,a,Y⟩ Fx.cells i):=Z g.lf;have aJ:Hid (Rt 34 #[U z A B,U J K L] w (.bool true)):=Z (λc b=>Kl ⟨z,A,B⟩ ⟨J,K,L⟩ aD c (dQ.same e.lc b) (dQ.same g.lc b));have aK:Hid (Rt 34 #[U D E F,U N O P] w (.bool true)):=Z (λc b=>Kl ⟨D,E,F⟩ ⟨N,O,P⟩ aE c (dQ.same e.lb b) (dQ.same g.lb b));have aL:Hid (Rt 100 #[U G H I,U Q R S] w (.bool true)):=Z (λc b=>Lh ⟨G,H,I⟩ ⟨Q,R,S⟩ aG c (e.ls.same b) (g.ls.same b));clear e g aa aH;show Calls Tryz.prog 49 #[.agg #[r,s,t,U z A B,u,U C a W,v,x,U D E F,U G H I],.agg #[r,s,t,U J K L,u,U M a Y,v,x,U N O P,U Q R S]] w _;go_enter Tryz.func49,Tryz.ntmps49
 go_upto_region 1 with(fail)
 obtain⟨z,g,o,e,p⟩:=nb w 64 _;rw[g];clear g;have g:=e;obtain⟨aM,z,c,e,A⟩:=nc p 64 _;rw[z];clear z;have n:=Z (g.out.trans e.out);have d:=qb e o;clear e g o p A;have ad:(r !=r)=false:=ai
 have ah:(s.toList==s.toList)=true:=ai
 have aj:(t !=t)=false:=ai
 have al:(u !=u)=false:=ai
 have aN:(v !=v)=false:=ai
 have aO:(x !=x)=false:=ai
 have aP:((a:Int) !=(a:Int))=false:=ai
 have aQ:=az d;have aR:=az c;have aS:=aY d;have aT:=aY c;have aU:=bh d;have aV:=bh c;have aW:=bn d;have aX:=bn c;have aZ:=bQ d;have a0:=bQ c;have a1:=cd d;have a2:=cd c;have a3:=b7 d;have a4:=b7 c;go_upto_region 4 with(fail)
 clear aQ aR aS aT aU aV aW aX aZ a0 a1 a2 a3 a4 ad ah aj al aN aO aP;go_loopg [5] (a+1) (λe f g=>∃b:Nat,f=.int .i64 b/\b<=a/\a-b<e/\Hid (ag aM g))
 case atStart=>exact⟨0,rfl,by omega,by omega,Z (ag.refl _)⟩
 case round=>
 obtain⟨b,rfl,bm,am,f⟩:=hrel;have an:=Z am;clear am;have T:=bQ (qb f d);have V:=bQ (qb f c);by_cases e:b<a
 case pos=>
  have e:(b:Int)<(a:Int):=ae
  have ao:b<i.length:=by have:=aI.out;omega
  have ap:=Z (n.out.trans f.out);obtain⟨aq,ar,l,e,j⟩:=(L1.out.same ap.out).2.2 b ao;have a5:C=some ⟨aq,ar,none⟩:=l;clear l;subst a5;obtain⟨au,av,m,e,k⟩:=(L2.out.same ap.out).2.2 b ao;have a6:M=some ⟨au,av,none⟩:=m;clear m;subst a6;generalize i[b]=a7 at j k;obtain⟨y,⟨aw,ax,ay⟩⟩:=a7;have e:=bM (show ac wr (ab aq (ar+b*4)) y by have h:=j 0 _ rfl;simpa using h);have e:=bM (j 1 _ rfl);have e:=bM (j 2 _ rfl);have e:=bM (j 3 _ rfl);have e:=bM (show ac wr (ab au (av+b*4)) y by have h:=k 0 _ rfl;simpa using h);have e:=bM (k 1 _ rfl);have e:=bM (k 2 _ rfl);have e:=bM (k 3 _ rfl);clear j k;have ad:(y !=y)=false:=ai
  have ah:(aw !=aw)=false:=ai
  have aj:(ax !=ax)=false:=ai
  have al:(ay.toList==ay.toList)=true:=ai
  have e:=bM T;have e:=bM V;go_upto_region 6 with(fail)
  clear T V;refine wp_region_quiet_below ak ak ?_;repeat (go_big_quiet_step (fail))
  refine wpQuiet_nil ?_;intro _ a8;obtain⟨⟨aA,osq⟩,a9⟩:=a8;subst a9;have aB:=Z (ag.reg wr aA osq);generalize Sort.grow (redrawn wr aA) osq=bo at aB⊢;go_wp2;go_roundg (a-b)
  case measure=>have:=an.out;omega
  exact⟨b+1,by go_num,by omega,by have:=an.out;omega,Z (f.out.trans aB.out)⟩
 case neg=>
 have a:¬(b:Int)<(a:Int):=ae
 have y:=Z (n.out.trans f.out);have ao:=qb f d;have ap:=qb f c;have aw:=bj ao;have ax:=bj ap;go_wp2_with fail
 refine(aJ.out wr y.out).mono ?_;rintro q ay ⟨rfl,j⟩;have aq:=Z (y.out.trans j);have ar:=qb (Z j) ao;have au:=qb (Z j) ap;clear aw ax j T V;have aA:=bN ar;have aB:=bN au;go_wp2_with fail
 refine(aK.out ay aq.out).mono ?_;rintro q a5 ⟨rfl,k⟩;have av:=Z (aq.out.trans k);have a:=qb (Z k) ar;have b:=qb (Z k) au;clear aA aB k;have a:=iT a;have a:=iT b;go_wp2_with fail
 refine(aL.out a5 av.out).mono ?_;rintro q a ⟨rfl,a6⟩;go_wp2;go_ret;exact⟨rfl,av.out.trans a6⟩
theorem Lj {K aX:Nat} {w:af} {h z:Hd} {b5 b6:List RT} {x i:cc} (I:fJ K w h b5 x) (K:fJ aX w z b6 i)
 (k:x.os=i.os) (n:x.bs=i.bs) (am:x.ms.map ei.mt=i.ms.map ei.mt) (aJ:x.ks=i.ks) (aX:x.rs.map cG.ru=i.rs.map cG.ru):
 Calls Tryz.prog 29 #[.agg (bz h x),.agg (bz z i)] w λA aA=>A=.returned (.bool true)/\ag w aA:=by
 have aK:=congrArg List.length am;have aL:=congrArg List.length aX;simp only[List.length_map]at aK aL;have b7:=Z (λa (b:a<x.ms.length) (z:a<i.ms.length)=>show x.ms[a].mt=i.ms[a].mt/\fp w _ x.ms[a]/\fp w _ i.ms[a] by
  have A:(x.ms.map ei.mt)[a]'(by simpa using b)=(i.ms.map ei.mt)[a]'(by simpa using z):=by simp only[am]
  simp only[List.getElem_map]at A;exact⟨A,I.m _ (List.getElem_mem b),K.m _ (List.getElem_mem z)⟩)
 have aZ:=Z (λa (b:a<x.rs.length) (z:a<i.rs.length) D (c:ag w D)=>show Calls Tryz.prog 49 #[.agg x.rs[a].cells.toArray,.agg i.rs[a].cells.toArray] D λA aA=>A=.returned (.bool true)/\ag D aA by
  have A:(x.rs.map cG.ru)[a]'(by simpa using b)=(i.rs.map cG.ru)[a]'(by simpa using z):=by simp only[aX]
  simp only[List.getElem_map]at A;exact Li ((I.r _ (List.getElem_mem b)).keep (Kp.of_same (l:=[]) c) ai) ((K.r _ (List.getElem_mem z)).keep (Kp.of_same (l:=[]) c) ai) A)
 have L1:=Z I.l1;have L2:=Z I.l2;have L3:=Z I.l3;have aB:=Z I.l4;have aC:=Z I.l5;have aM:=Z K.l1;have aN:=Z K.l2;have M3:=Z K.l3;have aO:=Z K.l4;have aP:=Z K.l5;clear I K am aX;obtain⟨b8,b9,ca⟩:=h;obtain⟨hA2,cb,b⟩:=z;obtain⟨⟨a0,o,bk⟩,⟨a1,q,bm⟩,⟨a2,s,bo⟩,⟨a3,t,bp⟩,⟨a4,u,bq⟩,⟨cd,ce,cf⟩,T,V,L,W,X,c5⟩:=x;obtain⟨⟨a5,br,bt⟩,⟨a6,bu,bv⟩,⟨a7,bw,bx⟩,⟨a8,bA,bB⟩,⟨a9,bC,bD⟩,⟨cg,ch,ci⟩,cj,ck,M,cl,Y,c6⟩:=i;obtain rfl:T=cj:=k;obtain rfl:V=ck:=n;obtain rfl:W=cl:=aJ;have aK:L.length=M.length:=aK;have aL:X.length=Y.length:=aL;have bE:T.length=o:=L1.out.1;have cm:T.length=br:=aM.out.1;have bF:V.length=q:=L2.out.1;have cn:V.length=bu:=aN.out.1;have bG:L.length=s:=L3.out.1;have bH:M.length=bw:=M3.out.1;have bI:W.length=t:=aB.out.1;have co:W.length=bA:=aO.out.1;have bJ:X.length=u:=aC.out.1;have bK:Y.length=bC:=aP.out.1;obtain rfl:o=br:=ae
 obtain rfl:q=bu:=ae
 obtain rfl:s=bw:=ae
 obtain rfl:t=bA:=ae
 obtain rfl:u=bC:=ae
 have v:o<=9223372036854775807:=L1.out.2.1;have d:q<=9223372036854775807:=L2.out.2.1;have ba:s<=9223372036854775807:=L3.out.2.1;have bb:t<=9223372036854775807:=aB.out.2.1;have x:u<=9223372036854775807:=aC.out.2.1;have cp:=Z bE;have cq:=Z bF;have cr:=Z bG;have cs:=Z bH;have ct:=Z bI;have cu:=Z bJ;have cv:=Z bK;replace L1:Hid (aF w 2 ⟨a0,o,bk⟩ Og.cells T):=L1;replace aM:Hid (aF w 2 ⟨a5,o,bt⟩ Og.cells T):=aM;replace L2:Hid (aF w 6 ⟨a1,q,bm⟩ Bk.cells V):=L2;replace aN:Hid (aF w 6 ⟨a6,q,bv⟩ Bk.cells V):=aN;replace L3:Hid (aF w 4 ⟨a2,s,bo⟩ ei.cells L):=L3;replace M3:Hid (aF w 4 ⟨a7,s,bx⟩ ei.cells M):=M3;replace aB:Hid (aF w 3 ⟨a3,t,bp⟩ dR.cells W):=aB;replace aO:Hid (aF w 3 ⟨a8,t,bB⟩ dR.cells W):=aO;replace aC:Hid (aF w 10 ⟨a4,u,bq⟩ cG.cells X):=aC;replace aP:Hid (aF w 10 ⟨a9,u,bD⟩ cG.cells Y):=aP;replace aZ:Hid (∀a (c:a<X.length) (z:a<Y.length) D,ag w D->Calls Tryz.prog 49 #[.agg X[a].cells.toArray,.agg Y[a].cells.toArray] D λA aA=>A=.returned (.bool true)/\ag D aA):=aZ;clear aK aL bE cm bF cn bG bH bI co bJ bK;show Calls Tryz.prog 29 #[.agg #[U b8 b9 ca,U a0 o bk,U a1 q bm,U a2 s bo,U a3 t bp,U a4 u bq,U cd ce cf],.agg #[U hA2 cb b,U a5 o bt,U a6 q bv,U a7 s bx,U a8 t bB,U a9 u bD,U cg ch ci]] w _;go_enter Tryz.func29,Tryz.ntmps29
 go_upto_region 1 with(fail)
 obtain⟨aA,A,I,x,K⟩:=nb w 37 _;rw[A];clear A;have A:=x;obtain⟨aD,aA,B,x,aK⟩:=nc K 37 _;rw[aA];clear aA;have an:=Z (A.out.trans x.out);have E:=qb x I;clear x A I K aK;have cw:=aY E;have cx:=aY B;have ad:((o:Int) !=(o:Int))=false:=ai
 have cy:=bh E;have cz:=bh B;have ao:((q:Int) !=(q:Int))=false:=ai
 have cA:=bj E;have cB:=bj B;have bc:((s:Int) !=(s:Int))=false:=ai
 have cC:=bn E;have cD:=bn B;have bd:((t:Int) !=(t:Int))=false:=ai
 have cE:=bQ E;have cF:=bQ B;have be:((u:Int) !=(u:Int))=false:=ai
 go_upto_region 4 with(fail)
 clear cw cx cy cz cA cB cC cD cE cF ad ao bc bd be;go_loopg [5] (o+1) (λc e f=>∃a:Nat,e=.int .i64 a/\a<=o/\o-a<c/\Hid (ag aD f))
 case atStart=>exact⟨0,rfl,by omega,by omega,Z (ag.refl _)⟩
 case round=>
 obtain⟨a,rfl,N,y,c⟩:=hrel;have g:=Z y;clear y;have j:=aY (qb c E);have f:=aY (qb c B);by_cases P:a<o
 case pos=>
  have x:(a:Int)<(o:Int):=ae
  have F:a<T.length:=by have:=cp.out;omega
  have G:=Z (an.out.trans c.out);obtain⟨v,H,k,x,e⟩:=(L1.out.same G.out).2.2 a F;have al:a0=some ⟨v,H,none⟩:=k;clear k;subst al;obtain⟨d,Q,n,x,b⟩:=(aM.out.same G.out).2.2 a F;have ap:a5=some ⟨d,Q,none⟩:=n;clear n;subst ap;generalize T[a]=ar at e b;obtain⟨C,R⟩:=ar;have x:=bM (show ac wr (ab v (H+a*2)) C by have h:=e 0 _ rfl;simpa using h);have x:=bM (e 1 _ rfl);have x:=bM (show ac wr (ab d (Q+a*2)) C by have h:=b 0 _ rfl;simpa using h);have x:=bM (b 1 _ rfl);clear e b;have e:(C.toList==C.toList)=true:=ai
  have ad:(R !=R)=false:=ai
  have e:=bM j;have e:=bM f;go_upto_region 6 with(fail)
  clear j f;refine wp_region_quiet_below ak ak ?_;repeat (go_big_quiet_step (fail))
  refine wpQuiet_nil ?_;intro _ au;obtain⟨⟨S,osq⟩,av⟩:=au;subst av;have aj:=Z (ag.reg wr S osq);generalize Sort.grow (redrawn wr S) osq=aw at aj⊢;go_wp2;go_roundg (o-a)
  case measure=>have:=g.out;omega
  exact⟨a+1,by go_num,by omega,by have:=g.out;omega,Z (c.out.trans aj.out)⟩
 case neg=>
 have Q:¬(a:Int)<(o:Int):=ae
 go_upto_region 9 with(fail)
 obtain⟨c7,rfl⟩:∃F:World,F=wr:=⟨_,rfl⟩;have cH:=c;clear c P Q N g j f;go_loopg [6] (q+1) (λe o x=>∃a:Nat,o=.int .i64 a/\a<=q/\q-a<e/\Hid (ag aD x))
 case atStart=>exact⟨0,rfl,by omega,by omega,cH⟩
 case round=>
 obtain⟨a,rfl,N,y,c⟩:=hrel;have g:=Z y;clear y;have j:=bh (qb c E);have f:=bh (qb c B);by_cases P:a<q
 case pos=>
  have o:(a:Int)<(q:Int):=ae
  have G:a<V.length:=by have:=cq.out;omega
  have H:=Z (an.out.trans c.out);obtain⟨v,R,k,o,e⟩:=(L2.out.same H.out).2.2 a G;have ax:a1=some ⟨v,R,none⟩:=k;clear k;subst ax;obtain⟨d,S,n,o,b⟩:=(aN.out.same H.out).2.2 a G;have ay:a6=some ⟨d,S,none⟩:=n;clear n;subst ay;generalize V[a]=aE at e b;obtain⟨C,aj,al,ap,ar,au⟩:=aE;have o:=bM (show ac wr (ab v (R+a*6)) C by have h:=e 0 _ rfl;simpa using h);have o:=bM (e 1 _ rfl);have o:=bM (e 2 _ rfl);have o:=bM (e 3 _ rfl);have o:=bM (e 4 _ rfl);have o:=bM (e 5 _ rfl);have o:=bM (show ac wr (ab d (S+a*6)) C by have h:=b 0 _ rfl;simpa using h);have o:=bM (b 1 _ rfl);have o:=bM (b 2 _ rfl);have o:=bM (b 3 _ rfl);have o:=bM (b 4 _ rfl);have o:=bM (b 5 _ rfl);clear e b;have e:(C.toList==C.toList)=true:=ai
  have ad:(aj !=aj)=false:=ai
  have ao:(al !=al)=false:=ai
  have bc:(ap !=ap)=false:=ai
  have bd:(ar !=ar)=false:=ai
  have be:(au !=au)=false:=ai
  have e:=bM j;have e:=bM f;go_upto_region 11 with(fail)
  clear j f;refine wp_region_quiet_below ak ak ?_;repeat (go_big_quiet_step (fail))
  refine wpQuiet_nil ?_;intro _ aG;obtain⟨⟨av,osq⟩,aH⟩:=aG;subst aH;have aw:=Z (ag.reg wr av osq);generalize Sort.grow (redrawn wr av) osq=aI at aw⊢;go_wp2;go_roundg (q-a)
  case measure=>have:=g.out;omega
  exact⟨a+1,by go_num,by omega,by have:=g.out;omega,Z (c.out.trans aw.out)⟩
 case neg=>
 have Q:¬(a:Int)<(q:Int):=ae
 go_upto_region 14 with(fail)
 obtain⟨c8,rfl⟩:∃F:World,F=wr:=⟨_,rfl⟩;have cI:=c;clear c P Q N g j f;go_loopg [7] (t+1) (λe o q=>∃a:Nat,o=.int .i64 a/\a<=t/\t-a<e/\Hid (ag aD q))
 case atStart=>exact⟨0,rfl,by omega,by omega,cI⟩
 case round=>
 obtain⟨a,rfl,N,y,c⟩:=hrel;have g:=Z y;clear y;have j:=bn (qb c E);have f:=bn (qb c B);by_cases P:a<t
 case pos=>
  have o:(a:Int)<(t:Int):=ae
  have G:a<W.length:=by have:=ct.out;omega
  have H:=Z (an.out.trans c.out);obtain⟨v,R,k,o,e⟩:=(aB.out.same H.out).2.2 a G;have au:a3=some ⟨v,R,none⟩:=k;clear k;subst au;obtain⟨d,S,n,o,b⟩:=(aO.out.same H.out).2.2 a G;have av:a8=some ⟨d,S,none⟩:=n;clear n;subst av;generalize W[a]=aw at e b;obtain⟨C,aj,al⟩:=aw;have o:=bM (show ac wr (ab v (R+a*3)) C by have h:=e 0 _ rfl;simpa using h);have o:=bM (e 1 _ rfl);have o:=bM (e 2 _ rfl);have o:=bM (show ac wr (ab d (S+a*3)) C by have h:=b 0 _ rfl;simpa using h);have o:=bM (b 1 _ rfl);have o:=bM (b 2 _ rfl);clear e b;have e:(C !=C)=false:=ai
  have ad:(aj !=aj)=false:=ai
  have ao:(al !=al)=false:=ai
  have e:=bM j;have e:=bM f;go_upto_region 16 with(fail)
  clear j f;refine wp_region_quiet_below ak ak ?_;repeat (go_big_quiet_step (fail))
  refine wpQuiet_nil ?_;intro _ ax;obtain⟨⟨ap,osq⟩,ay⟩:=ax;subst ay;have ar:=Z (ag.reg wr ap osq);generalize Sort.grow (redrawn wr ap) osq=aE at ar⊢;go_wp2;go_roundg (t-a)
  case measure=>have:=g.out;omega
  exact⟨a+1,by go_num,by omega,by have:=g.out;omega,Z (c.out.trans ar.out)⟩
 case neg=>
 have Q:¬(a:Int)<(t:Int):=ae
 go_upto_region 19 with(fail)
 obtain⟨c9,rfl⟩:∃F:World,F=wr:=⟨_,rfl⟩;have cJ:=c;clear c P Q N g j f;go_loopg [8] (u+1) (λe o q=>∃a:Nat,o=.int .i64 a/\a<=u/\u-a<e/\Hid (ag aD q))
 case atStart=>exact⟨0,rfl,by omega,by omega,cJ⟩
 case round=>
 obtain⟨a,rfl,N,y,c⟩:=hrel;have g:=Z y;clear y;have j:=bQ (qb c E);have f:=bQ (qb c B);by_cases P:a<u
 case pos=>
  have o:(a:Int)<(u:Int):=ae
  have H:a<X.length:=by have:=cu.out;omega
  have R:a<Y.length:=by have:=cv.out;omega
  have G:=Z (an.out.trans c.out);obtain⟨v,S,k,o,e⟩:=(aC.out.same G.out).2.2 a H;have av:a4=some ⟨v,S,none⟩:=k;clear k;subst av;obtain⟨d,aj,n,o,b⟩:=(aP.out.same G.out).2.2 a R;have aw:a9=some ⟨d,aj,none⟩:=n;clear n;subst aw;have C:=Z (λD (o:ag wr D)=>aZ.out a H R D (G.out.trans o));obtain⟨ax,o⟩:=aq X[a];obtain⟨ay,q⟩:=aq Y[a];rw[<-o]at e C;rw[<-q]at b C;clear o q;obtain⟨al,aE,i,⟨aG,aH,aI⟩,cO,aQ,⟨aR,aS,aT⟩,cP,aU,aV,⟨aW,bf,bg⟩,cQ,⟨bi,bL,bN⟩,cR⟩:=ax;obtain⟨ap,bO,bP,⟨bR,bS,bT⟩,cS,bU,⟨bV,bW,bX⟩,cT,bY,bZ,⟨b0,b1,b2⟩,cU,⟨b3,b4,cK⟩,cV⟩:=ay;have Km:=bM (show ac wr (ab v (S+a*10)) al by have h:=e 0 _ rfl;simpa using h);have Kn:=bM (e 1 _ rfl);have Ko:=bM (e 2 _ rfl);have Jg:=bM (e 3 _ rfl);have Ls:=bM (e 4 _ rfl);have Lt:=bM (e 5 _ rfl);have u16:=bM (e 6 _ rfl);have Lu:=bM (e 7 _ rfl);have Lv:=bM (e 8 _ rfl);have Lw:=bM (e 9 _ rfl);have u20:=bM (show ac wr (ab d (aj+a*10)) ap by have h:=b 0 _ rfl;simpa using h);have u21:=bM (b 1 _ rfl);have u22:=bM (b 2 _ rfl);have u23:=bM (b 3 _ rfl);have u24:=bM (b 4 _ rfl);have u25:=bM (b 5 _ rfl);have u26:=bM (b 6 _ rfl);have u27:=bM (b 7 _ rfl);have u28:=bM (b 8 _ rfl);have u29:=bM (b 9 _ rfl);have i:Hid (Rt 49 #[.agg #[al,aE,i,U aG aH aI,aQ,U aR aS aT,aU,aV,U aW bf bg,U bi bL bN],.agg #[ap,bO,bP,U bR bS bT,bU,U bV bW bX,bY,bZ,U b0 b1 b2,U b3 b4 cK]] wr (.bool true)):=C;have cL:=gX (w:=wr) i.out;have o:=bM j;have o:=bM f;clear e b C i;go_upto_region 21 with(fail)
  clear j f;refine wp_region_quiet_below ak ak ?_;repeat (go_big_quiet_step (first|(go_at_call 49;exact cL _ _)))
  refine wpQuiet_nil ?_;intro _ cM;obtain⟨⟨ar,osq⟩,cN⟩:=cM;subst cN;have au:=Z (ag.reg wr ar osq);generalize Sort.grow (redrawn wr ar) osq=cW at au⊢;go_wp2;go_roundg (u-a)
  case measure=>have:=g.out;omega
  exact⟨a+1,by go_num,by omega,by have:=g.out;omega,Z (c.out.trans au.out)⟩
 case neg=>
 have Q:¬(a:Int)<(u:Int):=ae
 go_upto_region 24 with(fail)
 obtain⟨da,rfl⟩:∃F:World,F=wr:=⟨_,rfl⟩;have cK:=c;clear c P Q N g j f;go_loopg [9] (s+1) (λe i o=>∃a:Nat,i=.int .i64 a/\a<=s/\s-a<e/\Hid (ag aD o))
 case atStart=>exact⟨0,rfl,by omega,by omega,cK⟩
 case round=>
 obtain⟨a,rfl,N,y,c⟩:=hrel;have g:=Z y;clear y;have j:=bj (qb c E);have f:=bj (qb c B);by_cases P:a<s
 case neg=>
  have Q:¬(a:Int)<(s:Int):=ae
  go_wp2;go_ret;exact⟨rfl,an.out.trans c.out⟩
 case pos=>
 have i:(a:Int)<(s:Int):=ae
 have bL:a<L.length:=by have:=cr.out;omega
 have bN:a<M.length:=by have:=cs.out;omega
 have aQ:=Z (an.out.trans c.out);obtain⟨v,bf,k,i,ap⟩:=(L3.out.same aQ.out).2.2 a bL;have cL:a2=some ⟨v,bf,none⟩:=k;clear k;subst cL;obtain⟨d,aj,n,aR,b⟩:=(M3.out.same aQ.out).2.2 a bN;have cM:a7=some ⟨d,aj,none⟩:=n;clear n;subst cM;obtain⟨ar,i,k⟩:=b7.out a bL bN;replace ar:L[a].mt=M[a].mt:=ar;have R:=Z (i.l.same aQ.out);have al:=Z (k.l.same aQ.out);replace R:Hid (aF wr 7 L[a].h Wg.cells L[a].terms):=R;replace al:Hid (aF wr 7 M[a].h Wg.cells M[a].terms):=al;clear i k;generalize L[a]=bg at ap R ar;generalize M[a]=cN at b al ar;obtain⟨S,av,au,⟨aE,e,aS⟩,aw⟩:=bg;obtain⟨dc,dd,db,⟨aG,bO,aT⟩,de⟩:=cN;simp only[ei.mt]at ar;injection ar with f1 f2 f3 f4
 subst f1 f2 f3 f4;have bP:aw.length=e:=R.out.1;obtain rfl:e=bO:=by have z:aw.length=bO:=al.out.1;omega
 have i:e<=9223372036854775807:=R.out.2.1;have cO:=Z bP;clear bP;have Km:=(show ac wr (ab v (bf+a*4)) S by have h:=ap 0 _ rfl;simpa using h);have Kn:=(ap 1 _ rfl);have Ko:=(ap 2 _ rfl);have Jg:=(ap 3 _ rfl);have u20:=(show ac wr (ab d (aj+a*4)) S by have h:=b 0 _ rfl;simpa using h);have u21:=(b 1 _ rfl);have u22:=(b 2 _ rfl);have u23:=(b 3 _ rfl);replace R:Hid (aF wr 7 ⟨aE,e,aS⟩ Wg.cells aw):=R;replace al:Hid (aF wr 7 ⟨aG,e,aT⟩ Wg.cells aw):=al;replace Jg:ac wr (ab v (bf+a*4+3)) (U aE e aS):=Jg;replace u23:ac wr (ab d (aj+a*4+3)) (U aG e aT):=u23;go_upto_region 27 with(first|(refine wpList_store_row rfl 55 (.tmp 10) (.tmp 140) rfl wr.heap.size #[S,av,au,U aE e aS] rfl rfl 55 #[ah,O 0,O 0,aa] (J.new wr 55 #[ah,O 0,O 0,aa]) ak rfl bl ?_;rw[World.setRow_alloc_new])|fail)
 obtain⟨bi,i,cP,ax,-⟩:=nb wr 55 #[S,av,au,U aE e aS];rw[i];clear i j;try rw[oX]
 replace u20:=(ag.cell ax.out (p:=(ab d (aj+a*4))) aR).trans u20;replace u21:=(ag.cell ax.out (p:=(ab d (aj+a*4+1))) aR).trans u21;replace u22:=(ag.cell ax.out (p:=(ab d (aj+a*4+2))) aR).trans u22;replace u23:=(ag.cell ax.out (p:=(ab d (aj+a*4+3))) aR).trans u23;clear f Km Kn Ko Jg;have f:=bj (qb ax (qb c B));go_upto_region 28 with(first|(refine wpList_store_row rfl 55 (.tmp 11) (.tmp 145) rfl bi.heap.size #[S,av,au,U aG e aT] rfl rfl 55 #[ah,O 0,O 0,aa] (J.new bi 55 #[ah,O 0,O 0,aa]) ak rfl bl ?_;rw[World.setRow_alloc_new])|fail)
 obtain⟨cQ,d,aH,i,-⟩:=nb bi 55 #[S,av,au,U aG e aT];rw[d];clear d f u20 u21 u22 u23;try rw[oX]
 have aI:=qb i cP;have d:=Z (ax.out.trans i.out);have cR:=Z (R.out.same d.out);have cS:=Z (al.out.same d.out);have cT:=Z (c.out.trans d.out);have bR:(S.toList==S.toList)=true:=ai
 have ad:(av !=av)=false:=ai
 have ao:(au !=au)=false:=ai
 have cU:((e:Int) !=(e:Int))=false:=ai
 have cV:=az aI;have cW:=aY aI;have cX:=bh aI;have aU:=bj aI;have cY:=az aH;have cZ:=aY aH;have c0:=bh aH;have aV:=bj aH;go_upto_region 31 with(fail)
 obtain⟨df,rfl⟩:∃F:World,F=wr:=⟨_,rfl⟩;clear cV cW cX aU cY cZ c0 aV bR ad ao cU ap b;go_loopg [12] (e+1) (λc d f=>∃b:Nat,d=.int .i64 b/\b<=e/\e-b<c/\Hid (ag cQ f))
 case atStart=>exact⟨0,rfl,by omega,by omega,Z (ag.refl _)⟩
 case round=>
 obtain⟨C,rfl,dg,bS,ay⟩:=hrel;have bT:=Z bS;clear bS;have aU:=bj (qb ay aI);have aV:=bj (qb ay aH);by_cases b:C<e
 case neg=>
  have b:¬(C:Int)<(e:Int):=ae
  go_wp2;go_roundg (s-a)
  case measure=>have:=g.out;omega
  exact⟨a+1,by go_num,by omega,by have:=g.out;omega,Z (cT.out.trans ay.out)⟩
 case pos=>
 have a:(C:Int)<(e:Int):=ae
 have bU:C<aw.length:=by have:=cO.out;omega
 obtain⟨ba,bV,am,a,G⟩:=(cR.out.same ay.out).2.2 C bU;have c1:aE=some ⟨ba,bV,none⟩:=am;clear am;subst c1;obtain⟨bb,bW,aJ,a,H⟩:=(cS.out.same ay.out).2.2 C bU;have c2:aG=some ⟨bb,bW,none⟩:=aJ;clear aJ;subst c2;generalize aw[C]=bg at G H;obtain⟨aW,bX,bY,bZ,b0,b1,b2⟩:=bg;have a:=bM (show ac wr (ab ba (bV+C*7)) aW by have h:=G 0 _ rfl;simpa using h);have a:=bM (G 1 _ rfl);have a:=bM (G 2 _ rfl);have a:=bM (G 3 _ rfl);have a:=bM (G 4 _ rfl);have a:=bM (G 5 _ rfl);have a:=bM (G 6 _ rfl);have a:=bM (show ac wr (ab bb (bW+C*7)) aW by have h:=H 0 _ rfl;simpa using h);have a:=bM (H 1 _ rfl);have a:=bM (H 2 _ rfl);have a:=bM (H 3 _ rfl);have a:=bM (H 4 _ rfl);have a:=bM (H 5 _ rfl);have a:=bM (H 6 _ rfl);clear G H;have bR:(aW !=aW)=false:=ai
 have ad:(bX !=bX)=false:=ai
 have ao:(bY !=bY)=false:=ai
 have bc:(bZ !=bZ)=false:=ai
 have bd:(b0 !=b0)=false:=ai
 have be:(b1 !=b1)=false:=ai
 have a:(b2 !=b2)=false:=ai
 have a:=bM aU;have a:=bM aV;go_upto_region 33 with(fail)
 clear aU aV;refine wp_region_quiet_below ak ak ?_;repeat (go_big_quiet_step (fail))
 refine wpQuiet_nil ?_;intro _ c3;obtain⟨⟨b3,osq⟩,c4⟩:=c3;subst c4;have b4:=Z (ag.reg wr b3 osq);generalize Sort.grow (redrawn wr b3) osq=dh at b4⊢;go_wp2;go_roundg (e-C)
 case measure=>have:=bT.out;omega
 exact⟨C+1,by go_num,by omega,by have:=bT.out;omega,Z (ay.out.trans b4.out)⟩
end Go.Proofs.YteamkimbmdgdbaaGreatDoor
namespace Go.Proofs.YteamkimbmdgdbaaGreatDoor
open Go.RowKit
theorem Lk {l:bL} {c:Cg} (h:(ek l []).2=[]) (e:c.kind=1):∃xs b,gi l=.ok xs b/\
 (dj (ek l []).1.tabs c≠0->ek l [c]=(Su.zero,[(dj (ek l []).1.tabs c,-1)]))/\
 (dj (ek l []).1.tabs c=0->((ek l [c]).2=[]->∃q,(ek l [c]).1={(ek l []).1 with tabs:=gC (ek l []).1.tabs c,queries:=q})/\∀p∈(ek l [c]).2,∃(d:Nat) (f:d<xs.length),xs[d].kind=10/\∀m (f:m<xs.length),xs[m].at_<=p.2↔m<=d):=by
 unfold ek lh at*;cases a:gi l with
 |bad g i=>
  rw[a]at h;cases h
 |ok xs b=>
  rw[a]at h;dsimp only at h⊢;rw[if_pos (.inr rfl)]at h⊢;rw[if_neg (by rw[h];simp)];have d:=Lg a;obtain⟨f,e⟩:=Ld h d e;exact⟨xs,b,rfl,f,λb=>⟨(e b).1,λp a=>((e b).2 p a).at d⟩⟩
theorem Ll (k:aw) (P:Cg) (d:af) (ay:aG k) (bw:aG P.name) (bx:aG P.dflt.s) (Q:b4 d ⟨some ⟨0,0,none⟩,10,10⟩ fb) (R:0<d.heap.size):
 Calls Tryz.prog 11 #[k,P.val] d λi S=>i=.returned (.bool true)/\ag d S:=by
 obtain⟨cz,y,z,A,B,⟨C,D,E⟩⟩:=P;obtain⟨a,S⟩:=aq (⟨1,y,z,A,B,⟨C,D,E⟩⟩:Cg);have bA:Hid (a.cells=[.int .i64 1,.string y,.string z,.string A,.int .i64 B,.int .i64 C,.int .i64 D,.string E]):=Z (by rw[S];rfl);have bB:a.kind=1:=by rw[S]
 have aW:aG a.name:=by rw[S];exact bw
 have T:aG a.dflt.s:=by rw[S];exact bx
 have cA:=Z (λb (c:ag d b)=>FQ b (Q.same c) (aT R c.size));obtain⟨o,j⟩:=aq (ek (ba k) []);obtain⟨q,aX⟩:=aq (ek (ba k) [a]);have bC:=Z (λb (c:ag d b)=>o0 k b ay (Q.same c) (aT R c.size));simp only[<-j]at bC;have bD:=Z (λb (c:ag d b) (h:Hd) (e:aF b 8 h Cg.cells [a])=>wK k h [a] b ay (Q.same c) (aT R c.size) e (λP b=>by rw[aA b];exact⟨aW,T⟩) ai);simp only[<-aX]at bD;have bE:=Z (show gU o.1.tabs 0 by rw[j];exact KJ _);have V:=Z (show o.2=[]->∃b c,gi (ba k)=.ok b c/\(dj o.1.tabs a≠0->q=(Su.zero,[(dj o.1.tabs a,-1)]))/\(dj o.1.tabs a=0->(q.2=[]->∃c,q.1={o.1 with tabs:=gC o.1.tabs a,queries:=c})/\∀f∈q.2,∃(c:Nat) (e:c<b.length),b[c].kind=10/\∀e (g:e<b.length),b[e].at_<=f.2↔e<=c) by rw[j,aX];exact λh=>Lk h bB);have bF:=Z (λb (c:ag d b)=>Ff k b ay (Q.same c) (aT R c.size));have bG:=Tryz.lg;have cB:=Z aW;have cC:=Z T;clear j aX ay Q R bw bx S bB aW T;show Calls Tryz.prog 11 #[k,.agg #[cz,y,z,A,B,C,D,E]] d _;go_enter Tryz.func11,Tryz.ntmps11
 go_upto_region 1 with(fail)
 obtain⟨wc,P,bH,aZ,-⟩:=nb d 99 _;rw[P];clear P;go_wp2_with fail
 refine(cA.out wc aZ.out).mono ?_;rintro i bJ ⟨rfl,a0⟩;have a1:=Z (aZ.out.trans a0);have W:=qb (Z a0) bH;clear a0 bH aZ;by_cases aB:(3000:Int)<(k.size:Int)
 case pos=>
  go_wp2;go_ret;exact⟨rfl,a1.out⟩
 have T:decide ((3000:Int)<(k.size:Int))=false:=by simpa using aB
 clear aB;have cD:=λb=>J.frozen W b;have u:=az W;have cE:=J.lt W;go_upto_region 5 with(fail)
 have k:=Z (jB W (O 1));have P:=Kp.aE (p:=(am d 0)) (l:=[d.heap.size]) ai (Kp.refl [d.heap.size] bJ) (O 1);have aC:=Z (P.g4 a1.out (λc c=>by rw[aA c];exact Nat.le_refl _));obtain⟨bK,Q⟩:=aq (bJ.setCell (am d 0) (O 1));rw[<-Q]at k aC⊢;clear Q P cD u cE W a1 T;have bL:Hid (J bK d.heap.size 99 #[O 1,y,z,A,B,C,D,E]):=k;clear k;go_wp2_with fail
 refine(bC.out bK aC.out).mono ?_;rintro i X ⟨a2,cH,cI,F,⟨h,aD,e,Y,bN,bO⟩,⟨⟨k,aH,P⟩,ad,ah,a3⟩⟩;have aj:i=.returned (.tuple #[.agg (bz h e),U k aH P]):=by
  rw[F,Y,ad];rfl
 clear F ad Y a3;subst aj;have k:o.2.length=aH:=ah.1;have bP:=Z k;have a4:=Z bN;clear bN ah k;go_upto_region 6 with(first|(refine wpList_store_row rfl 37 (.tmp 6) (.tmp 27) rfl X.heap.size (bz h e) rfl rfl 37 #[aa,aa,aa,aa,aa,aa,aa] (fx X (.cells #[aa,aa,aa,aa,aa,aa,aa] 37)) bG rfl (jz h e) ?_;rw[World.setRow_alloc_new])|fail)
 obtain⟨a5,P,cJ,k,-⟩:=nb X 37 (bz h e);rw[P];clear P;try rw[oX]
 have bR:=Z (aC.out.trans (a2.trans k.out));have v:=qb (Z (a2.trans k.out)) bL;have bS:=Z (bO.same k.out);clear bO a2 aC k bL;by_cases M:o.2=[]
 case neg=>
  have c:0<aH:=by rw[<-bP.out];exact List.length_pos_iff.2 M
  have c:=Z M;clear M;go_wp2;go_ret;exact⟨rfl,bR.out⟩
 have cK:aH=0:=by rw[<-bP.out,M];rfl
 subst cK;have a6:aD.map RT.tb=o.1.tabs:=congrArg Su.tabs a4.out;obtain⟨k,al,bT,aI⟩:=V.out M;have cL:=Z bT;rw[<-a6]at aI;have bU:=v8 a6 bE.out ae;obtain⟨aK,a7⟩:=aq (dj (aD.map RT.tb) a);rw[<-a7]at aI;have a8:=Z aI;obtain⟨ao,ap,an⟩:=h;have cM:Hid (∀c,ag a5 c->Calls Tryz.prog 31 #[.agg #[U ao ap an],.agg #[O 1,y,z,A,B,C,D,E]] c λi f=>ag c f/\∃c:Hd,i=.returned (.tuple #[.agg #[c.val],aK])/\(aK=0->∃al:List RT,bI f c al/\al.map RT.tb=gC (aD.map RT.tb) a)):=Z (λa9 G=>by
  have h:=KC ⟨ao,ap,an⟩ aD a a9 (bI.same bS.out.ta G) bU cB.out cC.out;unfold Cg.val at h;rw[bA.out,<-a7]at h;refine h.mono (λi k g=>⟨g.2,?_⟩);rcases g.1 with⟨c,f⟩|⟨c,n,al,f,aB,r⟩
  ·exact⟨aJ,f,λg=>absurd g c⟩
  exact⟨n,by rw[f,c],λ_=>⟨al,aB,r⟩⟩)
 clear a7 aI V bU a6 M bE bT;have bV:Hid (J a5 X.heap.size 37 #[U ao ap an,e.h1.val,e.h2.val,e.h3.val,e.h4.val,e.h5.val,e.h6.val]):=cJ;have cN:=az bV;have u:=az v;have bb:=aY v;have bc:=bh v;have bd:=bj v;have be:=bn v;have bf:=bQ v;have bg:=cd v;have bi:=b7 v;go_wp2_with fail
 refine(cM.out a5 (ag.refl _)).mono ?_;rintro i bk ⟨bl,bW,rfl,bX⟩;have cO:=Z bX;clear bX;have bY:=qb (Z bl) v;clear cN u bb bc bd be bf bg bi;go_upto_region 9 with(first|(refine wpList_store_row rfl 29 (.tmp 8) (.tmp 38) rfl bk.heap.size #[bW.val] rfl rfl 29 #[aa] (J.new bk 29 #[aa]) ak rfl (by simp[Hd.val,Value.oneCell']) ?_;rw[World.setRow_alloc_new])|fail)
 obtain⟨N,k,cP,o,-⟩:=nb bk 29 #[bW.val];rw[k];clear k;try rw[oX]
 have bZ:=Z (bl.trans o.out);have b0:=Z (bR.out.trans bZ.out);have k:=qb o bY;clear bl bY;have u:=az k;have bb:=aY k;have bc:=bh k;have bd:=bj k;have be:=bn k;have bf:=bQ k;have bg:=cd k;have bi:=b7 k;have b1:=Z (show ag d (N.alloc (.cells #[O 1,y,z,A,B,C,D,E] 99))from b0.out.alloc _);have b2:Hid (aF (N.alloc (.cells #[O 1,y,z,A,B,C,D,E] 99)) 8 ⟨some ⟨N.heap.size,0,none⟩,1,1⟩ Cg.cells [a]):=Z (by
  have h:=cF (enc:=Cg.cells) (m:=8) (h:=⟨some ⟨N.heap.size,0,none⟩,1,1⟩) (xs:=[a]) (λ_=>rfl) rfl ai (ie N a.cells.toArray 99 8 0 rfl (Nat.zero_le _));rw[bA.out]at h;exact h)
 go_wp2_with fail
 refine(bD.out _ b1.out _ b2.out).mono ?_;rintro i aL ⟨b3,cH,cI,F,⟨H,a,r,Y,b5,b6⟩,⟨⟨aM,g,b8⟩,ad,ah,a3⟩⟩;have aj:i=.returned (.tuple #[.agg (bz H r),U aM g b8]):=by
  rw[F,Y,ad];rfl
 clear F ad Y a3;subst aj;have aN:=Z ah;have b9:=Z b5;clear b5 ah u bb bc bd be bf bg bi;go_upto_region 10 with(first|(refine wpList_store_row rfl 37 (.tmp 10) (.tmp 45) rfl aL.heap.size (bz H r) rfl rfl 37 #[aa,aa,aa,aa,aa,aa,aa] (fx aL (.cells #[aa,aa,aa,aa,aa,aa,aa] 37)) bG rfl (jz H r) ?_;rw[World.setRow_alloc_new])|fail)
 obtain⟨K,d,cQ,a,-⟩:=nb aL 37 (bz H r);rw[d];clear d;try rw[oX]
 have d:=Z (((ag.refl N).alloc (.cells #[O 1,y,z,A,B,C,D,E] 99)).trans (b3.trans a.out));have aO:=Z (b0.out.trans d.out);have k:=Z (bZ.out.trans d.out);have ca:=Z (bS.out.same k.out);have cb:=Z (b6.same a.out);have d:=qb d cP;have w:=qb k bV;have I:=Z (aN.out.same a.out);clear b3 b6 a aN b1 b2;by_cases ar:aK=0
 case neg=>
  have j:=a8.out.1 ar;rw[j]at I;have x:g=1:=I.out.1.symm;subst x;obtain⟨c,f,n,_,t⟩:=I.out.2.2 0 ai;have L:aM=some ⟨c,f,none⟩:=n;subst L;have a:ac K (ab c (f+1)) (O (-1)):=by have h:=t 1 _ rfl;simpa using h
  have a:(aK !=0)=true:=by simpa using ar
  have a:=Z ar;clear n t j ar;go_wp2;go_ret;exact⟨rfl,aO.out⟩
 subst ar;obtain⟨bm,bo⟩:=a8.out.2 rfl;by_cases j:q.2=[]
 case pos=>
  obtain⟨a,t⟩:=bm j;have cR:g=0:=by have h:=I.out.1;rw[j]at h;exact h.symm
  subst cR;have c:=b9.out;rw[t]at c;have f:=a4.out;have a:e.os=r.os:=(congrArg Su.origins f).trans (congrArg Su.origins c).symm;have d:e.bs=r.bs:=(congrArg Su.blocks f).trans (congrArg Su.blocks c).symm;have k:e.ms.map ei.mt=r.ms.map ei.mt:=(congrArg Su.kG f).trans (congrArg Su.kG c).symm;have o:e.ks=r.ks:=(congrArg Su.keeps f).trans (congrArg Su.keeps c).symm;have v:e.rs.map cG.ru=r.rs.map cG.ru:=(congrArg Su.rules f).trans (congrArg Su.rules c).symm;have n:=Z (λa9 (G:ag K a9)=>Lj (ca.out.same G) (cb.out.same G) a d k o v);clear a d k o v f c j bm bo t;obtain⟨x,L,au⟩:=H;obtain⟨⟨av,ax,aP⟩,⟨aQ,aR,aS⟩,⟨aU,aV,bp⟩,⟨bq,br,bt⟩,⟨bu,bv,cc⟩,⟨ce,cf,cg⟩,cT,cU,cV,cW,cX,cY⟩:=e;obtain⟨⟨ch,ci,cj⟩,⟨ck,cl,cm⟩,⟨cn,co,cp⟩,⟨cq,cr,cs⟩,⟨ct,cu,cv⟩,⟨cw,cx,cy⟩,cZ,c0,c1,c2,c3,c4⟩:=r;replace n:Hid (Rt 29 #[.agg #[U ao ap an,U av ax aP,U aQ aR aS,U aU aV bp,U bq br bt,U bu bv cc,U ce cf cg],.agg #[U x L au,U ch ci cj,U ck cl cm,U cn co cp,U cq cr cs,U ct cu cv,U cw cx cy]] K (.bool true)):=n;replace w:Hid (J K X.heap.size 37 #[U ao ap an,U av ax aP,U aQ aR aS,U aU aV bp,U bq br bt,U bu bv cc,U ce cf cg]):=w;have a:Hid (J K aL.heap.size 37 #[U x L au,U ch ci cj,U ck cl cm,U cn co cp,U cq cr cs,U ct cu cv,U cw cx cy]):=cQ;have d:=az w;have e0:=az a;have d:=aY w;have f:=aY a;have d:=bh w;have c:=bh a;have c:=bj w;have c:=bj a;have c:=bn w;have c:=bn a;have c:=bQ w;have c:=bQ a;have c:=cd w;have a:=cd a;go_wp2_with fail
  refine(n.out K (ag.refl _)).mono ?_;rintro i a ⟨rfl,cS⟩;go_wp2;go_ret;exact⟨rfl,aO.out.trans cS⟩
 have a:q.2.length=g:=I.out.1;have d:0<g:=by rw[<-a];exact List.length_pos_iff.2 j
 have d:g<=9223372036854775807:=I.out.2.1;have cR:=Z bo;have aN:=Z a;have d:=bF.out K aO.out;rw[cL.out]at d;have cc:=Z d;clear j bm bo a d bF a8 cO a4 b9 ca cb;go_wp2_with fail
 refine(cc.out).mono ?_;rintro i au ⟨ce,⟨L,c,av⟩,x,F,cS,cf,-,-⟩;have aj:i=.returned (.tuple #[.agg #[U L c av],O 0,O 0]):=F;clear F;subst aj;subst cS;have cg:=Z cf;have bp:=Z ce;clear cf ce cc;go_upto_region 15 with(fail)
 have a:=Z (show ag au (au.alloc (.cells #[U L c av] 24))from(ag.refl au).alloc _);have ch:=Z (J.new au 24 #[U L c av]);obtain⟨bq,d⟩:=aq (au.alloc (.cells #[U L c av] 24));rw[<-d]at a ch⊢;clear d;have cT:=Z (aO.out.trans (bp.out.trans a.out));have aP:Hid (aF bq 25 ⟨L,c,av⟩ RI.cells x):=Z (cg.out.same a.out);have cU:Hid (aF bq 2 ⟨aM,g,b8⟩ dP q.2):=Z (I.out.same (bp.out.trans a.out));have d:x.length=c:=aP.out.1;have e:c<=9223372036854775807:=aP.out.2.1;have V:=Z d;clear d cg I a bp;go_loopg [15] (g+1) (λG a d=>∃b:Nat,a=.int .i64 b/\b<=g/\g-b<G/\Hid (ag bq d))
 case atStart=>exact⟨0,rfl,by omega,by omega,Z (ag.refl _)⟩
 case round=>
 obtain⟨b,rfl,c7,ci,br⟩:=hrel;have cj:=Z ci;clear ci;by_cases a:b<g
 case neg=>
  have a:¬(b:Int)<(g:Int):=ae
  go_wp2;go_ret;exact⟨rfl,cT.out.trans br.out⟩
 case pos=>
 have a:(b:Int)<(g:Int):=ae
 have ck:b<q.2.length:=by have:=aN.out;omega
 obtain⟨bt,bu,cl,cV,bv⟩:=(cU.out.same br.out).2.2 b ck;have cW:aM=some ⟨bt,bu,none⟩:=cl;subst cW;obtain⟨n,cm,cn,t⟩:=cR.out q.2[b] (List.getElem_mem ck);generalize q.2[b]=cX at bv t;obtain⟨c8,aQ⟩:=cX;have cY:ac wr (ab bt (bu+b*2+1)) aQ:=bv 1 _ rfl;have cZ:n<x.length:=by simpa using cm
 have d:x[n].kind=10:=by simpa[RI.it]using cn
 have c0:=Z (show∀a (e:a<x.length),x[a].at_<=aQ↔a<=n by
  intro a e;have h:=t a (by simpa using e);simpa[RI.it]using h)
 have a:n<c:=by have:=V.out;omega
 have c1:=Z d;clear bv t cn d cm cl;go_upto_region 19 with(fail)
 obtain⟨c2,rfl⟩:∃a:World,a=wr:=⟨_,rfl⟩;go_loopg [16,17] (c+1) (λG e f i=>∃(a:Nat) (d:Int),e=.int .i64 d/\f=.int .i64 a/\a<=c/\c-a<G/\Hid (d=((min a (n+1):Nat):Int)-1)/\Hid (ag c2 i))
 case atStart=>exact⟨0,-1,rfl,rfl,by omega,by omega,Z ai,Z (ag.refl _)⟩
 case round=>
 obtain⟨f,co,rfl,rfl,c9,cp,cq,aR⟩:=hrel;have aS:=Z cp;clear cp;have aU:=Z (br.out.trans aR.out);have u:=az (qb aU ch);by_cases a:f<c
 case neg=>
  have a:¬(f:Int)<(c:Int):=ae
  obtain rfl:co=(n:Int):=by have h:=cq.out;rw[Nat.min_eq_right ae]at h;omega
  obtain⟨ax,aV,cr,_,cs⟩:=(aP.out.same aU.out).2.2 n cZ;have ct:L=some ⟨ax,aV,none⟩:=cr;subst ct;have a:ac wr (ab ax (aV+n*25)) (O 10):=by have h:=cs 0 _ rfl;rw[c1.out]at h;simpa using h
  have a:(n:Int)<(c:Int):=ae
  have a:decide ((n:Int)<0)=false:=decide_eq_false ae;clear cs cr;go_wp2;go_roundg (g-b)
  case measure=>have:=cj.out;omega
  exact⟨b+1,by go_num,by omega,by have:=cj.out;omega,aU⟩
 case pos=>
 have a:(f:Int)<(c:Int):=ae
 have cr:f<x.length:=by have:=V.out;omega
 obtain⟨cs,ct,cu,_,cv⟩:=(aP.out.same aU.out).2.2 f cr;have c3:L=some ⟨cs,ct,none⟩:=cu;subst c3;have aV:ac wr (ab cs (ct+f*25+2)) (O x[f].at_):=cv 2 _ rfl;have ax:=c0.out f cr;obtain⟨cw,a⟩:=aq x[f].at_;rw[<-a]at aV ax;have d:=bM u;have b:=bM ((ag.cell aR.out (p:=(ab bt (bu+b*2+1))) cV).trans cY);have b:=bM aV;clear cv cu a;by_cases t:f<=n
 case pos=>
  have a:decide (cw<=aQ)=true:=decide_eq_true (ax.2 t);have c4:=Z t;clear ax t;go_upto_region 21 with(fail)
  clear u aV;refine wp_region_quiet_below ak ak ?_;repeat (go_big_quiet_step (fail))
  refine wpQuiet_nil ?_;intro _ c5;obtain⟨⟨cx,osq⟩,c6⟩:=c5;subst c6;have cy:=Z (ag.reg wr cx osq);generalize Sort.grow (redrawn wr cx) osq=da at cy⊢;go_wp2;go_roundg (c-f)
  case measure=>have:=aS.out;omega
  exact⟨f+1,f,rfl,by go_num,by omega,by have:=aS.out;omega,Z (by have:=c4.out;rw[Nat.min_eq_left (by omega)];omega),Z (aR.out.trans cy.out)⟩
 have a:decide (cw<=aQ)=false:=decide_eq_false (λh=>t (ax.1 h));have c4:=Z t;clear ax t;go_upto_region 21 with(fail)
 clear u aV;refine wp_region_quiet_below ak ak ?_;repeat (go_big_quiet_step (fail))
 refine wpQuiet_nil ?_;intro _ c5;obtain⟨⟨cx,osq⟩,c6⟩:=c5;subst c6;have cy:=Z (ag.reg wr cx osq);generalize Sort.grow (redrawn wr cx) osq=da at cy⊢;go_wp2;go_roundg (c-f)
 case measure=>have:=aS.out;omega
 exact⟨f+1,co,rfl,by go_num,by omega,by have:=aS.out;omega,Z (by have a:=c4.out;have H:=cq.out;rw[Nat.min_eq_right (by omega)]at H;rw[Nat.min_eq_right (by omega)];exact H),Z (aR.out.trans cy.out)⟩
end Go.Proofs.YteamkimbmdgdbaaGreatDoor
namespace Go.Proofs.YteamkimbmdgdbaaGreatDoor
open Go.ChangeShapes Go.WideShapes Go.Deep Go.RowKit
theorem Lm {a:Int} (h:(Lit.int .i64 a).wf=true):-9223372036854775808<=a/\a<=9223372036854775807:=by
 simp[Lit.wf,IntKind.min,IntKind.max,IntKind.bits,IntKind.signed]at h;omega
section
variable {H:Type} {ec:TypeId×Value->H} {w:af} {base:Nat} {spare:Nat->Bool} {held:Bool} {fuel:Nat}
theorem Kq:Tryz.prog.cellsOf 3=1:=ak
theorem Kr:Tryz.prog.cellsOf 9=1:=ak
theorem Ks:Tryz.prog.cellsOf 66=3:=ak
theorem Ln:Tryz.prog.cellsOf 99=8:=ak
theorem Lo {a:aw} (h:a.size<=maxLen):aG a:=by unfold aG;unfold maxLen at h;omega
def I3 (a:Int):Prop:=-9223372036854775808<=a/\a<=9223372036854775807
theorem Jh {b:bg} {a:DataW H×List MemPlace} (h:DataW.trod ec Tryz.prog w base spare held fuel 9 b=some a):∃a:ByteArray,b=dF a/\aG a:=by
 obtain⟨a,b,_,c⟩:=DataW.trod_string Tryz.underlying9 h;exact⟨a,b,Lo (by simpa[maxLen]using c)⟩
theorem Ji {b:bg} {a:DataW H×List MemPlace} (h:DataW.trod ec Tryz.prog w base spare held fuel 3 b=some a):∃a:Int,b=cj a/\I3 a:=by
 obtain⟨a,b,_,c⟩:=DataW.trod_int Tryz.underlying3 h;exact⟨a,b,Lm c⟩
theorem Lp {a:bg} {b:DataW H×List MemPlace} (h:DataW.trod ec Tryz.prog w base spare held fuel 66 a=some b):∃v:V,a=v.cells/\aG v.s/\I3 v.k/\I3 v.n:=by
 obtain⟨b,c,_,_,f,g,d⟩:=DataW.trod_struct Tryz.underlying66 h;rw[Ks]at f;have e:∀e,e<3->∃m,b[e]?=some m:=λe e=>⟨_,List.getElem?_eq_getElem (by rw[g];exact e)⟩;obtain⟨g,e0⟩:=e 0 ae;obtain⟨g,m⟩:=e 1 ae;obtain⟨e,o⟩:=e 2 ae;have e:DataW.trod ec Tryz.prog w base spare held c 3 ((a.drop 0).take (Tryz.prog.cellsOf 3))=b[0]?:=d 0 _ rfl;have g:DataW.trod ec Tryz.prog w base spare held c 3 ((a.drop 1).take (Tryz.prog.cellsOf 3))=b[1]?:=d 1 _ rfl;have b:DataW.trod ec Tryz.prog w base spare held c 9 ((a.drop 2).take (Tryz.prog.cellsOf 9))=b[2]?:=d 2 _ rfl;rw[Kq]at e g;rw[Kr]at b;obtain⟨p,i,q⟩:=Ji (e.trans e0);obtain⟨r,j,t⟩:=Ji (g.trans m);obtain⟨u,l,x⟩:=Jh (b.trans o);match a,f with
 |[c0,c1,c2],_=>
  simp[cj,dF]at i j l;exact⟨⟨p,r,u⟩,by simp[V.cells,i,j,l],x,q,t⟩
end
section
variable {H:Type} {ec:TypeId×Value->H} {w:af} {base:Nat} {spare:Nat->Bool} {held:Bool} {r:Reach} {b0:Nat} {v:ay} {d:DataW H} {ps:List MemPlace}
theorem Lq (c:Value.okWide Tryz.prog w r b0 99 v) (h:DataW.Trod ec Tryz.prog w base spare held 99 v d ps):
 ∃a:Cg,v=a.val/\aG a.table/\aG a.attr/\aG a.name/\aG a.dflt.s/\I3 a.kind/\I3 a.dE:=by
 obtain⟨b,rfl,g⟩:=okWide_struct Tryz.underlying99 c;rw[Ln]at g;obtain⟨fuel,e⟩:=h;obtain⟨a,c,_,_,f,i,e⟩:=DataW.trod_struct Tryz.underlying99 e;have f:∀f,f<6->∃j,a[f]?=some j:=λf f=>⟨_,List.getElem?_eq_getElem (by rw[i];exact f)⟩;obtain⟨i,e0⟩:=f 0 ae;obtain⟨i,u⟩:=f 1 ae;obtain⟨i,x⟩:=f 2 ae;obtain⟨i,y⟩:=f 3 ae;obtain⟨i,z⟩:=f 4 ae;obtain⟨f,A⟩:=f 5 ae;have f:DataW.trod ec Tryz.prog w base spare held c 3 (((Value.agg b).cells.toList.drop 0).take (Tryz.prog.cellsOf 3))=a[0]?:=e 0 _ rfl;have i:DataW.trod ec Tryz.prog w base spare held c 9 (((Value.agg b).cells.toList.drop 1).take (Tryz.prog.cellsOf 9))=a[1]?:=e 1 _ rfl;have j:DataW.trod ec Tryz.prog w base spare held c 9 (((Value.agg b).cells.toList.drop 2).take (Tryz.prog.cellsOf 9))=a[2]?:=e 2 _ rfl;have k:DataW.trod ec Tryz.prog w base spare held c 9 (((Value.agg b).cells.toList.drop 3).take (Tryz.prog.cellsOf 9))=a[3]?:=e 3 _ rfl;have l:DataW.trod ec Tryz.prog w base spare held c 3 (((Value.agg b).cells.toList.drop 4).take (Tryz.prog.cellsOf 3))=a[4]?:=e 4 _ rfl;have a:DataW.trod ec Tryz.prog w base spare held c 66 (((Value.agg b).cells.toList.drop 5).take (Tryz.prog.cellsOf 66))=a[5]?:=e 5 _ rfl;rw[Kq]at f l;rw[Kr]at i j k;rw[Ks]at a;obtain⟨B,m,C⟩:=Ji (f.trans e0);obtain⟨D,n,E⟩:=Jh (i.trans u);obtain⟨F,o,G⟩:=Jh (j.trans x);obtain⟨H,p,I⟩:=Jh (k.trans y);obtain⟨J,q,K⟩:=Ji (l.trans z);obtain⟨L,t,M,-⟩:=Lp (a.trans A);obtain⟨N⟩:=b;match N,g with
 |[c0,c1,c2,c3,c4,c5,c6,c7],_=>
  simp[cj,dF,V.cells,Value.cells]at m n o p q t;refine⟨⟨B,D,F,H,J,L⟩,?_,E,G,I,M,C,K⟩;obtain⟨O,P,Q⟩:=t;subst m n o p q O P Q;rfl
end
end Go.Proofs.YteamkimbmdgdbaaGreatDoor

import Derived.Test.YteamkimbmdgdbaaGreatDoorK01
import Derived.Test.YteamkimbmdgdbaaGreatDoorK04
import Derived.Test.YteamkimbmdgdbaaGreatDoorK18
import Derived.Test.YteamkimbmdgdbaaGreatDoorK26
import Derived.Test.YteamkimbmdgdbaaGreatDoorK28
import Derived.Test.YteamkimbmdgdbaaGreatDoorK29
import Derived.Test.YteamkimbmdgdbaaGreatDoorK31
import Derived.Test.YteamkimbmdgdbaaGreatDoorK32
import Derived.Test.YteamkimbmdgdbaaGreatDoorKR0
import Derived.ChangeOld
import Derived.ChangeSame
import Derived.Deep.Fields
import Derived.Deep.Slices
import Derived.OpenShut
import Derived.ProofKit
set_option linter.unusedSimpArgs false
set_option linter.unusedVariables false
set_option maxHeartbeats 16000000
set_option maxRecDepth 100000
namespace Go.Proofs.YteamkimbmdgdbaaGreatDoor
open Go.RowKit
theorem Kh {L:af} {h h2:Hd} {j k:List RT} (ax:bI L h j) (aL:bI L h2 k) (bJ:j.length=k.length)
 (a7:∀a (aM:a<j.length) (h2:a<k.length),j[a].name=k[a].name/\j[a].key=k[a].key/\j[a].ra.map RA.at_=k[a].ra.map RA.at_):
 Calls Tryz.prog 28 #[.agg #[h.val],.agg #[h2.val],.bool false] L λa8 bK=>a8=.returned (.bool true)/\ag L bK:=by
 obtain⟨a9,e,bL⟩:=h;obtain⟨hA2,ba,z⟩:=h2;have aM:j.length=e:=ax.1.1;have h2:k.length=ba:=aL.1.1;obtain rfl:e=ba:=ae
 have ba:e<=9223372036854775807:=ax.1.2.1;have bN:=Z aM;have bO:=Z h2;have bP:=Z a7;have bb:=Z ax;have bc:=Z aL;have bR:((e:Int) !=(e:Int))=false:=ai
 clear ax aL aM h2 a7 bJ;show Calls Tryz.prog 28 #[.agg #[U a9 e bL],.agg #[U hA2 e z],.bool false] L _;go_enter Tryz.func28,Tryz.ntmps28
 go_upto_region 1 with(fail)
 obtain⟨aM,t,ax,L,aL⟩:=nb L 29 _;rw[t];clear t;have aM:=L;obtain⟨bS,A,aN,L,a7⟩:=nc aL 29 _;rw[A];clear A;have bd:=Z (aM.out.trans L.out);have be:=qb L ax;clear L aM ax aL a7;have bT:=az be;have bU:=az aN;go_upto_region 4 with(fail)
 clear bT bU bR;go_loopg [7] (e+1) (λb c d=>∃a:Nat,c=.int .i64 a/\a<=e/\e-a<b/\Hid (ag bS d))
 case atStart=>exact⟨0,rfl,by omega,by omega,Z (ag.refl _)⟩
 case round=>
 obtain⟨a,rfl,cz,bf,M⟩:=hrel;have bg:=Z bf;clear bf;have bV:=az (qb M be);have aO:=az (qb M aN);by_cases L:a<e
 case neg=>
  have b:¬(a:Int)<(e:Int):=ae
  go_wp2;go_ret;exact⟨rfl,bd.out.trans M.out⟩
 case pos=>
 have L:(a:Int)<(e:Int):=ae
 have aP:a<j.length:=by have:=bN.out;omega
 have aQ:a<k.length:=by have:=bO.out;omega
 have ay:=Z (bd.out.trans M.out);obtain⟨aA,aB,L,ax,T⟩:=(bb.out.1.same ay.out).2.2 a aP;have bW:a9=some ⟨aA,aB,none⟩:=L;clear L;subst bW;obtain⟨B,C,L,aR,z⟩:=(bc.out.1.same ay.out).2.2 a aQ;have bX:hA2=some ⟨B,C,none⟩:=L;clear L;subst bX;obtain⟨aS,aT,D⟩:=bP.out a aP aQ;have N:=fw.same (bb.out.2 _ (List.getElem_mem aP)) ay.out;have V:=fw.same (bc.out.2 _ (List.getElem_mem aQ)) ay.out;generalize j[a]=u at T N aS aT D;generalize k[a]=aU at z V aS aT D;obtain⟨l,⟨W,c,aC⟩,X,⟨Y,ad,aj⟩,bi⟩:=u;obtain⟨bY,⟨al,bk,aD⟩,am,⟨an,ao,ap⟩,bZ⟩:=aU;obtain rfl:l=bY:=aS;obtain rfl:bi=bZ:=aT;have D:X.map RA.at_=am.map RA.at_:=D;have aq:X.length=c:=N.1.1.1;have bm:am.length=bk:=V.1.1.1;obtain rfl:c=bk:=by have h:=congrArg List.length D;simp at h;omega
 have j:c<=9223372036854775807:=N.1.1.2.1;have b0:=Z aq;have b1:=Z bm;have b2:=Z D;have b3:Hid (fu wr ⟨W,c,aC⟩ X):=Z N.1;have b4:Hid (fu wr ⟨al,c,aD⟩ am):=Z V.1;have b5:Hid (Rt 34 #[U Y ad aj,U an ao ap] wr (.bool true)):=Z (λd b=>IZ ⟨Y,ad,aj⟩ ⟨an,ao,ap⟩ bi d (dQ.same N.2.1 b) (dQ.same V.2.1 b));clear N V D aq bm;have IP:ac wr (ab aA (aB+a*3)) l:=by have h:=T 0 _ rfl;simpa using h
 have IQ:ac wr (ab aA (aB+a*3+1)) (U W c aC):=T 1 _ rfl;have IR:ac wr (ab aA (aB+a*3+2)) (U Y ad aj):=T 2 _ rfl;have u20:ac wr (ab B (C+a*3)) l:=by have h:=z 0 _ rfl;simpa using h
 have u21:ac wr (ab B (C+a*3+1)) (U al c aD):=z 1 _ rfl;have u22:ac wr (ab B (C+a*3+2)) (U an ao ap):=z 2 _ rfl;clear T z;go_upto_region 7 with(first|(refine wpList_store_row rfl 81 (.tmp 8) (.tmp 32) rfl wr.heap.size #[l,U W c aC,U Y ad aj] rfl rfl 81 #[ah,aa,aa] (J.new wr 81 #[ah,aa,aa]) ak rfl bl ?_;rw[World.setRow_alloc_new])|fail)
 obtain⟨aV,j,bo,ar,-⟩:=nb wr 81 #[l,U W c aC,U Y ad aj];rw[j];clear j;try rw[oX]
 replace u20:=(ag.cell ar.out (p:=(ab B (C+a*3))) aR).trans u20;replace u21:=(ag.cell ar.out (p:=(ab B (C+a*3+1))) aR).trans u21;replace u22:=(ag.cell ar.out (p:=(ab B (C+a*3+2))) aR).trans u22;clear bV aO IP IQ IR;have aO:=az (qb ar (qb M aN));go_upto_region 8 with(first|(refine wpList_store_row rfl 81 (.tmp 9) (.tmp 37) rfl aV.heap.size #[l,U al c aD,U an ao ap] rfl rfl 81 #[ah,aa,aa] (J.new aV 81 #[ah,aa,aa]) ak rfl bl ?_;rw[World.setRow_alloc_new])|fail)
 obtain⟨b6,j,aE,k,-⟩:=nb aV 81 #[l,U al c aD,U an ao ap];rw[j];clear j;try rw[oX]
 clear aO u20 u21 u22;have aG:=qb k bo;have bp:=Z (ar.out.trans k.out);have aH:(l.toList==l.toList)=true:=ai
 have aW:((c:Int) !=(c:Int))=false:=ai
 have aX:=az aG;have P:=bh aG;have aZ:=az aE;have Q:=bh aE;go_wp2_with fail
 refine(b5.out b6 bp.out).mono ?_;rintro a8 b7 ⟨rfl,aI⟩;have j:=Z (bp.out.trans aI);have bq:=qb (Z aI) aG;have a0:=qb (Z aI) aE;have b8:=Z (M.out.trans j.out);have br:=Z (b3.out.same j.out);have bs:=Z (b4.out.same j.out);clear aX P aZ Q aI aG bo aE;have au:=aY bq;have E:=aY a0;go_upto_region 11 with(fail)
 obtain⟨cA,rfl⟩:∃a1:World,a1=wr:=⟨_,rfl⟩;clear au E aW aH;go_loopg [10] (c+1) (λd f g=>∃b:Nat,f=.int .i64 b/\b<=c/\c-b<d/\Hid (ag b7 g))
 case atStart=>exact⟨0,rfl,by omega,by omega,Z (ag.refl _)⟩
 case round=>
 obtain⟨b,rfl,cB,bt,m⟩:=hrel;have bu:=Z bt;clear bt;have au:=aY (qb m bq);have E:=aY (qb m a0);by_cases j:b<c
 case neg=>
  have d:¬(b:Int)<(c:Int):=ae
  go_wp2;go_roundg (e-a)
  case measure=>have:=bg.out;omega
  exact⟨a+1,by go_num,by omega,by have:=bg.out;omega,Z (b8.out.trans m.out)⟩
 case pos=>
 have a:(b:Int)<(c:Int):=ae
 have a2:b<X.length:=by have:=b0.out;omega
 have a3:b<am.length:=by have:=b1.out;omega
 obtain⟨F,G,a,e,v⟩:=(br.out.1.same m.out).2.2 b a2;have b9:W=some ⟨F,G,none⟩:=a;clear a;subst b9;obtain⟨f,g,a,R,w⟩:=(bs.out.1.same m.out).2.2 b a3;have ca:al=some ⟨f,g,none⟩:=a;clear a;subst ca;have x:=congrArg (λa=>a[b]?) b2.out;simp only[List.getElem?_map,List.getElem?_eq_getElem a2,List.getElem?_eq_getElem a3,Option.map_some]at x;have x:=Option.some.inj x;have t:=(br.out.2 _ (List.getElem_mem a2)).1.1.same m.out;have A:=(bs.out.2 _ (List.getElem_mem a3)).1.1.same m.out;generalize X[b]=u at v x t;generalize am[b]=aU at w x A;obtain⟨⟨n,o,H,⟨q,r,s⟩⟩,⟨av,d,aJ⟩⟩:=u;obtain⟨cb,⟨aw,bv,aK⟩⟩:=aU;have x:(⟨n,o,H,⟨q,r,s⟩⟩:At)=cb:=x;subst x;have bw:H.length=d:=t.1;have cc:H.length=bv:=A.1;obtain rfl:d=bv:=ae
 have a:d<=9223372036854775807:=t.2.1;have cd:=Z bw;have ce:Hid (aF wr 1 ⟨av,d,aJ⟩ dF H):=Z t;have cf:Hid (aF wr 1 ⟨aw,d,aK⟩ dF H):=Z A;clear bw cc t A;have u30:ac wr (ab F (G+b*6)) n:=by have h:=v 0 _ rfl;simpa using h
 have u31:ac wr (ab F (G+b*6+1)) o:=v 1 _ rfl;have u32:ac wr (ab F (G+b*6+2)) (U av d aJ):=v 2 _ rfl;have u33:ac wr (ab F (G+b*6+3)) q:=v 3 _ rfl;have u34:ac wr (ab F (G+b*6+4)) r:=v 4 _ rfl;have u35:ac wr (ab F (G+b*6+5)) s:=v 5 _ rfl;have u40:ac wr (ab f (g+b*6)) n:=by have h:=w 0 _ rfl;simpa using h
 have Jc:ac wr (ab f (g+b*6+1)) o:=w 1 _ rfl;have u42:ac wr (ab f (g+b*6+2)) (U aw d aK):=w 2 _ rfl;have Jd:ac wr (ab f (g+b*6+3)) q:=w 3 _ rfl;have u44:ac wr (ab f (g+b*6+4)) r:=w 4 _ rfl;have u45:ac wr (ab f (g+b*6+5)) s:=w 5 _ rfl;clear v w;go_upto_region 14 with(first|(refine wpList_store_row rfl 111 (.tmp 11) (.tmp 75) rfl wr.heap.size #[n,o,U av d aJ,q,r,s] rfl rfl 111 #[ah,O 0,aa,O 0,O 0,ah] (J.new wr 111 #[ah,O 0,aa,O 0,O 0,ah]) ak rfl bl ?_;rw[World.setRow_alloc_new])|fail)
 obtain⟨a4,a,cg,y,-⟩:=nb wr 111 #[n,o,U av d aJ,q,r,s];rw[a];clear a;try rw[oX]
 replace u40:=(ag.cell y.out (p:=(ab f (g+b*6))) R).trans u40;replace Jc:=(ag.cell y.out (p:=(ab f (g+b*6+1))) R).trans Jc;replace u42:=(ag.cell y.out (p:=(ab f (g+b*6+2))) R).trans u42;replace Jd:=(ag.cell y.out (p:=(ab f (g+b*6+3))) R).trans Jd;replace u44:=(ag.cell y.out (p:=(ab f (g+b*6+4))) R).trans u44;replace u45:=(ag.cell y.out (p:=(ab f (g+b*6+5))) R).trans u45;clear au E u30 u31 u32 u33 u34 u35;have E:=aY (qb y (qb m a0));go_upto_region 15 with(first|(refine wpList_store_row rfl 111 (.tmp 12) (.tmp 80) rfl a4.heap.size #[n,o,U aw d aK,q,r,s] rfl rfl 111 #[ah,O 0,aa,O 0,O 0,ah] (J.new a4 111 #[ah,O 0,aa,O 0,O 0,ah]) ak rfl bl ?_;rw[World.setRow_alloc_new])|fail)
 obtain⟨ch,a,I,e,-⟩:=nb a4 111 #[n,o,U aw d aK,q,r,s];rw[a];clear a;try rw[oX]
 clear E u40 Jc u42 Jd u44 u45;have K:=qb e cg;have a:=Z (y.out.trans e.out);have ci:=Z (m.out.trans a.out);have cj:=Z (ce.out.same a.out);have ck:=Z (cf.out.same a.out);have aH:(n.toList==n.toList)=true:=ai
 have cl:(o !=o)=false:=ai
 have cm:(q !=q)=false:=ai
 have cn:(r !=r)=false:=ai
 have co:(s.toList==s.toList)=true:=ai
 have aW:((d:Int) !=(d:Int))=false:=ai
 have aX:=az K;have aZ:=az I;have au:=aY K;have E:=aY I;have P:=bh K;have Q:=bh I;have cp:=bj K;have cq:=bj I;have cr:=bn K;have cs:=bn I;have ct:=bQ K;have cu:=bQ I;go_upto_region 18 with(fail)
 obtain⟨cC,rfl⟩:∃a1:World,a1=wr:=⟨_,rfl⟩;clear aX au P cp cr ct aZ E Q cq cs cu aH cl cm cn co aW;go_loopg [13] (d+1) (λe f g=>∃a:Nat,f=.int .i64 a/\a<=d/\d-a<e/\Hid (ag ch g))
 case atStart=>exact⟨0,rfl,by omega,by omega,Z (ag.refl _)⟩
 case round=>
 obtain⟨i,rfl,cD,bx,S⟩:=hrel;have bz:=Z bx;clear bx;have P:=bh (qb S K);have Q:=bh (qb S I);by_cases a:i<d
 case neg=>
  have a:¬(i:Int)<(d:Int):=ae
  go_wp2;go_roundg (c-b)
  case measure=>have:=bu.out;omega
  exact⟨b+1,by go_num,by omega,by have:=bu.out;omega,Z (ci.out.trans S.out)⟩
 case pos=>
 have a:(i:Int)<(d:Int):=ae
 have aq:i<H.length:=by have:=cd.out;omega
 obtain⟨bA,bB,a,b,a5⟩:=(cj.out.same S.out).2.2 i aq;have cv:av=some ⟨bA,bB,none⟩:=a;clear a;subst cv;obtain⟨bC,bD,a,b,a6⟩:=(ck.out.same S.out).2.2 i aq;have cw:aw=some ⟨bC,bD,none⟩:=a;clear a;subst cw;generalize H[i]=u at a5 a6;have bE:ac wr (ab bA (bB+i)) u:=by have h:=a5 0 _ rfl;simpa[dF]using h
 have bF:ac wr (ab bC (bD+i)) u:=by have h:=a6 0 _ rfl;simpa[dF]using h
 have aH:(u.toList==u.toList)=true:=ai
 have a:=bM bE;have a:=bM bF;have a:=bM P;have a:=bM Q;clear a5 a6;go_upto_region 20 with(fail)
 clear P Q bE bF;refine wp_region_quiet_below ak ak ?_;repeat (go_big_quiet_step (fail))
 refine wpQuiet_nil ?_;intro _ cx;obtain⟨⟨bG,osq⟩,cy⟩:=cx;subst cy;have bH:=Z (ag.reg wr bG osq);generalize Sort.grow (redrawn wr bG) osq=cE at bH⊢;go_wp2;go_roundg (d-i)
 case measure=>have:=bz.out;omega
 exact⟨i+1,by go_num,by omega,by have:=bz.out;omega,Z (S.out.trans bH.out)⟩
end Go.Proofs.YteamkimbmdgdbaaGreatDoor
namespace Go.Proofs.YteamkimbmdgdbaaGreatDoor
open Go.RowKit
theorem Ki {b c:List RT} (h:b.map RT.tb=c.map RT.tb):b.length=c.length/\∀a (d:a<b.length) (h2:a<c.length),b[a].name=c[a].name/\b[a].key=c[a].key/\b[a].ra.map RA.at_=c[a].ra.map RA.at_:=by
 have e:=congrArg List.length h;simp only[List.length_map]at e;refine⟨e,λa d h2=>?_⟩;have f:(b.map RT.tb)[a]'(by simpa using d)=(c.map RT.tb)[a]'(by simpa using h2):=by simp only[h]
 simp only[List.getElem_map,RT.tb]at f;injection f with e1 e2 e3
 exact⟨e1,e3,e2⟩
theorem Kj (o:aw) (K:Cg) (c:af) (aH:aG o) (bW:aG K.name) (bX:aG K.dflt.s) (X:b4 c ⟨some ⟨0,0,none⟩,10,10⟩ fb) (Y:0<c.heap.size):
 Calls Tryz.prog 9 #[o,K.val] c λd L=>d=.returned (.bool true)/\ag c L:=by
 obtain⟨cU,r,t,u,v,⟨w,x,y⟩⟩:=K;obtain⟨a,L⟩:=aq (⟨3,r,t,u,v,⟨w,x,y⟩⟩:Cg);have bY:Hid (a.cells=[.int .i64 3,.string r,.string t,.string u,.int .i64 v,.int .i64 w,.int .i64 x,.string y]):=Z (by rw[L];rfl);have bZ:a.kind=3:=by rw[L]
 have aI:aG a.name:=by rw[L];exact bW
 have M:aG a.dflt.s:=by rw[L];exact bX
 have cV:=Z (λb (e:ag c b)=>FQ b (X.same e) (aT Y e.size));obtain⟨j,g⟩:=aq (ek (ba o) []);obtain⟨b0,aK⟩:=aq (ek (ba o) [a]);have b1:=Z (λb (e:ag c b)=>o0 o b aH (X.same e) (aT Y e.size));simp only[<-g]at b1;have b2:=Z (λb (e:ag c b) (h:Hd) (f:aF b 8 h Cg.cells [a])=>wK o h [a] b aH (X.same e) (aT Y e.size) f (λK b=>by rw[aA b];exact⟨aI,M⟩) ai);simp only[<-aK]at b2;have b3:=Z (show gU j.1.tabs 0 by rw[g];exact J0 _);have b5:=Z (show j.2=[]->(dj j.1.tabs a≠0->b0=(Su.zero,[(dj j.1.tabs a,-1)]))/\(dj j.1.tabs a=0->b0=({j.1 with tabs:=gC j.1.tabs a},[])) by rw[g,aK];exact λh=>J7 h bZ);have b6:=Tryz.lg;have cW:=Z aI;have cX:=Z M;clear g aK aH X Y bW bX L bZ aI M;show Calls Tryz.prog 9 #[o,.agg #[cU,r,t,u,v,w,x,y]] c _;go_enter Tryz.func9,Tryz.ntmps9
 go_upto_region 1 with(fail)
 obtain⟨wc,K,b8,aL,-⟩:=nb c 99 _;rw[K];clear K;go_wp2_with fail
 refine(cV.out wc aL.out).mono ?_;rintro d b9 ⟨rfl,aM⟩;have aN:=Z (aL.out.trans aM);have N:=qb (Z aM) b8;clear aM b8 aL;by_cases ad:(3000:Int)<(o.size:Int)
 case pos=>
  go_wp2;go_ret;exact⟨rfl,aN.out⟩
 have M:decide ((3000:Int)<(o.size:Int))=false:=by simpa using ad
 clear ad;have cY:=λo=>J.frozen N o;have P:=az N;have cZ:=J.lt N;go_upto_region 5 with(fail)
 have o:=Z (jB N (O 3));have K:=Kp.aE (p:=(am c 0)) (l:=[c.heap.size]) ai (Kp.refl [c.heap.size] b9) (O 3);have ah:=Z (K.g4 aN.out (λb b=>by rw[aA b];exact Nat.le_refl _));obtain⟨ca,L⟩:=aq (b9.setCell (am c 0) (O 3));rw[<-L]at o ah⊢;clear L K cY P cZ N aN M;have cb:Hid (J ca c.heap.size 99 #[O 3,r,t,u,v,w,x,y]):=o;clear o;go_wp2_with fail
 refine(b1.out ca ah.out).mono ?_;rintro d Q ⟨aO,c0,c1,R,⟨h,aj,b,S,cc,ce⟩,⟨⟨o,al,K⟩,T,V,aP⟩⟩;have aQ:d=.returned (.tuple #[.agg (bz h b),U o al K]):=by
  rw[R,S,T];rfl
 clear R T S aP;subst aQ;have o:j.2.length=al:=V.1;have cf:=Z o;have cg:=Z cc;clear cc V o;go_upto_region 6 with(first|(refine wpList_store_row rfl 37 (.tmp 6) (.tmp 21) rfl Q.heap.size (bz h b) rfl rfl 37 #[aa,aa,aa,aa,aa,aa,aa] (fx Q (.cells #[aa,aa,aa,aa,aa,aa,aa] 37)) b6 rfl (jz h b) ?_;rw[World.setRow_alloc_new])|fail)
 obtain⟨aR,K,c2,o,-⟩:=nb Q 37 (bz h b);rw[K];clear K;try rw[oX]
 have ch:=Z (ah.out.trans (aO.trans o.out));have q:=qb (Z (aO.trans o.out)) cb;have ci:=Z (ce.same o.out);clear ce aO ah o cb;by_cases D:j.2=[]
 case neg=>
  have e:0<al:=by rw[<-cf.out];exact List.length_pos_iff.2 D
  have e:=Z D;clear D;go_wp2;go_ret;exact⟨rfl,ch.out⟩
 have c3:al=0:=by rw[<-cf.out,D];rfl
 subst c3;have aS:aj.map RT.tb=j.1.tabs:=congrArg Su.tabs cg.out;have an:=b5.out D;rw[<-aS]at an;have cj:=v8 aS b3.out ae;obtain⟨B,aU⟩:=aq (dj (aj.map RT.tb) a);rw[<-aU]at an;have ck:=Z an;obtain⟨F,G,E⟩:=h;have c4:Hid (∀e,ag aR e->Calls Tryz.prog 31 #[.agg #[U F G E],.agg #[O 3,r,t,u,v,w,x,y]] e λd f=>ag e f/\∃e:Hd,d=.returned (.tuple #[.agg #[e.val],B])/\(B=0->∃i:List RT,bI f e i/\i.map RT.tb=gC (aj.map RT.tb) a)):=Z (λC k=>by
  have h:=JS ⟨F,G,E⟩ aj a C (bI.same ci.out.ta k) cj cW.out cX.out;unfold Cg.val at h;rw[bY.out,<-aU]at h;refine h.mono (λd j i=>⟨i.2,?_⟩);rcases i.1 with⟨e,f⟩|⟨e,n,z,f,ad,A⟩
  ·exact⟨aJ,f,λi=>absurd i e⟩
  exact⟨n,by rw[f,e],λ_=>⟨z,ad,A⟩⟩)
 clear aU an b5 cj aS D b3;have cl:Hid (J aR Q.heap.size 37 #[U F G E,b.h1.val,b.h2.val,b.h3.val,b.h4.val,b.h5.val,b.h6.val]):=c2;have aV:=az cl;have P:=az q;have aW:=aY q;have aX:=bh q;have aZ:=bj q;have a0:=bn q;have a1:=bQ q;have a2:=cd q;have a3:=b7 q;go_wp2_with fail
 refine(c4.out aR (ag.refl _)).mono ?_;rintro d ao ⟨a4,ap,rfl,cm⟩;have c5:=Z cm;clear cm;have cn:=qb (Z a4) q;clear aV P aW aX aZ a0 a1 a2 a3;go_upto_region 9 with(first|(refine wpList_store_row rfl 29 (.tmp 8) (.tmp 32) rfl ao.heap.size #[ap.val] rfl rfl 29 #[aa] (J.new ao 29 #[aa]) ak rfl (by simp[Hd.val,Value.oneCell']) ?_;rw[World.setRow_alloc_new])|fail)
 obtain⟨H,j,c6,a5,-⟩:=nb ao 29 #[ap.val];rw[j];clear j;try rw[oX]
 have co:=Z (a4.trans a5.out);have cp:=Z (ch.out.trans co.out);have j:=qb a5 cn;clear a4 cn;have P:=az j;have aW:=aY j;have aX:=bh j;have aZ:=bj j;have a0:=bn j;have a1:=bQ j;have a2:=cd j;have a3:=b7 j;have cq:=Z (show ag c (H.alloc (.cells #[O 3,r,t,u,v,w,x,y] 99))from cp.out.alloc _);have cr:Hid (aF (H.alloc (.cells #[O 3,r,t,u,v,w,x,y] 99)) 8 ⟨some ⟨H.heap.size,0,none⟩,1,1⟩ Cg.cells [a]):=Z (by
  have h:=cF (enc:=Cg.cells) (m:=8) (h:=⟨some ⟨H.heap.size,0,none⟩,1,1⟩) (xs:=[a]) (λ_=>rfl) rfl ai (ie H a.cells.toArray 99 8 0 rfl (Nat.zero_le _));rw[bY.out]at h;exact h)
 go_wp2_with fail
 refine(b2.out _ cq.out _ cr.out).mono ?_;rintro d ar ⟨cs,c0,c1,R,⟨I,c7,i,S,ct,cu⟩,⟨⟨cv,a6,a⟩,T,V,aP⟩⟩;have aQ:d=.returned (.tuple #[.agg (bz I i),U cv a6 a]):=by
  rw[R,S,T];rfl
 clear R T S aP;subst aQ;have cw:=Z V;have c8:=Z ct;clear ct V P aW aX aZ a0 a1 a2 a3;go_upto_region 10 with(first|(refine wpList_store_row rfl 37 (.tmp 10) (.tmp 39) rfl ar.heap.size (bz I i) rfl rfl 37 #[aa,aa,aa,aa,aa,aa,aa] (fx ar (.cells #[aa,aa,aa,aa,aa,aa,aa] 37)) b6 rfl (jz I i) ?_;rw[World.setRow_alloc_new])|fail)
 obtain⟨e,c,c9,a,-⟩:=nb ar 37 (bz I i);rw[c];clear c;try rw[oX]
 have au:=Z (((ag.refl H).alloc (.cells #[O 3,r,t,u,v,w,x,y] 99)).trans (cs.trans a.out));have cx:=Z (cp.out.trans au.out);have c:=Z (co.out.trans au.out);have cy:=Z (ci.out.same c.out);have a7:=Z (cu.same a.out);have a8:=qb au c6;have a9:=qb c cl;have av:=Z (cw.out.same a.out);clear cs cu a cw cq cr;by_cases W:B=0
 case neg=>
  have g:=ck.out.1 W;rw[g]at av;have ax:a6=1:=av.out.1.symm;subst ax;obtain⟨f,n,A,_,z⟩:=av.out.2.2 0 ai;have ay:cv=some ⟨f,n,none⟩:=A;subst ay;have a:ac e (ab f n) B:=by have h:=z 0 _ rfl;simpa using h
  have a:ac e (ab f (n+1)) (O (-1)):=by have h:=z 1 _ rfl;simpa using h
  have a:(B !=0)=true:=by simpa using W
  have a:(B==B)=true:=ai
  have a:=Z W;clear A z g W;go_wp2;go_ret;exact⟨rfl,cx.out⟩
 subst W;obtain⟨da,cz,cA⟩:=c5.out rfl;have g:=ck.out.2 rfl;have db:a6=0:=by have h:=av.out.1;rw[g]at h;exact h.symm
 subst db;have f:=c8.out;rw[g]at f;have n:=cg.out;have a:c7.map RT.tb=da.map RT.tb:=by rw[cA];exact congrArg Su.tabs f
 obtain⟨c,j⟩:=Ki a;have o:b.os=i.os:=(congrArg Su.origins n).trans (congrArg Su.origins f).symm;have q:b.bs=i.bs:=(congrArg Su.blocks n).trans (congrArg Su.blocks f).symm;have r:b.ms.map ei.mt=i.ms.map ei.mt:=(congrArg Su.kG n).trans (congrArg Su.kG f).symm;have t:b.ks=i.ks:=(congrArg Su.keeps n).trans (congrArg Su.keeps f).symm;have u:b.rs.map cG.ru=i.rs.map cG.ru:=(congrArg Su.rules n).trans (congrArg Su.rules f).symm;have v:b.qs.map eu.qy=i.qs.map eu.qy:=(congrArg Su.queries n).trans (congrArg Su.queries f).symm;have w:=cz.same (a5.out.trans au.out);have bb:=Z (λC (k:ag e C)=>Kh (h:=I) (h2:=ap) (bI.same a7.out.ta k) (w.same k) c j);have bc:=Z (λC (k:ag e C)=>Kg (cy.out.same k) (a7.out.same k) o q r t u);have bd:=Z (λC (k:ag e C)=>Kb (cy.out.same k) (a7.out.same k) v);clear a c j o q r t u v n f g cz cA w;obtain⟨ax,ay,aB⟩:=I;obtain⟨cB,cC,cD⟩:=ap;obtain⟨⟨be,bf,bg⟩,⟨bi,bk,bl⟩,⟨bm,bo,bp⟩,⟨bq,br,bt⟩,⟨bu,bv,bw⟩,⟨bx,bA,bB⟩,dg,dh,di,dk,dl,dm⟩:=b;obtain⟨⟨bC,bD,bE⟩,⟨bF,bG,bH⟩,⟨bJ,bK,bL⟩,⟨bM,bN,bO⟩,⟨bP,bR,bS⟩,⟨bT,bU,bV⟩,dn,dp,dq,dr,ds,dt⟩:=i;replace bb:Hid (Rt 28 #[.agg #[U ax ay aB],.agg #[U cB cC cD],.bool false] e (.bool true)):=bb;replace bc:Hid (Rt 29 #[.agg #[U F G E,U be bf bg,U bi bk bl,U bm bo bp,U bq br bt,U bu bv bw,U bx bA bB],.agg #[U ax ay aB,U bC bD bE,U bF bG bH,U bJ bK bL,U bM bN bO,U bP bR bS,U bT bU bV]] e (.bool true)):=bc;replace bd:Hid (Rt 30 #[.agg #[U F G E,U be bf bg,U bi bk bl,U bm bo bp,U bq br bt,U bu bv bw,U bx bA bB],.agg #[U ax ay aB,U bC bD bE,U bF bG bH,U bJ bK bL,U bM bN bO,U bP bR bS,U bT bU bV]] e (.bool true)):=bd;replace a9:Hid (J e Q.heap.size 37 #[U F G E,U be bf bg,U bi bk bl,U bm bo bp,U bq br bt,U bu bv bw,U bx bA bB]):=a9;have cE:Hid (J e ar.heap.size 37 #[U ax ay aB,U bC bD bE,U bF bG bH,U bJ bK bL,U bM bN bO,U bP bR bS,U bT bU bV]):=c9;replace a8:Hid (J e ao.heap.size 29 #[U cB cC cD]):=a8;have aV:=az cE;have dc:=az a8;go_wp2_with fail
 refine(bb.out e (ag.refl _)).mono ?_;rintro d dd ⟨rfl,cH⟩;have aC:=Z cH;have z:=qb aC a9;have A:=qb aC cE;clear aV dc cH;have cI:=az z;have e0:=az A;have cJ:=aY z;have n:=aY A;have cK:=bh z;have f:=bh A;have cL:=bj z;have cM:=bj A;have cN:=bn z;have cO:=bn A;have cP:=bQ z;have cQ:=bQ A;have cR:=cd z;have cS:=cd A;go_wp2_with fail
 refine(bc.out dd aC.out).mono ?_;rintro d de ⟨rfl,aD⟩;have cT:=Z (aC.out.trans aD);have a:=qb (Z aD) z;have b:=qb (Z aD) A;clear cI e0 cJ n cK f cL cM cN cO cP cQ cR cS aD;have cI:=az a;have e0:=az b;have cJ:=aY a;have n:=aY b;have cK:=bh a;have f:=bh b;have cL:=bj a;have cM:=bj b;have cN:=bn a;have cO:=bn b;have cP:=bQ a;have cQ:=bQ b;have cR:=cd a;have cS:=cd b;go_wp2_with fail
 refine(bd.out de cT.out).mono ?_;rintro d a ⟨rfl,df⟩;go_wp2;go_ret;exact⟨rfl,cx.out.trans (cT.out.trans df)⟩
end Go.Proofs.YteamkimbmdgdbaaGreatDoor
namespace Go.Proofs.YteamkimbmdgdbaaGreatDoor
open Go.ChangeShapes Go.WideShapes Go.Deep Go.RowKit
theorem Kk {a:Int} (h:(Lit.int .i64 a).wf=true):-9223372036854775808<=a/\a<=9223372036854775807:=by
 simp[Lit.wf,IntKind.min,IntKind.max,IntKind.bits,IntKind.signed]at h;omega
section
variable {H:Type} {ec:TypeId×Value->H} {w:af} {base:Nat} {spare:Nat->Bool} {held:Bool} {fuel:Nat}
theorem JG:Tryz.prog.cellsOf 3=1:=ak
theorem JH:Tryz.prog.cellsOf 9=1:=ak
theorem JI:Tryz.prog.cellsOf 66=3:=ak
theorem Kl:Tryz.prog.cellsOf 99=8:=ak
theorem Km {a:aw} (h:a.size<=maxLen):aG a:=by unfold aG;unfold maxLen at h;omega
def IT (a:Int):Prop:=-9223372036854775808<=a/\a<=9223372036854775807
theorem I1 {b:bg} {a:DataW H×List MemPlace} (h:DataW.trod ec Tryz.prog w base spare held fuel 9 b=some a):∃a:ByteArray,b=dF a/\aG a:=by
 obtain⟨a,b,_,c⟩:=DataW.trod_string Tryz.underlying9 h;exact⟨a,b,Km (by simpa[maxLen]using c)⟩
theorem I3 {b:bg} {a:DataW H×List MemPlace} (h:DataW.trod ec Tryz.prog w base spare held fuel 3 b=some a):∃a:Int,b=cj a/\IT a:=by
 obtain⟨a,b,_,c⟩:=DataW.trod_int Tryz.underlying3 h;exact⟨a,b,Kk c⟩
theorem Kn {a:bg} {b:DataW H×List MemPlace} (h:DataW.trod ec Tryz.prog w base spare held fuel 66 a=some b):∃v:V,a=v.cells/\aG v.s/\IT v.k/\IT v.n:=by
 obtain⟨b,c,_,_,f,g,d⟩:=DataW.trod_struct Tryz.underlying66 h;rw[JI]at f;have e:∀e,e<3->∃m,b[e]?=some m:=λe e=>⟨_,List.getElem?_eq_getElem (by rw[g];exact e)⟩;obtain⟨g,e0⟩:=e 0 ae;obtain⟨g,m⟩:=e 1 ae;obtain⟨e,o⟩:=e 2 ae;have e:DataW.trod ec Tryz.prog w base spare held c 3 ((a.drop 0).take (Tryz.prog.cellsOf 3))=b[0]?:=d 0 _ rfl;have g:DataW.trod ec Tryz.prog w base spare held c 3 ((a.drop 1).take (Tryz.prog.cellsOf 3))=b[1]?:=d 1 _ rfl;have b:DataW.trod ec Tryz.prog w base spare held c 9 ((a.drop 2).take (Tryz.prog.cellsOf 9))=b[2]?:=d 2 _ rfl;rw[JG]at e g;rw[JH]at b;obtain⟨p,i,q⟩:=I3 (e.trans e0);obtain⟨r,j,t⟩:=I3 (g.trans m);obtain⟨u,l,x⟩:=I1 (b.trans o);match a,f with
 |[c0,c1,c2],_=>
  simp[cj,dF]at i j l;exact⟨⟨p,r,u⟩,by simp[V.cells,i,j,l],x,q,t⟩
end
section
variable {H:Type} {ec:TypeId×Value->H} {w:af} {base:Nat} {spare:Nat->Bool} {held:Bool} {r:Reach} {b0:Nat} {v:ay} {d:DataW H} {ps:List MemPlace}
theorem Ko (c:Value.okWide Tryz.prog w r b0 99 v) (h:DataW.Trod ec Tryz.prog w base spare held 99 v d ps):
 ∃a:Cg,v=a.val/\aG a.table/\aG a.attr/\aG a.name/\aG a.dflt.s/\IT a.kind/\IT a.dE:=by
 obtain⟨b,rfl,g⟩:=okWide_struct Tryz.underlying99 c;rw[Kl]at g;obtain⟨fuel,e⟩:=h;obtain⟨a,c,_,_,f,i,e⟩:=DataW.trod_struct Tryz.underlying99 e;have f:∀f,f<6->∃j,a[f]?=some j:=λf f=>⟨_,List.getElem?_eq_getElem (by rw[i];exact f)⟩;obtain⟨i,e0⟩:=f 0 ae;obtain⟨i,u⟩:=f 1 ae;obtain⟨i,x⟩:=f 2 ae;obtain⟨i,y⟩:=f 3 ae;obtain⟨i,z⟩:=f 4 ae;obtain⟨f,A⟩:=f 5 ae;have f:DataW.trod ec Tryz.prog w base spare held c 3 (((Value.agg b).cells.toList.drop 0).take (Tryz.prog.cellsOf 3))=a[0]?:=e 0 _ rfl;have i:DataW.trod ec Tryz.prog w base spare held c 9 (((Value.agg b).cells.toList.drop 1).take (Tryz.prog.cellsOf 9))=a[1]?:=e 1 _ rfl;have j:DataW.trod ec Tryz.prog w base spare held c 9 (((Value.agg b).cells.toList.drop 2).take (Tryz.prog.cellsOf 9))=a[2]?:=e 2 _ rfl;have k:DataW.trod ec Tryz.prog w base spare held c 9 (((Value.agg b).cells.toList.drop 3).take (Tryz.prog.cellsOf 9))=a[3]?:=e 3 _ rfl;have l:DataW.trod ec Tryz.prog w base spare held c 3 (((Value.agg b).cells.toList.drop 4).take (Tryz.prog.cellsOf 3))=a[4]?:=e 4 _ rfl;have a:DataW.trod ec Tryz.prog w base spare held c 66 (((Value.agg b).cells.toList.drop 5).take (Tryz.prog.cellsOf 66))=a[5]?:=e 5 _ rfl;rw[JG]at f l;rw[JH]at i j k;rw[JI]at a;obtain⟨B,m,C⟩:=I3 (f.trans e0);obtain⟨D,n,E⟩:=I1 (i.trans u);obtain⟨F,o,G⟩:=I1 (j.trans x);obtain⟨H,p,I⟩:=I1 (k.trans y);obtain⟨J,q,K⟩:=I3 (l.trans z);obtain⟨L,t,M,-⟩:=Kn (a.trans A);obtain⟨N⟩:=b;match N,g with
 |[c0,c1,c2,c3,c4,c5,c6,c7],_=>
  simp[cj,dF,V.cells,Value.cells]at m n o p q t;refine⟨⟨B,D,F,H,J,L⟩,?_,E,G,I,M,C,K⟩;obtain⟨O,P,Q⟩:=t;subst m n o p q O P Q;rfl
end
end Go.Proofs.YteamkimbmdgdbaaGreatDoor

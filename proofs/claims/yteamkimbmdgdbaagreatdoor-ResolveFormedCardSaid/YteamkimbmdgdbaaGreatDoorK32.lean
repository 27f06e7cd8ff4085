import Derived.Test.YteamkimbmdgdbaaGreatDoorK30
import Derived.Test.YteamkimbmdgdbaaGreatDoorK31
set_option linter.unusedSimpArgs false
set_option linter.unusedVariables false
set_option maxHeartbeats 16000000
set_option maxRecDepth 100000
namespace Go.Proofs.YteamkimbmdgdbaaGreatDoor
open Go.RowKit
theorem F2 {a:List aI} {b:List Cg} (h:(cP a b).2≠[]):(cP a b).1=Su.zero:=by
 unfold cP at*;split
 ·rename_i a
  rw[if_pos a]at h;dsimp only at h⊢;split
  ·rfl
  rename_i a a
  rw[a]at h;dsimp only at h⊢;split
  ·rename_i a
   rw[if_pos a]at h;exact absurd rfl h
  rfl
 rfl
theorem F3 {l:bL} (h:(ek l []).2≠[]):(ek l []).1=Su.zero:=by
 unfold ek lh at*;split
 ·rfl
 rename_i a a a
 rw[a]at h;dsimp only at h;rw[if_pos (.inr rfl)]at h⊢;exact F2 h
theorem F4 {l:bL} (h:(ek l []).2=[]):eK (ek l []).1.tabs=true/\hO (ek l []).1:=by
 unfold ek lh at*;split
 ·rename_i a a a
  rw[a]at h;cases h
 rename_i a a a
 rw[a]at h;dsimp only at h;rw[if_pos (.inr rfl)]at h⊢;exact FY h
theorem F5 {a:cc} {b:List Tb} (h:a.su b=Su.zero):b=[]/\a.rs=[]:=by
 have b:b=[]:=congrArg Su.tabs h;have a:a.rs.map cG.ru=[]:=congrArg Su.rules h;exact⟨b,List.map_eq_nil_iff.1 a⟩
theorem wX {g:Int}:∀(f:List dl) (e a:List At),fy g e f=.ok a->(∀b∈e,b.was.length<=0)->∀b∈a,b.was.length<=0
 |[],e,a,h,hl=>by
  rw[fy]at h;injection h with h
  subst h;exact hl
 |c::f,e,a,h,hl=>by
  rw[fy]at h;obtain⟨_,h⟩:=RO.ce h;obtain⟨_,h⟩:=RO.ce h;obtain⟨_,h⟩:=RO.ce h;obtain⟨_,h⟩:=RO.ce h;refine wX f _ a h (λb d=>?_);rcases gA d with d|d
  ·exact hl b d
  subst d;exact Nat.le_refl _
theorem wY:∀(d:List aI) (b:List Tb) (e:cI) (f:List (Int×Int)),gU b 0->gU (ep b e f d).1 0
 |[],b,e,f,h=>by rw[ep];exact h
 |x::d,b,e,f,h=>by
  rw[p0];refine wY d _ _ _ ?_;unfold fI;split
  ·exact h
  split
  ·cases a:fL b x with
   |ok j=>
    intro g c;rcases gA c with c|c
    ·exact h g c
    subst c;unfold fL at a;obtain⟨_,a⟩:=RO.ce a;obtain⟨b,i,a⟩:=RO.ct a;obtain⟨_,a⟩:=RO.ce a;obtain⟨b,_,a⟩:=RO.ct a;injection a with a
    subst a;exact wX _ _ _ i ai
   |bad c g=>exact h
  exact h
theorem o1:∀(b:List ((Int×Int)×aI)) (a:Su) (c:List (Int×Int)),(eM a c b).1.tabs=a.tabs
 |[],a,c=>rfl
 |(g,x)::b,a,c=>by
  rw[eM];split
  ·cases hp:db a x with
   |ok d=>exact(o1 b d c).trans (r5 hp).tabs
   |bad d e=>
    dsimp only;split
    ·exact o1 b a c
    exact o1 b a _
  exact o1 b a _
theorem F6 (c:List aI):gU (cP c []).1.tabs 0:=by
 have b:gU Su.zero.tabs 0:=λd a=>by cases a
 unfold cP;split
 ·dsimp only
  rw[fS];dsimp only;split
  ·rw[o1]
   exact wY _ _ _ _ (λd a=>by cases a)
  exact b
 exact b
theorem F7 (l:bL):gU (ek l []).1.tabs 0:=by
 unfold ek lh;split
 ·exact λb a=>by cases a
 rw[if_pos (.inr rfl)];exact F6 _
theorem F8 (aE:aw) (w:af) (bp:aG aE) (a5:b4 w ⟨some ⟨0,0,none⟩,10,10⟩ fb) (a6:0<w.heap.size):
 Calls Tryz.prog 5 #[aE] w λar aN=>ar=.returned (.bool true)/\ag w aN:=by
 have a7:=Z (FQ w a5 a6);obtain⟨an,aN⟩:=aq (ek (ba aE) []);have bq:=Z (λa (c:ag w a)=>o0 aE a bp (a5.same c) (aT a6 c.size));simp only[<-aN]at bq;have ce:=Z (show gU an.1.tabs 0 by rw[aN];exact F7 _);have cf:=Z (λ(h:an.2≠[])=>(show an.1=Su.zero by rw[aN]at h⊢;exact F3 h));have cg:=Z (λ(h:an.2=[])=>(show eK an.1.tabs=true/\hO an.1 by rw[aN]at h⊢;exact F4 h));have br:=Tryz.lg;clear aN bp a5 a6;go_enter Tryz.func5,Tryz.ntmps5
 go_wp2_with fail
 refine a7.mono ?_;rintro ar ch ⟨rfl,aV⟩;by_cases bs:(3000:Int)<(aE.size:Int)
 case pos=>
  go_wp2;go_ret;exact⟨rfl,aV⟩
 have aE:decide ((3000:Int)<(aE.size:Int))=false:=by simpa using bs
 clear bs;go_wp2_with fail
 refine(bq ch aV).mono ?_;rintro ar i ⟨bt,aE,aE,aE,⟨h,x,au,aN,bu,bv⟩,⟨⟨a6,aW,bp⟩,a5,bw,bq⟩⟩;have ci:ar=.returned (.tuple #[.agg (bz h au),U a6 aW bp]):=by
  rw[aE,aN,a5];rfl
 clear aE a5 aN bq;subst ci;have aE:an.2.length=aW:=bw.1;have bx:=jz h au;have bA:=fx i (.cells #[aa,aa,aa,aa,aa,aa,aa] 37);have bB:=World.setRow_alloc_new i #[aa,aa,aa,aa,aa,aa,aa] (bz h au) 37;have a8:=Z (show ag i (i.alloc (.cells (bz h au) 37))from(ag.refl i).alloc _);have bC:=Z (J.new i 37 (bz h au));have aX:=Z bu;have bD:=Z aE;clear bu bw aE;go_upto_region 5 with(first|(refine wpList_store_row rfl 37 (.tmp 4) (.tmp 24) rfl i.heap.size (bz h au) rfl rfl 37 #[aa,aa,aa,aa,aa,aa,aa] bA br rfl bx ?_;rw[bB])|fail)
 obtain⟨a9,aE⟩:=aq (i.alloc (.cells (bz h au) 37));rw[<-aE]at a8 bC⊢;clear aE bA bB bx br;try rw[oX]
 have bE:=Z (aV.trans (bt.trans a8));have j:=Z (bv.same a8);clear bv bt aV;obtain⟨ao,N,ap⟩:=h;obtain⟨⟨bF,bG,bH⟩,⟨bb,P,bI⟩,⟨bc,Q,bJ⟩,⟨bd,R,bK⟩,⟨be,y,bL⟩,⟨bO,bP,bR⟩,cj,aA,aO,aB,aC,ck⟩:=au;have z:Hid (J a9 i.heap.size 37 #[U ao N ap,U bF bG bH,U bb P bI,U bc Q bJ,U bd R bK,U be y bL,U bO bP bR]):=bC;have cl:=az z;have au:=bQ z;have aD:=J.lt z;by_cases aF:an.2=[]
 case neg=>
  have g:0<aW:=by rw[<-bD.out];exact List.length_pos_iff.2 aF
  have a:=F5 (aX.trans (cf aF));have c:x.length=N:=j.ta.1.1;have d:aC.length=y:=j.l5.1;have e:=List.map_eq_nil_iff.1 a.1;have f:aC=[]:=a.2;subst e f;have c:0=N:=c;have d:0=y:=d;subst c d;clear aF a;go_wp2;go_ret;exact⟨rfl,bE⟩
 have cm:aW=0:=by rw[<-bD.out,aF];rfl
 subst cm;obtain⟨au,aE⟩:=cg aF;have aY:Hid (hO ((⟨⟨bF,bG,bH⟩,⟨bb,P,bI⟩,⟨bc,Q,bJ⟩,⟨bd,R,bK⟩,⟨be,y,bL⟩,⟨bO,bP,bR⟩,cj,aA,aO,aB,aC,ck⟩:cc).su (x.map RT.tb))):=Z (by rw[aX.out];exact aE);have aN:=Z (show eK (x.map RT.tb)=true by
  have a:x.map RT.tb=an.1.tabs:=congrArg Su.tabs aX;rw[a];exact au)
 have bS:=Z (vL ⟨ao,N,ap⟩ x a9 j.ta (v8 (congrArg Su.tabs aX) ce ae));rw[aN.out]at bS;clear aF au aE;have av:=Z (λ(a c:Int) (e:ev (x.map RT.tb) a c) d (f:ag a9 d)=>wW ⟨ao,N,ap⟩ x a c d (j.ta.same f) e);have cl:=az z;go_wp2_with fail
 refine bS.mono ?_;rintro ar bT ⟨rfl,cn⟩;go_upto_region 9 with(fail)
 go_loopg [6,7] (P+1) (λc d e f=>∃a:Nat,d=.bool true/\e=.int .i64 a/\a<=P/\P-a<c/\Hid (ag bT f))
 case atStart=>exact⟨0,rfl,rfl,by omega,by omega,Z (ag.refl bT)⟩
 case round=>
 obtain⟨a,rfl,rfl,aH,S,d⟩:=hrel;have t:=Z S;clear S;have e:=Z (cn.trans d);have aI:aA.length=P:=j.l2.1;have aK:P<=9223372036854775807:=j.l2.2.1;by_cases aL:a<P
 case pos=>
  have f:(a:Int)<(P:Int):=ae
  have q:a<aA.length:=ae
  obtain⟨g,n,hA1,F,f⟩:=(j.l2.same e).2.2 a q;have hA2:bb=some ⟨g,n,none⟩:=hA1;obtain⟨s,g⟩:=aq (aA[a].table);obtain⟨u,n⟩:=aq (aA[a].col);have B:ev (x.map RT.tb) s u:=by
   rw[g,n];exact aY.b _ (List.getElem_mem q)
  have o:=f 1 (O aA[a].table) rfl;have c:=f 2 (O aA[a].col) rfl;rw[<-g]at o;rw[<-n]at c;try simp only[Nat.add_zero]at o c
  clear f hA1 g n;subst hA2;have f:=qb e z;have g:=az f;have f:=bh f;have g:=bM g;have f:=bM f;have f:=bM o;have f:=bM c;have C:=gX (w:=wr) (λf g=>av s u B f (e.trans g));go_upto_region 11 with(fail)
  clear c;refine wp_region_quiet_below ak ak ?_;repeat (go_big_quiet_step (first|(go_at_call 23;exact C _ _)))
  refine wpQuiet_nil ?_;intro _ D;obtain⟨⟨v,osq⟩,E⟩:=D;subst E;have A:=Z (ag.reg wr v osq);generalize Sort.grow (redrawn wr v) osq=G at A⊢;go_wp2;go_roundg (P-a)
  case measure=>have:=t.out;omega
  exact⟨a+1,rfl,by go_num,by omega,by have:=t.out;omega,Z (d.out.trans A.out)⟩
 case neg=>
 have u:¬(a:Int)<(P:Int):=ae
 have A:=qb e z;have P:=bh A;go_upto_region 13 with(fail)
 clear u aL aI aH aK;obtain⟨bU,rfl⟩:∃v:World,v=wr:=⟨_,rfl⟩;have co:=e;clear d;go_loopg [6,8] (R+1) (λc f g n=>∃a:Nat,f=.bool true/\g=.int .i64 a/\a<=R/\R-a<c/\Hid (ag bU n))
 case atStart=>exact⟨0,rfl,rfl,by omega,by omega,Z (ag.refl bU)⟩
 case round=>
 obtain⟨a,rfl,rfl,aH,S,d⟩:=hrel;have t:=Z S;clear S;have e:=Z (co.trans d);have aI:aB.length=R:=j.l4.1;have aK:R<=9223372036854775807:=j.l4.2.1;by_cases aL:a<R
 case pos=>
  have f:(a:Int)<(R:Int):=ae
  have u:a<aB.length:=ae
  obtain⟨g,n,hA1,H,f⟩:=(j.l4.same e).2.2 a u;have hA2:bd=some ⟨g,n,none⟩:=hA1;obtain⟨q,g⟩:=aq (aB[a].table);obtain⟨s,n⟩:=aq (aB[a].col);have D:ev (x.map RT.tb) q s:=by
   rw[g,n];exact aY.k _ (List.getElem_mem u)
  have o:=f 0 (O aB[a].table) rfl;have c:=f 1 (O aB[a].col) rfl;rw[<-g]at o;rw[<-n]at c;try simp only[Nat.add_zero]at o c
  clear f hA1 g n;subst hA2;have A:=qb e z;have f:=az A;have g:=bn A;have f:=bM f;have f:=bM g;have f:=bM o;have f:=bM c;have E:=gX (w:=wr) (λf g=>av q s D f (e.trans g));go_upto_region 15 with(fail)
  clear c;refine wp_region_quiet_below ak ak ?_;repeat (go_big_quiet_step (first|(go_at_call 23;exact E _ _)))
  refine wpQuiet_nil ?_;intro _ F;obtain⟨⟨B,osq⟩,G⟩:=F;subst G;have C:=Z (ag.reg wr B osq);generalize Sort.grow (redrawn wr B) osq=I at C⊢;go_wp2;go_roundg (R-a)
  case measure=>have:=t.out;omega
  exact⟨a+1,rfl,by go_num,by omega,by have:=t.out;omega,Z (d.out.trans C.out)⟩
 case neg=>
 have u:¬(a:Int)<(R:Int):=ae
 have A:=qb e z;have P:=bn A;go_upto_region 17 with(fail)
 clear u aL aI aH aK;obtain⟨bV,rfl⟩:∃v:World,v=wr:=⟨_,rfl⟩;have cp:=e;clear d;go_loopg [6,9] (Q+1) (λc f g n=>∃a:Nat,f=.bool true/\g=.int .i64 a/\a<=Q/\Q-a<c/\Hid (ag bV n))
 case atStart=>exact⟨0,rfl,rfl,by omega,by omega,Z (ag.refl bV)⟩
 case round=>
 obtain⟨a,rfl,rfl,aH,S,d⟩:=hrel;have t:=Z S;clear S;have e:=Z (cp.trans d);have aI:aO.length=Q:=j.l3.1;have aK:Q<=9223372036854775807:=j.l3.2.1;by_cases aL:a<Q
 case pos=>
  have L:(a:Int)<(Q:Int):=ae
  have u:a<aO.length:=ae
  obtain⟨n,B,hA1,I,g⟩:=(j.l3.same e).2.2 a u;have hA2:bc=some ⟨n,B,none⟩:=hA1;have o:=Z (j.m _ (List.getElem_mem u));have K:=Z (aY.m (aO[a].mt) (List.mem_map.2 ⟨_,List.getElem_mem u,rfl⟩));obtain⟨aj,L⟩:=aq (aO[a]);rw[<-L]at g o K;clear L;obtain⟨a1,C,a2,⟨M,c,al⟩,q⟩:=aj;have D:ac wr (ab n (B+a*4+1)) C:=g 1 _ rfl;have E:ac wr (ab n (B+a*4+3)) (U M c al):=g 3 _ rfl;have B:q.length=c:=o.l.1;have B:c<=9223372036854775807:=o.l.2.1;clear g hA1;subst hA2;have A:=qb e z;have F:=az A;have G:=bj A;go_upto_region 20 with(fail)
  have ax:=Z D;have ay:=Z E;have aM:=Z F;have aP:=Z G;obtain⟨T,rfl⟩:∃v:World,v=wr:=⟨_,rfl⟩;have H:=e;have aQ:=d;clear d;go_loopg [6,10] (c+1) (λs B L P=>∃f:Nat,B=.bool true/\L=.int .i64 f/\f<=c/\c-f<s/\Hid (ag T P))
  case atStart=>exact⟨0,rfl,rfl,by omega,by omega,Z (ag.refl T)⟩
  case round=>
  obtain⟨f,rfl,rfl,a3,V,d⟩:=hrel;have W:=Z V;clear V;have e:=Z (H.trans d);have F:=(d.cell (p:=(am i 0)) (aT aD H.size)).trans aM;have G:=(d.cell (p:=(am i 3)) (aT aD H.size)).trans aP;have D:=(d.cell (p:=⟨n,_,none⟩) I).trans ax;have E:=(d.cell (p:=⟨n,_,none⟩) I).trans ay;by_cases n:f<c
  case pos=>
   have n:(f:Int)<(c:Int):=ae
   have B:f<q.length:=ae
   obtain⟨n,H,o,I,g⟩:=(o.l.same e).2.2 f B;have aR:M=some ⟨n,H,none⟩:=o;obtain⟨X,n⟩:=aq (q[f].col);have aS:ev (x.map RT.tb) C X:=by
    rw[n];exact K _ (List.getElem_mem B)
   have s:=g 0 (O q[f].col) rfl;rw[<-n]at s;simp only[Nat.add_zero]at s;clear g o n;subst aR;have g:=bM F;have g:=bM G;have g:=bM D;have g:=bM E;have g:=bM s;have aU:=gX (w:=wr) (λg n=>av C X aS g (e.trans n));go_upto_region 22 with(fail)
   clear s;refine wp_region_quiet_below ak ak ?_;repeat (go_big_quiet_step (first|(go_at_call 23;exact aU _ _)))
   refine wpQuiet_nil ?_;intro _ aZ;obtain⟨⟨Y,osq⟩,a0⟩:=aZ;subst a0;have ad:=Z (ag.reg wr Y osq);generalize Sort.grow (redrawn wr Y) osq=a4 at ad⊢;go_wp2;go_roundg (c-f)
   case measure=>have:=W.out;omega
   exact⟨f+1,rfl,by go_num,by omega,by have:=W.out;omega,Z (d.out.trans ad.out)⟩
  case neg=>
  have c:¬(f:Int)<(c:Int):=ae
  go_wp2_with fail
  go_roundg (Q-a)
  case measure=>have:=t.out;omega
  exact⟨a+1,rfl,by go_num,by omega,by have:=t.out;omega,Z (aQ.out.trans d.out)⟩
 case neg=>
 have u:¬(a:Int)<(Q:Int):=ae
 have A:=qb e z;have P:=bj A;go_upto_region 24 with(fail)
 clear u aL aI aH aK;obtain⟨bW,rfl⟩:∃v:World,v=wr:=⟨_,rfl⟩;have cq:=e;clear d;go_loopg [6,11] (y+1) (λc f g n=>∃a:Nat,f=.bool true/\g=.int .i64 a/\a<=y/\y-a<c/\Hid (ag bW n))
 case atStart=>exact⟨0,rfl,rfl,by omega,by omega,Z (ag.refl bW)⟩
 case round=>
 obtain⟨a,rfl,rfl,aH,S,d⟩:=hrel;have t:=Z S;clear S;have e:=Z (cq.trans d);have aI:aC.length=y:=j.l5.1;have aK:y<=9223372036854775807:=j.l5.2.1;by_cases aL:a<y
 case neg=>
  have u:¬(a:Int)<(y:Int):=ae
  have A:=qb e z;have c:=bQ A;go_wp2_with fail
  go_ret;exact⟨rfl,bE.trans e⟩
 have cr:(a:Int)<(y:Int):=ae
 have u:a<aC.length:=ae
 obtain⟨bf,bg,hA1,P,f⟩:=(j.l5.same e).2.2 a u;have hA2:be=some ⟨bf,bg,none⟩:=hA1;have K:=Z (j.r _ (List.getElem_mem u));have aM:=Z (aY.r (aC[a].ru) (List.mem_map.2 ⟨_,List.getElem_mem u,rfl⟩));obtain⟨cs,u⟩:=aq (aC[a]);rw[<-u]at f K aM;clear u;obtain⟨B,Y,s,⟨T,n,ad⟩,aZ,D,⟨V,o,aj⟩,a0,F,G,⟨L,C,M⟩,bi,⟨W,q,al⟩,bk⟩:=cs;have u:∀u P,([.int .i64 B,.string Y,.int .i64 s,.slice T n ad,.int .i64 D,.slice V o aj,.int .i64 F,.int .i64 G,.slice L C M,.slice W q al]:List Value)[u]?=some P->ac wr (ab bf (bg+a*10+u)) P:=f;have ct:=Z u;have cu:=Z (show(some 10:Option Nat)=some ([.int .i64 B,.string Y,.int .i64 s,.slice T n ad,.int .i64 D,.slice V o aj,.int .i64 F,.int .i64 G,.slice L C M,.slice W q al]:List Value).length from rfl);have cv:=Z (show(some 10:Option Nat)=some (#[B,Y,s,U T n ad,D,U V o aj,F,G,U L C M,U W q al]:Array Value).size from rfl);have cw:=Z (show(#[B,Y,s,U T n ad,D,U V o aj,F,G,U L C M,U W q al]:Array Value).all (·.oneCell')=true by simp[Value.oneCell']);have a7:=Z (fx wr (.cells #[O 0,ah,O 0,aa,O 0,aa,O 0,O 0,aa,aa] 64));have cx:=Z (World.setRow_alloc_new wr #[O 0,ah,O 0,aa,O 0,aa,O 0,O 0,aa,aa] #[B,Y,s,U T n ad,D,U V o aj,F,G,U L C M,U W q al] 64);clear f hA1 u;subst hA2;have A:=qb e z;have u:=bQ A;go_upto_region 27 with(first|(refine mZ rfl 64 (.tmp 146) rfl bf (bg+a*10) [.int .i64 B,.string Y,.int .i64 s,.slice T n ad,.int .i64 D,.slice V o aj,.int .i64 F,.int .i64 G,.slice L C M,.slice W q al] rfl ct.out _ Tryz.underlying64 rfl cu.out ?_)|(refine wpList_store_row rfl 64 (.tmp 12) (.tmp 147) rfl wr.heap.size #[B,Y,s,U T n ad,D,U V o aj,F,G,U L C M,U W q al] rfl rfl 64 #[O 0,ah,O 0,aa,O 0,aa,O 0,O 0,aa,aa] a7.out cv.out rfl cw.out ?_;rw[cx.out])|fail)
 try rw[oX]
 have u:=Z (show ag wr (wr.alloc (.cells #[B,Y,s,U T n ad,D,U V o aj,F,G,U L C M,U W q al] 64))from(ag.refl wr).alloc _);have g:=Z (J.new wr 64 #[B,Y,s,U T n ad,D,U V o aj,F,G,U L C M,U W q al]);obtain⟨bX,A⟩:∃v:World,v=wr.alloc (.cells #[B,Y,s,U T n ad,D,U V o aj,F,G,U L C M,U W q al] 64):=⟨_,rfl⟩;rw[<-A]at u g⊢;clear A cr;have cy:=Z (e.trans u);have cz:=Z (d.trans u);obtain⟨a1,rfl⟩:∃v:World,v=wr:=⟨_,rfl⟩;clear d;go_upto_region 28 with(fail)
 have aP:aZ.length=n:=K.lc.1;have aQ:n<=9223372036854775807:=K.lc.2.1;have aR:=g;go_loopg [6,13] (n+1) (λu A E H=>∃c:Nat,A=.bool true/\E=.int .i64 c/\c<=n/\n-c<u/\Hid (ag bX H))
 case atStart=>exact⟨0,rfl,rfl,by omega,by omega,Z (ag.refl bX)⟩
 case round=>
 obtain⟨c,rfl,rfl,aS,ax,d⟩:=hrel;have ay:=Z ax;clear ax;have e:=Z (cy.trans d);by_cases aU:c<n
 case pos=>
  have u:(c:Int)<(n:Int):=ae
  have u:c<aZ.length:=ae
  obtain⟨A,H,E,P,f⟩:=(K.lc.same e).2.2 c u;have a2:T=some ⟨A,H,none⟩:=E;obtain⟨H,A⟩:=aq (aZ[c]);have P:ev (x.map RT.tb) s H:=by
   rw[A];exact aM.cD _ (List.getElem_mem u)
  have u:=f 0 (O aZ[c]) rfl;rw[<-A]at u;simp only[Nat.mul_one,Nat.add_zero]at u;have Q:=bM u;have a3:=gX (w:=wr) (λI Q=>av s H P I (e.trans Q));clear u A;clear f E;subst a2;have A:ac wr (am i 0) (U ao N ap):=(e.cell (p:=(am i 0)) aD).trans (J.cell z 0);have u:=qb d g;have E:=bh u;have u:=bj u;have A:=bM A;have A:=bM E;have u:=bM u;go_upto_region 30 with(fail)
  refine wp_region_quiet_below ak ak ?_;repeat (go_big_quiet_step (first|(go_at_call 23;exact a3 _ _)))
  refine wpQuiet_nil ?_;intro _ a4;obtain⟨⟨I,osq⟩,bl⟩:=a4;subst bl;have X:=Z (ag.reg wr I osq);generalize Sort.grow (redrawn wr I) osq=bm at X⊢;go_wp2;go_roundg (n-c)
  case measure=>have:=ay.out;omega
  exact⟨c+1,rfl,by go_num,by omega,by have:=ay.out;omega,Z (d.out.trans X.out)⟩
 case neg=>
 have X:¬(c:Int)<(n:Int):=ae
 have E:=qb d g;have n:=bj E;go_upto_region 32 with(fail)
 clear X aU aP aS aQ aR;obtain⟨bY,rfl⟩:∃v:World,v=wr:=⟨_,rfl⟩;have g:=E;have cA:=e;have cB:=Z (cz.trans d);clear d;have aP:a0.length=o:=K.lf.1;have aQ:o<=9223372036854775807:=K.lf.2.1;have aR:=g;go_loopg [6,14] (o+1) (λn u A H=>∃c:Nat,u=.bool true/\A=.int .i64 c/\c<=o/\o-c<n/\Hid (ag bY H))
 case atStart=>exact⟨0,rfl,rfl,by omega,by omega,Z (ag.refl bY)⟩
 case round=>
 obtain⟨c,rfl,rfl,aS,ax,d⟩:=hrel;have ay:=Z ax;clear ax;have e:=Z (cA.trans d);by_cases aU:c<o
 case pos=>
  have n:(c:Int)<(o:Int):=ae
  have X:c<a0.length:=ae
  obtain⟨n,u,A,H,f⟩:=(K.lf.same e).2.2 c X;have a3:V=some ⟨n,u,none⟩:=A;obtain⟨H,u⟩:=aq (a0[c].col);have P:ev (x.map RT.tb) s H:=by
   rw[u];exact aM.fixed _ (List.getElem_mem X)
  have n:=f 0 (O a0[c].col) rfl;rw[<-u]at n;simp only[Nat.add_zero]at n;have Q:=bM n;have a4:=gX (w:=wr) (λI Q=>av s H P I (e.trans Q));clear n u;clear f A;subst a3;have n:ac wr (am i 0) (U ao N ap):=(e.cell (p:=(am i 0)) aD).trans (J.cell z 0);have E:=qb d g;have u:=bh E;have A:=bQ E;have n:=bM n;have n:=bM u;have n:=bM A;go_upto_region 34 with(fail)
  refine wp_region_quiet_below ak ak ?_;repeat (go_big_quiet_step (first|(go_at_call 23;exact a4 _ _)))
  refine wpQuiet_nil ?_;intro _ bl;obtain⟨⟨I,osq⟩,bm⟩:=bl;subst bm;have a2:=Z (ag.reg wr I osq);generalize Sort.grow (redrawn wr I) osq=bo at a2⊢;go_wp2;go_roundg (o-c)
  case measure=>have:=ay.out;omega
  exact⟨c+1,rfl,by go_num,by omega,by have:=ay.out;omega,Z (d.out.trans a2.out)⟩
 case neg=>
 have X:¬(c:Int)<(o:Int):=ae
 have E:=qb d g;have n:=bQ E;go_upto_region 36 with(fail)
 clear X aU aP aS aQ aR;obtain⟨bZ,rfl⟩:∃v:World,v=wr:=⟨_,rfl⟩;have g:=E;have cC:=e;have cE:=Z (cB.trans d);clear d;have aP:bk.length=q:=K.ls.1;have aQ:q<=9223372036854775807:=K.ls.2.1;have aR:=g;go_loopg [6,15] (q+1) (λn o u A=>∃c:Nat,o=.bool true/\u=.int .i64 c/\c<=q/\q-c<n/\Hid (ag bZ A))
 case atStart=>exact⟨0,rfl,rfl,by omega,by omega,Z (ag.refl bZ)⟩
 case round=>
 obtain⟨c,rfl,rfl,aS,ax,d⟩:=hrel;have ay:=Z ax;clear ax;have e:=Z (cC.trans d);by_cases aU:c<q
 case pos=>
  have n:(c:Int)<(q:Int):=ae
  have X:c<bk.length:=ae
  obtain⟨H,I,a2,n,f⟩:=(K.ls.same e).2.2 c X;have cF:W=some ⟨H,I,none⟩:=a2;have n:=Z (aM.tests _ (List.getElem_mem X));obtain⟨a3,o⟩:=aq (bk[c]);rw[<-o]at f n;clear o;have cG:=Z (λo (u:ag wr o)=>F0 ⟨ao,N,ap⟩ x ⟨L,C,M⟩ bi a3 o (j.ta.same (e.trans u)) (K.lb.same (e.trans u)) n.1 n.2);obtain⟨⟨a4,bl,⟨bm,bo,b0⟩⟩,b1,⟨b2,b3,⟨b5,b6,b8⟩⟩,b9⟩:=a3;have j:ac wr (ab H (I+c*12)) a4:=f 0 _ rfl;have j:=bM j;have j:ac wr (ab H (I+c*12+1)) bl:=f 1 _ rfl;have j:=bM j;have j:ac wr (ab H (I+c*12+2)) bm:=f 2 _ rfl;have j:=bM j;have j:ac wr (ab H (I+c*12+3)) bo:=f 3 _ rfl;have j:=bM j;have j:ac wr (ab H (I+c*12+4)) b0:=f 4 _ rfl;have j:=bM j;have j:ac wr (ab H (I+c*12+5)) b1:=f 5 _ rfl;have j:=bM j;have j:ac wr (ab H (I+c*12+6)) b2:=f 6 _ rfl;have j:=bM j;have j:ac wr (ab H (I+c*12+7)) b3:=f 7 _ rfl;have j:=bM j;have j:ac wr (ab H (I+c*12+8)) b5:=f 8 _ rfl;have j:=bM j;have j:ac wr (ab H (I+c*12+9)) b6:=f 9 _ rfl;have j:=bM j;have j:ac wr (ab H (I+c*12+10)) b8:=f 10 _ rfl;have j:=bM j;have j:ac wr (ab H (I+c*12+11)) b9:=f 11 _ rfl;have j:=bM j;have j:Hid (Rt 24 #[.agg #[U ao N ap],U L C M,.agg #[a4,bl,bm,bo,b0,b1,b2,b3,b5,b6,b8,b9]] wr (.bool true)):=cG;have cH:=gX (w:=wr) j;clear f a2;subst cF;have f:ac wr (am i 0) (U ao N ap):=(e.cell (p:=(am i 0)) aD).trans (J.cell z 0);have E:=qb d g;have j:=bN E;have n:=iT E;have f:=bM f;have f:=bM j;have f:=bM n;go_upto_region 38 with(fail)
  refine wp_region_quiet_below ak ak ?_;repeat (go_big_quiet_step (first|(go_at_call 24;exact cH _ _)))
  refine wpQuiet_nil ?_;intro _ cI;obtain⟨⟨ca,osq⟩,cJ⟩:=cI;subst cJ;have cb:=Z (ag.reg wr ca osq);generalize Sort.grow (redrawn wr ca) osq=cK at cb⊢;go_wp2;go_roundg (q-c)
  case measure=>have:=ay.out;omega
  exact⟨c+1,rfl,by go_num,by omega,by have:=ay.out;omega,Z (d.out.trans cb.out)⟩
 case neg=>
 have X:¬(c:Int)<(q:Int):=ae
 have E:=qb d g;have c:=iT E;go_upto_region 39 with(fail)
 clear X aU aP aS aQ aR;obtain⟨bl,rfl⟩:∃v:World,v=wr:=⟨_,rfl⟩;have g:=E;have I:=e;have a2:=Z (cE.trans d);clear d;have b0:ac bl (am i 0) (U ao N ap):=(I.cell (p:=(am i 0)) aD).trans (J.cell z 0);have b1:=az g;have c:=bh g;have c:=bn g;have b3:=cd g;have b5:=b7 g;have c:=bN g;have b6:=Z b0;have bm:bi.length=C:=K.lb.1;have b2:=Z aM.col;by_cases a3:B=4
 case pos=>
  subst a3;by_cases H:bi=[]
  case neg=>
   have c:0<C:=by rw[<-bm];exact List.length_pos_iff.2 H
   clear H;go_wp2_with fail
   go_roundg (y-a)
   case measure=>have:=t.out;omega
   exact⟨a+1,rfl,by go_num,by omega,by have:=t.out;omega,a2⟩
  have bo:ev (x.map RT.tb) s D:=by
   rcases b2.out with⟨_,a4⟩|a4
   ·exact absurd H a4
   exact a4
  have aJ:C=0:=by rw[<-bm,H];rfl
  subst aJ;clear bm H;go_wp2_with fail
  refine(av s D bo bl I).mono ?_;rintro ar b8 ⟨rfl,a4⟩;have b1:ac b8 (am a1 0) (O 4):=J.cell ((Kp.of_same (l:=[]) a4).blk g ai) 0;go_wp2_with fail
  go_roundg (y-a)
  case measure=>have:=t.out;omega
  exact⟨a+1,rfl,by go_num,by omega,by have:=t.out;omega,Z (a2.out.trans a4)⟩
 have c:(B==4)=false:=by simpa using a3
 have b8:ev (x.map RT.tb) s D:=by
  rcases b2.out with⟨H,_⟩|H
  ·exact absurd H a3
  exact H
 clear a3;go_wp2_with fail
 refine(av s D b8 bl I).mono ?_;rintro ar a4 ⟨rfl,H⟩;have b0:=(H.cell (p:=(am i 0)) (aT aD I.size)).trans b6;have b1:ac a4 (am a1 0) B:=J.cell ((Kp.of_same (l:=[]) H).blk g ai) 0;have b3:ac a4 (am a1 6) F:=J.cell ((Kp.of_same (l:=[]) H).blk g ai) 6;have b5:ac a4 (am a1 7) G:=J.cell ((Kp.of_same (l:=[]) H).blk g ai) 7;by_cases bo:B=3
 case neg=>
  have c:(B !=3)=true:=by simpa using bo
  clear bo;go_wp2_with fail
  go_roundg (y-a)
  case measure=>have:=t.out;omega
  exact⟨a+1,rfl,by go_num,by omega,by have:=t.out;omega,Z (a2.out.trans H)⟩
 subst bo;have b9:ev (x.map RT.tb) F G:=aM.other rfl;go_wp2_with fail
 refine(av F G b9 a4 (I.trans H)).mono ?_;rintro ar c ⟨rfl,ca⟩;go_wp2_with fail
 go_roundg (y-a)
 case measure=>have:=t.out;omega
 exact⟨a+1,rfl,by go_num,by omega,by have:=t.out;omega,Z (a2.out.trans (H.trans ca))⟩
end Go.Proofs.YteamkimbmdgdbaaGreatDoor

import Derived.Test.YteamkimbmdgdbaaGreatDoorK31
set_option linter.unusedSimpArgs false
set_option linter.unusedVariables false
set_option maxHeartbeats 16000000
set_option maxRecDepth 100000
namespace Go.Proofs.YteamkimbmdgdbaaGreatDoor
open Go.RowKit
def tB:ByteArray:=⟨#[116,97,98,108,101,32,116,40,97,32,116,101,120,116,44,32,110,32,110,117,109,98,101,114,41,32,107,101,121,32,97,59,32,117,110,105,113,117,101,32,107,32,111,110,32,116,40,110,41,59]⟩
def tD:ByteArray:=⟨#[32,100,101,110,121,32,100,32,116,32,120,44,32,116,32,121,32,119,104,101,114,101,32,120,46,110,32,60,32,121,46,110,32,43,32,50,59]⟩
def tU:ByteArray:=⟨#[32,117,110,105,113,117,101,32,107,32,111,110,32,116,40,97,41,59]⟩
def tQ:ByteArray:=⟨#[113,117,101,114,121,32,113,32,61,32,115,101,108,101,99,116,40,116,32,119,104,101,114,101,32,97,32,60,32,51,41,59,32,116,97,98,108,101,32,116,40,97,32,116,101,120,116,41,32,107,101,121,32,97,59]⟩
def tK:ByteArray:=⟨#[32,107,101,101,112,32,116,46,110,32,98,121,32,108,111,110,103,101,115,116,59]⟩
def cM:Cg:=⟨3,⟨#[116]⟩,⟨#[110]⟩,⟨#[109]⟩,0,V.zero⟩
def sg (a:cT):List Int:=[a.l.var,a.l.col,a.l.v.k,a.l.v.n,(a.l.v.s.size:Int),a.r.var,a.r.col,a.r.v.k,a.r.v.n,(a.r.v.s.size:Int),a.add]
def sh (a:Ru):List (List Int):=a.cD::a.tables::a.tests.map sg
def gj (p:Su×List (Int×Int)):List (Int×Int)×List (List (List Int)):=(p.2,p.1.rules.map sh)
theorem FG:gj (ek (ba (tB++tD)) [])=([],[[[1],[]],[[],[0,0],[0,1,0,0,0,1,1,0,0,0,2]]]):=by decide+kernel
theorem FH:gj (ek (ba (tB++tU)) [])=([(9,51)],[]):=by decide+kernel
theorem FI:gj (ek (ba tQ) [])=([(10,10)],[]):=by decide+kernel
theorem FJ:gj (ek (ba (tB++tK)) [])=([(10,51)],[]):=by decide+kernel
theorem FK:gj (ek (ba tB) [cM])=([],[[[1],[]]]):=by decide+kernel
theorem li {a:Su×List (Int×Int)} {b:List (Int×Int)} {c:List (List (List Int))} (h:gj a=(b,c)):a.2=b:=congrArg Prod.fst h
theorem FL {a:Su×List (Int×Int)} {c:List (Int×Int)} {b:List (List (List Int))} (h:gj a=(c,b)):a.1.rules.map sh=b:=congrArg Prod.snd h
theorem wL {a:aw} (h:(a.size:Int)=0):a=⟨#[]⟩:=by
 obtain⟨⟨b⟩⟩:=a;have:b.length=0:=by
  have h:((b.length:Nat):Int)=0:=h;omega
 rw[List.length_eq_zero_iff]at this;subst this;rfl
theorem wM {b c:Type} {d:b->c} {l:List b} {b:c} (h:l.map d=[b]):∃a,l=[a]/\d a=b:=by
 match l,h with
 |[a],h=>exact⟨a,rfl,by simpa using h⟩
theorem FM {c d:Type} {b:c->d} {l:List c} {c e:d} (h:l.map b=[c,e]):∃a y,l=[a,y]/\b a=c/\b y=e:=by
 match l,h with
 |[a,y],h=>exact⟨a,y,rfl,by simpa using h⟩
theorem wN {a:cc} {d:List Tb} {b:Su×List (Int×Int)} {e:List (Int×Int)} {c:List (List (List Int))} (f:a.su d=b.1) (h:gj b=(e,c)):a.rs.map (λy=>sh y.ru)=c:=by
 have:=FL h;rw[<-f]at this;simpa[cc.su,Function.comp_def]using this
theorem si {h:Hd} {b:Nat} (d:b=h.n):h.val=.slice h.a b h.c:=by
 obtain⟨f,e,g⟩:=h;have d:b=e:=d;subst d;rfl
theorem sj {b:af} {h:Hd} {l m:List Int} (d:dQ b h l) (e:l=m):h.val=.slice h.a m.length h.c/\dQ b ⟨h.a,m.length,h.c⟩ m:=by
 subst e;obtain⟨i,f,j⟩:=h;have g:l.length=f:=d.1;subst g;exact⟨rfl,d⟩
theorem fJ.rule {i:Nat} {c:af} {h:Hd} {b:List RT} {e:cc} (j:fJ i c h b e) (g:Nat) {y:cG} (k:e.rs[g]?=some y):∃b d,e.h5.a=some ⟨b,d,none⟩/\b<c.heap.size/\(∀e f,y.cells[e]?=some f->ac c (ab b (d+g*10+e)) f)/\eZ c (λb=>i<=b) y:=by
 obtain⟨c,i⟩:=List.getElem?_eq_some_iff.1 k;obtain⟨b,d,g,k,l⟩:=j.l5.2.2 g c;exact⟨b,d,g,k,λe f b=>l e f (by rw[i];exact b),j.r y (i▸List.getElem_mem c)⟩
theorem FN {a:cT} (h:sg a=[0,1,0,0,0,1,1,0,0,0,2]):∃b,a=⟨⟨0,1,⟨0,0,⟨#[]⟩⟩⟩,b,⟨1,1,⟨0,0,⟨#[]⟩⟩⟩,2⟩:=by
 obtain⟨⟨q,r,⟨s,t,u⟩⟩,b,⟨v,w,⟨x,y,z⟩⟩,A⟩:=a;simp only[sg,List.cons.injEq,and_true]at h;obtain⟨c,d,e,f,g,i,j,k,l,m,n⟩:=h;have o:=wL g;have p:=wL m;subst c d e f o i j k l p n;exact⟨b,rfl⟩
def tC (a:Int):List Value:=[.int .i64 0,.int .i64 1,.int .i64 0,.int .i64 0,.string ⟨#[]⟩,.int .i64 a,.int .i64 1,.int .i64 1,.int .i64 0,.int .i64 0,.string ⟨#[]⟩,.int .i64 2]
theorem FO {f:Nat} {a:af} {h:Hd} {r:List RT} {e:cc} {s:List Tb} {b:Su×List (Int×Int)} {t:List (Int×Int)} (k:fJ f a h r e) (D:e.su s=b.1) (E:gj b=(t,[[[1],[]],[[],[0,0],[0,1,0,0,0,1,1,0,0,0,2]]])):
 ∃(b f F:Nat) (r:aX) (s:Nat) (t:aX) (u d g G:Nat) (n:Int),e.h5.val=.slice (some ⟨b,f,none⟩) 2 F/\b<a.heap.size/\ac a (ab b (f+3)) (U r 1 s)/\dQ a ⟨r,1,s⟩ [1]/\
  ac a (ab b (f+10+8)) (U t 2 u)/\dQ a ⟨t,2,u⟩ [0,0]/\ac a (ab b (f+10+9)) (U (some ⟨d,g,none⟩) 1 G)/\d<a.heap.size/\∀i j,(tC n)[i]?=some j->ac a (ab d (g+i)) j:=by
 obtain⟨a,o,p,e0,v⟩:=FM (wN D E);obtain⟨w,x,hA1,H,I,u0⟩:=k.rule 0 (y:=a) (by rw[p];rfl);obtain⟨a,b,hA2,_,z,u1⟩:=k.rule 1 (y:=o) (by rw[p];rfl);rw[hA1]at hA2;have J:w=a:=congrArg Addr.block (Option.some.inj hA2);have K:x=b:=congrArg Addr.off (Option.some.inj hA2);subst J K;have A:=k.l5.1;rw[p]at A;have B:=sj u0.lc (m:=[1]) (List.cons.inj e0).1;have C:=sj u1.lb (m:=[0,0]) (List.cons.inj (List.cons.inj v).2).1;obtain⟨a,q,L⟩:=wM (l:=o.tests) (List.cons.inj (List.cons.inj v).2).2;obtain⟨n,rfl⟩:=FN L;have a:=u1.ls.1;obtain⟨d,g,b,f,k⟩:=u1.ls.2.2 0 (by rw[q];exact Nat.zero_lt_one);refine⟨w,x,e.h5.c,_,_,_,_,d,g,o.hs.c,n,by rw[si A,hA1];rfl,H,?_,B.2,?_,C.2,?_,f,λi j d=>?_⟩
 ·have h:=I 3 _ rfl
  rw[B.1]at h;simpa using h
 ·have h:=z 8 _ rfl
  rw[C.1]at h;simpa using h
 ·have h:=z 9 _ rfl
  rw[si a,b,q]at h;simpa using h
 have h:=k i j (by simp only[q];exact d);simpa using h
theorem FP {f:Nat} {a:af} {h:Hd} {g:List RT} {b:cc} {i:List Tb} {d:Su×List (Int×Int)} {j:List (Int×Int)} (e:fJ f a h g b) (k:b.su i=d.1) (l:gj d=(j,[[[1],[]]])):
 ∃(d f j:Nat) (g:aX) (i:Nat),b.h5.val=.slice (some ⟨d,f,none⟩) 1 j/\d<a.heap.size/\ac a (ab d (f+3)) (U g 1 i)/\dQ a ⟨g,1,i⟩ [1]:=by
 obtain⟨d,a,e0⟩:=wM (wN k l);obtain⟨f,g,hA1,i,j,u0⟩:=e.rule 0 (y:=d) (by rw[a];rfl);have d:=e.l5.1;rw[a]at d;have a:=sj u0.lc (m:=[1]) (List.cons.inj e0).1;refine⟨f,g,b.h5.c,_,_,by rw[si d,hA1];rfl,i,?_,a.2⟩;have h:=j 3 _ rfl;rw[a.1]at h;simpa using h
theorem sn {c:af} {d:aX} {a:Nat} {p:Int×Int} (l:aF c 2 ⟨d,1,a⟩ dP [p]):∃a b,d=some ⟨a,b,none⟩/\a<c.heap.size/\ac c (ab a b) p.1/\ac c (ab a (b+1)) p.2:=by
 obtain⟨a,b,d,e,c⟩:=l.2.2 0 Nat.zero_lt_one;exact⟨a,b,d,e,by simpa using c 0 _ rfl,by simpa using c 1 _ rfl⟩
theorem FQ (w:af) (B:b4 w ⟨some ⟨0,0,none⟩,10,10⟩ fb) (C:0<w.heap.size):
 Calls Tryz.prog 12 #[] w λc ad=>c=.returned (.bool true)/\ag w ad:=by
 have D:=Tryz.lg;have aM:∀a,(Op.stringOp .add ({data:=#[116,97,98,108,101,32,116,40,97,32,116,101,120,116,44,32,110,32,110,117,109,98,101,114,41,32,107,101,121,32,97,59,32,117,110,105,113,117,101,32,107,32,111,110,32,116,40,110,41,59]}:ByteArray) {data:=#[32,100,101,110,121,32,100,32,116,32,120,44,32,116,32,121,32,119,104,101,114,101,32,120,46,110,32,60,32,121,46,110,32,43,32,50,59]}).run Tryz.prog a=.ok (.string (tB++tD)) a:=λa=>run_string_add_sum a tB tD (by show tB.size+tD.size<=_;decide+kernel);obtain⟨ae,N⟩:=aq (tB++tD);simp only[<-N]at aM;have aN:aG ae:=by rw[N];unfold aG;try decide+kernel
 obtain⟨aO,aj⟩:=aq (ek (ba ae) []);have aP:=Z (show gj aO=([],[[[1],[]],[[],[0,0],[0,1,0,0,0,1,1,0,0,0,2]]]) by rw[aj,N];exact FG);have aQ:=Z (λa (b:ag w a)=>o0 ae a aN (B.same b) (aT C b.size));simp only[<-aj]at aQ;clear aj N aN;have aR:∀a,(Op.stringOp .add ({data:=#[116,97,98,108,101,32,116,40,97,32,116,101,120,116,44,32,110,32,110,117,109,98,101,114,41,32,107,101,121,32,97,59,32,117,110,105,113,117,101,32,107,32,111,110,32,116,40,110,41,59]}:ByteArray) {data:=#[32,117,110,105,113,117,101,32,107,32,111,110,32,116,40,97,41,59]}).run Tryz.prog a=.ok (.string (tB++tU)) a:=λa=>run_string_add_sum a tB tU (by show tB.size+tU.size<=_;decide+kernel);obtain⟨ae,N⟩:=aq (tB++tU);simp only[<-N]at aR;have aN:aG ae:=by rw[N];unfold aG;try decide+kernel
 obtain⟨aS,aj⟩:=aq (ek (ba ae) []);have aU:=Z (show gj aS=([(9,51)],[]) by rw[aj,N];exact FH);have aV:=Z (λa (b:ag w a)=>o0 ae a aN (B.same b) (aT C b.size));simp only[<-aj]at aV;clear aj N aN;obtain⟨ae,N⟩:=aq tQ;have aN:aG ae:=by rw[N];unfold aG;try decide+kernel
 obtain⟨ak,aj⟩:=aq (ek (ba ae) []);have aW:=Z (show gj ak=([(10,10)],[]) by rw[aj,N];exact FI);have ae:=Z (λa (b:ag w a)=>o0 ae a aN (B.same b) (aT C b.size));simp only[<-aj]at ae;have bR:Hid (∀a,ag w a->Calls Tryz.prog 18 #[.string {data:=#[113,117,101,114,121,32,113,32,61,32,115,101,108,101,99,116,40,116,32,119,104,101,114,101,32,97,32,60,32,51,41,59,32,116,97,98,108,101,32,116,40,97,32,116,101,120,116,41,32,107,101,121,32,97,59]}] a (gy a ak)):=Z (by have h:=ae.out;rw[N]at h;exact h);clear aj N aN;have aX:∀a,(Op.stringOp .add ({data:=#[116,97,98,108,101,32,116,40,97,32,116,101,120,116,44,32,110,32,110,117,109,98,101,114,41,32,107,101,121,32,97,59,32,117,110,105,113,117,101,32,107,32,111,110,32,116,40,110,41,59]}:ByteArray) {data:=#[32,107,101,101,112,32,116,46,110,32,98,121,32,108,111,110,103,101,115,116,59]}).run Tryz.prog a=.ok (.string (tB++tK)) a:=λa=>run_string_add_sum a tB tK (by show tB.size+tK.size<=_;decide+kernel);obtain⟨ae,N⟩:=aq (tB++tK);simp only[<-N]at aX;have aN:aG ae:=by rw[N];unfold aG;try decide+kernel
 obtain⟨aZ,aj⟩:=aq (ek (ba ae) []);have a0:=Z (show gj aZ=([(10,51)],[]) by rw[aj,N];exact FJ);have a1:=Z (λa (b:ag w a)=>o0 ae a aN (B.same b) (aT C b.size));simp only[<-aj]at a1;clear aj N aN;obtain⟨al,N⟩:=aq (ek (ba tB) [cM]);have a2:=Z (show gj al=([],[[[1],[]]]) by rw[N];exact FK);have bS:Hid (∀a,ag w a->∀b d,aF a 8 ⟨b,1,d⟩ Cg.cells [cM]->Calls Tryz.prog 20 #[.string {data:=#[116,97,98,108,101,32,116,40,97,32,116,101,120,116,44,32,110,32,110,117,109,98,101,114,41,32,107,101,121,32,97,59,32,117,110,105,113,117,101,32,107,32,111,110,32,116,40,110,41,59]},U b 1 d] a (gy a al)):=Z (λa b e d f=>by
  rw[N];exact wK tB ⟨e,1,d⟩ [cM] a (by unfold aG;try decide+kernel) (B.same b) (aT C b.size) f (λd b=>by rw[aA b];constructor<;>(unfold aG;try decide+kernel)) ai)
 clear N B C;have a3:=Z (ag.refl w);obtain⟨B,bT⟩:=aq w;go_enter Tryz.func12,Tryz.ntmps12
 go_wp2_with fail
 refine(aQ w a3).mono ?_;rintro c j ⟨a4,P,Q,d,⟨b,B,u,e,a5,a6⟩,⟨⟨bU,f,bV⟩,g,a7,n⟩⟩;have o:f=0:=by
  have b:aO.2.length=f:=a7.1;rw[li aP.out]at b;exact b.symm
 subst o;have q:c=.returned (.tuple #[.agg (bz b u),U bU 0 bV]):=by
  rw[d,e,g];rfl
 clear d g e n;subst q;have a8:=jz b u;have a9:=fx j (.cells #[aa,aa,aa,aa,aa,aa,aa] 37);have bb:=World.setRow_alloc_new j #[aa,aa,aa,aa,aa,aa,aa] (bz b u) 37;have an:=Z (show ag j (j.alloc (.cells (bz b u) 37))from(ag.refl j).alloc _);have bc:=Z (J.new j 37 (bz b u));go_upto_region 3 with(first|(refine wpList_store_row rfl 37 (.tmp 2) (.tmp 18) rfl j.heap.size (bz b u) rfl rfl 37 #[aa,aa,aa,aa,aa,aa,aa] a9 D rfl a8 ?_;rw[bb])|fail)
 obtain⟨bW,u⟩:=aq (j.alloc (.cells (bz b u) 37));rw[<-u]at an bc⊢;clear u a9 bb a8;have bd:=Z (a3.trans (a4.trans an));clear aM;go_wp2_with fail
 refine(aV bW bd).mono ?_;rintro c v ⟨ao,P,Q,d,⟨t,u,E,e,bX,bY⟩,⟨⟨bZ,f,b0⟩,g,ap,n⟩⟩;have o:f=1:=by
  have b:aS.2.length=f:=ap.1;rw[li aU.out]at b;exact b.symm
 subst o;have q:c=.returned (.tuple #[.agg (bz t E),U bZ 1 b0]):=by
  rw[d,e,g];rfl
 clear d g e n;subst q;have be:=jz t E;have bf:=fx v (.cells #[aa,aa,aa,aa,aa,aa,aa] 37);have bg:=World.setRow_alloc_new v #[aa,aa,aa,aa,aa,aa,aa] (bz t E) 37;have R:=Z (show ag v (v.alloc (.cells (bz t E) 37))from(ag.refl v).alloc _);go_upto_region 4 with(first|(refine wpList_store_row rfl 37 (.tmp 4) (.tmp 24) rfl v.heap.size (bz t E) rfl rfl 37 #[aa,aa,aa,aa,aa,aa,aa] bf D rfl be ?_;rw[bg])|fail)
 obtain⟨b1,u⟩:=aq (v.alloc (.cells (bz t E) 37));rw[<-u]at R⊢;clear u bf bg be;have bi:=Z (bd.trans (ao.trans R));clear aR;go_wp2_with fail
 refine(bR b1 bi).mono ?_;rintro c x ⟨ar,P,Q,d,⟨F,u,G,e,b2,b3⟩,⟨⟨b5,f,b6⟩,g,au,n⟩⟩;have o:f=1:=by
  have b:ak.2.length=f:=au.1;rw[li aW.out]at b;exact b.symm
 subst o;have q:c=.returned (.tuple #[.agg (bz F G),U b5 1 b6]):=by
  rw[d,e,g];rfl
 clear d g e n;subst q;have bk:=jz F G;have bl:=fx x (.cells #[aa,aa,aa,aa,aa,aa,aa] 37);have bm:=World.setRow_alloc_new x #[aa,aa,aa,aa,aa,aa,aa] (bz F G) 37;have S:=Z (show ag x (x.alloc (.cells (bz F G) 37))from(ag.refl x).alloc _);go_upto_region 5 with(first|(refine wpList_store_row rfl 37 (.tmp 6) (.tmp 28) rfl x.heap.size (bz F G) rfl rfl 37 #[aa,aa,aa,aa,aa,aa,aa] bl D rfl bk ?_;rw[bm])|fail)
 obtain⟨b8,u⟩:=aq (x.alloc (.cells (bz F G) 37));rw[<-u]at S⊢;clear u bl bm bk;have bo:=Z (bi.trans (ar.trans S));go_wp2_with fail
 refine(a1 b8 bo).mono ?_;rintro c y ⟨aw,P,Q,d,⟨H,u,I,e,b9,ca⟩,⟨⟨cb,f,cc⟩,g,ax,n⟩⟩;have o:f=1:=by
  have b:aZ.2.length=f:=ax.1;rw[li a0.out]at b;exact b.symm
 subst o;have q:c=.returned (.tuple #[.agg (bz H I),U cb 1 cc]):=by
  rw[d,e,g];rfl
 clear d g e n;subst q;have bp:=jz H I;have bq:=fx y (.cells #[aa,aa,aa,aa,aa,aa,aa] 37);have br:=World.setRow_alloc_new y #[aa,aa,aa,aa,aa,aa,aa] (bz H I) 37;have T:=Z (show ag y (y.alloc (.cells (bz H I) 37))from(ag.refl y).alloc _);go_upto_region 6 with(first|(refine wpList_store_row rfl 37 (.tmp 8) (.tmp 34) rfl y.heap.size (bz H I) rfl rfl 37 #[aa,aa,aa,aa,aa,aa,aa] bq D rfl bp ?_;rw[br])|fail)
 obtain⟨V,u⟩:=aq (y.alloc (.cells (bz H I) 37));rw[<-u]at T⊢;clear u bq br bp;have u:=Z (bo.trans (aw.trans T));clear aX;have bs:=Z (show ag w (V.alloc (.cells cM.cells.toArray 99))from u.alloc _);have W:=Z (cF (enc:=Cg.cells) (m:=8) (h:=⟨some ⟨V.heap.size,0,none⟩,1,1⟩) (xs:=[cM]) (λ_=>rfl) rfl ai (ie V cM.cells.toArray 99 8 0 rfl (Nat.zero_le _)));go_wp2_with fail
 refine(bS _ bs _ _ W).mono ?_;rintro c k ⟨ay,P,Q,d,⟨z,u,A,e,bt,bu⟩,⟨⟨ce,f,cf⟩,g,bv,n⟩⟩;have o:f=0:=by
  have b:al.2.length=f:=bv.1;rw[li a2.out]at b;exact b.symm
 subst o;have q:c=.returned (.tuple #[.agg (bz z A),U ce 0 cf]):=by
  rw[d,e,g];rfl
 clear d g e n;subst q;have bw:=jz z A;have bx:=fx k (.cells #[aa,aa,aa,aa,aa,aa,aa] 37);have bA:=World.setRow_alloc_new k #[aa,aa,aa,aa,aa,aa,aa] (bz z A) 37;have X:=Z (show ag k (k.alloc (.cells (bz z A) 37))from(ag.refl k).alloc _);have bB:=Z (J.new k 37 (bz z A));go_upto_region 7 with(first|(refine wpList_store_row rfl 37 (.tmp 10) (.tmp 41) rfl k.heap.size (bz z A) rfl rfl 37 #[aa,aa,aa,aa,aa,aa,aa] bx D rfl bw ?_;rw[bA])|fail)
 obtain⟨i,d⟩:=aq (k.alloc (.cells (bz z A) 37));rw[<-d]at X bB⊢;clear d bx bA bw;have cg:=Z (bs.trans (ay.trans X));have d:=Z (((ag.refl V).alloc (.cells cM.cells.toArray 99)).trans (ay.trans X));have e:=Z (aw.trans (T.trans d));have f:=Z (ar.trans (S.trans e));have g:=Z (ao.trans (R.trans f));have n:=Z (a6.same (an.trans g));have o:=Z (bu.same X);have bC:=Z ((Kp.of_same (l:=[]) g).blk bc ai);have aB:=bB;have f:=Z (by have h:=ap.same (R.out.trans f.out);rw[li aU.out]at h;exact h);have e:=Z (by have h:=au.same (S.out.trans e.out);rw[li aW.out]at h;exact h);have d:=Z (by have h:=ax.same (T.out.trans d.out);rw[li a0.out]at h;exact h);obtain⟨L,aC,aD,K,ch,ci,ck,cl,cm,g,r,bD,L1,cn,co,cp,cq,n,q,cr⟩:=FO n a5 aP;obtain⟨aE,bE,bF,cs,ct,bG,cu,cv,cw⟩:=FP o bt a2;obtain⟨bH,f,cx,bI,cy,cz⟩:=sn f;obtain⟨bJ,e,cA,bK,cB,cC⟩:=sn e;obtain⟨cD,d,cE,cG,cH,_⟩:=sn d;subst cx cA cE;clear a4 ao ar aw ay a6 bY b3 ca bu a5 bX b2 b9 bt a7 ap au ax bv;have d:ac i (am j 5) (U (some ⟨L,aC,none⟩) 2 aD):=by rw[<-bD];exact J.cell bC.out 5
 have e:ac i (am k 5) (U (some ⟨aE,bE,none⟩) 1 bF):=by rw[<-bG];exact J.cell aB.out 5
 have W:=Z bI;have bL:=Z d;have cI:=Z e;have bM:=Z (J.lt bC);have cJ:=Z (J.lt aB);clear bD bG bI D bT aB;go_upto_region 9 with(fail)
 have cK:=Z (fx i (.cells #[O 0,O 0,O 0,O 0,ah,O 0,O 0,O 0,O 0,O 0,ah,O 0] 73));have cL:=Z (World.setRow_alloc_new i #[O 0,O 0,O 0,O 0,ah,O 0,O 0,O 0,O 0,O 0,ah,O 0] #[O 0,O 1,O 0,O 0,ah,r,O 1,O 1,O 0,O 0,ah,O 2] 73);have cN:=Z (show(#[O 0,O 1,O 0,O 0,ah,r,O 1,O 1,O 0,O 0,ah,O 2]:Array Value).all (·.oneCell')=true by simp[Value.oneCell']);have cO:=Z (show(some 12:Option Nat)=some (tC r).length from rfl);have bO:(some 12:Option Nat)=some (#[O 0,O 1,O 0,O 0,ah,r,O 1,O 1,O 0,O 0,ah,O 2]:Array Value).size:=rfl;go_upto_region 10 with(first|(refine mZ rfl 73 (.tmp 92) rfl cl cm [.int .i64 0,.int .i64 1,.int .i64 0,.int .i64 0,.string ⟨#[]⟩,.int .i64 r,.int .i64 1,.int .i64 1,.int .i64 0,.int .i64 0,.string ⟨#[]⟩,.int .i64 2] rfl cr _ Tryz.underlying73 rfl cO.out ?_)|(refine wpList_store_row rfl 73 (.tmp 12) (.tmp 93) rfl i.heap.size #[O 0,O 1,O 0,O 0,ah,r,O 1,O 1,O 0,O 0,ah,O 2] rfl rfl 73 #[O 0,O 0,O 0,O 0,ah,O 0,O 0,O 0,O 0,O 0,ah,O 0] cK.out bO.out rfl cN.out ?_;rw[cL.out])|fail)
 clear bO;try rw[oX]
 refine av ?_;have M:=Z (show ag i (i.alloc (.cells #[O 0,O 1,O 0,O 0,ah,r,O 1,O 1,O 0,O 0,ah,O 2] 73))from(ag.refl i).alloc _);have bP:=Z (J.new i 73 #[O 0,O 1,O 0,O 0,ah,r,O 1,O 1,O 0,O 0,ah,O 2]);obtain⟨aH,d⟩:=aq (i.alloc (.cells #[O 0,O 1,O 0,O 0,ah,r,O 1,O 1,O 0,O 0,ah,O 2] 73));rw[<-d]at M bP⊢;clear d;have aI:Hid (∀a,ag i a->∀K e f g (d:List Int),dQ i ⟨K,d.length,e⟩ d->dQ a ⟨f,d.length,g⟩ d->Calls Tryz.prog 34 #[U K d.length e,U f d.length g] a λc ad=>c=.returned (.bool true)/\ag a ad):=Z (λa e K f g i d b t=>by
  have h:=FF ⟨K,d.length,f⟩ ⟨g,d.length,i⟩ d d a (b.same e) t;simp only[decide_true]at h;exact h)
 have a:ac aH (am j 5) (U (some ⟨L,aC,none⟩) 2 aD):=(M.cell (p:=⟨_,5,none⟩) bM).trans bL;have cP:=(M.cell (p:=⟨L,_,none⟩) L1).trans cn;go_wp2_with fail
 clear cP;refine(aI _ (M.alloc _) K ch _ 1 [1] co (cF (enc:=cj) (m:=1) (h:=⟨some ⟨aH.heap.size,0,none⟩,1,1⟩) (xs:=[(1:Int)]) (λ_=>rfl) rfl ai (ie aH _ 3 1 0 rfl (Nat.zero_le _)))).mono ?_;rintro c Y ⟨rfl,aJ⟩;have ab:=Z ((M.alloc (.cells #[O 1] 3)).trans aJ);have cQ:=Z ((Kp.of_same (l:=[]) aJ).blk (bP.alloc (.cells #[O 1] 3)) ai);clear aJ;have a:ac Y (am j 5) (U (some ⟨L,aC,none⟩) 2 aD):=(ab.cell (p:=⟨_,5,none⟩) bM).trans bL;have cR:=(ab.cell (p:=⟨L,_,none⟩) L1).trans cp;go_wp2_with fail
 clear cR;refine(aI _ (ab.alloc _) ci ck _ 2 [0,0] cq (cF (enc:=cj) (m:=1) (h:=⟨some ⟨Y.heap.size,0,none⟩,2,2⟩) (xs:=[(0:Int),0]) (λ_=>rfl) rfl ai ⟨rfl,.inr ⟨Y.heap.size,2,_,rfl,Nat.zero_le _,J.new Y 3 _,Nat.le_refl _,by unfold maxLen;omega,by simp,rfl⟩⟩)).mono ?_;rintro c aK ⟨rfl,aL⟩;have s:=Z ((ab.alloc (.cells #[O 0,O 0] 3)).trans aL);have a:=Z ((Kp.of_same (l:=[]) aL).blk (cQ.alloc (.cells #[O 0,O 0] 3)) ai);clear aL;have b:=az a;have b:=aY a;have b:=bh a;have b:=bj a;have b:=bn a;have b:=cd a;have b:=b7 a;have b:=bN a;have b:=iT a;have b:=ml a;have a:=nk a;have cS:=(s.cell (p:=⟨bH,_,none⟩) W).trans cy;have cT:=(s.cell (p:=⟨bH,_,none⟩) W).trans cz;have cU:=(s.cell (p:=⟨bJ,_,none⟩) bK).trans cB;have cV:=(s.cell (p:=⟨bJ,_,none⟩) bK).trans cC;have cW:=(s.cell (p:=⟨cD,_,none⟩) cG).trans cH;have a:ac aK (am k 5) (U (some ⟨aE,bE,none⟩) 1 bF):=(s.cell (p:=⟨_,5,none⟩) cJ).trans cI;have cX:=(s.cell (p:=⟨aE,_,none⟩) cu).trans cv;go_wp2_with fail
 refine(aI _ (s.alloc _) cs ct _ 1 [1] cw (cF (enc:=cj) (m:=1) (h:=⟨some ⟨aK.heap.size,0,none⟩,1,1⟩) (xs:=[(1:Int)]) (λ_=>rfl) rfl ai (ie aK _ 3 1 0 rfl (Nat.zero_le _)))).mono ?_;rintro c a ⟨rfl,bQ⟩;have cY:=Z (cg.trans ((s.alloc (.cells #[O 1] 3)).trans bQ));clear bQ cS cT cU cV cW cX;go_wp2;go_ret;exact⟨rfl,cY⟩
end Go.Proofs.YteamkimbmdgdbaaGreatDoor

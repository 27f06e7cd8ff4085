import Derived.Test.YteamkimbmdgdbaaGreatDoorK33
set_option linter.unusedSimpArgs false
set_option linter.unusedVariables false
set_option maxHeartbeats 16000000
set_option maxRecDepth 100000
namespace Go.Proofs.YteamkimbmdgdbaaGreatDoor
open Go.Proofs.Tryz
open Go.RowKit
theorem JX (h:Hd) (c:List RI) (a:ah) (w:aE a 25 h RI.cells c) (ak:∀b∈c,cW a (·<a.heap.size) b) (g:b5 a ⟨some ⟨0,0,none⟩,10,10⟩ fJ) (al:0<a.heap.size):
 Calls prog 6 #[.agg #[h.val]] a λd m=>d=.returned (.bool true)/\ag a m:=by
 have am:=Z (λe (f:ag a e)=>Jg e (g.same f) (aV al f.size));have an:=Tryz.lR;have K:=Z (λe (f:ag a e) b i=>cW.mono (S':=(·<e.heap.size)) ((ak b i).keep (Kp.of_same (l:=[]) f) aj) (λe e=>aV e f.size));have x:=Z (λe (f:ag a e)=>JI h c e (w.same f) (K.out e f));have y:=Z (λ(f:c.length<=210) e (i:ag a e)=>JJ h c e (w.same i) f);have n:=Z (λ(i:∀b∈c,b.it.cL) e (f:ag a e)=>tP h c e (w.same f) (K.out e f) i);obtain⟨z,A,B⟩:=h;replace x:Hid (∀e,ag a e->Calls prog 13 #[.agg #[O z A B]] e λd m=>zM c d/\ag e m):=x;replace y:Hid (c.length<=210->∀e,ag a e->Calls prog 25 #[.agg #[O z A B]] e (uf c e)):=y;obtain⟨C,L⟩:=av (dj (c.map RI.it) []);rw[<-L]at n;have ao:=Z L;replace n:Hid ((∀b∈c,b.it.cL)->∀c,ag a c->Calls prog 14 #[.agg #[O z A B]] c (gm c C)):=n;clear w ak g al L;show Calls prog 6 #[.agg #[O z A B]] a _;go_enter func6,ntmps6
 go_upto_region 1 with(fail)
 obtain⟨bI,a,ap,M,-⟩:=nb a 24 _;rw[a];clear a;go_wp2_with fail
 refine(am.out bI M.out).mono ?_;rintro d bJ ⟨rfl,N⟩;have P:=Z (M.out.trans N);have Q:=qb (Z N) ap;clear N ap M am;have o:=ay Q;go_wp2_with fail
 refine(x.out bJ P.out).mono ?_;rintro d bK ⟨⟨bL,rfl,aq⟩,R⟩;have D:=Z (P.out.trans R);have S:=qb (Z R) Q;have T:=Z aq;clear R Q P x o aq;cases bL with
 |false=>
  go_wp2;go_ret;exact⟨rfl,D.out⟩
 |true=>
 have bM:=Z (T.out aj).1;have ar:=Z (T.out aj).2;have au:=Z (n.out ar.out bK D.out);clear T n;have o:=ay S;go_wp2_with fail
 refine au.out.mono ?_;rintro d E ⟨aw,bN,bO,p,⟨q,bP,j,r,ax,az⟩,⟨⟨a,F,c⟩,s,t,U⟩⟩;have V:d=.returned (.tuple #[.agg (bt q j),O a F c]):=by
  rw[p,r,s];rfl
 subst V;clear p r s U au o;have aA:=Z ax;have W:=Z (show C.2.length=F from t.1);have aB:=Z aw;clear t aw ax;go_upto_region 5 with(first|(refine wpList_store_row rfl 37 (.tmp 4) (.tmp 16) rfl E.heap.size (bt q j) rfl rfl 37 #[ab,ab,ab,ab,ab,ab,ab] (fK E (.cells #[ab,ab,ab,ab,ab,ab,ab] 37)) an rfl (jb q j) ?_;rw[World.setRow_alloc_new])|fail)
 obtain⟨bQ,g,aC,i,-⟩:=nb E 37 (bt q j);rw[g];clear g;try rw[ie]
 have a:=Z (aB.out.trans i.out);have G:=Z (D.out.trans a.out);have aD:=qb a S;have aF:=Z (az.same i.out);clear a i aB S az D;by_cases u:C.2=[]
 case neg=>
  have a:0<F:=by rw[<-W.out];exact List.length_pos_iff.2 u
  clear u;go_wp2;go_ret;exact⟨rfl,G.out⟩
 have bR:F=0:=by rw[<-W.out,u];rfl
 subst bR;have bS:=Z u;clear u W;go_upto_region 7 with(fail)
 have o:=ay aD;go_wp2_with fail
 refine(y.out bM.out bQ G.out).mono ?_;rintro X H ⟨⟨Y,ac,ad⟩,aG,aH,aI,aJ,ae,af⟩;have bT:X=.returned (.agg #[O Y ac ad]):=aH;subst bT;clear aH;have aK:=Z af;have aL:=Z (G.out.trans af);have aM:Hid (Calls prog 14 #[.agg #[O Y ac ad]] H (gm H (C.1,[]))):=Z (by
  have h:=tP ⟨Y,ac,ad⟩ aG H aJ (λb a=>K.out H aL.out b (ae b a)) (λb a=>ar.out b (ae b a));rw[aI,Jx (by rw[<-ao.out];exact bS.out),<-ao.out]at h;exact h)
 clear aI aJ ae af o y;go_wp2_with fail
 refine aM.out.mono ?_;rintro X I ⟨aN,bN,bO,p,⟨v,bU,k,r,aO,aP⟩,⟨⟨a,aQ,b⟩,s,t,U⟩⟩;have V:X=.returned (.tuple #[.agg (bt v k),O a aQ b]):=by
  rw[p,r,s];rfl
 subst V;obtain rfl:aQ=0:=t.1.symm;clear p r s U aM t;have aR:=Z (aK.out.trans aN);have aT:=Z (show j.su (bP.map RT.tb)=k.su (bU.map RT.tb)from aA.out.trans aO.symm);have aU:=Z aP;clear aN aO aP aA;go_upto_region 8 with(first|(refine wpList_store_row rfl 37 (.tmp 6) (.tmp 26) rfl I.heap.size (bt v k) rfl rfl 37 #[ab,ab,ab,ab,ab,ab,ab] (fK I (.cells #[ab,ab,ab,ab,ab,ab,ab] 37)) an rfl (jb v k) ?_;rw[World.setRow_alloc_new])|fail)
 obtain⟨J,g,e,i,-⟩:=nb I 37 (bt v k);rw[g];clear g;try rw[ie]
 have a:=Z (aR.out.trans i.out);have bV:=Z (G.out.trans a.out);have f:=qb a aC;have ai:=Z (JW (aF.out.same a.out) (aU.out.same i.out) aT.out);clear aR i aC aF aU aT aK aL aD;obtain⟨aW,aX,aY⟩:=q;obtain⟨a0,a1,a2⟩:=v;obtain⟨⟨a3,a4,a5⟩,⟨a6,a7,a8⟩,⟨a9,ba,bb⟩,⟨bc,bd,be⟩,⟨bf,bg,bh⟩,⟨bj,bk,bm⟩,bX,bY,bZ,b0,b1,aG⟩:=j;obtain⟨⟨bn,bo,bp⟩,⟨bq,br,bs⟩,⟨bu,bv,bw⟩,⟨bx,bz,bA⟩,⟨bB,bC,bD⟩,⟨bE,bG,bH⟩,b2,b4,b6,b7,b8,b9⟩:=k;replace ai:Hid (Calls prog 16 #[.agg #[O aW aX aY,O a3 a4 a5,O a6 a7 a8,O a9 ba bb,O bc bd be,O bf bg bh,O bj bk bm],.agg #[O a0 a1 a2,O bn bo bp,O bq br bs,O bu bv bw,O bx bz bA,O bB bC bD,O bE bG bH]] J λd m=>d=.returned (.bool true)/\ag J m):=ai;replace f:Hid (aa J E.heap.size 37 #[O aW aX aY,O a3 a4 a5,O a6 a7 a8,O a9 ba bb,O bc bd be,O bf bg bh,O bj bk bm]):=f;replace e:Hid (aa J I.heap.size 37 #[O a0 a1 a2,O bn bo bp,O bq br bs,O bu bv bw,O bx bz bA,O bB bC bD,O bE bG bH]):=e;have a:=ay f;have e0:=ay e;have a:=aS f;have a:=aS e;have a:=aZ f;have a:=aZ e;have a:=bi f;have a:=bi e;have a:=bl f;have a:=bl e;have a:=bF f;have a:=bF e;have a:=b3 f;have a:=b3 e;go_wp2_with fail
 refine ai.out.mono ?_;rintro d a ⟨rfl,bW⟩;go_wp2;go_ret;exact⟨rfl,bV.out.trans bW⟩
end Go.Proofs.YteamkimbmdgdbaaGreatDoor

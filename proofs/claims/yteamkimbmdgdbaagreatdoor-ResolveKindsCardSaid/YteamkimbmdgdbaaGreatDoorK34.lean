import Derived.Test.YteamkimbmdgdbaaGreatDoorK32
import Derived.Test.YteamkimbmdgdbaaGreatDoorK33
set_option linter.unusedSimpArgs false
set_option linter.unusedVariables false
set_option maxHeartbeats 16000000
set_option maxRecDepth 100000
namespace Go.Proofs.YteamkimbmdgdbaaGreatDoor
open Go.RowKit
theorem IG (b:bL):∀a∈(ek b []).1.queries,a.plan.Ty (ek b []).1.tabs/\rd a.plan.attrs:=by
 unfold ek lh;split
 ·exact λa c=>by cases c
 rw[if_pos (.inr rfl)];exact Iv _
theorem IH {a:List At} (h:rd a) (b:Nat) (c:b<a.length):ed a a[b].name=b:=by
 rcases H2 a a[b].name with⟨_,d⟩|⟨i,e,f,g⟩
 ·exact absurd rfl (d _ (List.getElem_mem c))
 rw[f,h.ne e c g]
theorem II (o:aw) (w:af) (au:aG o) (Y:b4 w ⟨some ⟨0,0,none⟩,10,10⟩ fb) (ad:0<w.heap.size):
 Calls Tryz.prog 10 #[o] w λu ah=>u=.returned (.bool true)/\ag w ah:=by
 have a6:=Z (FQ w Y ad);obtain⟨y,ah⟩:=aq (ek (ba o) []);have av:=Z (λb (c:ag w b)=>o0 o b au (Y.same c) (aT ad c.size));simp only[<-ah]at av;have ax:=Z (show∀b∈y.1.queries,b.plan.Ty y.1.tabs/\rd b.plan.attrs by rw[ah];exact IG _);have ay:=Tryz.lg;clear ah au Y ad;go_enter Tryz.func10,Tryz.ntmps10
 go_wp2_with fail
 refine a6.mono ?_;rintro u a7 ⟨rfl,z⟩;by_cases p:(3000:Int)<(o.size:Int)
 case pos=>
  go_wp2;go_ret;exact⟨rfl,z⟩
 have o:decide ((3000:Int)<(o.size:Int))=false:=by simpa using p
 clear p;go_wp2_with fail
 refine(av a7 z).mono ?_;rintro u j ⟨aA,o,o,o,⟨h,aC,e,Y,aD,aE⟩,⟨⟨ah,au,av⟩,ad,a8,a6⟩⟩;have a9:u=.returned (.tuple #[.agg (bz h e),U ah au av]):=by
  rw[o,Y,ad];rfl
 clear o ad Y a6;subst a9;have aH:=jz h e;have aI:=fx j (.cells #[aa,aa,aa,aa,aa,aa,aa] 37);have aJ:=World.setRow_alloc_new j #[aa,aa,aa,aa,aa,aa,aa] (bz h e) 37;have aj:=Z (show ag j (j.alloc (.cells (bz h e) 37))from(ag.refl j).alloc _);have al:=Z (J.new j 37 (bz h e));have am:=Z aD;clear aD a8;go_upto_region 5 with(first|(refine wpList_store_row rfl 37 (.tmp 4) (.tmp 17) rfl j.heap.size (bz h e) rfl rfl 37 #[aa,aa,aa,aa,aa,aa,aa] aI ay rfl aH ?_;rw[aJ])|fail)
 obtain⟨A,o⟩:=aq (j.alloc (.cells (bz h e) 37));rw[<-o]at aj al⊢;clear o aI aJ aH ay;try rw[oX]
 have bb:=Z (z.trans (aA.trans aj));have v:=Z (aE.same aj);clear aE aA z;have bc:=Z (show∀b∈e.qs,b.rp.pl.Ty (aC.map RT.tb)/\rd (b.rp.attrs.map RA.at_) by
  intro b c;have d:aC.map RT.tb=y.1.tabs:=congrArg Su.tabs am.out;have f:e.qs.map eu.qy=y.1.queries:=congrArg Su.queries am.out;have p:=ax.out b.qy (by rw[<-f];exact List.mem_map.2 ⟨b,c,rfl⟩);rw[<-d]at p;exact⟨p.1,by rw[<-aB.BN];exact p.2⟩)
 clear am ax;obtain⟨aK,aL,aM⟩:=h;obtain⟨⟨bd,be,bf⟩,⟨bg,bi,bk⟩,⟨bm,bo,bp⟩,⟨bq,br,bs⟩,⟨bt,bu,bv⟩,⟨aN,f,bw⟩,b8,b9,ca,cb,cc,x⟩:=e;have bx:Hid (J A j.heap.size 37 #[U aK aL aM,U bd be bf,U bg bi bk,U bm bo bp,U bq br bs,U bt bu bv,U aN f bw]):=al;have e:x.length=f:=v.out.l6.1;have j:f<=9223372036854775807:=v.out.l6.2.1;have bA:=Z e;clear e al;go_upto_region 6 with(fail)
 go_loopg [6] (f+1) (λc d e=>∃b:Nat,d=.int .i64 b/\b<=f/\f-b<c/\Hid (ag A e))
 case atStart=>exact⟨0,rfl,by omega,by omega,Z (ag.refl A)⟩
 case round=>
 obtain⟨b,rfl,ce,aO,r⟩:=hrel;have aP:=Z aO;clear aO;have aQ:=qb r bx;have bB:=cd aQ;by_cases e:b<f
 case neg=>
  have c:¬(b:Int)<(f:Int):=ae
  go_wp2;go_ret;exact⟨rfl,bb.out.trans r.out⟩
 case pos=>
 have e:(b:Int)<(f:Int):=ae
 have an:b<x.length:=by have:=bA.out;omega
 obtain⟨k,l,hA1,e,g⟩:=(v.out.l6.same r.out).2.2 b an;have hA2:aN=some ⟨k,l,none⟩:=hA1;clear hA1;subst hA2;obtain⟨ao,ap⟩:=bc.out x[b] (List.getElem_mem an);have s:=v.out.q x[b] (List.getElem_mem an);generalize x[b]=bC at g ao ap s;obtain⟨cf,aR⟩:=bC;have s:dJ A _ aR:=s;have aS:=Z (λc (d:ag wr c)=>IF v.out.ta s ao c (r.out.trans d));have aU:=Z (s.res.a.1.same r.out);have aV:=Z ap;clear ao ap s;obtain⟨B,C,⟨D,E,F⟩,cg,⟨G,H,I⟩,ch,⟨K,L,M⟩,ci,N,P,⟨t,d,n⟩,i⟩:=aR;have bD:ac wr (ab k (l+b*9+1)) B:=g 1 _ rfl;have bE:ac wr (ab k (l+b*9+1+1)) C:=g 2 _ rfl;have bF:ac wr (ab k (l+b*9+1+2)) (U D E F):=g 3 _ rfl;have bG:ac wr (ab k (l+b*9+1+3)) (U G H I):=g 4 _ rfl;have bH:ac wr (ab k (l+b*9+1+4)) (U K L M):=g 5 _ rfl;have bI:ac wr (ab k (l+b*9+1+5)) N:=g 6 _ rfl;have bJ:ac wr (ab k (l+b*9+1+6)) P:=g 7 _ rfl;have bK:ac wr (ab k (l+b*9+1+7)) (U t d n):=g 8 _ rfl;have bL:Hid (Rt 32 #[.agg #[U aK aL aM],.agg #[B,C,U D E F,U G H I,U K L M,N,P,U t d n]] wr (.bool true)):=aS;have Q:Hid (aF wr 6 ⟨t,d,n⟩ RA.cells i):=aU;have bN:Hid (rd (i.map RA.at_)):=aV;clear g aS aU aV;go_upto_region 9 with(first|(refine wpList_store_row rfl 105 (.tmp 7) (.tmp 31) rfl wr.heap.size #[B,C,U D E F,U G H I,U K L M,N,P,U t d n] rfl rfl 105 #[O 0,O 0,aa,aa,aa,O 0,O 0,aa] (J.new wr 105 #[O 0,O 0,aa,aa,aa,O 0,O 0,aa]) ak rfl bl ?_;rw[World.setRow_alloc_new])|fail)
 obtain⟨bO,e,m,R,-⟩:=nb wr 105 #[B,C,U D E F,U G H I,U K L M,N,P,U t d n];rw[e];clear e bD bE bF bG bH bI bJ bK bB;try rw[oX]
 have bP:=az (qb R aQ);have bR:=az m;have bS:=aY m;have bT:=bh m;have bU:=bj m;have bV:=bn m;have bW:=bQ m;have bX:=cd m;have S:=b7 m;go_wp2_with fail
 refine(bL.out bO R.out).mono ?_;rintro u aW ⟨rfl,T⟩;have bY:=qb (Z T) m;have bZ:=Z (R.out.trans T);have b0:=Z (r.out.trans (R.out.trans T));have e:d<=9223372036854775807:=Q.out.2.1;have b1:=Z (show i.length=d from Q.out.1);clear bP bR bS bT bU bV bW bX S T;go_upto_region 12 with(fail)
 obtain⟨cj,rfl⟩:∃e:World,e=wr:=⟨_,rfl⟩;go_loopg [8] (d+1) (λe g j=>∃c:Nat,g=.int .i64 c/\c<=d/\d-c<e/\Hid (ag aW j))
 case atStart=>exact⟨0,rfl,by omega,by omega,Z (ag.refl aW)⟩
 case round=>
 obtain⟨c,rfl,ck,aX,V⟩:=hrel;have aZ:=Z aX;clear aX;have S:=b7 (qb V bY);by_cases e:c<d
 case neg=>
  have e:¬(c:Int)<(d:Int):=ae
  go_wp2;go_roundg (f-b)
  case measure=>have:=aP.out;omega
  exact⟨b+1,by go_num,by omega,by have:=aP.out;omega,Z (b0.out.trans V.out)⟩
 case pos=>
 have b:(c:Int)<(d:Int):=ae
 have a0:c<i.length:=by have:=b1.out;omega
 have a1:=Z (bZ.out.trans V.out);obtain⟨W,X,a2,b,a3⟩:=(Q.out.same a1.out).2.2 c a0;have b2:t=some ⟨W,X,none⟩:=a2;subst b2;have ar:ac wr (ab W (X+c*6)) (.string i[c].at_.name):=by have h:=a3 0 _ rfl;simpa using h
 have e:ed (i.map RA.at_) i[c].at_.name=c:=by
  have h:=IH bN.out c (by simpa using a0);rw[List.getElem_map]at h;exact h
 have b:=Z (λb (f:ag wr b)=>Il ⟨some ⟨W,X,none⟩,d,n⟩ i i[c].at_.name b (Q.out.same (a1.out.trans f)));simp only[e]at b;obtain⟨g,f⟩:=aq i[c].at_.name;rw[<-f]at ar b;have g:Hid (Rt 33 #[U (some ⟨W,X,none⟩) d n,g] wr (c:Int)):=b;have b3:=gX (w:=wr) g.out;have g:=bM S;have g:=bM ar;have g:((c:Int) !=(c:Int))=false:=ai
 clear b e f a3 a2;go_upto_region 14 with(fail)
 clear S ar;refine wp_region_quiet_below ak ak ?_;repeat (go_big_quiet_step (first|(go_at_call 33;exact b3 _ _)))
 refine wpQuiet_nil ?_;intro _ b5;obtain⟨⟨a4,osq⟩,b6⟩:=b5;subst b6;have a5:=Z (ag.reg wr a4 osq);generalize Sort.grow (redrawn wr a4) osq=cl at a5⊢;go_wp2;go_roundg (d-c)
 case measure=>have:=aZ.out;omega
 exact⟨c+1,by go_num,by omega,by have:=aZ.out;omega,Z (V.out.trans a5.out)⟩
end Go.Proofs.YteamkimbmdgdbaaGreatDoor

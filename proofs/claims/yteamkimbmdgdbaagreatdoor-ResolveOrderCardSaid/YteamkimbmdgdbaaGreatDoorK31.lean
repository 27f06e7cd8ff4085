import Derived.Test.YteamkimbmdgdbaaGreatDoorK24
set_option linter.unusedSimpArgs false
set_option linter.unusedVariables false
set_option maxHeartbeats 16000000
set_option maxRecDepth 100000
namespace Go.Proofs.YteamkimbmdgdbaaGreatDoor
open Go.Proofs.Tryz
open Go.RowKit
theorem IF (b:ax) (a:ah) (g:aJ b) (o:b5 a ⟨some ⟨0,0,none⟩,10,10⟩ fJ) (q:0<a.heap.size) (e:(dD (ba b)).2.1≠0):
 Calls prog 26 #[b] a λi q=>ja a (gy (ba b)) i q:=by
 have q:∀(q:Fn) (first cap:aQ) (a:ah),(Instr.makeFunc q first cap).run prog a=.ok (.func q first cap) a:=λ_ _ _ _=>rfl;obtain⟨q,N,P,Q,R⟩:=info_parts Tryz.tH;have q:(b.size:Int)<=9223372036854775807:=by unfold aJ at g;omega
 have q:=Z o;have j:=Z (yX b (((a.alloc (.cells #[ab] 24)).alloc (.cells #[J 0] 76)).alloc (.cells #[J 0] 3)) g);have r:=Z (y4 (ba b));have f:Hid (gy (ba b)=if(dD (ba b)).2.1=0 then rX (b.size:Int) (dD (ba b)).1 else .bad (dD (ba b)).2.1 (dD (ba b)).2.2):=Z (by unfold gy;rw[eZ]);have q:ag a (((a.alloc (.cells #[ab] 24)).alloc (.cells #[J 0] 76)).alloc (.cells #[J 0] 3)):=(((ag.refl a).alloc _).alloc _).alloc _;have s:=Z q;have k:=Z (show aa (((a.alloc (.cells #[ab] 24)).alloc (.cells #[J 0] 76)).alloc (.cells #[J 0] 3)) (a.heap.size) 24 #[ab]from((h8 _ rfl).alloc _).alloc _);have m:=Z (show aa (((a.alloc (.cells #[ab] 24)).alloc (.cells #[J 0] 76)).alloc (.cells #[J 0] 3)) (a.heap.size+1) 76 #[J 0]from(h8 _ aj).alloc _);have n:=Z (show aa (((a.alloc (.cells #[ab] 24)).alloc (.cells #[J 0] 76)).alloc (.cells #[J 0] 3)) (a.heap.size+1+1) 3 #[J 0]from h8 _ aj);clear o g q;generalize gy (ba b)=u at f⊢;generalize dD (ba b)=v at j r f e;obtain⟨S,c,d⟩:=v;have w:=Z e;clear e;go_enter_defers func26,ntmps26
 go_wp2_with fail
 refine j.mono ?_;rintro i x ⟨⟨y,z,A⟩,B,t,sm⟩;obtain rfl:i=.returned (.tuple #[O y z A,c,d]):=B;have b:=Z t;have C:=Z (s.trans sm);have g:=Z (k.below sm k.lt);have i:=Z (m.below sm m.lt);have o:=Z (n.below sm n.lt);clear t sm j k m n s;have j:=λb=>aa.frozen g b;have j:=λb=>aa.frozen i b;have b:=λb=>aa.frozen o b;have b:=ay g;have b:=ay i;have b:=ay o;have e:=w.out;have b:(c==0)=false:=by simp[e]
 have D:=Z (show u=.bad c d by rw[f.out];exact if_neg e);have E:=Z (aa.far (aa.far (((aa.far (aa.far g (p:=(ac (a.heap.size+1) 0)) aG c) (p:=(ac (a.heap.size+1+1) 0)) aG d)).aR 0 ab) (p:=(ac (a.heap.size+1) 0)) aG c) (p:=(ac (a.heap.size+1+1) 0)) aG d);have F:=Z (aa.far (((aa.far (aa.far (i.aR 0 c) (p:=(ac (a.heap.size+1+1) 0)) aG d) (p:=(ao a 0)) aG ab)).aR 0 c) (p:=(ac (a.heap.size+1+1) 0)) aG d);have G:=Z (((aa.far (aa.far (((aa.far o (p:=(ac (a.heap.size+1) 0)) aG c)).aR 0 d) (p:=(ao a 0)) aG ab) (p:=(ac (a.heap.size+1) 0)) aG c)).aR 0 d);have H:=Z (Kp.aI (p:=(ac (a.heap.size+1+1) 0)) (l:=[a.heap.size,a.heap.size+1,a.heap.size+1+1]) aj (Kp.aI (p:=(ac (a.heap.size+1) 0)) (l:=[a.heap.size,a.heap.size+1,a.heap.size+1+1]) aj (Kp.aI (p:=(ao a 0)) (l:=[a.heap.size,a.heap.size+1,a.heap.size+1+1]) aj (Kp.aI (p:=(ac (a.heap.size+1+1) 0)) (l:=[a.heap.size,a.heap.size+1,a.heap.size+1+1]) aj (Kp.aI (p:=(ac (a.heap.size+1) 0)) (l:=[a.heap.size,a.heap.size+1,a.heap.size+1+1]) aj (Kp.refl _ x) c) d) ab) c) d);clear f r;go_wp2_with fail
 go_region
 all_goals
  go_wp2;have I:=D.out;subst I;refine⟨.tuple _,?_,?_,rfl⟩
  ·have K:=aa.cell E.out 0
   have L:=aa.cell F 0;have M:=aa.cell G 0;simp[results,results26,go_sem,K,L,M]
  exact(H.drew.fY C (λa a=>by simp at a;omega))
end Go.Proofs.YteamkimbmdgdbaaGreatDoor

import Derived.Test.YteamkimbmdgdbaaGreatDoorK27
set_option linter.unusedSimpArgs false
set_option linter.unusedVariables false
set_option maxHeartbeats 16000000
set_option maxRecDepth 100000
namespace Go.Proofs.YteamkimbmdgdbaaGreatDoor
open Go.RowKit
theorem Fd (b:aw) (a:af) (g:aG b) (o:b4 a ⟨some ⟨0,0,none⟩,10,10⟩ fb) (q:0<a.heap.size) (e:(dq (ba b)).2.1≠0):
 Calls Tryz.prog 26 #[b] a λi q=>iR a (gi (ba b)) i q:=by
 have q:∀(q:Fn) (first cap:aO) (a:af),(Instr.makeFunc q first cap).run Tryz.prog a=.ok (.func q first cap) a:=λ_ _ _ _=>rfl;obtain⟨q,N,P,Q,R⟩:=info_parts Tryz.wl;have q:(b.size:Int)<=9223372036854775807:=by unfold aG at g;omega
 have q:=Z o;have j:=Z (wj b (((a.alloc (.cells #[aa] 24)).alloc (.cells #[O 0] 76)).alloc (.cells #[O 0] 3)) g);have r:=Z (wu (ba b));have f:Hid (gi (ba b)=if(dq (ba b)).2.1=0 then qK (b.size:Int) (dq (ba b)).1 else .bad (dq (ba b)).2.1 (dq (ba b)).2.2):=Z (by unfold gi;rw[eJ]);have q:ag a (((a.alloc (.cells #[aa] 24)).alloc (.cells #[O 0] 76)).alloc (.cells #[O 0] 3)):=(((ag.refl a).alloc _).alloc _).alloc _;have s:=Z q;have k:=Z (show J (((a.alloc (.cells #[aa] 24)).alloc (.cells #[O 0] 76)).alloc (.cells #[O 0] 3)) (a.heap.size) 24 #[aa]from((hL _ rfl).alloc _).alloc _);have m:=Z (show J (((a.alloc (.cells #[aa] 24)).alloc (.cells #[O 0] 76)).alloc (.cells #[O 0] 3)) (a.heap.size+1) 76 #[O 0]from(hL _ ai).alloc _);have n:=Z (show J (((a.alloc (.cells #[aa] 24)).alloc (.cells #[O 0] 76)).alloc (.cells #[O 0] 3)) (a.heap.size+1+1) 3 #[O 0]from hL _ ai);clear o g q;generalize gi (ba b)=u at f⊢;generalize dq (ba b)=v at j r f e;obtain⟨S,c,d⟩:=v;have w:=Z e;clear e;go_enter_defers Tryz.func26,Tryz.ntmps26
 go_wp2_with fail
 refine j.mono ?_;rintro i x ⟨⟨y,z,A⟩,B,t,sm⟩;obtain rfl:i=.returned (.tuple #[U y z A,c,d]):=B;have b:=Z t;have C:=Z (s.trans sm);have g:=Z (k.below sm k.lt);have i:=Z (m.below sm m.lt);have o:=Z (n.below sm n.lt);clear t sm j k m n s;have j:=λb=>J.frozen g b;have j:=λb=>J.frozen i b;have b:=λb=>J.frozen o b;have b:=az g;have b:=az i;have b:=az o;have e:=w.out;have b:(c==0)=false:=by simp[e]
 have D:=Z (show u=.bad c d by rw[f.out];exact if_neg e);have E:=Z (J.far (J.far (((J.far (J.far g (p:=(ab (a.heap.size+1) 0)) aD c) (p:=(ab (a.heap.size+1+1) 0)) aD d)).aP 0 aa) (p:=(ab (a.heap.size+1) 0)) aD c) (p:=(ab (a.heap.size+1+1) 0)) aD d);have F:=Z (J.far (((J.far (J.far (i.aP 0 c) (p:=(ab (a.heap.size+1+1) 0)) aD d) (p:=(am a 0)) aD aa)).aP 0 c) (p:=(ab (a.heap.size+1+1) 0)) aD d);have G:=Z (((J.far (J.far (((J.far o (p:=(ab (a.heap.size+1) 0)) aD c)).aP 0 d) (p:=(am a 0)) aD aa) (p:=(ab (a.heap.size+1) 0)) aD c)).aP 0 d);have H:=Z (Kp.aE (p:=(ab (a.heap.size+1+1) 0)) (l:=[a.heap.size,a.heap.size+1,a.heap.size+1+1]) ai (Kp.aE (p:=(ab (a.heap.size+1) 0)) (l:=[a.heap.size,a.heap.size+1,a.heap.size+1+1]) ai (Kp.aE (p:=(am a 0)) (l:=[a.heap.size,a.heap.size+1,a.heap.size+1+1]) ai (Kp.aE (p:=(ab (a.heap.size+1+1) 0)) (l:=[a.heap.size,a.heap.size+1,a.heap.size+1+1]) ai (Kp.aE (p:=(ab (a.heap.size+1) 0)) (l:=[a.heap.size,a.heap.size+1,a.heap.size+1+1]) ai (Kp.refl _ x) c) d) aa) c) d);clear f r;go_wp2_with fail
 go_region
 all_goals
  go_wp2;have I:=D.out;subst I;refine⟨.tuple _,?_,?_,rfl⟩
  ·have K:=J.cell E.out 0
   have L:=J.cell F 0;have M:=J.cell G 0;simp[results,Tryz.results26,go_sem,K,L,M]
  exact(H.drew.g4 C (λa a=>by simp at a;omega))
end Go.Proofs.YteamkimbmdgdbaaGreatDoor

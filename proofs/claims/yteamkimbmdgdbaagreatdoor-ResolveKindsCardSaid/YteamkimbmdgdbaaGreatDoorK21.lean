import Derived.Test.YteamkimbmdgdbaaGreatDoorK18
set_option linter.unusedSimpArgs false
set_option linter.unusedVariables false
set_option maxHeartbeats 16000000
set_option maxRecDepth 100000
namespace Go.Proofs.YteamkimbmdgdbaaGreatDoor
open Go.RowKit
theorem EB (a b c:Nat) (f g i:ay) (er at_:Int) (j:List PanicEntry) (d:af) (e:J d a 24 #[f]) (f:J d b 76 #[g]) (g:J d c 3 #[i]) (n:a≠b) (o:a≠c) (q:b≠c):
 CallsD Tryz.prog 45 #[aj a,aj b,aj c] (.panicking ({v:=gI er at_,recovered:=false}::j)) d λk r i=>
  k=.returned (.tuple #[])/\r=.panicking ({v:=gI er at_,recovered:=true}::j)/\J i a 24 #[aa]/\J i b 76 #[er]/\J i c 3 #[at_]/\Kp [a,b,c] d i:=by
 have i:∀(i:af) (j:ay),(Instr.typeAssert (.iface 125 j) 20 125 true).run Tryz.prog i=.ok (.tuple #[j,.bool true]) i:=λ_ _=>by kernel_rfl
 have j:=λi=>J.frozen e i;have j:=λi=>J.frozen f i;have i:=λi=>J.frozen g i;have i:=az e;have i:=az f;have i:=az g;have i:=e.lt;have j:=f.lt;have k:=g.lt;have r:=aW i;have r:=aW j;have r:=aW k;have i:=Nat.ne_of_gt i;have i:=Nat.ne_of_gt j;have i:=Nat.ne_of_gt k;have i:=n.symm;have i:=o.symm;have i:=q.symm;have s:=Z e;have u:=Z f;have w:=Z g;clear e f g;refine callsD_of_wpS Tryz.func45 rfl λe e m=>?_;rw[Tryz.ntmps45];show Code.wpS _ _ _ {tmps:=#[aj a,aj b,aj c,undef,undef,undef,undef,undef,undef,undef,undef,undef,undef,undef,undef,undef,undef,undef,undef,undef,undef,undef],defers:=[]} _ _;apply wpS_seq;apply wpS_region;simp[wpOpsS,go_sem,recoverD,m,Exit.thenS,gI];apply wpS_seq;apply wpS_region;simp[wpOpsS,go_sem,Exit.thenS];refine wpS_cond (t:=true) mW ?_;simp only[if_true];refine wpS_of_wp ?_;refine rM ?_;intro e e;have x:=Z e;clear m e;go_wp2_with fail
 go_region
 refine x _ _ _ ?_;have e:=Z (J.far (J.far (s.aP 0 aa) (p:=(ab b 0)) aD er) (p:=(ab c 0)) aD at_);have f:=Z (J.far ((J.far u (p:=(ab a 0)) aD aa).aP 0 er) (p:=(ab c 0)) aD at_);have g:=Z ((J.far (J.far w (p:=(ab a 0)) aD aa) (p:=(ab b 0)) aD er).aP 0 at_);have a:=Z (Kp.aE (p:=(ab c 0)) (l:=[a,b,c]) ai (Kp.aE (p:=(ab b 0)) ai (Kp.aE (p:=(ab a 0)) ai (Kp.refl [a,b,c] d) aa) er) at_);simp[bodyPostS,results,Tryz.results45];exact⟨(e.alloc _).drew,(f.alloc _).drew,(g.alloc _).drew,(a.alloc _).drew⟩
theorem EC (a b c:Nat) (d:af):
 CallsD Tryz.prog 45 #[aj a,aj b,aj c] .returning d λe f g=>e=.returned (.tuple #[])/\f=.returning/\g=d:=by
 refine callsD_of_wpS Tryz.func45 rfl λi d j=>?_;rw[Tryz.ntmps45];show Code.wpS _ _ _ {tmps:=#[aj a,aj b,aj c,undef,undef,undef,undef,undef,undef,undef,undef,undef,undef,undef,undef,undef,undef,undef,undef,undef,undef,undef],defers:=[]} _ _;apply wpS_seq;apply wpS_region;simp[wpOpsS,go_sem,recoverD,j,Exit.thenS];apply wpS_seq;apply wpS_region;simp[wpOpsS,go_sem,Exit.thenS];refine wpS_cond (t:=false) mW ?_;simp only[Bool.false_eq_true,if_false];refine wpS_of_wp (wp_skip ?_);cases i;simp_all [bodyPostS,results,Tryz.results45]
end Go.Proofs.YteamkimbmdgdbaaGreatDoor

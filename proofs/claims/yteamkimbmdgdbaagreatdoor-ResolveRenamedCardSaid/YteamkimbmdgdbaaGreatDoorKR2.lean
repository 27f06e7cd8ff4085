/- ResolveRenamed: for every input the law returns true, and each argument reads behind the call as it read before; its card, tied to the program's text. Conditions: the row's own (the variable of the parser's key words lies as its initialiser lays it). -/
import Derived.Test.YteamkimbmdgdbaaGreatDoorK01
import Derived.Test.YteamkimbmdgdbaaGreatDoorK02
import Derived.Test.YteamkimbmdgdbaaGreatDoorK04
import Derived.Test.YteamkimbmdgdbaaGreatDoorK18
import Derived.Test.YteamkimbmdgdbaaGreatDoorK26
import Derived.Test.YteamkimbmdgdbaaGreatDoorK28
import Derived.Test.YteamkimbmdgdbaaGreatDoorK29
import Derived.Test.YteamkimbmdgdbaaGreatDoorK31
import Derived.Test.YteamkimbmdgdbaaGreatDoorK32
import Derived.Test.YteamkimbmdgdbaaGreatDoorKR0
import Derived.Test.YteamkimbmdgdbaaGreatDoorKR1
import Derived.ChangeOld
import Derived.ChangeSame
import Derived.Deep.Fields
import Derived.Deep.Slices
import Derived.OpenShut
import Derived.ProofKit
import Derived.SevenTiedAt
set_option linter.unusedSimpArgs false
set_option linter.unusedVariables false
set_option maxHeartbeats 16000000
set_option maxRecDepth 100000
namespace Go.Proofs.YteamkimbmdgdbaaGreatDoor.resolveRenamed
open Go.ChangeShapes Go.WideShapes Go.ChangeAt Go.RowKit
open Go.ChangeMaps (open_string shut_string)
theorem F9 (os:Os) (s:os.Started) (a:Type) (enc:TypeId×Value->a):
 ReturnsInHanded {} Tryz.checked os 9 .any (λa b=>(Rows.resolveRenamedSpec.pre enc Tryz.prog Tryz.f9 [] false a b/\laidMetH Tryz.prog nB a)/\sizedMet enc Tryz.prog Tryz.f9 (OpenSpec.ofChange Rows.resolveRenamedSpec) false a b)
  (Rows.resolveRenamedSpec.post enc Tryz.prog Tryz.f9 false true false false):=by
 refine returnsInHanded_of_change_and (C:=Tryz.checked) (X:=λa _=>laidMetH Tryz.prog nB a) (λ_ _ _ c h=>h.of_heap c) Tryz.own s ak Tryz.func9
  (ChangeSpec.witness_shaped (enc:=enc) (C:=Tryz.checked) (os:=os) (X:=λa _=>laidMetH Tryz.prog nB a) false (World.doorLaid Tryz.prog 4000 os) #[ByteArray.empty,.agg #[O 0,ByteArray.empty,ByteArray.empty,ByteArray.empty,O 0,O 0,O 0,ByteArray.empty]] 8 rfl (World.shaped_of_RefB ak ak) ak ak ak (xZ os _)) ?_
 intro c s b u a a j k _ _ w _;have d:∀(a:Nat) t v,Tryz.f9.params[a]?=some t->b[a]?=some v->Value.okWide Tryz.prog c .any s t v:=j;have x:=k;obtain⟨y,N,wZ,z,rfl,P,Q⟩:=k;have l:DataW.TrodAll enc Tryz.prog c 0 (λ_=>true) true Tryz.f9.params.toList b.toList u y:=wZ;rw[Tryz.params9]at l d;obtain⟨m,R,S,T,A,U,V,rfl,rfl,n,B⟩:=trodAll_cons l;obtain⟨o,W,Y,Z,D,aa,rfl,rfl,rfl,p,E⟩:=trodAll_cons B;obtain⟨rfl,rfl,rfl⟩:=trodAll_nil E;obtain rfl:b=#[m,o]:=by cases b;simp_all
 obtain⟨rfl,rfl⟩:=trodVars_none z;have q:=n;have F:∀e∈A,e.block<c.heap.size:=by obtain⟨f,g⟩:=q;exact DataW.trod_lt f _ _ _ g
 obtain⟨G,rfl,-,-,H⟩:=open_string Tryz.underlying9 (d 0 9 m rfl rfl) n;have r:=p;have I:∀e∈D,e.block<c.heap.size:=by obtain⟨f,g⟩:=r;exact DataW.trod_lt f _ _ _ g
 obtain⟨J,rfl,ab,ac,K,L,ad,ae⟩:=Ko (d 1 99 o rfl rfl) p;clear wZ j;obtain⟨a,b⟩:=yb w;refine(Kj G J c H K L a b).mono λa a ⟨M,i⟩=>?_;subst M;exact⟨_,rfl,_,_,_,[],_,[],x,trodAll_mk1 (shut_bool Tryz.underlying4 _),(trodAll_cons_mk (Below.trod Tryz.laidOut ak (of_decide_eq_true ak) q i F) (trodAll_cons_mk (Below.trod Tryz.laidOut ak (of_decide_eq_true ak) r i I) trodAll_mk0)),rfl,Below.frame i _,λh=>by cases h⟩
theorem Ga:joinedFacts Tryz.prog 9 Tryz.f9 Rows.resolveRenamedSpec Rows.resolveRenamedRow=true:=by
 simp only[joinedFacts,Bool.and_eq_true];repeat' apply And.intro
 all_goals (as_aux_lemma=>kernel_rfl)
theorem Kq:Rows.ResolveRenamedSaid:=
 OpenClaim.holds_of_wide 9 Tryz.f9 rfl rfl rfl rfl rfl rfl rfl ⟨rfl,rfl,rfl,rfl,rfl⟩ rfl rfl rfl rfl rfl (by as_aux_lemma=>kernel_rfl) Tryz.func9 Ga
  (of_decide_eq_true (by as_aux_lemma=>kernel_rfl)) (by unfold Func.isWrapper;first|(rw[if_pos (by as_aux_lemma=>decide+kernel)];as_aux_lemma=>kernel_rfl)|(rw[if_neg (by as_aux_lemma=>decide+kernel)];exact⟨rfl,rfl⟩))
  (λa b c d _=>F9 a b c d)
theorem proved:Rows.ResolveRenamedCardSaid:=
 Claim7.holds_tied_plain_at .later [] [.data,.data,.data,.sentinel,.sentinel,.widerDeep] true Rows.resolveRenamedCard.stood.harness true
  Kq (λ_ h=>by cases h) (by as_aux_lemma=>kernel_rfl) (λ_ h=>by cases h) resolveRenamed_row_tie rfl ⟨rfl,rfl⟩ (by as_aux_lemma=>kernel_rfl) rfl
  (
   λa b c d=>by
   obtain rfl:a=9:=Option.some.inj ((show Tryz.prog.funcNamed "cleanse/cleanselaw10.ResolveRenamed" =some 9 by as_aux_lemma=>kernel_rfl).symm.trans c)|>.symm
   obtain rfl:b=Tryz.f9:=(Option.some.inj (Tryz.func9.symm.trans d)).symm;exact⟨by as_aux_lemma=>kernel_rfl,λa a b=>by
    rw[Tryz.params9]at b;have b:a∈[9,99]:=by simpa using Array.mem_of_getElem? b
    have c:([9,99].all λc=>!Tryz.prog.wantsStandIn c)=true:=by as_aux_lemma=>kernel_rfl
    exact(show Tryz.prog.wantsStandIn a=false by simpa using List.all_eq_true.1 c a b)⟩)
  (by as_aux_lemma=>kernel_rfl)
#print axioms proved
end Go.Proofs.YteamkimbmdgdbaaGreatDoor.resolveRenamed

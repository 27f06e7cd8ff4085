/- ResolveKinds: for every text the law returns true, and the argument reads behind the call as it read before; its card, tied to the program's text. Conditions: the row's own (the variable of the parser's key words lies as its initialiser lays it). -/
import Derived.Test.YteamkimbmdgdbaaGreatDoorK34
set_option linter.unusedSimpArgs false
set_option linter.unusedVariables false
set_option maxHeartbeats 16000000
set_option maxRecDepth 100000
namespace Go.Proofs.YteamkimbmdgdbaaGreatDoor.resolveKinds
open Go.ChangeShapes Go.WideShapes Go.ChangeAt Go.RowKit
open Go.ChangeMaps (open_string shut_string)
theorem F9 (os:Os) (m:os.Started) (a:Type) (enc:TypeId×Value->a):
 ReturnsInHanded {} Tryz.checked os 10 .any (λa b=>(Rows.resolveKindsSpec.pre enc Tryz.prog Tryz.f10 [] false a b/\laidMetH Tryz.prog nB a)/\sizedMet enc Tryz.prog Tryz.f10 (OpenSpec.ofChange Rows.resolveKindsSpec) false a b)
  (Rows.resolveKindsSpec.post enc Tryz.prog Tryz.f10 false true false false):=by
 refine returnsInHanded_of_change_and (C:=Tryz.checked) (X:=λa _=>laidMetH Tryz.prog nB a) (λ_ _ _ c h=>h.of_heap c) Tryz.own m ak Tryz.func10
  (ChangeSpec.witness_shaped (enc:=enc) (C:=Tryz.checked) (os:=os) (X:=λa _=>laidMetH Tryz.prog nB a) false (World.doorLaid Tryz.prog 4000 os) #[.string ByteArray.empty] 8 rfl (World.shaped_of_RefB ak ak) ak ak ak (xZ os _)) ?_
 intro c m b n a a d e _ _ o _;have f:∀(a:Nat) t v,Tryz.f10.params[a]?=some t->b[a]?=some v->Value.okWide Tryz.prog c .any m t v:=d;have p:=e;obtain⟨q,D,wZ,r,rfl,E,F⟩:=e;have g:DataW.TrodAll enc Tryz.prog c 0 (λ_=>true) true Tryz.f10.params.toList b.toList n q:=wZ;rw[Tryz.params10]at g f;obtain⟨i,G,H,I,s,J,K,rfl,rfl,j,u⟩:=trodAll_cons g;obtain⟨rfl,rfl,rfl⟩:=trodAll_nil u;obtain rfl:b=#[i]:=by cases b;simp_all
 obtain⟨rfl,rfl⟩:=trodVars_none r;have k:=j;have w:∀a∈s,a.block<c.heap.size:=by obtain⟨x,y⟩:=k;exact DataW.trod_lt x _ _ _ y
 obtain⟨z,rfl,-,-,A⟩:=open_string Tryz.underlying9 (f 0 9 i rfl rfl) j;clear wZ d;obtain⟨a,b⟩:=yb o;refine(II z c A a b).mono λa a ⟨B,l⟩=>?_;subst B;exact⟨_,rfl,_,_,_,[],_,[],p,trodAll_mk1 (shut_bool Tryz.underlying4 _),(trodAll_cons_mk (Below.trod Tryz.laidOut ak (of_decide_eq_true ak) k l w) trodAll_mk0),rfl,Below.frame l _,λh=>by cases h⟩
theorem Ga:joinedFacts Tryz.prog 10 Tryz.f10 Rows.resolveKindsSpec Rows.resolveKindsRow=true:=by
 simp only[joinedFacts,Bool.and_eq_true];repeat' apply And.intro
 all_goals (as_aux_lemma=>kernel_rfl)
theorem row:Rows.ResolveKindsSaid:=
 OpenClaim.holds_of_wide 10 Tryz.f10 rfl rfl rfl rfl rfl rfl rfl ⟨rfl,rfl,rfl,rfl,rfl⟩ rfl rfl rfl rfl rfl (by as_aux_lemma=>kernel_rfl) Tryz.func10 Ga
  (of_decide_eq_true (by as_aux_lemma=>kernel_rfl)) (by unfold Func.isWrapper;first|(rw[if_pos (by as_aux_lemma=>decide+kernel)];as_aux_lemma=>kernel_rfl)|(rw[if_neg (by as_aux_lemma=>decide+kernel)];exact⟨rfl,rfl⟩))
  (λa b c d _=>F9 a b c d)
theorem proved:Rows.ResolveKindsCardSaid:=
 Claim7.holds_tied_plain_at .later [] [.data,.data,.data,.sentinel,.sentinel,.widerDeep] true Rows.resolveKindsCard.stood.harness true
  row (λ_ h=>by cases h) (by as_aux_lemma=>kernel_rfl) (λ_ h=>by cases h) resolveKinds_row_tie rfl ⟨rfl,rfl⟩ (by as_aux_lemma=>kernel_rfl) rfl
  (
   λa b c d=>by
   obtain rfl:a=10:=Option.some.inj ((show Tryz.prog.funcNamed "cleanse/cleanselaw10.ResolveKinds" =some 10 by as_aux_lemma=>kernel_rfl).symm.trans c)|>.symm
   obtain rfl:b=Tryz.f10:=(Option.some.inj (Tryz.func10.symm.trans d)).symm;exact⟨by as_aux_lemma=>kernel_rfl,λa a b=>by
    rw[Tryz.params10]at b;have b:a∈[9]:=by simpa using Array.mem_of_getElem? b
    have c:([9].all λc=>!Tryz.prog.wantsStandIn c)=true:=by as_aux_lemma=>kernel_rfl
    exact(show Tryz.prog.wantsStandIn a=false by simpa using List.all_eq_true.1 c a b)⟩)
  (by as_aux_lemma=>kernel_rfl)
#print axioms proved
end Go.Proofs.YteamkimbmdgdbaaGreatDoor.resolveKinds

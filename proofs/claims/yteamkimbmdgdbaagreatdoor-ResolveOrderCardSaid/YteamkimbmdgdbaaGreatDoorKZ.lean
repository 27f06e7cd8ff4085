/- ResolveOrder: for every input the law returns true, and each argument reads behind the call as it read before; its card, tied to the program's text. Conditions: the row's own (the variable of the parser's key words lies as its initialiser lays it). -/
import Derived.Test.YteamkimbmdgdbaaGreatDoorK34
set_option linter.unusedSimpArgs false
set_option linter.unusedVariables false
set_option maxHeartbeats 16000000
set_option maxRecDepth 100000
namespace Go.Proofs.YteamkimbmdgdbaaGreatDoor.resolveOrder
open Go.Proofs.Tryz
open Go.ChangeShapes Go.WideShapes Go.ChangeAt Go.RowKit
open Go.ChangeMaps (open_string shut_string)
theorem Km (os:Os) (m:os.Started) (a:Type) (enc:TypeId×Value->a):
 ReturnsInHanded {} Tryz.checked os 6 .any (λa b=>(Rows.resolveOrderSpec.pre enc prog Tryz.f6 [] false a b/\laidMetH prog oI a)/\sizedMet enc prog Tryz.f6 (OpenSpec.ofChange Rows.resolveOrderSpec) false a b)
  (Rows.resolveOrderSpec.post enc prog Tryz.f6 false true false false):=by
 refine returnsInHanded_of_change_and (C:=Tryz.checked) (X:=λa _=>laidMetH prog oI a) (λ_ _ _ c h=>h.of_heap c) Tryz.own m am func6
  (ChangeSpec.witness_shaped (enc:=enc) (C:=Tryz.checked) (os:=os) (X:=λa _=>laidMetH prog oI a) false (World.doorLaid prog 4000 os) #[.agg #[.slice none 0 0]] 8 rfl (World.shaped_of_RefB am am) am am am (Bb os _)) ?_
 intro c m b n a a d e _ _ o _;have f:∀(a:Nat) t v,Tryz.f6.params[a]?=some t->b[a]?=some v->Value.okWide prog c .any m t v:=d;have p:=e;obtain⟨q,F,Aa,r,rfl,G,H⟩:=e;have g:DataW.TrodAll enc prog c 0 (λ_=>true) true Tryz.f6.params.toList b.toList n q:=Aa;rw[params6]at g f;obtain⟨i,I,J,K,s,L,M,rfl,rfl,j,u⟩:=trodAll_cons g;obtain⟨rfl,rfl,rfl⟩:=trodAll_nil u;obtain rfl:b=#[i]:=by cases b;simp_all
 obtain⟨rfl,rfl⟩:=trodVars_none r;have k:=j;have w:∀a∈s,a.block<c.heap.size:=by obtain⟨x,y⟩:=k;exact DataW.trod_lt x _ _ _ y
 obtain⟨z,A,rfl,B,D⟩:=Kl (f 0 24 i rfl rfl) j;clear Aa d;obtain⟨a,b⟩:=Bd o;refine(JX z A c B D a b).mono λa a ⟨E,l⟩=>?_;subst E;exact⟨_,rfl,_,_,_,[],_,[],p,trodAll_mk1 (shut_bool underlying4 _),(trodAll_cons_mk (Below.trod Tryz.laidOut am (of_decide_eq_true am) k l w) trodAll_mk0),rfl,Below.frame l _,λh=>by cases h⟩
theorem Kn:joinedFacts prog 6 Tryz.f6 Rows.resolveOrderSpec Rows.resolveOrderRow=true:=by
 simp only[joinedFacts,Bool.and_eq_true];repeat' apply And.intro
 all_goals (as_aux_lemma=>kernel_rfl)
theorem row:Rows.ResolveOrderSaid:=
 OpenClaim.holds_of_wide 6 Tryz.f6 rfl rfl rfl rfl rfl rfl rfl ⟨rfl,rfl,rfl,rfl,rfl⟩ rfl rfl rfl rfl rfl (by as_aux_lemma=>kernel_rfl) func6 Kn
  (of_decide_eq_true (by as_aux_lemma=>kernel_rfl)) (by unfold Func.isWrapper;first|(rw[if_pos (by as_aux_lemma=>decide+kernel)];as_aux_lemma=>kernel_rfl)|(rw[if_neg (by as_aux_lemma=>decide+kernel)];exact⟨rfl,rfl⟩))
  (λa b c d _=>Km a b c d)
theorem proved:Rows.ResolveOrderCardSaid:=
 Claim7.holds_tied_plain_at .later [] [.data,.data,.data,.sentinel,.sentinel,.widerDeep] true Rows.resolveOrderCard.stood.harness true
  row (λ_ h=>by cases h) (by as_aux_lemma=>kernel_rfl) (λ_ h=>by cases h) resolveOrder_row_tie rfl ⟨rfl,rfl⟩ (by as_aux_lemma=>kernel_rfl) rfl
  (
   λa b c d=>by
   obtain rfl:a=6:=Option.some.inj ((show prog.funcNamed "cleanse/cleanselaw10.ResolveOrder" =some 6 by as_aux_lemma=>kernel_rfl).symm.trans c)|>.symm
   obtain rfl:b=Tryz.f6:=(Option.some.inj (func6.symm.trans d)).symm;exact⟨by as_aux_lemma=>kernel_rfl,λa a b=>by
    rw[params6]at b;have b:a∈[24]:=by simpa using Array.mem_of_getElem? b
    have c:([24].all λc=>!prog.wantsStandIn c)=true:=by as_aux_lemma=>kernel_rfl
    exact(show prog.wantsStandIn a=false by simpa using List.all_eq_true.1 c a b)⟩)
  (by as_aux_lemma=>kernel_rfl)
#print axioms proved
end Go.Proofs.YteamkimbmdgdbaaGreatDoor.resolveOrder

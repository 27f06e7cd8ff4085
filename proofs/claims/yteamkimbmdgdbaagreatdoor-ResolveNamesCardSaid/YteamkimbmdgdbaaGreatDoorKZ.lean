/- ResolveNames: for every input the law returns true, and each argument reads behind the call as it read before; its card, tied to the program's text. Conditions: the row's own (the variable of the parser's key words lies as its initialiser lays it). -/
import Derived.Test.YteamkimbmdgdbaaGreatDoorK34
set_option linter.unusedSimpArgs false
set_option linter.unusedVariables false
set_option maxHeartbeats 16000000
set_option maxRecDepth 100000
namespace Go.Proofs.YteamkimbmdgdbaaGreatDoor.resolveNames
open Go.Proofs.Tryz
open Go.ChangeShapes Go.WideShapes Go.ChangeAt Go.RowKit
open Go.ChangeMaps (open_string shut_string)
theorem Ki (os:Os) (u:os.Started) (a:Type) (enc:TypeId×Value->a):
 ReturnsInHanded {} Tryz.checked os 7 .any (λa b=>(Rows.resolveNamesSpec.pre enc prog Tryz.f7 [] false a b/\laidMetH prog oN a)/\sizedMet enc prog Tryz.f7 (OpenSpec.ofChange Rows.resolveNamesSpec) false a b)
  (Rows.resolveNamesSpec.post enc prog Tryz.f7 false true false false):=by
 refine returnsInHanded_of_change_and (C:=Tryz.checked) (X:=λa _=>laidMetH prog oN a) (λ_ _ _ c h=>h.of_heap c) Tryz.own u am func7
  (ChangeSpec.witness_shaped (enc:=enc) (C:=Tryz.checked) (os:=os) (X:=λa _=>laidMetH prog oN a) false (World.doorLaid prog 4000 os) #[.string ByteArray.empty,.int .u8 0] 8 rfl (World.shaped_of_RefB am am) am am am (Bp os _)) ?_
 intro c u b w a a j k _ _ x _;have d:∀(a:Nat) t v,Tryz.f7.params[a]?=some t->b[a]?=some v->Value.okWide prog c .any u t v:=j;have y:=k;obtain⟨z,N,An,A,rfl,O,P⟩:=k;have l:DataW.TrodAll enc prog c 0 (λ_=>true) true Tryz.f7.params.toList b.toList w z:=An;rw[params7]at l d;obtain⟨m,Q,R,S,B,T,U,rfl,rfl,n,D⟩:=trodAll_cons l;obtain⟨o,V,W,Y,E,Z,rfl,rfl,rfl,p,F⟩:=trodAll_cons D;obtain⟨rfl,rfl,rfl⟩:=trodAll_nil F;obtain rfl:b=#[m,o]:=by cases b;simp_all
 obtain⟨rfl,rfl⟩:=trodVars_none A;have q:=n;have G:∀e∈B,e.block<c.heap.size:=by obtain⟨f,g⟩:=q;exact DataW.trod_lt f _ _ _ g
 obtain⟨H,rfl,-,-,I⟩:=open_string underlying9 (d 0 9 m rfl rfl) n;have r:=p;have J:∀e∈E,e.block<c.heap.size:=by obtain⟨f,g⟩:=r;exact DataW.trod_lt f _ _ _ g
 obtain⟨aa,rfl,-,-,K⟩:=open_int underlying5 (d 1 5 o rfl rfl) p;have L:=Kh K;obtain⟨s,rfl⟩:=Int.eq_ofNat_of_zero_le L.1;have u1:s<256:=af
 clear An j;obtain⟨a,b⟩:=Bs x;refine(Kg H s u1 c I a b).mono λa a ⟨M,i⟩=>?_;subst M;exact⟨_,rfl,_,_,_,[],_,[],y,trodAll_mk1 (shut_bool underlying4 _),(trodAll_cons_mk (Below.trod Tryz.laidOut am (of_decide_eq_true am) q i G) (trodAll_cons_mk (Below.trod Tryz.laidOut am (of_decide_eq_true am) r i J) trodAll_mk0)),rfl,Below.frame i _,λh=>by cases h⟩
theorem Kj:joinedFacts prog 7 Tryz.f7 Rows.resolveNamesSpec Rows.resolveNamesRow=true:=by
 simp only[joinedFacts,Bool.and_eq_true];repeat' apply And.intro
 all_goals (as_aux_lemma=>kernel_rfl)
theorem row:Rows.ResolveNamesSaid:=
 OpenClaim.holds_of_wide 7 Tryz.f7 rfl rfl rfl rfl rfl rfl rfl ⟨rfl,rfl,rfl,rfl,rfl⟩ rfl rfl rfl rfl rfl (by as_aux_lemma=>kernel_rfl) func7 Kj
  (of_decide_eq_true (by as_aux_lemma=>kernel_rfl)) (by unfold Func.isWrapper;first|(rw[if_pos (by as_aux_lemma=>decide+kernel)];as_aux_lemma=>kernel_rfl)|(rw[if_neg (by as_aux_lemma=>decide+kernel)];exact⟨rfl,rfl⟩))
  (λa b c d _=>Ki a b c d)
theorem proved:Rows.ResolveNamesCardSaid:=
 Claim7.holds_tied_plain_at .later [] [.data,.data,.data,.sentinel,.sentinel,.widerDeep] true Rows.resolveNamesCard.stood.harness true
  row (λ_ h=>by cases h) (by as_aux_lemma=>kernel_rfl) (λ_ h=>by cases h) resolveNames_row_tie rfl ⟨rfl,rfl⟩ (by as_aux_lemma=>kernel_rfl) rfl
  (
   λa b c d=>by
   obtain rfl:a=7:=Option.some.inj ((show prog.funcNamed "cleanse/cleanselaw10.ResolveNames" =some 7 by as_aux_lemma=>kernel_rfl).symm.trans c)|>.symm
   obtain rfl:b=Tryz.f7:=(Option.some.inj (func7.symm.trans d)).symm;exact⟨by as_aux_lemma=>kernel_rfl,λa a b=>by
    rw[params7]at b;have b:a∈[9,5]:=by simpa using Array.mem_of_getElem? b
    have c:([9,5].all λc=>!prog.wantsStandIn c)=true:=by as_aux_lemma=>kernel_rfl
    exact(show prog.wantsStandIn a=false by simpa using List.all_eq_true.1 c a b)⟩)
  (by as_aux_lemma=>kernel_rfl)
#print axioms proved
end Go.Proofs.YteamkimbmdgdbaaGreatDoor.resolveNames

import Derived.WalkKit
import Derived.OrdersHeld
import Derived.Deep.RegionHeld3
set_option linter.unusedSimpArgs false
set_option linter.unusedVariables false
set_option maxHeartbeats 16000000
set_option maxRecDepth 100000
namespace Go.Proofs.YtfifnemnihcijaaGreatDoor
open Go.RowKit
section
variable {P:Program} {Q Q':Exit → Act → World → Prop} {md:Region.Mode}
theorem oper_wp_to {o:Oper} {a:Act} {w:World} {K K':Act → World → Prop} (hp:∀ c a w,Q (.panic c) a w → Q' (.panic c) a w) (hl:LetsOut Q → LetsOut Q') (h:∀ a w,K a w → K' a w)
  (hh:o.wp P a w K Q):o.wp P a w K' Q':=by
 unfold Oper.wp at *
 generalize (execOp a.eval o).run P w = r at *
 cases r with
 | ok n w' =>
  cases n <;> simp only [Oper.upon] at hh ⊢ <;>
   first
    | exact h _ _ hh
    | exact Calls.mono hh (fun e w'' he => by cases e <;> first | exact h _ _ he | exact hp _ _ _ he | exact hl he)
    | exact Rows.mono hh (fun _ _ he => h _ _ he)
 | halt x w' => cases x <;> simp only [Oper.upon] at hh ⊢ <;> first | exact hh | exact hp _ _ _ hh
def LastQ (P:Program) (ops:Array Oper) (n:Nat) (Q:Exit → Act → World → Prop):Exit → Act → World → Prop
 | .normal,a,w => wpOp P ops Q n (fun a' w' => Q .normal a' w') a w
 | e,a,w => Q e a w
theorem LastQ.lets {ops:Array Oper} {n:Nat} (h:LetsOut (LastQ P ops n Q)):LetsOut Q:=by
 obtain ⟨a,w,h⟩:=h
 exact ⟨a,w,h⟩
structure LastOk (md:Region.Mode) (ops opsP:Array Oper) (n:Nat):Prop where
 size:opsP.size = n
 sizeL:ops.size = n + 1
 same:∀ i,i < n → ops[i]? = opsP[i]?
 free:∀ (i:Nat) o,ops[i]? = some o → o.guard = none
 back:∀ (i:Nat) o,ops[i]? = some o → ∀ e ∈ o.after,Region.binds md e = true → e.on < i
 cover:∀ j,j < n → ∃ i o,j < i ∧ i ≤ n ∧ ops[i]? = some o ∧ ∃ e ∈ o.after,Region.binds md e = true ∧ e.on = j
structure UpLike (n:Nat) (l lp:Array Bool):Prop where
 s:l.size = n + 1
 sp:lp.size = n
 at_:∀ j,j < n → l.getD j true = lp.getD j true
 last:l.getD n true = false
def Down (md:Region.Mode) (ops:Array Oper) (n:Nat) (l:Array Bool):Prop:=∀ i o,i < n → ops[i]? = some o → l.getD i true = true → ∀ e ∈ o.after,Region.binds md e = true → l.getD e.on true = true
theorem getD_in {l:Array Bool} {j:Nat} (h:j < l.size) (a b:Bool):l.getD j a = l.getD j b:=by simp [Array.getD,h]
variable {ops opsP:Array Oper} {n:Nat} {l lp:Array Bool}
theorem UpLike.ready (k:LastOk md ops opsP n) (al:UpLike n l lp) {i:Nat} (hi:i < n):i ∈ Region.ready md ops l ↔ i ∈ Region.ready md opsP lp:=by
 rw [mem_ready,mem_ready,al.at_ i hi,k.same i hi]
 have hs:=al.s
 have hsp:=al.sp
 constructor
 ·rintro ⟨h0,o,ho,h⟩
  refine ⟨h0,o,ho,fun e he hb => ?_⟩
  have hlt:=k.back i o (by rw [k.same i hi];exact ho) e he hb
  have:=h e he hb
  rw [getD_in (by omega) false true,← al.at_ _ (by omega),getD_in (by omega) true false];exact this
 ·rintro ⟨h0,o,ho,h⟩
  refine ⟨h0,o,ho,fun e he hb => ?_⟩
  have hlt:=k.back i o (by rw [k.same i hi];exact ho) e he hb
  have:=h e he hb
  rw [getD_in (by omega) false true,al.at_ _ (by omega),getD_in (by omega) true false];exact this
theorem UpLike.ready_lt (al:UpLike n l lp) (k:LastOk md ops opsP n) {i:Nat} (h:i ∈ Region.ready md ops l):i < n ∨ i = n:=by
 obtain ⟨h0,o,ho,_⟩:=mem_ready.1 h
 have:=(Array.getElem?_eq_some_iff.1 ho).1
 have:=k.sizeL
 omega
theorem all_up (k:LastOk md ops opsP n) (al:UpLike n l lp) (h:Region.ready md opsP lp = []):∀ i,i < n → l.getD i true = true:=by
 intro i
 induction i using Nat.strongRecOn with
 | _ i ih =>
  intro hi
  have hs:=al.s
  cases hl:l.getD i true with
  | true => rfl
  | false =>
   exfalso
   have hsz:=k.sizeL
   obtain ⟨o,ho⟩:∃ o,ops[i]? = some o:=⟨_,Array.getElem?_eq_getElem (by omega)⟩
   have:i ∈ Region.ready md ops l:=mem_ready.2 ⟨hl,o,ho,fun e he hb => by
    have hlt:=k.back i o ho e he hb
    rw [getD_in (by omega) false true]
    exact ih _ hlt (by omega)⟩
   rw [al.ready k hi,h] at this
   cases this
theorem last_ready (k:LastOk md ops opsP n) (al:UpLike n l lp) (h:Region.ready md opsP lp = []):n ∈ Region.ready md ops l:=by
 have hsz:=k.sizeL
 have hs:=al.s
 obtain ⟨o,ho⟩:∃ o,ops[n]? = some o:=⟨_,Array.getElem?_eq_getElem (by omega)⟩
 exact mem_ready.2 ⟨al.last,o,ho,fun e he hb => by
  have hlt:=k.back n o ho e he hb
  rw [getD_in (by omega) false true]
  exact all_up k al h _ hlt⟩
theorem none_ready (k:LastOk md ops opsP n) (al:UpLike n l lp) (dn:Down md ops n l) (h:n ∈ Region.ready md ops l):Region.ready md opsP lp = []:=by
 have hs:=al.s
 have up:∀ d j,j < n → n - j ≤ d → l.getD j true = true:=by
  intro d
  induction d with
  | zero => intro j hj hd;omega
  | succ d ih =>
   intro j hj hd
   obtain ⟨i,o,h1,h2,ho,e,he,hb,rfl⟩:=k.cover j hj
   by_cases hin:i = n
   ·subst hin
    obtain ⟨_,o',ho',hall⟩:=mem_ready.1 h
    rw [ho] at ho'
    obtain rfl:=Option.some.inj ho'
    have:=hall e he hb
    rw [getD_in (by omega) true false];exact this
   ·exact dn i o (by omega) ho (ih i (by omega) (by omega)) e he hb
 apply List.eq_nil_iff_forall_not_mem.2
 intro i hi
 obtain ⟨h0,o,ho,_⟩:=mem_ready.1 hi
 have hin:i < n:=by have:=(Array.getElem?_eq_some_iff.1 ho).1;have:=k.size;omega
 have:=up n i hin (by omega)
 rw [al.at_ i hin,h0] at this
 cases this
theorem done_last (k:LastOk md ops opsP n) (al:UpLike n l lp) (h:Region.ready md opsP lp = []):Region.ready md ops (l.setIfInBounds n true) = []:=by
 apply List.eq_nil_iff_forall_not_mem.2
 intro i hi
 obtain ⟨h0,o,ho,_⟩:=mem_ready.1 hi
 have hlt:=(Array.getElem?_eq_some_iff.1 ho).1
 have hsz:=k.sizeL
 have hs:=al.s
 by_cases e:i = n
 ·subst e
  simp [Array.getD,hs] at h0
 ·rw [getD_set_ne true (fun h => e h.symm)] at h0
  rw [all_up k al h i (by omega)] at h0
  cases h0
theorem UpLike.set (al:UpLike n l lp) {i:Nat} (hi:i < n):UpLike n (l.setIfInBounds i true) (lp.setIfInBounds i true):=by
 have hs:=al.s
 have hsp:=al.sp
 refine ⟨by simpa using hs,by simpa using hsp,fun j hj => ?_,?_⟩
 ·by_cases e:i = j
  ·subst e;simp [Array.getD,hs,hsp,hj,Nat.lt_succ_of_lt hj]
  ·rw [getD_set_ne true e,getD_set_ne true e];exact al.at_ j hj
 ·rw [getD_set_ne true (by omega)];exact al.last
theorem Down.set (dn:Down md ops n l) (hs:l.size = n + 1) (k:LastOk md ops opsP n) {i:Nat} (hr:i ∈ Region.ready md ops l):Down md ops n (l.setIfInBounds i true):=by
 intro j o hj ho hl e he hb
 have hlt:=k.back j o ho e he hb
 have up:∀ q,l.getD q true = true → (l.setIfInBounds i true).getD q true = true:=by
  intro q hq
  by_cases e:i = q
  ·subst e
   rcases Nat.lt_or_ge i l.size with h | h
   ·simp [Array.getD,h]
   ·simp [Array.getD,Nat.not_lt.2 h]
  ·rw [getD_set_ne true e];exact hq
 by_cases hij:i = j
 ·subst hij
  obtain ⟨_,o',ho',hall⟩:=mem_ready.1 hr
  rw [ho] at ho'
  obtain rfl:=Option.some.inj ho'
  have:=hall e he hb
  exact up _ (by rw [getD_in (by omega) true false];exact this)
 ·rw [getD_set_ne true hij] at hl
  exact up _ (dn j o hj ho hl e he hb)
theorem wpOp_to (k:LastOk md ops opsP n) {i:Nat} (hi:i < n) {K K':Act → World → Prop} {a:Act} {w:World} (h:∀ a w,K a w → K' a w) (hh:wpOp P opsP (LastQ P ops n Q) i K a w):wpOp P ops Q i K' a w:=by
 unfold wpOp at *
 rw [k.same i hi]
 cases ho:opsP[i]? with
 | none => simp only [ho] at hh ⊢;exact h _ _ hh
 | some o =>
  have hg:=k.free i o (by rw [k.same i hi];exact ho)
  simp only [ho] at hh ⊢
  have w1:∀ f,Region.wanted o f = true:=fun f => by unfold Region.wanted;rw [hg]
  rw [if_pos (w1 _)] at hh ⊢
  exact hh.imp (oper_wp_to (fun _ _ _ h => h) (fun z => LastQ.lets (P:=P) (ops:=ops) (n:=n) z) h) (fun ⟨x,y⟩ => ⟨x,LastQ.lets (P:=P) (ops:=ops) (n:=n) y⟩)
theorem wpAny_last (k:LastOk md ops opsP n):∀ (fuel:Nat) (l lp:Array Bool) (a:Act) (w:World),UpLike n l lp → Down md ops n l → wpAny P md opsP (LastQ P ops n Q) fuel lp a w → wpAny P md ops Q (fuel + 1) l a w:=by
 intro fuel
 induction fuel with
 | zero =>
  rintro l lp a w al dn ⟨h,hq⟩
  refine ⟨fun h0 => ?_,fun i hi => ?_⟩
  ·have:=last_ready k al h
   rw [h0] at this;cases this
  ·rcases al.ready_lt k hi with hlt | rfl
   ·rw [al.ready k hlt,h] at hi;cases hi
   ·exact wpOp_mono (fun a' w' h' => ⟨done_last k al h,h'⟩) hq
 | succ fuel ih =>
  rintro l lp a w al dn ⟨hn,hall⟩
  have hs:=al.s
  refine ⟨fun h0 => ?_,fun i hi => ?_⟩
  ·exfalso
   cases hr:Region.ready md opsP lp with
   | nil => have:=last_ready k al hr;rw [h0] at this;cases this
   | cons j r =>
    have hj:j ∈ Region.ready md opsP lp:=by rw [hr];simp
    obtain ⟨_,o,ho,_⟩:=mem_ready.1 hj
    have hlt:j < n:=by have:=(Array.getElem?_eq_some_iff.1 ho).1;have:=k.size;omega
    rw [← al.ready k hlt,h0] at hj;cases hj
  ·rcases al.ready_lt k hi with hlt | rfl
   ·exact wpOp_to k hlt (fun a' w' h' => ih _ _ a' w' (al.set hlt) (dn.set hs k hi) h') (hall i ((al.ready k hlt).1 hi))
   ·have h:=none_ready k al dn hi
    exact wpOp_mono (fun a' w' h' => ⟨fun _ => h',fun j hj => by rw [done_last k al h] at hj;cases hj⟩) (hn h)
def lastOkB (md:Region.Mode) (ops:Array Oper) (n:Nat):Bool:=
 decide (ops.size = n + 1) &&
 ((List.range (n + 1)).all fun i => match ops[i]? with
  | none => false
  | some o => o.guard.isNone && o.after.toList.all fun e => !Region.binds md e || decide (e.on < i)) &&
 ((List.range n).all fun j => (List.range (n + 1)).any fun i => decide (j < i) && match ops[i]? with
  | none => false
  | some o => o.after.toList.any fun e => Region.binds md e && decide (e.on = j))
theorem lastOk_of (h:lastOkB md ops n = true):LastOk md ops ops.pop n:=by
 unfold lastOkB at h
 simp only [Bool.and_eq_true,decide_eq_true_eq,List.all_eq_true,List.mem_range] at h
 obtain ⟨⟨hs,hb⟩,hc⟩:=h
 have one:∀ (i:Nat) o,ops[i]? = some o → o.guard = none ∧ ∀ e ∈ o.after,Region.binds md e = true → e.on < i:=by
  intro i o ho
  have hlt:=(Array.getElem?_eq_some_iff.1 ho).1
  have h1:=hb i (by omega)
  rw [ho] at h1
  simp only [Bool.and_eq_true,Option.isNone_iff_eq_none,List.all_eq_true,Bool.or_eq_true,Bool.not_eq_true',decide_eq_true_eq] at h1
  refine ⟨h1.1,fun e he hbn => ?_⟩
  rcases h1.2 e (by simpa using he) with h2 | h2
  ·rw [hbn] at h2;cases h2
  ·exact h2
 refine ⟨by simp [hs],hs,fun i hi => ?_,fun i o ho => (one i o ho).1,fun i o ho => (one i o ho).2,fun j hj => ?_⟩
 ·rw [Array.getElem?_pop,if_pos (by omega)]
 ·have h1:=hc j hj
  simp only [List.any_eq_true,List.mem_range,Bool.and_eq_true,decide_eq_true_eq] at h1
  obtain ⟨i,hi,hji,h2⟩:=h1
  cases ho:ops[i]? with
  | none => rw [ho] at h2;cases h2
  | some o =>
   rw [ho] at h2
   simp only [List.any_eq_true,Bool.and_eq_true,decide_eq_true_eq] at h2
   obtain ⟨e,he,hb2,hon⟩:=h2
   exact ⟨i,o,hji,by omega,ho,e,by simpa using he,hb2,hon⟩
theorem wp_region_last {id:Nat} {a:Act} {w:World} {S:World → Prop} (hm:P.follows .mixedOrders = true) (k0:LastOk .any ops ops.pop n) (hp:ops.pop = opsP)
  (h:wpAnyH P .any opsP (LastQ P ops n Q) S opsP.size (Array.replicate opsP.size false) a w.drew):(Code.region id ops true).wp P Q a w:=by
 have k:LastOk .any ops opsP n:=hp ▸ k0
 refine wp_region_any hm ?_
 rw [k.sizeL]
 have h2:=wpAny_of_held _ _ _ _ h
 rw [k.size] at h2
 refine wpAny_last k n _ _ a _ ⟨by simp,by simp,fun j hj => by simp [Array.getD,hj,Nat.lt_succ_of_lt hj],by simp [Array.getD]⟩ ?_ h2
 intro i o hi ho hl
 exfalso
 simp [Array.getD,Nat.lt_succ_of_lt hi] at hl
theorem lastQ_of {a:Act} {w:World} {o:Oper} (ho:ops[n]? = some o) (hg:o.guard = none) (h:∀ K':Act → World → Prop,Shut (∀ a w,Q .normal a w → K' a w) → o.wp P a w K' Q):LastQ P ops n Q .normal a w:=by
 show wpOp P ops Q n _ a w
 unfold wpOp
 simp only [ho]
 have w1:∀ f,Region.wanted o f = true:=fun f => by unfold Region.wanted;rw [hg]
 rw [if_pos (w1 _)]
 exact .inl (h _ (fun _ _ h => h))
end
end Go.Proofs.YtfifnemnihcijaaGreatDoor

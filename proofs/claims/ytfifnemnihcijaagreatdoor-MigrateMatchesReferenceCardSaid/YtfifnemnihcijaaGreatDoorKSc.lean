import Derived.Test.YtfifnemnihcijaaGreatDoorKVb
set_option linter.unusedSimpArgs false
set_option linter.unusedVariables false
set_option maxHeartbeats 16000000
set_option maxRecDepth 100000
namespace Go.Proofs.YtfifnemnihcijaaGreatDoor
open Go.RowKit
theorem errOf_zero {s:List Tb} {c:Cg} (h:errOf s c = 0):formedB c = true ∧ validB s = true ∧ ∃ (i:Nat) (hi:i < s.length),findT s c.table = i ∧ s[i].name = c.table ∧ (c.kind ≠ 1 → 0 ≤ colA s[i].attrs c.attr) ∧ checkE s[i] c (colA s[i].attrs c.attr).toNat = 0:=by
 unfold errOf at h
 cases hf:formedB c with
 | false => rw [hf] at h;simp at h
 | true =>
  cases hv:validB s with
  | false => rw [hf,hv] at h;simp at h
  | true =>
   rw [hf,hv] at h
   simp only [Bool.and_self,if_true] at h
   refine ⟨rfl,rfl,?_⟩
   rcases idxB_cases (fun t:Tb => decide (t.name = c.table)) s with ⟨e,_⟩ | ⟨i,hi,e,hp,_⟩
   ·have e':findT s c.table = -1:=e
    rw [e',if_pos (by omega)] at h
    cases h
   ·have e':findT s c.table = i:=e
    rw [e',if_neg (by omega)] at h
    simp only [Int.toNat_natCast,List.getElem?_eq_getElem hi] at h
    have hp':s[i].name = c.table:=by simpa using hp
    by_cases hc:(decide (c.kind ≠ 1) && decide (colA s[i].attrs c.attr < 0)) = true
    ·rw [if_pos hc] at h;cases h
    ·rw [if_neg hc] at h
     refine ⟨i,hi,e',hp',fun hk => ?_,h⟩
     simp at hc
     exact hc hk
structure Right (t:Tb):Prop where
 nm:nameB t.name = true
 l1:1 ≤ t.attrs.length
 l12:t.attrs.length ≤ 12
 k1:1 ≤ t.key.length
 at_:∀ a ∈ t.attrs,attrB a = true
 names:∀ x ∈ namesA t.attrs,nameB x = true
 nodup:(namesA t.attrs).Nodup
 key:∀ j,j < t.key.length → keyAt t.attrs.length t.key j = true
theorem right_iff {t:Tb}:rightB t = true ↔ Right t:=by
 unfold rightB
 have e:namesOf t = namesA t.attrs:=rfl
 rw [e]
 simp only [Bool.and_eq_true,decide_eq_true_eq,Bool.not_eq_true',List.all_eq_true,keyB,List.mem_range,dupB_iff]
 constructor
 ·rintro ⟨⟨⟨⟨⟨h1,⟨h2,h3⟩,h4⟩,h5⟩,h6⟩,h7⟩,h8⟩
  exact ⟨h1,h2,h3,h4,h5,h6,h7,h8⟩
 ·rintro ⟨h1,h2,h3,h4,h5,h6,h7,h8⟩
  exact ⟨⟨⟨⟨⟨h1,⟨h2,h3⟩,h4⟩,h5⟩,h6⟩,h7⟩,h8⟩
theorem keyAt_iff {n:Nat} {l:List Int} {i:Nat}:keyAt n l i = true ↔ (0 ≤ l.getD i 0 ∧ l.getD i 0 < n) ∧ (i = 0 ∨ l.getD (i - 1) 0 < l.getD i 0):=by
 simp [keyAt]
theorem valid_iff {s:List Tb}:validB s = true ↔ s.length ≤ 20 ∧ ∀ i (hi:i < s.length),Right s[i] ∧ findT s s[i].name = i:=by
 unfold validB
 simp only [Bool.and_eq_true,decide_eq_true_eq,List.all_eq_true,List.mem_range]
 constructor
 ·rintro ⟨h1,h2⟩
  refine ⟨h1,fun i hi => ?_⟩
  have:=h2 i hi
  rw [List.getElem?_eq_getElem hi] at this
  simp only [Bool.and_eq_true,decide_eq_true_eq,right_iff] at this
  exact this
 ·rintro ⟨h1,h2⟩
  refine ⟨h1,fun i hi => ?_⟩
  rw [List.getElem?_eq_getElem hi]
  simp only [Bool.and_eq_true,decide_eq_true_eq,right_iff]
  exact h2 i hi
theorem split_at {α:Type} (l:List α) (a:Nat) (h:a < l.length):∃ A B,l = A ++ l[a] :: B ∧ A.length = a:=by
 refine ⟨l.take a,l.drop (a + 1),?_,by simp;omega⟩
 rw [List.getElem_cons_drop,List.take_append_drop]
theorem modify_mid {α:Type} (f:α → α) (x:α) (B:List α):∀ A:List α,(A ++ x :: B).modify A.length f = A ++ f x :: B
 | [] => by simp
 | y :: A => by simp [modify_mid f x B A]
theorem erase_mid {α:Type} (x:α) (B:List α):∀ A:List α,(A ++ x :: B).eraseIdx A.length = A ++ B
 | [] => by simp
 | y :: A => by simp [erase_mid x B A]
theorem formed_kind {c:Cg} (h:formedB c = true):c.kind = 1 ∨ c.kind = 2 ∨ c.kind = 3 ∨ c.kind = 4:=by
 unfold formedB at h
 by_cases h1:c.kind = 1
 ·exact .inl h1
 by_cases h2:c.kind = 2
 ·exact .inr (.inl h2)
 by_cases h3:c.kind = 3
 ·exact .inr (.inr (.inl h3))
 by_cases h4:c.kind = 4
 ·exact .inr (.inr (.inr h4))
 rw [if_neg h1,if_neg h2,if_neg h3,if_neg h4] at h
 cases h
theorem applyS_len (s:List Tb) (c:Cg):(applyS s c).length = s.length:=by simp [applyS]
theorem applyS_get {s:List Tb} {c:Cg} {i:Nat} (_hi:i < s.length) (hf:findT s c.table = i) (j:Nat) (hj:j < s.length):(applyS s c)[j]'(by rw [applyS_len];exact hj) = if i = j then newT s[j] c else s[j]:=by
 simp only [applyS,hf,Int.toNat_natCast,List.getElem_modify]
theorem new_attrs {t:Tb} {c:Cg} (hf:formedB c = true) (hc:c.kind ≠ 1 → 0 ≤ colA t.attrs c.attr) :
  (c.kind = 1 ∧ (newT t c).attrs = t.attrs ++ [⟨c.name,c.to_,[],c.dflt⟩]) ∨
  ∃ A x B,t.attrs = A ++ x :: B ∧ colA t.attrs c.attr = A.length ∧ ((c.kind = 2 ∧ (newT t c).attrs = A ++ B) ∨ (c.kind = 3 ∧ (newT t c).attrs = A ++ ⟨c.name,x.kind,x.was ++ [x.name],x.dflt⟩ :: B) ∨ (c.kind = 4 ∧ (newT t c).attrs = A ++ ⟨x.name,c.to_,x.was,c.dflt⟩ :: B)):=by
 rcases formed_kind hf with hk | hk | hk | hk
 ·left;exact ⟨hk,by simp [newT,newA,hk]⟩
 all_goals
  right
  have hc':=hc (by omega)
  obtain ⟨a,ha⟩:∃ a:Nat,colA t.attrs c.attr = a:=⟨_,(Int.toNat_of_nonneg hc').symm⟩
  have hal:a < t.attrs.length:=by have:=(colA_lt t.attrs c.attr).2;omega
  obtain ⟨A,B,hl,hA⟩:=split_at t.attrs a hal
  obtain ⟨x,hx⟩:∃ x,x = t.attrs[a]:=⟨_,rfl⟩
  rw [← hx] at hl
  refine ⟨A,x,B,hl,by omega,?_⟩
 ·left
  have:(newT t c).attrs = t.attrs.eraseIdx a:=by simp [newT,newA,hk,ha]
  exact ⟨hk,by rw [this,hl,← hA,erase_mid]⟩
 ·right;left
  have:(newT t c).attrs = t.attrs.modify a (fun x => ⟨c.name,x.kind,x.was ++ [x.name],x.dflt⟩):=by simp [newT,newA,hk,ha]
  exact ⟨hk,by rw [this,hl,← hA,modify_mid]⟩
 ·right;right
  have:(newT t c).attrs = t.attrs.modify a (fun x => ⟨x.name,c.to_,x.was,c.dflt⟩):=by simp [newT,newA,hk,ha]
  exact ⟨hk,by rw [this,hl,← hA,modify_mid]⟩
theorem key_ge {n:Nat} {l:List Int} (h:∀ j,j < l.length → keyAt n l j = true):∀ j,j < l.length → (j:Int) ≤ l.getD j 0
 | 0,hj => by have:=(keyAt_iff.1 (h 0 hj)).1.1;simpa using this
 | j + 1,hj => by
  have ih:=key_ge h j (by omega)
  have h2:=(keyAt_iff.1 (h (j + 1) hj)).2
  rcases h2 with h2 | h2
  ·omega
  ·rw [Nat.add_sub_cancel] at h2
   omega
theorem key_len {n:Nat} {l:List Int} (h:∀ j,j < l.length → keyAt n l j = true):l.length ≤ n:=by
 rcases Nat.eq_zero_or_pos l.length with h0 | h0
 ·omega
 ·have h1:=key_ge h (l.length - 1) (by omega)
  have h2:=(keyAt_iff.1 (h (l.length - 1) (by omega))).1.2
  omega
theorem Right.klen {t:Tb} (r:Right t):t.key.length ≤ 12:=Nat.le_trans (key_len r.key) r.l12
def rowP (c:Cg) (a:Nat) (row:List V):List V × Int:=
 if c.kind = 1 then (row ++ [c.dflt],0)
 else if c.kind = 2 then (row.eraseIdx a,0)
 else if c.kind = 3 then (row,0)
 else if (castP (row.getD a V.zero) c.to_).2 = 0 then (row.set a (castP (row.getD a V.zero) c.to_).1,0) else ([],15)
def convS (s:List Tb) (c:Cg) (table:Int) (row:List V):List V × Int:=
 if errOf s c ≠ 0 then ([],errOf s c)
 else match s[table.toNat]? with
  | none => ([],1)
  | some t =>
   if table < 0 ∨ fitsB t row = false then ([],1)
   else if table ≠ findT s c.table then (row,0)
   else rowP c (colA t.attrs c.attr).toNat row
theorem fits_iff {t:Tb} {row:List V}:fitsB t row = true ↔ row.length = t.attrs.length ∧ ∀ i (h1:i < row.length) (h2:i < t.attrs.length),fitB t.attrs[i].kind row[i] = true:=by
 unfold fitsB
 simp only [Bool.and_eq_true,decide_eq_true_eq,List.all_eq_true,List.mem_range]
 constructor
 ·rintro ⟨h1,h2⟩
  refine ⟨h1,fun i ha hb => ?_⟩
  have:=h2 i ha
  rw [List.getElem?_eq_getElem ha,List.getElem?_eq_getElem hb] at this
  exact this
 ·rintro ⟨h1,h2⟩
  refine ⟨h1,fun i hi => ?_⟩
  have hb:i < t.attrs.length:=by omega
  rw [List.getElem?_eq_getElem hi,List.getElem?_eq_getElem hb]
  exact h2 i hi hb
theorem conv_at {s:List Tb} {c:Cg} (h:errOf s c = 0) (n:Nat) (hn:n < s.length) (row:List V) (hf:fitsB s[n] row = true) :
  convS s c n row = if s[n].name = c.table then rowP c (colA s[n].attrs c.attr).toNat row else (row,0):=by
 obtain ⟨_,hv,i,hi,hfi,hnm,_⟩:=errOf_zero h
 have hv':=(valid_iff.1 hv).2
 unfold convS
 rw [if_neg (by rw [h];simp)]
 simp only [Int.toNat_natCast,List.getElem?_eq_getElem hn]
 rw [if_neg (by rw [hf];simp),hfi]
 by_cases e:n = i
 ·subst e
  simp [hnm]
 ·have:s[n].name ≠ c.table:=by
   intro e2
   have h1:=(hv' n hn).2
   rw [e2,hfi] at h1
   omega
  rw [if_pos (by omega),if_neg this]
section
variable {S:List Tb} {c:Cg}
theorem err_E0 (h:formedB c = false):errOf S c = 1:=by simp [errOf,h]
theorem err_E1 (h:validB S = false):errOf S c = 1:=by simp [errOf,h]
theorem err_E2 (hf:formedB c = true) (hv:validB S = true) (h:findT S c.table < 0):errOf S c = 11:=by simp [errOf,hf,hv,h]
theorem err_E3 (hf:formedB c = true) (hv:validB S = true) (k:Nat) (hk:k < S.length) (h:findT S c.table = k) (h1:c.kind ≠ 1) (hc:colA S[k].attrs c.attr < 0):errOf S c = 11:=by
 have:¬ ((k:Int) < 0):=by omega
 simp [errOf,hf,hv,h,this,hk,h1,hc]
theorem err_E4 (hf:formedB c = true) (hv:validB S = true) (k:Nat) (hk:k < S.length) (h:findT S c.table = k) (hc:c.kind ≠ 1 → ¬ colA S[k].attrs c.attr < 0):errOf S c = checkE S[k] c (colA S[k].attrs c.attr).toNat:=by
 have h0:¬ ((k:Int) < 0):=by omega
 by_cases h1:c.kind = 1
 ·simp [errOf,hf,hv,h,h0,hk,h1]
 ·have hx:0 ≤ colA S[k].attrs c.attr:=by have:=hc h1;omega
  have hx':¬ colA S[k].attrs c.attr < 0:=by omega
  simp [errOf,hf,hv,h,h0,hk,h1,hx']
end
end Go.Proofs.YtfifnemnihcijaaGreatDoor

import Derived.Test.YtfifnemnihcijaaGreatDoorKSm
import Derived.WalkSpells
set_option linter.unusedSimpArgs false
set_option linter.unusedVariables false
set_option maxHeartbeats 16000000
set_option maxRecDepth 100000
namespace Go.Proofs.YtfifnemnihcijaaGreatDoor
open Go.RowKit
section
variable {α:Type} {enc:α → List Value} {m:Nat}
theorem flat_len (hm:∀ x,(enc x).length = m) (xs:List α):(xs.flatMap enc).length = xs.length * m:=by
 induction xs with
 | nil => simp
 | cons x xs ih => rw [List.flatMap_cons,List.length_append,ih,hm,List.length_cons,Nat.add_mul];omega
theorem flat_get (hm:∀ x,(enc x).length = m):∀ (xs:List α) (i:Nat) (hi:i < xs.length) (j:Nat),j < m → (xs.flatMap enc)[i * m + j]? = (enc xs[i])[j]?
 | x :: xs,0,_,j,hj => by
  rw [List.flatMap_cons,List.getElem?_append_left (by rw [hm];omega)]
  simp
 | x :: xs,i + 1,hi,j,hj => by
  have hi':i < xs.length:=by simpa using hi
  have e:(i + 1) * m + j = m + (i * m + j):=by rw [Nat.add_mul];omega
  rw [List.flatMap_cons,e,List.getElem?_append_right (by rw [hm];omega),hm,Nat.add_sub_cancel_left,flat_get hm xs i hi' j hj]
  rfl
theorem flat_split (hm:∀ x,(enc x).length = m) (xs:List α) (j:Nat) (u:Value) (hu:(xs.flatMap enc)[j]? = some u):∃ i,∃ hi:i < xs.length,∃ r,r < m ∧ j = i * m + r ∧ (enc xs[i])[r]? = some u:=by
 have hj:j < (xs.flatMap enc).length:=(List.getElem?_eq_some_iff.1 hu).1
 rw [flat_len hm] at hj
 have hm0:0 < m:=by
  rcases Nat.eq_zero_or_pos m with h | h
  ·subst h;simp at hj
  ·exact h
 have hi:j / m < xs.length:=Nat.div_lt_of_lt_mul (by rw [Nat.mul_comm];exact hj)
 have hr:j % m < m:=Nat.mod_lt _ hm0
 have e:j = j / m * m + j % m:=by rw [Nat.mul_comm];exact (Nat.div_add_mod j m).symm
 refine ⟨j / m,hi,j % m,hr,e,?_⟩
 rw [← flat_get hm xs _ hi _ hr,← e]
 exact hu
theorem lies_reads {w:World} {h:Hd} {xs:List α} (hm:∀ x,(enc x).length = m) (a:Lies w m h enc xs):Reads w w.heap.size m h.a h.n (xs.flatMap enc):=by
 refine ⟨by rw [flat_len hm,a.1],fun hn => ?_⟩
 have h0:0 < xs.length:=by rw [a.1];exact hn
 obtain ⟨b,off,ha,hb,_⟩:=a.2.2 0 h0
 refine ⟨⟨b,off,none⟩,ha,hb,fun j u hu => ?_⟩
 obtain ⟨i,hi,r,hr,rfl,hu'⟩:=flat_split hm xs j u hu
 obtain ⟨b',off',ha',_,hc⟩:=a.2.2 i hi
 rw [ha] at ha'
 injection ha' with ha'
 injection ha' with e1 e2
 subst e1 e2
 rw [← hc r u hu']
 unfold Addr.add
 split <;> simp_all [Nat.add_assoc]
theorem own_lies' {w:World} {base:Nat} {e:TypeId} {h:Hd} {xs:List α} (hm:∀ x,(enc x).length = m) (hl:xs.length = h.n) (hb:h.n ≤ 9223372036854775807) (o:w.ownsRow base e m h.val h.n (xs.flatMap enc)):Lies w m h enc xs:=by
 refine ⟨hl,hb,fun k hk => ?_⟩
 obtain ⟨g,cap,hv,hgb,hlt⟩:=o.form (by omega)
 have ha:h.a = some ⟨g,0,none⟩:=by
  have:Value.slice h.a h.n h.c = .slice (some ⟨g,0,none⟩) h.n cap:=hv
  injection this
 refine ⟨g,0,ha,hlt,fun j v hv2 => ?_⟩
 have hj:j < m:=by rw [← hm xs[k]];exact (List.getElem?_eq_some_iff.1 hv2).1
 rw [hv] at o
 have hkm:k * m + j < h.n * m:=by
  have:(k + 1) * m ≤ h.n * m:=Nat.mul_le_mul_right m (by omega)
  rw [Nat.add_mul] at this;omega
 rw [Nat.zero_add,o.cellAt _ hkm,flat_get hm xs k hk j hj]
 exact hv2
end
theorem own_val {w:World} {base:Nat} {e:TypeId} {m n:Nat} {v:Value} {xs:List Value} (o:w.ownsRow base e m v n xs):∃ A c,v = .slice A n c:=by
 rcases o.2 with ⟨rfl,rfl⟩ | ⟨g,cap,_,rfl,_⟩
 ·exact ⟨_,_,rfl⟩
 ·exact ⟨_,_,rfl⟩
theorem ownsRow_new (w:World) (e:TypeId) (m:Nat):(w.alloc (.cells #[] e)).ownsRow w.heap.size e m (.slice (some ⟨w.heap.size,0,none⟩) 0 0) 0 []:=
 ⟨by simp,.inr ⟨w.heap.size,0,#[],rfl,Nat.le_refl _,heap_alloc_new w _,Nat.le_refl _,Nat.zero_le _,by simp,by simp⟩⟩
theorem Tryz.infoCT:(Tryz.prog.info? 44).map (fun i => (i.zero,i.size,i.bytes)) = some (some (.agg #[.string ByteArray.empty,.slice none 0 0,.slice none 0 0]),3,64):=by kernel_rfl
theorem cloneT_ok {α:Type} (h:Hd) (enc:α → List Value) (hm:∀ x,(enc x).length = 3) (h1:∀ x,∀ v ∈ enc x,v.oneCell' = true) (xs:List α) (w:World) (l:Lies w 3 h enc xs) (hn:h.n ≤ 1000000000) :
  Calls Tryz.prog 38 #[h.val] w fun e w' => e = .returned (.slice none 0 0) ∧ xs = [] ∧ Same w w' ∨ ∃ c g,e = .returned (.slice (some ⟨g,0,none⟩) xs.length c) ∧ Same w w' ∧ w'.ownsRow w.heap.size 44 3 (.slice (some ⟨g,0,none⟩) xs.length c) xs.length (xs.flatMap enc):=by
 obtain ⟨i0,hi0,hiz0,hiz1,hiz2⟩:=info_parts Tryz.infoCT
 have hr:=lies_reads hm l
 have hl:=l.1
 have hone:∀ u ∈ xs.flatMap enc,u.oneCell' = true:=by
  intro u hu
  obtain ⟨x,_,hx⟩:=List.mem_flatMap.1 hu
  exact h1 x u hx
 have hnil:xs = [] ↔ xs.length = 0:=by cases xs <;> simp
 obtain ⟨A,n,c⟩:=h
 simp only at hr hl hn
 subst hl
 have HR:=Lib.hid hr
 have H1:=Lib.hid hone
 have HNIL:=Lib.hid hnil
 clear l hm h1 hr hone hnil
 show Calls Tryz.prog 38 #[.slice A xs.length c] w _
 have q22:∀ (w:World) (a:Option Addr) (n c n' c':Nat),(binOp .eql 22 (.slice a n c) (.slice none n' c')).run Tryz.prog w = .ok (.bool a.isNone) w:=fun w a n c n' c' => Lib.run_eql_slice_nil w _ _ a n c n' c' Tryz.underlying22
 cases A with
 | none =>
  have h0:xs.length = 0:=by
   rcases Nat.eq_zero_or_pos xs.length with h | h
   ·exact h
   ·obtain ⟨_,h,_⟩:=HR.out.2 h
    cases h
  have HX:=Lib.hid (HNIL.out.2 h0)
  clear h0
  go_enter Tryz.func38,Tryz.ntmps38
  go_wp2
  go_ret
  exact .inl ⟨rfl,HX.out,Same.refl _⟩
 | some ad =>
  go_enter Tryz.func38,Tryz.ntmps38
  go_wp2_with (at_builtin;refine wpList_append_any _ rfl (.tmp 5) (.tmp 6) 22 rfl w.heap.size 44 i0 _ 3 64 Tryz.underlying22 hi0 hiz0 hiz1 hiz2 rfl (by decide) (.slice (some ⟨w.heap.size,0,none⟩) 0 0) 0 [] rfl (ownsRow_new w _ _) w.heap.size (some ad) xs.length c (xs.flatMap enc) rfl (HR.out.alloc (Nat.le_refl _) _) H1.out (by simp only [maxLen];omega) (by omega) (by simp) ?_;intro v1 w1 hown1 hg1 hat1;have OWN:=Lib.hid hown1;have G:=Lib.hid hg1;have AT:=Lib.hid hat1;clear hown1 hg1 hat1)
  go_ret
  have own:=OWN.out
  rw [List.nil_append,Nat.zero_add] at own
  have sm:Same w w1:=Below.grown ((Same.refl w).alloc _) G.out (by simp) (fun k hk => by simp [Value.ownBlock] at hk;omega)
  rcases Nat.eq_zero_or_pos xs.length with h0 | h0
  ·rcases own.2 with ⟨hv,_⟩ | ⟨g,cap,_,hv,_⟩
   ·exact .inl ⟨by rw [hv];rfl,HNIL.out.2 h0,sm⟩
   ·subst hv;exact .inr ⟨cap,g,rfl,sm,own⟩
  ·obtain ⟨g,cap,hv,_⟩:=own.form h0
   subst hv
   exact .inr ⟨cap,g,rfl,sm,own⟩
theorem Tryz.infoCA:(Tryz.prog.info? 82).map (fun i => (i.zero,i.size,i.bytes)) = some (some (.agg #[.string ByteArray.empty,.int .i64 0,.slice none 0 0,.int .i64 0,.int .i64 0,.string ByteArray.empty]),6,80):=by kernel_rfl
theorem cloneA_ok {α:Type} (h:Hd) (enc:α → List Value) (hm:∀ x,(enc x).length = 6) (h1:∀ x,∀ v ∈ enc x,v.oneCell' = true) (xs:List α) (w:World) (l:Lies w 6 h enc xs) (hn:h.n ≤ 1000000000) :
  Calls Tryz.prog 39 #[h.val] w fun e w' => e = .returned (.slice none 0 0) ∧ xs = [] ∧ Same w w' ∨ ∃ c g,e = .returned (.slice (some ⟨g,0,none⟩) xs.length c) ∧ Same w w' ∧ w'.ownsRow w.heap.size 82 6 (.slice (some ⟨g,0,none⟩) xs.length c) xs.length (xs.flatMap enc):=by
 obtain ⟨i0,hi0,hiz0,hiz1,hiz2⟩:=info_parts Tryz.infoCA
 have hr:=lies_reads hm l
 have hl:=l.1
 have hone:∀ u ∈ xs.flatMap enc,u.oneCell' = true:=by
  intro u hu
  obtain ⟨x,_,hx⟩:=List.mem_flatMap.1 hu
  exact h1 x u hx
 have hnil:xs = [] ↔ xs.length = 0:=by cases xs <;> simp
 obtain ⟨A,n,c⟩:=h
 simp only at hr hl hn
 subst hl
 have HR:=Lib.hid hr
 have H1:=Lib.hid hone
 have HNIL:=Lib.hid hnil
 clear l hm h1 hr hone hnil
 show Calls Tryz.prog 39 #[.slice A xs.length c] w _
 have q22:∀ (w:World) (a:Option Addr) (n c n' c':Nat),(binOp .eql 41 (.slice a n c) (.slice none n' c')).run Tryz.prog w = .ok (.bool a.isNone) w:=fun w a n c n' c' => Lib.run_eql_slice_nil w _ _ a n c n' c' Tryz.underlying41
 cases A with
 | none =>
  have h0:xs.length = 0:=by
   rcases Nat.eq_zero_or_pos xs.length with h | h
   ·exact h
   ·obtain ⟨_,h,_⟩:=HR.out.2 h
    cases h
  have HX:=Lib.hid (HNIL.out.2 h0)
  clear h0
  go_enter Tryz.func39,Tryz.ntmps39
  go_wp2
  go_ret
  exact .inl ⟨rfl,HX.out,Same.refl _⟩
 | some ad =>
  go_enter Tryz.func39,Tryz.ntmps39
  go_wp2_with (at_builtin;refine wpList_append_any _ rfl (.tmp 5) (.tmp 6) 41 rfl w.heap.size 82 i0 _ 6 80 Tryz.underlying41 hi0 hiz0 hiz1 hiz2 rfl (by decide) (.slice (some ⟨w.heap.size,0,none⟩) 0 0) 0 [] rfl (ownsRow_new w _ _) w.heap.size (some ad) xs.length c (xs.flatMap enc) rfl (HR.out.alloc (Nat.le_refl _) _) H1.out (by simp only [maxLen];omega) (by omega) (by simp) ?_;intro v1 w1 hown1 hg1 hat1;have OWN:=Lib.hid hown1;have G:=Lib.hid hg1;have AT:=Lib.hid hat1;clear hown1 hg1 hat1)
  go_ret
  have own:=OWN.out
  rw [List.nil_append,Nat.zero_add] at own
  have sm:Same w w1:=Below.grown ((Same.refl w).alloc _) G.out (by simp) (fun k hk => by simp [Value.ownBlock] at hk;omega)
  rcases Nat.eq_zero_or_pos xs.length with h0 | h0
  ·rcases own.2 with ⟨hv,_⟩ | ⟨g,cap,_,hv,_⟩
   ·exact .inl ⟨by rw [hv];rfl,HNIL.out.2 h0,sm⟩
   ·subst hv;exact .inr ⟨cap,g,rfl,sm,own⟩
  ·obtain ⟨g,cap,hv,_⟩:=own.form h0
   subst hv
   exact .inr ⟨cap,g,rfl,sm,own⟩
theorem Tryz.infoCV:(Tryz.prog.info? 26).map (fun i => (i.zero,i.size,i.bytes)) = some (some (.agg #[.int .i64 0,.int .i64 0,.string ByteArray.empty]),3,32):=by kernel_rfl
theorem cloneV_ok {α:Type} (h:Hd) (enc:α → List Value) (hm:∀ x,(enc x).length = 3) (h1:∀ x,∀ v ∈ enc x,v.oneCell' = true) (xs:List α) (w:World) (l:Lies w 3 h enc xs) (hn:h.n ≤ 1000000000) :
  Calls Tryz.prog 42 #[h.val] w fun e w' => e = .returned (.slice none 0 0) ∧ xs = [] ∧ Same w w' ∨ ∃ c g,e = .returned (.slice (some ⟨g,0,none⟩) xs.length c) ∧ Same w w' ∧ w'.ownsRow w.heap.size 26 3 (.slice (some ⟨g,0,none⟩) xs.length c) xs.length (xs.flatMap enc):=by
 obtain ⟨i0,hi0,hiz0,hiz1,hiz2⟩:=info_parts Tryz.infoCV
 have hr:=lies_reads hm l
 have hl:=l.1
 have hone:∀ u ∈ xs.flatMap enc,u.oneCell' = true:=by
  intro u hu
  obtain ⟨x,_,hx⟩:=List.mem_flatMap.1 hu
  exact h1 x u hx
 have hnil:xs = [] ↔ xs.length = 0:=by cases xs <;> simp
 obtain ⟨A,n,c⟩:=h
 simp only at hr hl hn
 subst hl
 have HR:=Lib.hid hr
 have H1:=Lib.hid hone
 have HNIL:=Lib.hid hnil
 clear l hm h1 hr hone hnil
 show Calls Tryz.prog 42 #[.slice A xs.length c] w _
 have q22:∀ (w:World) (a:Option Addr) (n c n' c':Nat),(binOp .eql 29 (.slice a n c) (.slice none n' c')).run Tryz.prog w = .ok (.bool a.isNone) w:=fun w a n c n' c' => Lib.run_eql_slice_nil w _ _ a n c n' c' Tryz.underlying29
 cases A with
 | none =>
  have h0:xs.length = 0:=by
   rcases Nat.eq_zero_or_pos xs.length with h | h
   ·exact h
   ·obtain ⟨_,h,_⟩:=HR.out.2 h
    cases h
  have HX:=Lib.hid (HNIL.out.2 h0)
  clear h0
  go_enter Tryz.func42,Tryz.ntmps42
  go_wp2
  go_ret
  exact .inl ⟨rfl,HX.out,Same.refl _⟩
 | some ad =>
  go_enter Tryz.func42,Tryz.ntmps42
  go_wp2_with (at_builtin;refine wpList_append_any _ rfl (.tmp 5) (.tmp 6) 29 rfl w.heap.size 26 i0 _ 3 32 Tryz.underlying29 hi0 hiz0 hiz1 hiz2 rfl (by decide) (.slice (some ⟨w.heap.size,0,none⟩) 0 0) 0 [] rfl (ownsRow_new w _ _) w.heap.size (some ad) xs.length c (xs.flatMap enc) rfl (HR.out.alloc (Nat.le_refl _) _) H1.out (by simp only [maxLen];omega) (by omega) (by simp) ?_;intro v1 w1 hown1 hg1 hat1;have OWN:=Lib.hid hown1;have G:=Lib.hid hg1;have AT:=Lib.hid hat1;clear hown1 hg1 hat1)
  go_ret
  have own:=OWN.out
  rw [List.nil_append,Nat.zero_add] at own
  have sm:Same w w1:=Below.grown ((Same.refl w).alloc _) G.out (by simp) (fun k hk => by simp [Value.ownBlock] at hk;omega)
  rcases Nat.eq_zero_or_pos xs.length with h0 | h0
  ·rcases own.2 with ⟨hv,_⟩ | ⟨g,cap,_,hv,_⟩
   ·exact .inl ⟨by rw [hv];rfl,HNIL.out.2 h0,sm⟩
   ·subst hv;exact .inr ⟨cap,g,rfl,sm,own⟩
  ·obtain ⟨g,cap,hv,_⟩:=own.form h0
   subst hv
   exact .inr ⟨cap,g,rfl,sm,own⟩
theorem Tryz.infoCI:(Tryz.prog.info? 3).map (fun i => (i.zero,i.size,i.bytes)) = some (some (.int .i64 0),1,8):=by kernel_rfl
theorem cloneI_ok {α:Type} (h:Hd) (enc:α → List Value) (hm:∀ x,(enc x).length = 1) (h1:∀ x,∀ v ∈ enc x,v.oneCell' = true) (xs:List α) (w:World) (l:Lies w 1 h enc xs) (hn:h.n ≤ 1000000000) :
  Calls Tryz.prog 40 #[h.val] w fun e w' => e = .returned (.slice none 0 0) ∧ xs = [] ∧ Same w w' ∨ ∃ c g,e = .returned (.slice (some ⟨g,0,none⟩) xs.length c) ∧ Same w w' ∧ w'.ownsRow w.heap.size 3 1 (.slice (some ⟨g,0,none⟩) xs.length c) xs.length (xs.flatMap enc):=by
 obtain ⟨i0,hi0,hiz0,hiz1,hiz2⟩:=info_parts Tryz.infoCI
 have hr:=lies_reads hm l
 have hl:=l.1
 have hone:∀ u ∈ xs.flatMap enc,u.oneCell' = true:=by
  intro u hu
  obtain ⟨x,_,hx⟩:=List.mem_flatMap.1 hu
  exact h1 x u hx
 have hnil:xs = [] ↔ xs.length = 0:=by cases xs <;> simp
 obtain ⟨A,n,c⟩:=h
 simp only at hr hl hn
 subst hl
 have HR:=Lib.hid hr
 have H1:=Lib.hid hone
 have HNIL:=Lib.hid hnil
 clear l hm h1 hr hone hnil
 show Calls Tryz.prog 40 #[.slice A xs.length c] w _
 have q22:∀ (w:World) (a:Option Addr) (n c n' c':Nat),(binOp .eql 42 (.slice a n c) (.slice none n' c')).run Tryz.prog w = .ok (.bool a.isNone) w:=fun w a n c n' c' => Lib.run_eql_slice_nil w _ _ a n c n' c' Tryz.underlying42
 cases A with
 | none =>
  have h0:xs.length = 0:=by
   rcases Nat.eq_zero_or_pos xs.length with h | h
   ·exact h
   ·obtain ⟨_,h,_⟩:=HR.out.2 h
    cases h
  have HX:=Lib.hid (HNIL.out.2 h0)
  clear h0
  go_enter Tryz.func40,Tryz.ntmps40
  go_wp2
  go_ret
  exact .inl ⟨rfl,HX.out,Same.refl _⟩
 | some ad =>
  go_enter Tryz.func40,Tryz.ntmps40
  go_wp2_with (at_builtin;refine wpList_append_any _ rfl (.tmp 5) (.tmp 6) 42 rfl w.heap.size 3 i0 _ 1 8 Tryz.underlying42 hi0 hiz0 hiz1 hiz2 rfl (by decide) (.slice (some ⟨w.heap.size,0,none⟩) 0 0) 0 [] rfl (ownsRow_new w _ _) w.heap.size (some ad) xs.length c (xs.flatMap enc) rfl (HR.out.alloc (Nat.le_refl _) _) H1.out (by simp only [maxLen];omega) (by omega) (by simp) ?_;intro v1 w1 hown1 hg1 hat1;have OWN:=Lib.hid hown1;have G:=Lib.hid hg1;have AT:=Lib.hid hat1;clear hown1 hg1 hat1)
  go_ret
  have own:=OWN.out
  rw [List.nil_append,Nat.zero_add] at own
  have sm:Same w w1:=Below.grown ((Same.refl w).alloc _) G.out (by simp) (fun k hk => by simp [Value.ownBlock] at hk;omega)
  rcases Nat.eq_zero_or_pos xs.length with h0 | h0
  ·rcases own.2 with ⟨hv,_⟩ | ⟨g,cap,_,hv,_⟩
   ·exact .inl ⟨by rw [hv];rfl,HNIL.out.2 h0,sm⟩
   ·subst hv;exact .inr ⟨cap,g,rfl,sm,own⟩
  ·obtain ⟨g,cap,hv,_⟩:=own.form h0
   subst hv
   exact .inr ⟨cap,g,rfl,sm,own⟩
theorem Tryz.infoCS:(Tryz.prog.info? 9).map (fun i => (i.zero,i.size,i.bytes)) = some (some (.string ByteArray.empty),1,16):=by kernel_rfl
theorem cloneS_ok {α:Type} (h:Hd) (enc:α → List Value) (hm:∀ x,(enc x).length = 1) (h1:∀ x,∀ v ∈ enc x,v.oneCell' = true) (xs:List α) (w:World) (l:Lies w 1 h enc xs) (hn:h.n ≤ 1000000000) :
  Calls Tryz.prog 113 #[h.val] w fun e w' => e = .returned (.slice none 0 0) ∧ xs = [] ∧ Same w w' ∨ ∃ c g,e = .returned (.slice (some ⟨g,0,none⟩) xs.length c) ∧ Same w w' ∧ w'.ownsRow w.heap.size 9 1 (.slice (some ⟨g,0,none⟩) xs.length c) xs.length (xs.flatMap enc):=by
 obtain ⟨i0,hi0,hiz0,hiz1,hiz2⟩:=info_parts Tryz.infoCS
 have hr:=lies_reads hm l
 have hl:=l.1
 have hone:∀ u ∈ xs.flatMap enc,u.oneCell' = true:=by
  intro u hu
  obtain ⟨x,_,hx⟩:=List.mem_flatMap.1 hu
  exact h1 x u hx
 have hnil:xs = [] ↔ xs.length = 0:=by cases xs <;> simp
 obtain ⟨A,n,c⟩:=h
 simp only at hr hl hn
 subst hl
 have HR:=Lib.hid hr
 have H1:=Lib.hid hone
 have HNIL:=Lib.hid hnil
 clear l hm h1 hr hone hnil
 show Calls Tryz.prog 113 #[.slice A xs.length c] w _
 have q22:∀ (w:World) (a:Option Addr) (n c n' c':Nat),(binOp .eql 80 (.slice a n c) (.slice none n' c')).run Tryz.prog w = .ok (.bool a.isNone) w:=fun w a n c n' c' => Lib.run_eql_slice_nil w _ _ a n c n' c' Tryz.underlying80
 cases A with
 | none =>
  have h0:xs.length = 0:=by
   rcases Nat.eq_zero_or_pos xs.length with h | h
   ·exact h
   ·obtain ⟨_,h,_⟩:=HR.out.2 h
    cases h
  have HX:=Lib.hid (HNIL.out.2 h0)
  clear h0
  go_enter Tryz.func113,Tryz.ntmps113
  go_wp2
  go_ret
  exact .inl ⟨rfl,HX.out,Same.refl _⟩
 | some ad =>
  go_enter Tryz.func113,Tryz.ntmps113
  go_wp2_with (at_builtin;refine wpList_append_any _ rfl (.tmp 5) (.tmp 6) 80 rfl w.heap.size 9 i0 _ 1 16 Tryz.underlying80 hi0 hiz0 hiz1 hiz2 rfl (by decide) (.slice (some ⟨w.heap.size,0,none⟩) 0 0) 0 [] rfl (ownsRow_new w _ _) w.heap.size (some ad) xs.length c (xs.flatMap enc) rfl (HR.out.alloc (Nat.le_refl _) _) H1.out (by simp only [maxLen];omega) (by omega) (by simp) ?_;intro v1 w1 hown1 hg1 hat1;have OWN:=Lib.hid hown1;have G:=Lib.hid hg1;have AT:=Lib.hid hat1;clear hown1 hg1 hat1)
  go_ret
  have own:=OWN.out
  rw [List.nil_append,Nat.zero_add] at own
  have sm:Same w w1:=Below.grown ((Same.refl w).alloc _) G.out (by simp) (fun k hk => by simp [Value.ownBlock] at hk;omega)
  rcases Nat.eq_zero_or_pos xs.length with h0 | h0
  ·rcases own.2 with ⟨hv,_⟩ | ⟨g,cap,_,hv,_⟩
   ·exact .inl ⟨by rw [hv];rfl,HNIL.out.2 h0,sm⟩
   ·subst hv;exact .inr ⟨cap,g,rfl,sm,own⟩
  ·obtain ⟨g,cap,hv,_⟩:=own.form h0
   subst hv
   exact .inr ⟨cap,g,rfl,sm,own⟩
structure TabState (W0 w:World) (g c:Nat) (ts:List RT) (i:Nat) (t:RT):Prop where
 s:Same W0 w
 row:w.ownsRow W0.heap.size 44 3 (.slice (some ⟨g,0,none⟩) ts.length c) ts.length (ts.flatMap RT.cells)
 ti:ts[i]? = some t
 an:t.ha.n = t.ra.length
 ar:w.ownsRow W0.heap.size 82 6 t.ha.val t.ra.length (t.ra.flatMap RA.cells)
 kn:t.hk.n = t.key.length
 kr:w.ownsRow W0.heap.size 3 1 t.hk.val t.key.length (t.key.flatMap intCell)
theorem RT.clen (t:RT):t.cells.length = 3:=rfl
theorem RA.clen (t:RA):t.cells.length = 6:=rfl
theorem own_blk {w:World} {base:Nat} {e:TypeId} {m n c:Nat} {A:Option Addr} {xs:List Value} (o:w.ownsRow base e m (.slice A n c) n xs) (h:0 < n) :
  ∃ g cur,A = some ⟨g,0,none⟩ ∧ base ≤ g ∧ Blk w g e cur ∧ cur.size = c * m ∧ n ≤ c ∧ c ≤ maxLen ∧ cur.toList.take (n * m) = xs:=by
 rcases o.2 with ⟨_,h0⟩ | ⟨g,cap,cur,hv,hb,hh,hnc,hcm,hsz,ht⟩
 ·omega
 ·injection hv with e1 e2 e3
  subst e1 e3
  exact ⟨g,cur,rfl,hb,hh,hsz,hnc,hcm,ht⟩
theorem blk_own {w:World} {base:Nat} {e:TypeId} {m n c g:Nat} {cur:Array Value} {xs:List Value} (hb:base ≤ g) (hh:Blk w g e cur) (hsz:cur.size = c * m) (hnc:n ≤ c) (hcm:c ≤ maxLen) (ht:cur.toList.take (n * m) = xs) (hl:xs.length = n * m) :
  w.ownsRow base e m (.slice (some ⟨g,0,none⟩) n c) n xs:=⟨hl,.inr ⟨g,c,cur,rfl,hb,hh,hnc,hcm,hsz,ht⟩⟩
theorem flat_set {α:Type} {enc:α → List Value} {m:Nat} (hm:∀ x,(enc x).length = m) (xs:List α) (i:Nat) (y:α) (hi:i < xs.length) (l:List Value) (hl:l.take (xs.length * m) = xs.flatMap enc) (l':List Value) (_hlen:l'.length = l.length)
  (h1:∀ j,j < m → l'[i * m + j]? = (enc y)[j]?) (h2:∀ k,(k < i * m ∨ i * m + m ≤ k) → l'[k]? = l[k]?):l'.take (xs.length * m) = (xs.set i y).flatMap enc:=by
 apply List.ext_getElem?
 intro k
 rw [List.getElem?_take]
 have hfl:((xs.set i y).flatMap enc).length = xs.length * m:=by rw [flat_len hm,List.length_set]
 split
 ·rename_i hk
  have hm0:0 < m:=by
   rcases Nat.eq_zero_or_pos m with h | h
   ·subst h;simp at hk
   ·exact h
  have hq:k / m < xs.length:=Nat.div_lt_of_lt_mul (by rw [Nat.mul_comm];exact hk)
  have hr:k % m < m:=Nat.mod_lt _ hm0
  have e:k = k / m * m + k % m:=by rw [Nat.mul_comm];exact (Nat.div_add_mod k m).symm
  have hq':k / m < (xs.set i y).length:=by rw [List.length_set];exact hq
  have hx:(xs.flatMap enc)[k]? = l[k]?:=by rw [← hl,List.getElem?_take,if_pos hk]
  have R:=flat_get hm (xs.set i y) (k / m) hq' (k % m) hr
  rw [← e] at R
  rw [R]
  by_cases hki:k / m = i
  ·subst hki
   have:=h1 (k % m) hr
   rw [← e] at this
   rw [this]
   simp
  ·have:k < i * m ∨ i * m + m ≤ k:=by
    rcases Nat.lt_or_gt_of_ne hki with h | h
    ·left
     have:(k / m + 1) * m ≤ i * m:=Nat.mul_le_mul_right m h
     rw [Nat.add_mul] at this;omega
    ·right
     have:(i + 1) * m ≤ k / m * m:=Nat.mul_le_mul_right m h
     rw [Nat.add_mul] at this;omega
   rw [h2 k this,← hx]
   have R2:=flat_get hm xs (k / m) hq (k % m) hr
   rw [← e] at R2
   rw [R2,List.getElem_set_ne (by omega)]
 ·rename_i hk
  rw [List.getElem?_eq_none (by rw [hfl];omega)]
theorem size_setCell (w:World) (a:Addr) (v:Value):(w.setCell a v).heap.size = w.heap.size:=by simp [World.setCell]
theorem cell_far (w:World) (g j k o:Nat) (u:Value) (h:g ≠ k):(w.setCell ⟨k,o,none⟩ u).cell? ⟨g,j,none⟩ = w.cell? ⟨g,j,none⟩:=
 World.cell?_of_block (a:=⟨g,j,none⟩) (Below.heap_setCell w ⟨k,o,none⟩ u g h)
theorem cell_new' (w W:World) (cs:Array Value) (t:TypeId) (j:Nat) (h:W.heap.size = w.heap.size):(W.alloc (.cells cs t)).cell? ⟨w.heap.size,j,none⟩ = cs[j]?:=by
 rw [← h];exact (Blk.new W t cs).cell j
theorem cell_old (W:World) (o:Obj) (g j:Nat) (h:g < W.heap.size):(W.alloc o).cell? ⟨g,j,none⟩ = W.cell? ⟨g,j,none⟩:=World.cell?_alloc_lt W o _ h
theorem cast2_low (g o ga a n ca:Nat) (k to_ dk dn:Int) (tt aa nn ds:ByteArray) (w:World) (hne:g ≠ ga) (hga:ga < w.heap.size) (hg:g < w.heap.size) (ha:a < n) (hn:n ≤ 9223372036854775807)
  (x1:w.cell? ⟨g,o + 1,none⟩ = some (.slice (some ⟨ga,0,none⟩) n ca))
  (e1:∃ v,w.cell? ⟨ga,a * 6 + 1,none⟩ = some v) (e3:∃ v,w.cell? ⟨ga,a * 6 + 3,none⟩ = some v) (e4:∃ v,w.cell? ⟨ga,a * 6 + 4,none⟩ = some v) (e5:∃ v,w.cell? ⟨ga,a * 6 + 5,none⟩ = some v) (fr:∀ j,w.frozen? ⟨ga,j,none⟩ = false) :
  Calls Tryz.prog 116 #[.pointer (some ⟨g,o,none⟩),.agg #[.int .i64 k,.string tt,.string aa,.string nn,.int .i64 to_,.int .i64 dk,.int .i64 dn,.string ds],.int .i64 a] w fun e w' => e = .returned (.tuple #[]) ∧
   w' = (((((w.setCell ⟨ga,a * 6 + 1,none⟩ (.int .i64 to_)).setCell ⟨ga,a * 6 + 3,none⟩ (.int .i64 dk)).setCell ⟨ga,a * 6 + 4,none⟩ (.int .i64 dn)).setCell ⟨ga,a * 6 + 5,none⟩ (.string ds)).alloc (.cells #[.int .i64 k,.string tt,.string aa,.string nn,.int .i64 to_,.int .i64 dk,.int .i64 dn,.string ds] 28)).drew:=by
 obtain ⟨v1,e1⟩:=e1
 obtain ⟨v3,e3⟩:=e3
 obtain ⟨v4,e4⟩:=e4
 obtain ⟨v5,e5⟩:=e5
 have f1:=fr (a * 6 + 1)
 have f3:=fr (a * 6 + 3)
 have f4:=fr (a * 6 + 4)
 have f5:=fr (a * 6 + 5)
 have hz:g ≠ w.heap.size:=by omega
 have hz2:ga ≠ w.heap.size:=by omega
 clear fr
 go_enter Tryz.func116,Tryz.ntmps116
 go_wp2
 go_region_held3 (fun w' => w'.cell? ⟨g,o + 1,none⟩ = some (.slice (some ⟨ga,0,none⟩) n ca) ∧ w'.cell? ⟨w.heap.size,4,none⟩ = some (.int .i64 to_) ∧ w'.cell? ⟨w.heap.size,5,none⟩ = some (.int .i64 dk) ∧ w'.cell? ⟨w.heap.size,6,none⟩ = some (.int .i64 dn) ∧ w'.cell? ⟨w.heap.size,7,none⟩ = some (.string ds)) (first | (simp [*];done) | (simp [*,size_setCell,cell_drew,cell_far,cell_new',cell_old];done) | go_keep) (fail)
 all_goals
  go_wp2
  go_end0
  exact ⟨rfl,rfl⟩
end Go.Proofs.YtfifnemnihcijaaGreatDoor

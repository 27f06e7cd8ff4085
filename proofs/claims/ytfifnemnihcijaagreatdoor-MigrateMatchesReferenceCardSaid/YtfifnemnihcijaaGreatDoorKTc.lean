import Derived.Test.YtfifnemnihcijaaGreatDoorKSw
import Derived.Test.YtfifnemnihcijaaGreatDoorKSc
import Derived.Test.YtfifnemnihcijaaGreatDoorKTd
set_option linter.unusedSimpArgs false
set_option linter.unusedVariables false
set_option maxHeartbeats 16000000
set_option maxRecDepth 100000
namespace Go.Proofs.YtfifnemnihcijaaGreatDoor
open Go.RowKit
theorem delA_ok (B g n c i j:Nat) (xs:List Value) (w:World) (own:w.ownsRow B 82 6 (.slice (some ⟨g,0,none⟩) n c) n xs) (h1:∀ u ∈ xs,u.oneCell' = true) (hi:i < n) (hj:j = i + 1) (hn:n ≤ 1000000) :
  Calls Tryz.prog 108 #[.slice (some ⟨g,0,none⟩) n c,.int .i64 i,.int .i64 j] w fun e w' => e = .returned (.slice (some ⟨g,0,none⟩) (n - 1) c) ∧ w'.ownsRow B 82 6 (.slice (some ⟨g,0,none⟩) (n - 1) c) (n - 1) (xs.take (i * 6) ++ xs.drop ((i + 1) * 6)) ∧ w.grownBy w' (some g):=by
 obtain ⟨i0,hi0,hiz0,hiz1,hiz2⟩:=info_parts Tryz.infoCA
 have OD:=Lib.hid (own_del own.drew hi [.string ByteArray.empty,.int .i64 0,.slice none 0 0,.int .i64 0,.int .i64 0,.string ByteArray.empty] rfl)
 obtain ⟨g',cur,hA,hb,hk,hs,hnc,hcm,ht⟩:=own_blk own (by omega)
 injection hA with hA
 injection hA with e1
 subst e1
 have hxl:=own.1
 have q1:j * 6 ≤ n * 6:=Nat.mul_le_mul_right _ (by omega)
 have q2:n * 6 ≤ c * 6:=Nat.mul_le_mul_right _ hnc
 have hcl:cur.toList.length = c * 6:=by simp [hs]
 obtain ⟨news,hnews⟩:∃ news,news = xs.drop (j * 6):=⟨_,rfl⟩
 have hlen:news.length = (n - j) * 6:=by rw [hnews,List.length_drop,hxl,Nat.sub_mul]
 have hcell:∀ t u,news[t]? = some u → w.cell? ⟨g,j * 6 + t,none⟩ = some u:=by
  intro t u hu
  rw [hnews,List.getElem?_drop,← ht,List.getElem?_take] at hu
  split at hu
  ·rw [hk.cell];simpa using hu
  ·cases hu
 obtain ⟨A,hA,hsrc⟩:∃ A:Addr,(if c = j then (some (⟨g,0,none⟩:Addr)) else some ⟨g,j * 6,none⟩) = some A ∧ Hid (∀ t u,news[t]? = some u → w.drew.cell? (A.add t) = some u):=by
  by_cases h:c = j
  ·refine ⟨⟨g,0,none⟩,by simp [h],fun t u hu => ?_⟩
   have h0:news.length = 0:=by rw [hlen,show n - j = 0 by omega,Nat.zero_mul]
   rw [List.length_eq_zero_iff.1 h0] at hu
   simp at hu
  ·refine ⟨⟨g,j * 6,none⟩,by simp [h],fun t u hu => ?_⟩
   rw [show (⟨g,j * 6,none⟩:Addr).add t = ⟨g,j * 6 + t,none⟩ by unfold Addr.add;split <;> simp_all]
   exact hcell t u hu
 have s1:Hid (news.length = (n - j) * 6):=hlen
 have s2:Hid (∀ u ∈ news,u.oneCell' = true):=by
  intro u hu
  rw [hnews] at hu
  exact h1 u (List.mem_of_mem_drop hu)
 have s3:Hid (∀ t,t < news.length → (w.drew.cell? ⟨g,0 + i * 6 + t,none⟩).isSome = true ∧ w.drew.frozen? ⟨g,0 + i * 6 + t,none⟩ = false):=by
  intro t ht'
  rw [hlen] at ht'
  have q3:j * 6 = i * 6 + 6:=by rw [hj,Nat.add_mul,Nat.one_mul]
  have q4:(n - j) * 6 = n * 6 - j * 6:=Nat.sub_mul _ _ _
  rw [Nat.zero_add]
  refine ⟨?_,hk.drew.frozen _⟩
  rw [hk.drew.cell,Array.getElem?_eq_getElem (by omega)]
  rfl
 obtain ⟨W1,hW1⟩:∃ W1,W1 = w.drew.setCells g (0 + i * 6) news:=⟨_,rfl⟩
 have hk':Blk w.drew g 82 cur.toList.toArray:=by simpa using hk.drew
 have b1:=blk_setCells news (0 + i * 6) cur.toList w.drew hk' (by
  have q3:j * 6 = i * 6 + 6:=by rw [hj,Nat.add_mul,Nat.one_mul]
  have q4:(n - j) * 6 = n * 6 - j * 6:=Nat.sub_mul _ _ _
  rw [hlen];omega)
 rw [← hW1] at b1
 have l1:(putL cur.toList (0 + i * 6) news).length = c * 6:=by
  have q3:j * 6 = i * 6 + 6:=by rw [hj,Nat.add_mul,Nat.one_mul]
  have q4:(n - j) * 6 = n * 6 - j * 6:=Nat.sub_mul _ _ _
  rw [putL_length _ _ _ (by rw [hlen];omega),hcl]
 have hcl2:∀ ty,(Builtin.clear_ #[41] ty #[.slice (some ⟨g,(i + (n - j)) * 6,none⟩) (n - (i + (n - j))) (c - (i + (n - j)))]).run Tryz.prog W1 = .ok (.tuple #[]) (W1.setCells g ((i + (n - j)) * 6) [.string ByteArray.empty,.int .i64 0,.slice none 0 0,.int .i64 0,.int .i64 0,.string ByteArray.empty]):=by
  intro ty
  rw [show n - (i + (n - j)) = 1 by omega]
  have q5:(i + (n - j)) * 6 + 6 ≤ c * 6:=by
   have:(i + (n - j) + 1) * 6 ≤ c * 6:=Nat.mul_le_mul_right _ (by omega)
   rw [Nat.add_mul] at this;omega
  refine run_clear_one W1 _ 82 ty (.agg #[.string ByteArray.empty,.int .i64 0,.slice none 0 0,.int .i64 0,.int .i64 0,.string ByteArray.empty]) [.string ByteArray.empty,.int .i64 0,.slice none 0 0,.int .i64 0,.int .i64 0,.string ByteArray.empty] Tryz.underlying41 (fun _ => by kernel_rfl) rfl (by intro u hu;simp at hu;rcases hu with rfl | rfl | rfl | rfl | rfl | rfl <;> rfl) g _ _ (fun t ht' => ?_) (fun t _ => b1.frozen _)
  rw [b1.cell,List.getElem?_toArray,List.getElem?_eq_getElem (by rw [l1];simp at ht';omega)]
  rfl
 have hW:Hid (W1 = w.drew.setCells g (0 + i * 6) news):=hW1
 have hic:i ≤ c:=by omega
 have hjc:j ≤ c:=by omega
 have hjn:j ≤ n:=by omega
 have hij:i ≤ j:=by omega
 have hij2:((i:Int) == (j:Int)) = false:=by simp;omega
 have hcne:¬ c = i + (n - j):=by omega
 have hcm':c ≤ 9223372036854775807:=by unfold maxLen at hcm;exact hcm
 have HJ:=Lib.hid hj
 have HN:=Lib.hid hnews
 have GR:Hid (w.grownBy W1 (some g)):=by
  show w.grownBy W1 (some g)
  rw [hW1]
  exact same_grown (Same.refl w).drew (grown_setCells g news _ _)
 clear own hcell hnews hlen hW1 b1 l1 hk hk' ht hs hcl q1 q2 hxl hcm hj h1
 go_enter Tryz.func108,Tryz.ntmps108
 go_wp2_with fail
 go_region_law (refine step_append_room rfl (.tmp 22) (.tmp 25) 41 rfl 82 i0 6 Tryz.underlying41 hi0 hiz1 g 0 i c (by simp [Act.eval,Act.put]) A (n - j) (c - j) news (by simp [Act.eval,Act.put]) s1.out hsrc.out s2.out (by omega) s3.out ?_;rw [← hW.out])
 go_wp2
 go_ret
 have e9:i + (n - j) = n - 1:=by have:=HJ.out;omega
 refine ⟨by rw [e9];rfl,?_,?_⟩
 ·have:=OD.out
  rw [← HJ.out,← HN.out] at this
  have h9:=hW.out
  rw [Nat.zero_add] at h9
  rw [← h9] at this
  rw [e9,← HJ.out,← HN.out]
  exact this
 ·have g2:=grown_setCells g [.string ByteArray.empty,.int .i64 0,.slice none 0 0,.int .i64 0,.int .i64 0,.string ByteArray.empty] ((i + (n - j)) * 6) W1
  exact ⟨g2.os.trans GR.out.os,g2.tape.trans GR.out.tape,g2.output.trans GR.out.output,Nat.le_trans GR.out.size g2.size,fun k hk hne => (g2.block k (Nat.lt_of_lt_of_le hk GR.out.size) hne).trans (GR.out.block k hk hne)⟩
theorem delV_ok (B g n c i j:Nat) (xs:List Value) (w:World) (own:w.ownsRow B 26 3 (.slice (some ⟨g,0,none⟩) n c) n xs) (h1:∀ u ∈ xs,u.oneCell' = true) (hi:i < n) (hj:j = i + 1) (hn:n ≤ 1000000) :
  Calls Tryz.prog 110 #[.slice (some ⟨g,0,none⟩) n c,.int .i64 i,.int .i64 j] w fun e w' => e = .returned (.slice (some ⟨g,0,none⟩) (n - 1) c) ∧ w'.ownsRow B 26 3 (.slice (some ⟨g,0,none⟩) (n - 1) c) (n - 1) (xs.take (i * 3) ++ xs.drop ((i + 1) * 3)) ∧ w.grownBy w' (some g):=by
 obtain ⟨i0,hi0,hiz0,hiz1,hiz2⟩:=info_parts Tryz.infoCV
 have OD:=Lib.hid (own_del own.drew hi [.int .i64 0,.int .i64 0,.string ByteArray.empty] rfl)
 obtain ⟨g',cur,hA,hb,hk,hs,hnc,hcm,ht⟩:=own_blk own (by omega)
 injection hA with hA
 injection hA with e1
 subst e1
 have hxl:=own.1
 have q1:j * 3 ≤ n * 3:=Nat.mul_le_mul_right _ (by omega)
 have q2:n * 3 ≤ c * 3:=Nat.mul_le_mul_right _ hnc
 have hcl:cur.toList.length = c * 3:=by simp [hs]
 obtain ⟨news,hnews⟩:∃ news,news = xs.drop (j * 3):=⟨_,rfl⟩
 have hlen:news.length = (n - j) * 3:=by rw [hnews,List.length_drop,hxl,Nat.sub_mul]
 have hcell:∀ t u,news[t]? = some u → w.cell? ⟨g,j * 3 + t,none⟩ = some u:=by
  intro t u hu
  rw [hnews,List.getElem?_drop,← ht,List.getElem?_take] at hu
  split at hu
  ·rw [hk.cell];simpa using hu
  ·cases hu
 obtain ⟨A,hA,hsrc⟩:∃ A:Addr,(if c = j then (some (⟨g,0,none⟩:Addr)) else some ⟨g,j * 3,none⟩) = some A ∧ Hid (∀ t u,news[t]? = some u → w.drew.cell? (A.add t) = some u):=by
  by_cases h:c = j
  ·refine ⟨⟨g,0,none⟩,by simp [h],fun t u hu => ?_⟩
   have h0:news.length = 0:=by rw [hlen,show n - j = 0 by omega,Nat.zero_mul]
   rw [List.length_eq_zero_iff.1 h0] at hu
   simp at hu
  ·refine ⟨⟨g,j * 3,none⟩,by simp [h],fun t u hu => ?_⟩
   rw [show (⟨g,j * 3,none⟩:Addr).add t = ⟨g,j * 3 + t,none⟩ by unfold Addr.add;split <;> simp_all]
   exact hcell t u hu
 have s1:Hid (news.length = (n - j) * 3):=hlen
 have s2:Hid (∀ u ∈ news,u.oneCell' = true):=by
  intro u hu
  rw [hnews] at hu
  exact h1 u (List.mem_of_mem_drop hu)
 have s3:Hid (∀ t,t < news.length → (w.drew.cell? ⟨g,0 + i * 3 + t,none⟩).isSome = true ∧ w.drew.frozen? ⟨g,0 + i * 3 + t,none⟩ = false):=by
  intro t ht'
  rw [hlen] at ht'
  have q3:j * 3 = i * 3 + 3:=by rw [hj,Nat.add_mul,Nat.one_mul]
  have q4:(n - j) * 3 = n * 3 - j * 3:=Nat.sub_mul _ _ _
  rw [Nat.zero_add]
  refine ⟨?_,hk.drew.frozen _⟩
  rw [hk.drew.cell,Array.getElem?_eq_getElem (by omega)]
  rfl
 obtain ⟨W1,hW1⟩:∃ W1,W1 = w.drew.setCells g (0 + i * 3) news:=⟨_,rfl⟩
 have hk':Blk w.drew g 26 cur.toList.toArray:=by simpa using hk.drew
 have b1:=blk_setCells news (0 + i * 3) cur.toList w.drew hk' (by
  have q3:j * 3 = i * 3 + 3:=by rw [hj,Nat.add_mul,Nat.one_mul]
  have q4:(n - j) * 3 = n * 3 - j * 3:=Nat.sub_mul _ _ _
  rw [hlen];omega)
 rw [← hW1] at b1
 have l1:(putL cur.toList (0 + i * 3) news).length = c * 3:=by
  have q3:j * 3 = i * 3 + 3:=by rw [hj,Nat.add_mul,Nat.one_mul]
  have q4:(n - j) * 3 = n * 3 - j * 3:=Nat.sub_mul _ _ _
  rw [putL_length _ _ _ (by rw [hlen];omega),hcl]
 have hcl2:∀ ty,(Builtin.clear_ #[29] ty #[.slice (some ⟨g,(i + (n - j)) * 3,none⟩) (n - (i + (n - j))) (c - (i + (n - j)))]).run Tryz.prog W1 = .ok (.tuple #[]) (W1.setCells g ((i + (n - j)) * 3) [.int .i64 0,.int .i64 0,.string ByteArray.empty]):=by
  intro ty
  rw [show n - (i + (n - j)) = 1 by omega]
  have q5:(i + (n - j)) * 3 + 3 ≤ c * 3:=by
   have:(i + (n - j) + 1) * 3 ≤ c * 3:=Nat.mul_le_mul_right _ (by omega)
   rw [Nat.add_mul] at this;omega
  refine run_clear_one W1 _ 26 ty (.agg #[.int .i64 0,.int .i64 0,.string ByteArray.empty]) [.int .i64 0,.int .i64 0,.string ByteArray.empty] Tryz.underlying29 (fun _ => by kernel_rfl) rfl (by intro u hu;simp at hu;rcases hu with rfl | rfl | rfl <;> rfl) g _ _ (fun t ht' => ?_) (fun t _ => b1.frozen _)
  rw [b1.cell,List.getElem?_toArray,List.getElem?_eq_getElem (by rw [l1];simp at ht';omega)]
  rfl
 have hW:Hid (W1 = w.drew.setCells g (0 + i * 3) news):=hW1
 have hic:i ≤ c:=by omega
 have hjc:j ≤ c:=by omega
 have hjn:j ≤ n:=by omega
 have hij:i ≤ j:=by omega
 have hij2:((i:Int) == (j:Int)) = false:=by simp;omega
 have hcne:¬ c = i + (n - j):=by omega
 have hcm':c ≤ 9223372036854775807:=by unfold maxLen at hcm;exact hcm
 have HJ:=Lib.hid hj
 have HN:=Lib.hid hnews
 have GR:Hid (w.grownBy W1 (some g)):=by
  show w.grownBy W1 (some g)
  rw [hW1]
  exact same_grown (Same.refl w).drew (grown_setCells g news _ _)
 clear own hcell hnews hlen hW1 b1 l1 hk hk' ht hs hcl q1 q2 hxl hcm hj h1
 go_enter Tryz.func110,Tryz.ntmps110
 go_wp2_with fail
 go_region_law (refine step_append_room rfl (.tmp 22) (.tmp 25) 29 rfl 26 i0 3 Tryz.underlying29 hi0 hiz1 g 0 i c (by simp [Act.eval,Act.put]) A (n - j) (c - j) news (by simp [Act.eval,Act.put]) s1.out hsrc.out s2.out (by omega) s3.out ?_;rw [← hW.out])
 go_wp2
 go_ret
 have e9:i + (n - j) = n - 1:=by have:=HJ.out;omega
 refine ⟨by rw [e9];rfl,?_,?_⟩
 ·have:=OD.out
  rw [← HJ.out,← HN.out] at this
  have h9:=hW.out
  rw [Nat.zero_add] at h9
  rw [← h9] at this
  rw [e9,← HJ.out,← HN.out]
  exact this
 ·have g2:=grown_setCells g [.int .i64 0,.int .i64 0,.string ByteArray.empty] ((i + (n - j)) * 3) W1
  exact ⟨g2.os.trans GR.out.os,g2.tape.trans GR.out.tape,g2.output.trans GR.out.output,Nat.le_trans GR.out.size g2.size,fun k hk hne => (g2.block k (Nat.lt_of_lt_of_le hk GR.out.size) hne).trans (GR.out.block k hk hne)⟩
def lowK (a:Nat) (q:Int):Int:=if (a:Int) < q then q - 1 else q
def keyTo (a:Nat) (l:List Int) (k:Nat):List Int:=(l.take k).map (lowK a) ++ l.drop k
theorem keyTo_zero (a:Nat) (l:List Int):keyTo a l 0 = l:=by simp [keyTo]
theorem keyTo_all (a:Nat) (l:List Int):keyTo a l l.length = l.map (lowK a):=by simp [keyTo]
theorem keyTo_length (a:Nat) (l:List Int) (k:Nat):(keyTo a l k).length = l.length:=by simp [keyTo];omega
theorem keyTo_get (a:Nat) (l:List Int) (k:Nat) (hk:k < l.length):(keyTo a l k)[k]'(by rw [keyTo_length];exact hk) = l[k]:=by
 simp only [keyTo]
 rw [List.getElem_append_right (by simp;omega)]
 simp [Nat.min_eq_left (Nat.le_of_lt hk)]
theorem keyTo_succ (a:Nat) (l:List Int) (k:Nat) (hk:k < l.length):keyTo a l (k + 1) = (keyTo a l k).set k (lowK a l[k]):=by
 unfold keyTo
 rw [List.take_succ_eq_append_getElem hk,List.map_append,List.drop_eq_getElem_cons hk,List.set_append_right _ _ (by simp;omega)]
 have e:k - (List.map (lowK a) (List.take k l)).length = 0:=by simp;omega
 rw [e]
 simp
 rw [List.drop_eq_getElem_cons hk]
 rfl
theorem keyTo_same (a:Nat) (l:List Int) (k:Nat) (hk:k < l.length) (h:lowK a l[k] = l[k]):keyTo a l (k + 1) = keyTo a l k:=by
 rw [keyTo_succ a l k hk,h]
 apply List.ext_getElem (by simp)
 intro j h1 h2
 by_cases e:k = j
 ·subst e;rw [List.getElem_set_self,keyTo_get]
 ·rw [List.getElem_set_ne e]
section
variable {W0 w w':World} {g c i:Nat} {ts:List RT} {t:RT}
theorem TabState.cell (S:TabState W0 w g c ts i t) (j:Nat) (hj:j < 3):w.cell? ⟨g,i * 3 + j,none⟩ = t.cells[j]?:=by
 have:=own_cell RT.clen S.row rfl i S.lt j hj
 rw [S.get] at this
 exact this
theorem TabState.free (S:TabState W0 w g c ts i t) (j:Nat):w.frozen? ⟨g,j,none⟩ = false:=by
 obtain ⟨g',cur,hA,_,hk,_⟩:=own_blk S.row (Nat.lt_of_le_of_lt (Nat.zero_le _) S.lt)
 injection hA with hA
 injection hA with e
 subst e
 exact hk.frozen j
theorem TabState.haBlk (S:TabState W0 w g c ts i t) (h:0 < t.ra.length):∃ ga ca,t.ha = ⟨some ⟨ga,0,none⟩,t.ra.length,ca⟩ ∧ W0.heap.size ≤ ga ∧ ga < w.heap.size ∧ g ≠ ga ∧ (∀ j,w.frozen? ⟨ga,j,none⟩ = false) ∧ w.ownsRow W0.heap.size 82 6 (.slice (some ⟨ga,0,none⟩) t.ra.length ca) t.ra.length (t.ra.flatMap RA.cells):=by
 have har:=S.ar
 obtain ⟨⟨A,n,ca⟩,hha⟩:∃ h,t.ha = h:=⟨_,rfl⟩
 have hn:n = t.ra.length:=by have:=S.an;rw [hha] at this;exact this
 subst hn
 have hv:(⟨A,t.ra.length,ca⟩:Hd).val = .slice A t.ra.length ca:=rfl
 rw [hha,hv] at har
 obtain ⟨ga,cur,hA,hb,hk,_⟩:=own_blk har h
 subst hA
 exact ⟨ga,ca,hha,hb,hk.lt,fun e => row_ne S.row har (by decide) (by simp [Value.ownBlock,e]),fun j => hk.frozen j,har⟩
theorem TabState.hkBlk (S:TabState W0 w g c ts i t) (h:0 < t.key.length):∃ gk ck,t.hk = ⟨some ⟨gk,0,none⟩,t.key.length,ck⟩ ∧ W0.heap.size ≤ gk ∧ gk < w.heap.size ∧ g ≠ gk ∧ (∀ j,w.frozen? ⟨gk,j,none⟩ = false) ∧ ∀ j (hj:j < t.key.length),w.cell? ⟨gk,j,none⟩ = some (.int .i64 t.key[j]):=by
 have har:=S.kr
 obtain ⟨⟨A,n,ca⟩,hha⟩:∃ h,t.hk = h:=⟨_,rfl⟩
 have hn:n = t.key.length:=by have:=S.kn;rw [hha] at this;exact this
 subst hn
 have hv:(⟨A,t.key.length,ca⟩:Hd).val = .slice A t.key.length ca:=rfl
 rw [hha,hv] at har
 obtain ⟨ga,cur,hA,hb,hk,_⟩:=own_blk har h
 subst hA
 refine ⟨ga,ca,hha,hb,hk.lt,fun e => row_ne S.row har (by decide) (by simp [Value.ownBlock,e]),fun j => hk.frozen j,fun j hj => ?_⟩
 have:=own_cell (enc:=intCell) (m:=1) (fun _ => rfl) har rfl j hj 0 Nat.one_pos
 simpa [intCell] using this
end
theorem drop2_state (W0 w:World) (g c i a:Nat) (ts:List RT) (t:RT) (k to_ dk dn:Int) (tt aa nn ds:ByteArray) (S:TabState W0 w g c ts i t) (ha:a < t.ra.length) (hl:t.ra.length ≤ 1000000) (hkl:t.key.length ≤ 1000000) (hkb:∀ q ∈ t.key,0 ≤ q ∧ q ≤ 1000000) :
  Calls Tryz.prog 107 #[.pointer (some ⟨g,i * 3,none⟩),.agg #[.int .i64 k,.string tt,.string aa,.string nn,.int .i64 to_,.int .i64 dk,.int .i64 dn,.string ds],.int .i64 a] w fun e w' => e = .returned (.tuple #[]) ∧
   (∃ h',TabState W0 w' g c (ts.set i { t with ra:=t.ra.eraseIdx a,ha:=h',key:=t.key.map (lowK a) }) i { t with ra:=t.ra.eraseIdx a,ha:=h',key:=t.key.map (lowK a) }) ∧ KeepT w w':=by
 obtain ⟨ga,ca,hha,hgb,hgl,hne,hfr,har⟩:=S.haBlk (by omega)
 have x1:w.cell? ⟨g,i * 3 + 1,none⟩ = some (.slice (some ⟨ga,0,none⟩) t.ra.length ca):=by
  have:=S.cell 1 (by omega)
  rw [this]
  show some t.ha.val = _
  rw [hha];rfl
 obtain ⟨⟨B,nk,ck⟩,hhk⟩:∃ h,t.hk = h:=⟨_,rfl⟩
 have hnk:nk = t.key.length:=by have:=S.kn;rw [hhk] at this;exact this
 subst hnk
 have x2:w.cell? ⟨g,i * 3 + 2,none⟩ = some (.slice B t.key.length ck):=by
  have:=S.cell 2 (by omega)
  rw [this]
  show some t.hk.val = _
  rw [hhk];rfl
 have xf1:w.frozen? ⟨g,i * 3 + 1,none⟩ = false:=S.free _
 have hg:=S.g_le.2
 have hz:g ≠ w.heap.size:=by omega
 have h1:∀ u ∈ t.ra.flatMap RA.cells,u.oneCell' = true:=by
  intro u hu
  obtain ⟨r,_,hr⟩:=List.mem_flatMap.1 hu
  simp only [RA.cells,List.mem_cons,List.not_mem_nil,or_false] at hr
  rcases hr with rfl | rfl | rfl | rfl | rfl | rfl <;> rfl
 obtain ⟨bx,hbx⟩:∃ bx,bx = Obj.cells #[.int .i64 k,.string tt,.string aa,.string nn,.int .i64 to_,.int .i64 dk,.int .i64 dn,.string ds] 28:=⟨_,rfl⟩
 have HD:Hid (Calls Tryz.prog 108 #[.slice (some ⟨ga,0,none⟩) t.ra.length ca,.int .i64 a,.int .i64 ((a:Int) + 1)] (w.alloc bx) fun e w' => e = .returned (.slice (some ⟨ga,0,none⟩) (t.ra.length - 1) ca) ∧ w'.ownsRow W0.heap.size 82 6 (.slice (some ⟨ga,0,none⟩) (t.ra.length - 1) ca) (t.ra.length - 1) ((t.ra.flatMap RA.cells).take (a * 6) ++ (t.ra.flatMap RA.cells).drop ((a + 1) * 6)) ∧ (w.alloc bx).grownBy w' (some ga)):=
  delA_ok W0.heap.size ga t.ra.length ca a (a + 1) _ (w.alloc bx) (har.alloc bx) h1 ha rfl hl
 have HS:=Lib.hid S
 have HAR:=Lib.hid har
 rw [hbx] at HD
 clear S har h1 hbx
 have ha':(a:Int) + 1 ≤ 1000000:=by omega
 go_enter Tryz.func107,Tryz.ntmps107
 go_wp2_with fail
 refine HD.out.mono ?_
 rintro e w2 ⟨rfl,o2,g2⟩
 have hgb2:=g2.block g (by simp;omega) (fun e => hne (by injection e))
 have gc:∀ j,w2.cell? ⟨g,j,none⟩ = w.cell? ⟨g,j,none⟩:=fun j => (World.cell?_of_block (a:=⟨g,j,none⟩) hgb2).trans (((Same.refl w).alloc _).cells g j hg)
 have gf:∀ j,w2.frozen? ⟨g,j,none⟩ = w.frozen? ⟨g,j,none⟩:=fun j => (World.frozen?_of_block (a:=⟨g,j,none⟩) hgb2).trans (((Same.refl w).alloc _).frees g j hg)
 have y1:=(gc (i * 3 + 1)).trans x1
 have yf1:=(gf (i * 3 + 1)).trans xf1
 have y2:=(gc (i * 3 + 2)).trans x2
 clear gc gf hgb2
 have hlen:(t.ra.eraseIdx a).length = t.ra.length - 1:=by rw [List.length_eraseIdx,if_pos ha]
 have S2:TabState W0 (w2.setCell ⟨g,i * 3 + 1,none⟩ (.slice (some ⟨ga,0,none⟩) (t.ra.length - 1) ca)) g c (ts.set i { t with ra:=t.ra.eraseIdx a,ha:=⟨some ⟨ga,0,none⟩,t.ra.length - 1,ca⟩ }) i { t with ra:=t.ra.eraseIdx a,ha:=⟨some ⟨ga,0,none⟩,t.ra.length - 1,ca⟩ }:=by
  have:=(HS.out.alloc _).newA (w1:=w2) (A:=some ⟨ga,0,none⟩) (ca:=ca) (ra:=t.ra.eraseIdx a) (by rw [hha];exact g2) (by rw [hlen,← flat_erase RA.clen t.ra a ha];exact o2)
  rw [hlen] at this
  exact this
 have KP2:KeepT w (w2.setCell ⟨g,i * 3 + 1,none⟩ (.slice (some ⟨ga,0,none⟩) (t.ra.length - 1) ca)):=by
  have k1:KeepT w w2:=((KeepT.refl w).alloc _).grown (HAR.out.alloc _) (.inr (.inl rfl)) g2
  obtain ⟨g',cur,hA,_,hk,_⟩:=own_blk (HS.out.alloc _ |>.row.kept g2 (.inr (fun e => hne (by simpa [Value.ownBlock] using e)))) (Nat.lt_of_le_of_lt (Nat.zero_le _) HS.out.lt)
  injection hA with hA
  injection hA with e
  subst e
  exact k1.set hk (.inl rfl) _ _
 have HS2:=Lib.hid S2
 have HKP2:=Lib.hid KP2
 clear S2 o2 g2 KP2
 go_wp2
 obtain ⟨W2,hW2⟩:∃ W2,W2 = w2.setCell ⟨g,i * 3 + 1,none⟩ (.slice (some ⟨ga,0,none⟩) (t.ra.length - 1) ca):=⟨_,rfl⟩
 rw [← hW2]
 rw [← hW2] at HS2 HKP2
 obtain ⟨t2,ht2⟩:∃ t2:RT,t2 = { t with ra:=t.ra.eraseIdx a,ha:=⟨some ⟨ga,0,none⟩,t.ra.length - 1,ca⟩ }:=⟨_,rfl⟩
 rw [← ht2] at HS2
 have hk2:t2.key = t.key:=by rw [ht2]
 have hh2:t2.hk = ⟨B,t.key.length,ck⟩:=by rw [ht2];exact hhk
 have HK2:=Lib.hid hk2
 have HH2:=Lib.hid hh2
 have HT2:=Lib.hid ht2
 have HKB:=Lib.hid hkb
 have hkl':t.key.length ≤ 1000000:=hkl
 clear hW2 ht2 y1 y2 yf1 x1 x2 xf1 HD hk2 hh2 hhk hha hkb hfr HS
 go_loopw [23] (fun q wr => ∃ j:Nat,j ≤ t.key.length ∧ q = .int .i64 j ∧ Hid (TabState W0 wr g c (ts.set i { t2 with key:=keyTo a t.key j }) i { t2 with key:=keyTo a t.key j }) ∧ Hid (KeepT w wr)) (fun q _ => t.key.length - (intOf q).toNat)
 case atStart => exact ⟨0,Nat.zero_le _,rfl,by rw [keyTo_zero,← HK2.out];exact HS2.out,HKP2.out⟩
 case round =>
  obtain ⟨j,hj,rfl,SJ,KJ⟩:=hrel
  by_cases hlt:j < t.key.length
  ·have hlk:(keyTo a t.key j).length = t.key.length:=keyTo_length _ _ _
   obtain ⟨gk,ck',hhk',hkb1,hkb2,hgk,hfk,hcell⟩:=SJ.out.hkBlk (show 0 < (keyTo a t.key j).length by omega)
   have hhk'':(⟨B,t.key.length,ck⟩:Hd) = ⟨some ⟨gk,0,none⟩,(keyTo a t.key j).length,ck'⟩:=HH2.out.symm.trans hhk'
   injection hhk'' with eB eN eC
   have c0:wr.cell? ⟨gk,j,none⟩ = some (.int .i64 t.key[j]):=by
    have:=hcell j (show j < (keyTo a t.key j).length by omega)
    rw [this]
    exact congrArg (fun x => some (Value.int .i64 x)) (keyTo_get a t.key j hlt)
   have f0:=hfk j
   have z2:wr.cell? ⟨g,i * 3 + 2,none⟩ = some (.slice (some ⟨gk,0,none⟩) t.key.length ck):=by
    have:=SJ.out.cell 2 (by omega)
    rw [this]
    show some t2.hk.val = _
    rw [HH2.out,eB];rfl
   have hkj:=HKB.out t.key[j] (List.getElem_mem hlt)
   have SK:Hid (∀ v,TabState W0 (wr.setCell ⟨gk,j,none⟩ (.int .i64 v)) g c (ts.set i { t2 with key:=(keyTo a t.key j).set j v }) i { t2 with key:=(keyTo a t.key j).set j v }):=by
    intro v
    have:=SJ.out.setK (gk:=gk) (ck:=ck) (by rw [HH2.out,eB]) (by rw [HH2.out]) j (show j < (keyTo a t.key j).length by omega) v
    simpa [List.set_set] using this
   have KQ:Hid (∀ v,KeepT w (wr.setCell ⟨gk,j,none⟩ (.int .i64 v))):=by
    intro v
    have hkr:=SJ.out.kr
    have hval:({ t2 with key:=keyTo a t.key j }:RT).hk.val = .slice (some ⟨gk,0,none⟩) t.key.length ck:=by
     show t2.hk.val = _
     rw [HH2.out,eB];rfl
    rw [hval] at hkr
    have hkr':wr.ownsRow W0.heap.size 3 1 (.slice (some ⟨gk,0,none⟩) t.key.length ck) t.key.length ((keyTo a t.key j).flatMap intCell):=by
     have:(keyTo a t.key j).length = t.key.length:=keyTo_length _ _ _
     rw [← this];rw [← this] at hkr;exact hkr
    obtain ⟨g',cur,hA,_,hk,_⟩:=own_blk hkr' (by omega)
    injection hA with hA
    injection hA with e
    subst e
    exact KJ.out.set hk (.inr (.inr rfl)) _ _
   have KS:Hid (keyTo a t.key (j + 1) = (keyTo a t.key j).set j (lowK a t.key[j])):=keyTo_succ a t.key j hlt
   have KM:Hid (lowK a t.key[j] = t.key[j] → keyTo a t.key (j + 1) = keyTo a t.key j):=keyTo_same a t.key j hlt
   obtain ⟨q,hq⟩:∃ q,q = t.key[j]:=⟨_,rfl⟩
   rw [← hq] at c0 hkj KS KM
   obtain ⟨hq0,hq1⟩:=hkj
   clear hq hcell hfk hhk' eB eN eC hlk
   by_cases hqa:(a:Int) < q
   ·have KS':Hid (keyTo a t.key (j + 1) = (keyTo a t.key j).set j (q - 1)):=by show _ = _;rw [KS.out];unfold lowK;rw [if_pos hqa]
    clear KS KM
    go_wp2
    go_roundw
    case rel => exact ⟨j + 1,by omega,by go_num,by rw [KS'.out];exact SK.out (q - 1),KQ.out (q - 1)⟩
    case measure => simp [intOf];omega
   ·have KM':Hid (keyTo a t.key (j + 1) = keyTo a t.key j):=KM.out (by unfold lowK;rw [if_neg hqa])
    clear KS KM
    go_wp2
    go_roundw
    case rel => exact ⟨j + 1,by omega,by go_num,by rw [KM'.out];exact SJ.out,KJ.out⟩
    case measure => simp [intOf];omega
  ·have ej:j = t.key.length:=by omega
   have SF:Hid (TabState W0 wr g c (ts.set i { t2 with key:=t.key.map (lowK a) }) i { t2 with key:=t.key.map (lowK a) }):=by
    have:=SJ.out
    rw [ej,keyTo_all] at this
    exact this
   clear ej SJ
   go_wp2
   go_end0
   exact ⟨rfl,⟨_,by have:=SF.out;rw [HT2.out] at this;exact this⟩,KJ.out⟩
def effV (k:Int):Value:=if k = 1 then effAdd else if k = 2 then effDrop else if k = 3 then effRen else if k = 4 then effCast else effZero
theorem emptyP (s:ByteArray):s.size = 0 ↔ s = ByteArray.empty:=by
 constructor
 ·intro h
  apply ba_inj
  have:(ba s).length = 0:=by rw [ba_length];exact h
  rw [List.eq_nil_of_length_eq_zero this]
  rfl
 ·rintro rfl;rfl
theorem same_zero (v:V):V.same v V.zero = (decide (v.k = 0) && (decide (v.n = 0) && decide (v.s.size = 0))):=by
 rw [Bool.eq_iff_iff,V.same_iff]
 simp only [Bool.and_eq_true,decide_eq_true_eq]
 constructor
 ·rintro rfl;exact ⟨rfl,rfl,rfl⟩
 ·rintro ⟨h1,h2,h3⟩;exact V.ext' h1 h2 ((emptyP _).1 h3)
theorem find_else (h:Hd) (c:Cg) (w:World) (h1:c.kind ≠ 1) (h2:c.kind ≠ 2) (h3:c.kind ≠ 3) (h4:c.kind ≠ 4) :
  Calls Tryz.prog 37 #[.agg #[h.val],c.val] w fun e w' => e = .returned (.tuple #[effZero,.int .i64 0,.int .i64 0,.int .i64 1]) ∧ Same w w':=by
 obtain ⟨k,t,a,n,to_,⟨dk,dn,ds⟩⟩:=c
 obtain ⟨A,m,cc⟩:=h
 have HE:=Lib.hid (fun W => effects_else k t a n to_ dk dn ds W h1 h2 h3 h4)
 clear h1 h2 h3 h4
 show Calls Tryz.prog 37 #[.agg #[.slice A m cc],.agg #[.int .i64 k,.string t,.string a,.string n,.int .i64 to_,.int .i64 dk,.int .i64 dn,.string ds]] w _
 go_enter Tryz.func37,Tryz.ntmps37
 go_wp2_with fail
 refine (HE.out _).mono ?_
 rintro e w1 ⟨he,s1⟩
 unfold effZero at he
 subst he
 have S1:=Lib.hid s1
 have K1:=s1.cells
 have F1:=s1.frees
 have Z1:w.heap.size + 3 ≤ w1.heap.size:=by have:=s1.size;simp at this;omega
 clear s1
 go_upto_region 2 with (fail)
 obtain ⟨wq,hwq⟩:∃ wq,wq = (((w1.setCell ⟨w.heap.size + 1 + 1,0,none⟩ (.bool false)).setCell ⟨w.heap.size + 1 + 1,1,none⟩ .nilFunc).setCell ⟨w.heap.size + 1 + 1,2,none⟩ .nilFunc).setCell ⟨w.heap.size + 1 + 1,3,none⟩ .nilFunc:=⟨_,rfl⟩
 rw [← hwq]
 have sq:Same w wq:=by
  rw [hwq]
  repeat (with_reducible refine Same.setCell ?_ (by dsimp only;omega) _)
  exact ((((Same.refl w).alloc _).alloc _).alloc _).trans S1.out
 have FQ:Hid (FindBox w.heap.size (.slice A m cc) [.int .i64 k,.string t,.string a,.string n,.int .i64 to_,.int .i64 dk,.int .i64 dn,.string ds] [.bool false,.nilFunc,.nilFunc,.nilFunc] wq):=by
  have n1:(w.alloc (.cells #[.slice A m cc] 24)).heap.size = w.heap.size + 1:=by simp
  have n2:((w.alloc (.cells #[.slice A m cc] 24)).alloc (.cells #[.int .i64 k,.string t,.string a,.string n,.int .i64 to_,.int .i64 dk,.int .i64 dn,.string ds] 28)).heap.size = w.heap.size + 1 + 1:=by simp
  have ba1:=((Blk.new w 24 #[.slice A m cc]).alloc (.cells #[.int .i64 k,.string t,.string a,.string n,.int .i64 to_,.int .i64 dk,.int .i64 dn,.string ds] 28)).alloc (.cells #[.bool false,.nilFunc,.nilFunc,.nilFunc] 74)
  have ba2:=(Blk.new (w.alloc (.cells #[.slice A m cc] 24)) 28 #[.int .i64 k,.string t,.string a,.string n,.int .i64 to_,.int .i64 dk,.int .i64 dn,.string ds]).alloc (.cells #[.bool false,.nilFunc,.nilFunc,.nilFunc] 74)
  have ba3:=Blk.new ((w.alloc (.cells #[.slice A m cc] 24)).alloc (.cells #[.int .i64 k,.string t,.string a,.string n,.int .i64 to_,.int .i64 dk,.int .i64 dn,.string ds] 28)) 74 #[.bool false,.nilFunc,.nilFunc,.nilFunc]
  rw [n1] at ba2
  rw [n2] at ba3
  have bb1:Blk w1 w.heap.size 24 #[.slice A m cc]:=(S1.out.block _ (by simp;omega)).trans ba1
  have bb2:Blk w1 (w.heap.size + 1) 28 #[.int .i64 k,.string t,.string a,.string n,.int .i64 to_,.int .i64 dk,.int .i64 dn,.string ds]:=(S1.out.block _ (by simp)).trans ba2
  have hb1:Blk w1 (w.heap.size + 1 + 1) 74 #[.bool false,.nilFunc,.nilFunc,.nilFunc]:=(S1.out.block _ (by simp)).trans ba3
  have hb2:=set4_same (.bool false) .nilFunc .nilFunc .nilFunc hb1
  have hsz:wq.heap.size = w1.heap.size:=by rw [hwq];simp [World.setCell]
  refine ⟨?_,?_,?_,?_,?_,?_⟩
  ·rw [hwq,set4_other _ _ _ _ _ _ _ (by dsimp only;omega),bb1.cell];rfl
  ·intro j v hv
   rw [hwq,set4_other _ _ _ _ _ _ _ (by dsimp only;omega),bb2.cell]
   simpa using hv
  ·intro j v hv
   rw [hwq,hb2.cell]
   simpa using hv
  ·intro j
   rw [hwq];exact hb2.frozen j
  ·rw [hsz];exact Z1
  ·rw [hwq];exact hb2
 have SQ:=Lib.hid sq
 clear hwq sq K1 F1 Z1 S1
 obtain ⟨-,-,e_,f_,z_,-⟩:=FQ.out
 have e0:=e_ 0 _ rfl
 have e1:=e_ 1 _ rfl
 have e2:=e_ 2 _ rfl
 have e3:=e_ 3 _ rfl
 clear e_
 go_wp2_with fail
 refine bodyPost_ret (v:=.tuple #[effZero,.int .i64 0,.int .i64 0,.int .i64 1]) ?_ rfl ⟨rfl,?_⟩
 ·simp [results,Tryz.results37,go_sem,effZero,e0,e1,e2,e3]
 ·repeat with_reducible first | refine Same.setCell ?_ (by dsimp only;omega) _ | refine Same.drew ?_
  exact SQ.out
theorem find_all (h:Hd) (ts:List RT) (c:Cg) (w:World) (a:TabsAt w h ts) (few:Few ts) (hn:okS c.name) :
  Calls Tryz.prog 37 #[.agg #[h.val],c.val] w fun e w' =>
   FindOut (effV c.kind) (errOf (ts.map RT.tb) c) (findT (ts.map RT.tb) c.table) (match ts[(findT (ts.map RT.tb) c.table).toNat]? with | some t => colA t.tb.attrs c.attr | none => 0) e ∧ Same w w':=by
 have e3:∀ (k:Nat) (hk:k < ts.length),(ts.map RT.tb)[k]'(by simpa using hk) = ts[k].tb:=fun k hk => by simp
 have hl:(ts.map RT.tb).length = ts.length:=List.length_map _
 have tbl:∀ t:RT,t.tb.attrs.length = t.ra.length:=fun t => by simp [RT.tb]
 have nat:∀ {i:Int} {m:Nat},0 ≤ i ∧ i < m → ∃ k:Nat,i = k ∧ k < m:=fun {i m} h => ⟨i.toNat,by omega,by omega⟩
 by_cases h1:c.kind = 1
 ·have hf:formedB c = decide (c.attr.size = 0):=by simp [formedB,h1]
  have hv:effV c.kind = .agg #[.bool false,fnV 100,fnV 103,fnV 104]:=by simp [effV,h1,effAdd]
  rw [hv]
  refine find_gen false (formedB c) _ _ _ h ts c (fun t i => checkE t.tb c i.toNat) w a few ?_ (enters_of Tryz.func100 (by kernel_rfl) rfl) ?_ _ err_E0 err_E1 err_E2 ?_ ?_
  ·intro W
   rw [hf]
   obtain ⟨k,t,at_,n,to_,⟨dk,dn,ds⟩⟩:=c
   obtain rfl:k = 1:=h1
   exact effects_add t at_ n to_ dk dn ds W
  ·intro k hk i W s _
   have:=check_add ts[k] c i W ((a.2 _ (List.getElem_mem hk)).same s) hn
   simpa [checkE,h1,tbl] using this
  ·intro _ _ k hk _ hh;cases hh
  ·intro p q k hk hfi _
   have:=err_E4 (c:=c) p q k (by rw [hl];exact hk) hfi (fun hh => absurd h1 hh)
   rw [e3 k hk] at this
   exact this
 by_cases h2:c.kind = 2
 ·have hf:formedB c = (decide (c.name.size = 0) && (decide (c.to_ = 0) && (decide (c.dflt.k = 0) && (decide (c.dflt.n = 0) && decide (c.dflt.s.size = 0))))):=by unfold formedB;rw [if_neg h1,if_pos h2,same_zero]
  have hv:effV c.kind = .agg #[.bool true,fnV 105,fnV 107,fnV 109]:=by simp [effV,h2,effDrop]
  rw [hv]
  refine find_gen true (formedB c) _ _ _ h ts c (fun t i => checkE t.tb c i.toNat) w a few ?_ (enters_of Tryz.func105 (by kernel_rfl) rfl) ?_ _ err_E0 err_E1 err_E2 ?_ ?_
  ·intro W
   rw [hf]
   obtain ⟨k,t,at_,n,to_,⟨dk,dn,ds⟩⟩:=c
   obtain rfl:k = 2:=h2
   exact effects_drop t at_ n to_ dk dn ds W
  ·intro k hk i W s hi
   obtain ⟨j,rfl,hj⟩:=nat (hi rfl)
   have:=check_drop ts[k] c j W ((a.2 _ (List.getElem_mem hk)).same s)
   have e:checkE ts[k].tb c (j:Int).toNat = (if ts[k].key.any (fun k => decide (k = (j:Int))) then 1 else 0):=by unfold checkE;rw [if_neg h1,if_pos h2];rfl
   rw [e]
   exact this
  ·intro p q k hk hfi _ hc
   exact err_E3 p q k (by rw [hl];exact hk) hfi h1 (by rw [e3 k hk];exact hc)
  ·intro p q k hk hfi hc
   have:=err_E4 (c:=c) p q k (by rw [hl];exact hk) hfi (fun _ => by rw [e3 k hk];exact hc rfl)
   rw [e3 k hk] at this
   exact this
 by_cases h3:c.kind = 3
 ·have hf:formedB c = (decide (c.to_ = 0) && (decide (c.dflt.k = 0) && (decide (c.dflt.n = 0) && decide (c.dflt.s.size = 0)))):=by unfold formedB;rw [if_neg h1,if_neg h2,if_pos h3,same_zero]
  have hv:effV c.kind = .agg #[.bool true,fnV 111,fnV 112,fnV 114]:=by simp [effV,h3,effRen]
  rw [hv]
  refine find_gen true (formedB c) _ _ _ h ts c (fun t i => checkE t.tb c i.toNat) w a few ?_ (enters_of Tryz.func111 (by kernel_rfl) rfl) ?_ _ err_E0 err_E1 err_E2 ?_ ?_
  ·intro W
   rw [hf]
   obtain ⟨k,t,at_,n,to_,⟨dk,dn,ds⟩⟩:=c
   obtain rfl:k = 3:=h3
   exact effects_ren t at_ n to_ dk dn ds W
  ·intro k hk i W s hi
   obtain ⟨j,rfl,hj⟩:=nat (hi rfl)
   have:=check_ren ts[k] c j W ((a.2 _ (List.getElem_mem hk)).same s) hn
   have e:checkE ts[k].tb c (j:Int).toNat = freshE ts[k].tb c:=by unfold checkE;rw [if_neg h1,if_neg h2,if_pos h3]
   rw [e]
   exact this
  ·intro p q k hk hfi _ hc
   exact err_E3 p q k (by rw [hl];exact hk) hfi h1 (by rw [e3 k hk];exact hc)
  ·intro p q k hk hfi hc
   have:=err_E4 (c:=c) p q k (by rw [hl];exact hk) hfi (fun _ => by rw [e3 k hk];exact hc rfl)
   rw [e3 k hk] at this
   exact this
 by_cases h4:c.kind = 4
 ·have hf:formedB c = decide (c.name.size = 0):=by simp [formedB,h4]
  have hv:effV c.kind = .agg #[.bool true,fnV 115,fnV 116,fnV 117]:=by simp [effV,h4,effCast]
  rw [hv]
  refine find_gen true (formedB c) _ _ _ h ts c (fun t i => checkE t.tb c i.toNat) w a few ?_ (enters_of Tryz.func115 (by kernel_rfl) rfl) ?_ _ err_E0 err_E1 err_E2 ?_ ?_
  ·intro W
   rw [hf]
   obtain ⟨k,t,at_,n,to_,⟨dk,dn,ds⟩⟩:=c
   obtain rfl:k = 4:=h4
   exact effects_cast t at_ n to_ dk dn ds W
  ·intro k hk i W s hi
   obtain ⟨j,rfl,hj⟩:=nat (hi rfl)
   have:=check_cast ts[k] c j W ((a.2 _ (List.getElem_mem hk)).same s) hj
   have e:checkE ts[k].tb c (j:Int).toNat = (if typedB c && !decide ((ts[k].tb.attrs.map At.kind)[j]? = some c.to_) then 0 else 1):=by unfold checkE;rw [if_neg h1,if_neg h2,if_neg h3];rfl
   rw [e]
   exact this
  ·intro p q k hk hfi _ hc
   exact err_E3 p q k (by rw [hl];exact hk) hfi h1 (by rw [e3 k hk];exact hc)
  ·intro p q k hk hfi hc
   have:=err_E4 (c:=c) p q k (by rw [hl];exact hk) hfi (fun _ => by rw [e3 k hk];exact hc rfl)
   rw [e3 k hk] at this
   exact this
 ·have hf:formedB c = false:=by simp [formedB,h1,h2,h3,h4]
  have hv:effV c.kind = effZero:=by simp [effV,h1,h2,h3,h4]
  refine (find_else h c w h1 h2 h3 h4).mono ?_
  rintro e w' ⟨he,s⟩
  have hE:errOf (ts.map RT.tb) c = 1:=err_E0 hf
  rw [hv,hE]
  exact ⟨⟨0,0,he,fun h => by cases h⟩,s⟩
structure Ready (W0:World) (t:RT):Prop where
 ras:RAsOk W0 t.ra
 nm:okS t.name
 al:t.ra.length ≤ 12
 kl:t.key.length ≤ 12
 kb:∀ q ∈ t.key,0 ≤ q ∧ q ≤ 1000000
 few:∀ r ∈ t.ra,r.at_.was.length ≤ 1000000
section
variable {W0 w w1:World} {g c i:Nat} {ts:List RT} {t:RT}
theorem TabState.same (S:TabState W0 w g c ts i t) (s:Same w w1):TabState W0 w1 g c ts i t:=
 ⟨S.s.trans s,own_same s S.row,S.ti,S.an,own_same s S.ar,S.kn,own_same s S.kr⟩
theorem TabState.rowBlk (S:TabState W0 w g c ts i t):∃ cur,Blk w g 44 cur:=by
 obtain ⟨g',cur,hA,_,hk,_⟩:=own_blk S.row (Nat.lt_of_le_of_lt (Nat.zero_le _) S.lt)
 injection hA with hA
 injection hA with e
 subst e
 exact ⟨cur,hk⟩
theorem done_mk {t':RT} {tb:Tb} (R:Ready W0 t) (S:TabState W0 w g c (ts.set i t') i t') (htb:t'.tb = tb) (hr:RAsOk w t'.ra) (hn:t'.name = t.name) (hl:t'.ra.length ≤ 13) (hk:t'.key.length = t.key.length):TbDone W0 w g c ts i tb:=
 ⟨t',S,htb,hr,by rw [hn];exact R.nm,by omega,by have:=R.kl;omega⟩
theorem table_add (cg:Cg) (a:Int) (S:TabState W0 w g c ts i t) (R:Ready W0 t) (hk:cg.kind = 1) (hn:okS cg.name) (hd:okS cg.dflt.s) :
  Calls Tryz.prog 103 #[.pointer (some ⟨g,i * 3,none⟩),cg.val,.int .i64 a] w fun e w' => e = .returned (.tuple #[]) ∧ TbDone W0 w' g c ts i (newT t.tb cg) ∧ KeepT w w':=by
 obtain ⟨k,tt,aa,nn,to_,⟨dk,dn,ds⟩⟩:=cg
 have x1:w.cell? ⟨g,i * 3 + 1,none⟩ = some t.ha.val:=S.cell 1 (by omega)
 refine (add2_low W0.heap.size g (i * 3) t.ra.length t.ha.val (t.ra.flatMap RA.cells) a k to_ dk dn tt aa nn ds w S.g_le.2 S.s.size (by have:=R.al;omega) x1 (S.free _) S.ar (row_ne S.ar S.row (by decide))).mono ?_
 rintro e w' ⟨v1,w1,he,o1,g1,rfl⟩
 obtain ⟨A,ca,rfl⟩:=own_val o1
 refine ⟨he,?_⟩
 have hfl:(t.ra ++ [(⟨⟨nn,to_,[],⟨dk,dn,ds⟩⟩,⟨none,0,0⟩⟩:RA)]).flatMap RA.cells = t.ra.flatMap RA.cells ++ [.string nn,.int .i64 to_,.slice none 0 0,.int .i64 dk,.int .i64 dn,.string ds]:=by
  rw [List.flatMap_append];rfl
 have hln:(t.ra ++ [(⟨⟨nn,to_,[],⟨dk,dn,ds⟩⟩,⟨none,0,0⟩⟩:RA)]).length = t.ra.length + 1:=by simp
 have S2:=S.newA (ra:=t.ra ++ [⟨⟨nn,to_,[],⟨dk,dn,ds⟩⟩,⟨none,0,0⟩⟩]) g1 (by rw [hln,hfl];exact o1)
 rw [hln] at S2
 obtain ⟨cur0,hrb⟩:=S.rowBlk
 refine ⟨done_mk R S2 (newT_add t ⟨k,tt,aa,nn,to_,⟨dk,dn,ds⟩⟩ hk _) ?_ rfl (by simp;have:=R.al;omega) rfl,?_⟩
 case refine_2 => exact ((KeepT.refl w).grown S.ar (.inr (.inl rfl)) g1).set (Blk.grown hrb g1 (fun e => row_ne S.ar S.row (by decide) e.symm)) (.inl rfl) _ _
 intro r hr
 rcases List.mem_append.1 hr with h | h
 ·exact R.ras.same S2.s r h
 ·rw [List.mem_singleton.1 h]
  exact ⟨strs_none _,hn,hd⟩
theorem table_cast (cg:Cg) (a:Nat) (S:TabState W0 w g c ts i t) (R:Ready W0 t) (hk:cg.kind = 4) (ha:a < t.ra.length) (hc:colA t.tb.attrs cg.attr = a) (hd:okS cg.dflt.s) :
  Calls Tryz.prog 116 #[.pointer (some ⟨g,i * 3,none⟩),cg.val,.int .i64 a] w fun e w' => e = .returned (.tuple #[]) ∧ TbDone W0 w' g c ts i (newT t.tb cg) ∧ KeepT w w':=by
 obtain ⟨k,tt,aa,nn,to_,⟨dk,dn,ds⟩⟩:=cg
 obtain ⟨ga,ca,hha,hgb,hgl,hne,hfr,har⟩:=S.haBlk (by omega)
 have x1:w.cell? ⟨g,i * 3 + 1,none⟩ = some (.slice (some ⟨ga,0,none⟩) t.ra.length ca):=by
  have:=S.cell 1 (by omega)
  rw [this]
  show some t.ha.val = _
  rw [hha];rfl
 have hcl:∀ j,j < 6 → ∃ v,w.cell? ⟨ga,a * 6 + j,none⟩ = some v:=by
  intro j hj
  have:=own_cell RA.clen har rfl a ha j hj
  exact ⟨_,this.trans (List.getElem?_eq_getElem (show j < (RA.cells t.ra[a]).length from hj))⟩
 refine (cast2_low g (i * 3) ga a t.ra.length ca k to_ dk dn tt aa nn ds w hne hgl S.g_le.2 ha (by have:=R.al;omega) x1 (hcl 1 (by omega)) (hcl 3 (by omega)) (hcl 4 (by omega)) (hcl 5 (by omega)) hfr).mono ?_
 rintro e w' ⟨he,rfl⟩
 refine ⟨he,?_⟩
 have S2:=((S.cast4 (by rw [hha]) (by rw [hha]) a ha to_ dk dn ds).alloc (.cells #[.int .i64 k,.string tt,.string aa,.string nn,.int .i64 to_,.int .i64 dk,.int .i64 dn,.string ds] 28)).drew
 refine ⟨done_mk R S2 (newT_cast t ⟨k,tt,aa,nn,to_,⟨dk,dn,ds⟩⟩ a ha hk hc) ?_ rfl (by simp;have:=R.al;omega) rfl,?_⟩
 case refine_2 =>
  obtain ⟨ga',cur,hA,_,hkb,_⟩:=own_blk har (by omega)
  injection hA with hA
  injection hA with e
  subst e
  have b1:=hkb.set_ (a * 6 + 1) (.int .i64 to_)
  have b2:=b1.set_ (a * 6 + 3) (.int .i64 dk)
  have b3:=b2.set_ (a * 6 + 4) (.int .i64 dn)
  exact ((((((KeepT.refl w).set hkb (.inr (.inl rfl)) _ _).set b1 (.inr (.inl rfl)) _ _).set b2 (.inr (.inl rfl)) _ _).set b3 (.inr (.inl rfl)) _ _).alloc _).drew
 have h0:=R.ras _ (List.getElem_mem ha)
 exact (R.ras.same S2.s).set a _ ⟨h0.1.same S2.s,h0.2.1,hd⟩
theorem table_ren (cg:Cg) (a:Nat) (S:TabState W0 w g c ts i t) (R:Ready W0 t) (hk:cg.kind = 3) (ha:a < t.ra.length) (hc:colA t.tb.attrs cg.attr = a) (hn:okS cg.name) :
  Calls Tryz.prog 112 #[.pointer (some ⟨g,i * 3,none⟩),cg.val,.int .i64 a] w fun e w' => e = .returned (.tuple #[]) ∧ TbDone W0 w' g c ts i (newT t.tb cg) ∧ KeepT w w':=by
 obtain ⟨k,tt,aa,nn,to_,⟨dk,dn,ds⟩⟩:=cg
 obtain ⟨ga,ca,hha,hgb,hgl,hne,hfr,har⟩:=S.haBlk (by omega)
 have x1:w.cell? ⟨g,i * 3 + 1,none⟩ = some (.slice (some ⟨ga,0,none⟩) t.ra.length ca):=by
  have:=S.cell 1 (by omega)
  rw [this]
  show some t.ha.val = _
  rw [hha];rfl
 have e0:w.cell? ⟨ga,a * 6,none⟩ = some (.string t.ra[a].at_.name):=own_cell RA.clen har rfl a ha 0 (by omega)
 have e2:w.cell? ⟨ga,a * 6 + 2,none⟩ = some t.ra[a].h.val:=own_cell RA.clen har rfl a ha 2 (by omega)
 have h0:=R.ras _ (List.getElem_mem ha)
 have hfw:=R.few _ (List.getElem_mem ha)
 refine (ren2_low g (i * 3) ga a t.ra.length ca k to_ dk dn tt aa nn ds t.ra[a].at_.name t.ra[a].h t.ra[a].at_.was w hne hgl S.g_le.2 ha (by have:=R.al;omega) x1 e0 e2 hfr (h0.1.same S.s) hfw).mono ?_
 rintro e w' ⟨A1,c1,w1,he,o1,s1,rfl⟩
 refine ⟨he,?_⟩
 obtain ⟨hw,hhw⟩:∃ hw:Hd,hw = ⟨A1,t.ra[a].at_.was.length + 1,c1⟩:=⟨_,rfl⟩
 have S2:=((S.same s1).ren2 (by rw [hha]) (by rw [hha]) a ha hw (t.ra[a].at_.was ++ [t.ra[a].at_.name]) nn).drew
 have hv:hw.val = .slice A1 (t.ra[a].at_.was.length + 1) c1:=by rw [hhw];rfl
 rw [hv] at S2
 refine ⟨done_mk R S2 (newT_ren t ⟨k,tt,aa,nn,to_,⟨dk,dn,ds⟩⟩ a ha hk hc hw) ?_ rfl (by simp;have:=R.al;omega) rfl,?_⟩
 case refine_2 =>
  obtain ⟨ga',cur,hA,_,hkb,_⟩:=own_blk (own_same s1 har) (by omega)
  injection hA with hA
  injection hA with e
  subst e
  exact (((KeepT.same s1).set hkb (.inr (.inl rfl)) _ _).set (hkb.set_ _ _) (.inr (.inl rfl)) _ _).drew
 refine (R.ras.same S2.s).set a _ ⟨⟨?_,?_⟩,hn,h0.2.2⟩
 ·have hoff:A1 ≠ some ⟨ga,0,none⟩:=by
   rintro rfl
   have:=(o1.lt ga rfl).1
   omega
  have o2:=(own_off' (own_off' o1 hoff (a * 6 + 2) (.slice A1 (t.ra[a].at_.was.length + 1) c1)) hoff (a * 6) (.string nn)).drew
  rw [hhw]
  refine own_lies' (base:=w.heap.size) (e:=9) (enc:=strCell) (fun _ => rfl) (by simp) (by show t.ra[a].at_.was.length + 1 ≤ _;omega) ?_
  rw [flat_str]
  exact o2
 ·intro s hs
  rcases List.mem_append.1 hs with h | h
  ·exact h0.1.2 s h
  ·rw [List.mem_singleton.1 h];exact h0.2.1
theorem table_drop (cg:Cg) (a:Nat) (S:TabState W0 w g c ts i t) (R:Ready W0 t) (hk:cg.kind = 2) (ha:a < t.ra.length) (hc:colA t.tb.attrs cg.attr = a) :
  Calls Tryz.prog 107 #[.pointer (some ⟨g,i * 3,none⟩),cg.val,.int .i64 a] w fun e w' => e = .returned (.tuple #[]) ∧ TbDone W0 w' g c ts i (newT t.tb cg) ∧ KeepT w w':=by
 obtain ⟨k,tt,aa,nn,to_,⟨dk,dn,ds⟩⟩:=cg
 refine (drop2_state W0 w g c i a ts t k to_ dk dn tt aa nn ds S ha (by have:=R.al;omega) (by have:=R.kl;omega) R.kb).mono ?_
 rintro e w' ⟨he,⟨h',S2⟩,hkp⟩
 refine ⟨he,done_mk R S2 (newT_drop t ⟨k,tt,aa,nn,to_,⟨dk,dn,ds⟩⟩ a hk hc h') ?_ rfl ?_ (by simp),hkp⟩
 ·intro r hr
  exact R.ras.same S2.s r (List.mem_of_mem_eraseIdx hr)
 ·show (t.ra.eraseIdx a).length ≤ 13
  have:=R.al
  rw [List.length_eraseIdx]
  split <;> omega
end
def ApplyOut (S':List Tb) (E:Int) (w':World) (e:Ending):Prop:=
 (E ≠ 0 ∧ e = .returned (.tuple #[.agg #[.slice none 0 0],.int .i64 E])) ∨ (E = 0 ∧ ∃ (h':Hd) (ts':List RT),e = .returned (.tuple #[.agg #[h'.val],.int .i64 0]) ∧ TabsAt w' h' ts' ∧ ts'.map RT.tb = S')
theorem apply_bad (h:Hd) (ts:List RT) (c:Cg) (w:World) (a:TabsAt w h ts) (few:Few ts) (hn:okS c.name) (hE:errOf (ts.map RT.tb) c ≠ 0) :
  Calls Tryz.prog 7 #[.agg #[h.val],c.val] w fun e w' => e = .returned (.tuple #[.agg #[.slice none 0 0],.int .i64 (errOf (ts.map RT.tb) c)]) ∧ Same w w':=by
 have HF:=Lib.hid (fun W (s:Same w W) => find_all h ts c W (a.same s) few hn)
 obtain ⟨E,hEE⟩:∃ E,E = errOf (ts.map RT.tb) c:=⟨_,rfl⟩
 rw [← hEE] at hE HF ⊢
 clear a few hn hEE
 have HV:Hid (∃ x0 x1 x2 x3,effV c.kind = .agg #[x0,x1,x2,x3] ∧ x0.oneCell' = true ∧ x1.oneCell' = true ∧ x2.oneCell' = true ∧ x3.oneCell' = true):=by
  unfold effV
  split
  ·exact ⟨_,_,_,_,rfl,rfl,rfl,rfl,rfl⟩
  split
  ·exact ⟨_,_,_,_,rfl,rfl,rfl,rfl,rfl⟩
  split
  ·exact ⟨_,_,_,_,rfl,rfl,rfl,rfl,rfl⟩
  split
  ·exact ⟨_,_,_,_,rfl,rfl,rfl,rfl,rfl⟩
  ·exact ⟨_,_,_,_,rfl,rfl,rfl,rfl,rfl⟩
 obtain ⟨x0,x1,x2,x3,hv,o0,o1,o2,o3⟩:=HV.out
 rw [hv] at HF
 clear hv HV
 obtain ⟨A,m,cc⟩:=h
 obtain ⟨k,tt,aa,n,to_,⟨dk,dn,ds⟩⟩:=c
 have HF':Hid (∀ W,Same w W → Calls Tryz.prog 37 #[.agg #[.slice A m cc],.agg #[.int .i64 k,.string tt,.string aa,.string n,.int .i64 to_,.int .i64 dk,.int .i64 dn,.string ds]] W fun e w' => (∃ x y:Int,e = .returned (.tuple #[.agg #[x0,x1,x2,x3],.int .i64 x,.int .i64 y,.int .i64 E])) ∧ Same W w'):=
  fun W s => (HF.out W s).mono fun e w' ⟨⟨x,y,he,_⟩,s'⟩ => ⟨⟨x,y,he⟩,s'⟩
 clear HF
 have r0:=fun w a m => run_store Tryz.prog w a x0 m o0
 have r1:=fun w a m => run_store Tryz.prog w a x1 m o1
 have r2:=fun w a m => run_store Tryz.prog w a x2 m o2
 have r3:=fun w a m => run_store Tryz.prog w a x3 m o3
 clear o0 o1 o2 o3
 have tE:(E != 0) = true:=by simp;exact hE
 show Calls Tryz.prog 7 #[.agg #[.slice A m cc],.agg #[.int .i64 k,.string tt,.string aa,.string n,.int .i64 to_,.int .i64 dk,.int .i64 dn,.string ds]] w _
 go_enter Tryz.func7,Tryz.ntmps7
 go_wp2_with fail
 refine (HF'.out _ ?_).mono ?_
 ·exact (((Same.refl w).alloc _).alloc _).alloc _
 rintro e w1 ⟨⟨x,y,rfl⟩,s1⟩
 have S1:=Lib.hid s1
 have K1:=s1.cells
 have F1:=s1.frees
 have Z1:w.heap.size + 3 ≤ w1.heap.size:=by have:=s1.size;simp at this;omega
 have z2:w.heap.size + 1 + 1 < w1.heap.size:=by omega
 clear s1
 go_wp2_with fail
 refine bodyPost_ret (v:=.tuple #[.agg #[.slice none 0 0],.int .i64 E]) ?_ rfl ⟨rfl,?_⟩
 ·simp [results,Tryz.results7,go_sem,K1,F1,z2]
 ·repeat with_reducible first | refine Same.setCell ?_ (by dsimp only;omega) _ | refine Same.drew ?_ | refine Same.alloc ?_ _
  exact ((((Same.refl w).alloc _).alloc _).alloc _).trans S1.out
end Go.Proofs.YtfifnemnihcijaaGreatDoor

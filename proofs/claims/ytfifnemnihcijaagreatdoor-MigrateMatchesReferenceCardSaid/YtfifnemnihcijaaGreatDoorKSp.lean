import Derived.Test.YtfifnemnihcijaaGreatDoorKSm
import Derived.Sort.Grow
import Derived.Lib.SlicesCompact
import Derived.Deep.RegionLaw
set_option linter.unusedSimpArgs false
set_option linter.unusedVariables false
set_option maxHeartbeats 16000000
set_option maxRecDepth 100000
namespace Go.Proofs.YtfifnemnihcijaaGreatDoor
open Go.RowKit Go.Sort
theorem own_holds {w:World} {base:Nat} {A:Option Addr} {c:Nat} {l:List ByteArray} (h:w.ownsRow base 9 1 (.slice A l.length c) l.length (l.map .string)) (hn:0 < l.length) :
  ∃ g,A = some ⟨g,0,none⟩ ∧ base ≤ g ∧ g < w.heap.size ∧ Holds encStr w g 0 (l.map ba).toArray ∧ l.length ≤ c:=by
 obtain ⟨g,cap,hv,hb,hlt⟩:=h.form hn
 injection hv with e1 e2 e3
 subst e1 e3
 refine ⟨g,rfl,hb,hlt,?_,?_⟩
 ·intro j hj
  have hj':j < l.length:=by simpa using hj
  refine ⟨?_,h.frozenAt _⟩
  rw [Nat.zero_add,h.cellAt j (by omega)]
  simp [hj',encStr,ba]
 ·rcases h.2 with ⟨e,_⟩ | ⟨g',cap',cur,e,_,_,hc,_⟩
  ·cases e
  ·injection e with _ _ e;subst e;exact hc
theorem own_lies {w:World} {base:Nat} {A:Option Addr} {c n:Nat} {l:List ByteArray} (h:w.ownsRow base 9 1 (.slice A n c) n (l.map .string)) (hl:l.length = n) (hm:n ≤ 9223372036854775807):Lies w 1 ⟨A,n,c⟩ strCell l:=by
 refine ⟨hl,hm,fun k hk => ?_⟩
 obtain ⟨g,cap,hv,hb,hlt⟩:=h.form (by omega)
 injection hv with e1 e2 e3
 subst e1 e3
 refine ⟨g,0,rfl,hlt,fun j v hv => ?_⟩
 match j,hv with
 | 0,hv =>
  simp [strCell] at hv
  subst hv
  have:=h.cellAt k (by omega)
  simp only [Nat.zero_add,Nat.mul_one,Nat.add_zero]
  rw [this]
  simp [hk]
 | j + 1,hv => simp [strCell] at hv
theorem putRow_block {α:Type} [Inhabited α] (enc:α → Value) (w:World) (g off:Nat) (d:Array α) (k:Nat) (h:k ≠ g):(putRow enc w g off d).heap[k]? = w.heap[k]?:=by
 simp only [putRow,mapBlock]
 rw [Array.getElem?_modify,if_neg (fun e => h e.symm)]
theorem sortS_ok (B g c:Nat) (l:List ByteArray) (w:World) (hH:Holds encStr w g 0 (l.map ba).toArray) (hg:g < w.heap.size) (hB:B ≤ g) (hl:l.length < 4611686018427387904) :
  Calls Tryz.prog 80 #[.slice (some ⟨g,0,none⟩) l.length c] w fun e w' => e = .returned (.tuple #[]) ∧ Below B w w' ∧ g < w'.heap.size ∧ Holds encStr w' g 0 ((l.map ba).mergeSort fun x y => decide (x ≤ y)).toArray:=by
 have h:=Tryz.slices_Sort_string g 0 c (l.map ba) w hH hg (by simpa using hl)
 rw [List.length_map] at h
 refine h.mono ?_
 rintro e w' ⟨he,n,os,rfl⟩
 have hs:((l.map ba).mergeSort fun x y => decide (x ≤ y)).toArray.size = (l.map ba).toArray.size:=by simp
 refine ⟨he,⟨rfl,rfl,rfl,by simp [Sort.ahead],fun k hk => ?_⟩,by simp [Sort.ahead];omega,holds_grow _ _ _ _ _ _ (by simp [Sort.ahead];omega) (holds_putRow encStr (Sort.ahead w n) g 0 _ _ (holds_ahead _ _ _ _ _ _ hH) hs)⟩
 rw [heap_grow_old _ _ (by simp [Sort.ahead];omega),putRow_block _ _ _ _ _ _ (by omega)]
 rfl
theorem compactS_ok (B g c:Nat) (zs:List (List UInt8)) (w:World) (hH:Holds encStr w g 0 zs.toArray) (hB:B ≤ g) (hl:zs.length ≤ 9223372036854775807) (hc:zs.length ≤ c) :
  Calls Tryz.prog 81 #[.slice (some ⟨g,0,none⟩) zs.length c] w fun e w' => e = .returned (.slice (some ⟨g,0,none⟩) (Lib.compact zs).length c) ∧ Below B w w':=by
 refine (Tryz.slices_Compact_string g 0 c zs w hH hl hc).mono ?_
 rintro e w' ⟨he,q,rfl⟩
 refine ⟨he,⟨rfl,rfl,rfl,by simp [Sort.ahead],fun k hk => ?_⟩⟩
 rw [putRow_block _ _ _ _ _ _ (by omega)]
 rfl
section
variable {α:Type} [Inhabited α] [DecidableEq α]
theorem compact_len (zs:List α):(Lib.compact zs).length ≤ zs.length ∧ ((Lib.compact zs).length = zs.length ↔ ∀ j,j < zs.length → Lib.keeps zs.toArray j = true):=by
 unfold Lib.compact Lib.compactUpTo
 rw [List.length_map]
 have h1:=List.length_filter_le (Lib.keeps zs.toArray) (List.range zs.length)
 rw [List.length_range] at h1
 refine ⟨h1,?_,?_⟩
 ·intro h j hj
  have:=(List.length_filter_eq_length_iff (p:=Lib.keeps zs.toArray) (l:=List.range zs.length)).1 (by rw [h,List.length_range])
  exact this j (List.mem_range.2 hj)
 ·intro h
  rw [List.filter_eq_self.2 (fun j hj => h j (List.mem_range.1 hj)),List.length_range]
end
theorem nodup_of_sorted (zs:List (List UInt8)) (hs:zs.Pairwise (fun x y => decide (x ≤ y) = true)):(∀ j,j < zs.length → Lib.keeps zs.toArray j = true) ↔ zs.Nodup:=by
 have hget:∀ j (hj:j < zs.length),zs.toArray[j]! = zs[j]:=fun j hj => by simp [hj]
 constructor
 ·intro h
  rw [List.nodup_iff_pairwise_ne,List.pairwise_iff_getElem]
  intro i j hi hj hij e
  have hk:=h (i + 1) (by omega)
  simp only [Lib.keeps,Nat.add_sub_cancel,decide_eq_true_eq] at hk
  rcases hk with hk | hk
  ·omega
  ·rw [hget _ (by omega),hget _ hi] at hk
   rw [List.pairwise_iff_getElem] at hs
   have h1:zs[i] ≤ zs[i + 1]:=by simpa using hs i (i + 1) hi (by omega) (by omega)
   apply hk
   by_cases e2:i + 1 = j
   ·subst e2;exact e.symm
   ·have h2:zs[i + 1] ≤ zs[j]:=by simpa using hs (i + 1) j (by omega) hj (by omega)
    rw [← e] at h2
    exact List.le_antisymm h2 h1
 ·intro h j hj
  simp only [Lib.keeps,decide_eq_true_eq]
  by_cases h0:j = 0
  ·exact .inl h0
  ·right
   rw [hget j hj,hget (j - 1) (by omega)]
   intro e
   rw [List.nodup_iff_pairwise_ne,List.pairwise_iff_getElem] at h
   exact h (j - 1) j (by omega) hj (by omega) e.symm
theorem compact_dup (l:List ByteArray):decide ((Lib.compact ((l.map ba).mergeSort fun x y => decide (x ≤ y))).length < l.length) = dupB l:=by
 have hp:=List.mergeSort_perm (l.map ba) (fun x y => decide (x ≤ y))
 have hl:((l.map ba).mergeSort fun x y => decide (x ≤ y)).length = l.length:=by simp
 have hs:((l.map ba).mergeSort fun x y => decide (x ≤ y)).Pairwise (fun x y => decide (x ≤ y) = true):=by
  apply List.pairwise_mergeSort
  ·intro a b c h1 h2
   simp only [decide_eq_true_eq] at *
   exact List.le_trans h1 h2
  ·intro a b
   simp only [Bool.or_eq_true,decide_eq_true_eq]
   exact List.le_total a b
 obtain ⟨c1,c2⟩:=compact_len ((l.map ba).mergeSort fun x y => decide (x ≤ y))
 rw [nodup_of_sorted _ hs,hp.nodup_iff,hl] at c2
 have hn:(l.map ba).Nodup ↔ l.Nodup:=by
  unfold List.Nodup
  rw [List.pairwise_map]
  constructor
  ·intro h;exact h.imp (fun hne e => hne (by rw [e]))
  ·intro h;exact h.imp (fun hne e => hne (ba_inj e))
 rw [hn,← dupB_iff] at c2
 rw [hl] at c1
 cases hd:dupB l with
 | false => rw [hd] at c2;have:=c2.2 rfl;simp;omega
 | true => rw [hd] at c2;simp at c2 ⊢;omega
theorem indexSf_ok (g:Nat) (caps:Array Value) (eg:∀ args w,(callFunc g args).run Tryz.prog w = .ok (.enter g args) w) (h:Hd) (p:ByteArray → Bool) (xs:List ByteArray) (w:World)
  (l:Lies w 1 h strCell xs) (t:Tells g caps w (fun x => .string x) p xs) :
  Calls Tryz.prog 96 #[h.val,.func (.func g) #[] caps] w fun e w' => e = .returned (.int .i64 (idxB p xs)) ∧ Same w w':=by
 obtain ⟨A,n,c⟩:=h
 show Calls Tryz.prog 96 #[.slice A n c,.func (.func g) #[] caps] w _
 have hn:xs.length = n:=l.1
 have hb:n ≤ 9223372036854775807:=l.2.1
 subst hn
 have HL:=Lib.hid l
 have HT:=Lib.hid t
 clear l t
 go_enter Tryz.func96,Tryz.ntmps96
 go_wp2
 go_loopw [8] (fun i wr => ∃ k:Nat,k ≤ xs.length ∧ i = .int .i64 k ∧ Hid (Same w wr) ∧ Hid (∀ j (hj:j < xs.length),j < k → p xs[j] = false)) (fun i _ => xs.length - (intOf i).toNat)
 case atStart => exact ⟨0,Nat.zero_le _,rfl,Same.refl w,fun j _ hj => absurd hj (Nat.not_lt_zero _)⟩
 case round =>
  obtain ⟨k,hk,rfl,S,N⟩:=hrel
  by_cases hlt:k < xs.length
  ·obtain ⟨b,off,hA,blt,c0⟩:=(HL.out.same S.out).one k hlt (v:=.string xs[k]) rfl
   have hA':A = some ⟨b,off,none⟩:=hA
   have hcall:Calls Tryz.prog g (#[Value.string xs[k]] ++ caps) wr fun e W' => e = .returned (.bool (p xs[k])) ∧ Same wr W':=HT.out xs[k] (List.getElem_mem hlt) wr S.out
   have HC:=Lib.hid hcall
   clear hcall hA
   subst hA'
   cases hq:p xs[k] with
   | true =>
    rw [hq] at HC
    have HQ:=Lib.hid hq
    clear hq
    go_wp2_with fail
    refine HC.out.mono ?_
    rintro e w' ⟨rfl,s1⟩
    have S1:=Lib.hid s1
    clear s1 c0
    go_wp2
    go_ret
    exact ⟨ret_int (idxB_hit k hlt HQ.out (fun j hj => N.out j (by omega) hj)).symm,S.out.trans S1.out⟩
   | false =>
    rw [hq] at HC
    have HQ:=Lib.hid hq
    clear hq
    go_wp2_with fail
    refine HC.out.mono ?_
    rintro e w' ⟨rfl,s1⟩
    have S1:=Lib.hid s1
    clear s1 c0
    go_wp2
    go_roundw
    case rel => exact ⟨k + 1,by omega,by go_num,S.out.trans S1.out,not_step hlt HQ.out N.out⟩
    case measure => simp [intOf];omega
  ·go_wp2
   go_ret
   exact ⟨ret_int (idxB_miss (fun j hj => N.out j hj (by omega))).symm,S.out⟩
theorem right1_ok (w:World) (xs:List ByteArray) (h:∀ x ∈ xs,okS x):Tells 79 #[] w (fun x => .string x) (fun x => !nameB x) xs:=by
 intro x hx W _
 have HC:=Lib.hid (name_ok x W (h x hx))
 show Calls Tryz.prog 79 #[.string x] W fun e W' => e = .returned (.bool (!nameB x)) ∧ Same W W'
 generalize nameB x = q at HC ⊢
 clear h hx
 go_enter Tryz.func79,Tryz.ntmps79
 go_wp2_with (go_at_call 77;refine HC.out.mono ?_;rintro e w' ⟨rfl,rfl⟩)
 go_ret
 exact ⟨rfl,Same.refl _⟩
theorem anyBad_ok (h:Hd) (xs:List ByteArray) (w:World) (a:StrsAt w h xs) :
  Calls Tryz.prog 78 #[h.val,.func (.func 79) #[] #[]] w fun e w' => e = .returned (.bool (xs.any fun x => !nameB x)) ∧ Same w w':=by
 have eg:∀ args w,(callFunc 79 args).run Tryz.prog w = .ok (.enter 79 args) w:=enters_of Tryz.func79 (by kernel_rfl) rfl
 have HC:=Lib.hid (indexSf_ok 79 #[] eg h (fun x => !nameB x) xs w a.1 (right1_ok w xs a.2))
 have HE:=Lib.hid (any_idxB (fun x => !nameB x) xs)
 generalize idxB (fun x => !nameB x) xs = r at HC HE
 generalize (xs.any fun x => !nameB x) = q at HE ⊢
 clear a eg
 obtain ⟨A,n,c⟩:=h
 have HC':Hid (Calls Tryz.prog 96 #[.slice A n c,.func (.func 79) #[] #[]] w fun e w' => e = .returned (.int .i64 r) ∧ Same w w'):=HC
 clear HC
 show Calls Tryz.prog 78 #[.slice A n c,.func (.func 79) #[] #[]] w _
 go_enter Tryz.func78,Tryz.ntmps78
 go_wp2_with (go_at_call 96;refine HC'.out.mono ?_;rintro e w' ⟨rfl,s1⟩;have S1:=Lib.hid s1;clear s1)
 go_ret
 exact ⟨ret_bool HE.out.symm,S1.out⟩
theorem right_pre (t:RT) (w:World) (a:TbAt w t) (hp:nameB t.name = false ∨ t.ra.length = 0 ∨ 12 < t.ra.length ∨ t.key.length = 0) :
  Calls Tryz.prog 45 #[t.val] w fun e w' => e = .returned (.bool false) ∧ Same w w':=by
 have hla:t.ra.length = t.ha.n:=a.1.1.1
 have hlk:t.key.length = t.hk.n:=a.2.1.1
 have HN:=Lib.hid (fun W => name_ok t.name W a.2.2)
 clear a
 obtain ⟨n,⟨A,m,c⟩,ra,⟨A2,m2,c2⟩,key⟩:=t
 simp only at hla hlk hp HN
 subst hla hlk
 show Calls Tryz.prog 45 #[.agg #[.string n,.slice A ra.length c,.slice A2 key.length c2]] w _
 generalize nameB n = q at HN hp
 have HP:=Lib.hid hp
 clear hp
 cases q with
 | false =>
  go_enter Tryz.func45,Tryz.ntmps45
  go_wp2_with (go_at_call 77;refine (HN.out _).mono ?_;rintro e w' ⟨rfl,rfl⟩)
  go_ret
  exact ⟨rfl,(Same.refl _).alloc _⟩
 | true =>
  have hp:ra.length = 0 ∨ 12 < ra.length ∨ key.length = 0:=by simpa using HP.out
  clear HP
  go_enter Tryz.func45,Tryz.ntmps45
  by_cases h0:ra.length = 0
  ·go_wp2_with (go_at_call 77;refine (HN.out _).mono ?_;rintro e w' ⟨rfl,rfl⟩)
   go_ret
   exact ⟨rfl,(Same.refl _).alloc _⟩
  ·have h0':((ra.length:Int) == 0) = false:=by simpa using h0
   by_cases h1:12 < ra.length
   ·go_wp2_with (go_at_call 77;refine (HN.out _).mono ?_;rintro e w' ⟨rfl,rfl⟩)
    go_ret
    exact ⟨rfl,(Same.refl _).alloc _⟩
   ·have h2:key.length = 0:=by omega
    clear hp
    go_wp2_with (go_at_call 77;refine (HN.out _).mono ?_;rintro e w' ⟨rfl,rfl⟩)
    go_ret
    exact ⟨rfl,(Same.refl _).alloc _⟩
theorem rel1_step {W0 wq wa wb:World} {ra:List RA} {k:Nat} {n':ByteArray} {kd:Int} {was:List ByteArray} {d:V} {h:Hd} {u v1 v2:Value} {m3:Nat} (hk:k < ra.length) (hr:(⟨⟨n',kd,was,d⟩,h⟩:RA) = ra[k])
  (s:Below W0.heap.size W0 wq) (hz:W0.heap.size ≤ wq.heap.size) (own0:∀ j,u.ownBlock = some j → W0.heap.size ≤ j) (g1:wq.grownBy wa u.ownBlock) (own1:∀ j,v1.ownBlock = some j → W0.heap.size ≤ j)
  (own:wb.ownsRow W0.heap.size 9 1 v2 ((namesR (ra.take k)).length + 1 + m3) ((namesR (ra.take k)).map .string ++ [.string n'] ++ was.map .string)) (g2:wa.grownBy wb v1.ownBlock) (hm:was.length = m3)
  (ha:attrB ra[k].at_ = true) (hn:∀ j (hj:j < ra.length),j < k → attrB ra[j].at_ = true):Rel1 W0 ra (k + 1) v2 wb:=by
 refine ⟨Below.grown (Below.grown s g1 hz own0) g2 (Nat.le_trans hz g1.size) own1,?_,?_⟩
 ·rw [namesR_succ ra k hk,← hr]
  have e:((namesR (ra.take k) ++ [n'] ++ was).map Value.string) = (namesR (ra.take k)).map .string ++ [.string n'] ++ was.map .string:=by simp
  have e2:(namesR (ra.take k) ++ [n'] ++ was).length = (namesR (ra.take k)).length + 1 + m3:=by simp [hm];omega
  show wb.ownsRow W0.heap.size _ 1 v2 ((namesR (ra.take k) ++ [n'] ++ was).length) ((namesR (ra.take k) ++ [n'] ++ was).map Value.string)
  rw [e,e2]
  exact own
 ·intro j hj h2
  by_cases e:j = k
  ·subst e;exact ha
  ·exact hn j hj (by omega)
theorem right_main (t:RT) (w:World) (a:TbAt w t) (few:∀ r ∈ t.ra,r.at_.was.length ≤ 1000000) (hp:nameB t.name = true) (h0:¬ t.ra.length = 0) (h1:¬ 12 < t.ra.length) (h2:¬ t.key.length = 0) :
  Calls Tryz.prog 45 #[t.val] w fun e w' => e = .returned (.bool (rightB t.tb)) ∧ Same w w':=by
 obtain ⟨i0,hi0,hiz0,hiz1,hiz2⟩:=info_parts Tryz.infoStr
 have hla:t.ra.length = t.ha.n:=a.1.1.1
 have hlk:t.key.length = t.hk.n:=a.2.1.1
 have hbk:t.hk.n ≤ 9223372036854775807:=a.2.1.2.1
 have HN:=Lib.hid (fun W => name_ok t.name W a.2.2)
 rw [hp] at HN
 have HE:=Lib.hid (rightB_eq t.tb)
 have HA:=Lib.hid (fun (W:World) (s:Same w W) => a.1.same s)
 have HK:=Lib.hid (fun (W:World) (s:Same w W) => a.2.1.same s)
 have FEW:=Lib.hid few
 have HNM:=Lib.hid hp
 clear a few hp
 obtain ⟨n,⟨A,m,c⟩,ra,⟨A2,m2,c2⟩,key⟩:=t
 generalize hT:RT.tb ⟨n,⟨A,m,c⟩,ra,⟨A2,m2,c2⟩,key⟩ = T at HE ⊢
 have HT:=Lib.hid hT
 have HTA:Hid (T.attrs = ra.map RA.at_):=by rw [← hT];rfl
 have HTK:Hid (T.key = key):=by rw [← hT];rfl
 have HTN:Hid (T.name = n):=by rw [← hT];rfl
 clear hT
 simp only at hla hlk h0 h1 h2 hbk
 subst hla hlk
 have h0':((ra.length:Int) == 0) = false:=by simpa using h0
 have h2':((key.length:Int) == 0) = false:=by simpa using h2
 show Calls Tryz.prog 45 #[.agg #[.string n,.slice A ra.length c,.slice A2 key.length c2]] w _
 go_enter Tryz.func45,Tryz.ntmps45
 go_wp2_with (go_at_call 77;refine (HN.out _).mono ?_;rintro e w' ⟨rfl,rfl⟩)
 obtain ⟨W0,hW0⟩:∃ W0,W0 = w.alloc (.cells #[.string n,.slice A ra.length c,.slice A2 key.length c2] 44):=⟨_,rfl⟩
 rw [← hW0]
 have hs0:Same w W0:=by rw [hW0];exact (Same.refl _).alloc _
 have hz:W0.heap.size = w.heap.size + 1:=by rw [hW0];simp
 have b0:W0.cell? ⟨w.heap.size,1,none⟩ = some (.slice A ra.length c):=by rw [hW0];simp
 have b1:W0.cell? ⟨w.heap.size,2,none⟩ = some (.slice A2 key.length c2):=by rw [hW0];simp
 have HS0:=Lib.hid hs0
 clear hW0 hs0
 go_loopw [3,33] (fun v i wr => ∃ k:Nat,k ≤ ra.length ∧ i = .int .i64 k ∧ Hid (Rel1 W0 ra k v wr)) (fun _ i _ => ra.length - (intOf i).toNat)
 case atStart => exact ⟨0,Nat.zero_le _,rfl,Same.refl _,⟨rfl,.inl ⟨rfl,rfl⟩⟩,fun j _ hj => absurd hj (Nat.not_lt_zero _)⟩
 case round =>
  obtain ⟨k,hk,rfl,R⟩:=hrel
  by_cases hlt:k < ra.length
  ·have sw:Hid (Same w wr):=HS0.out.trans R.out.1
   obtain ⟨b,off,hA,blt,hc⟩:=(HA.out wr sw.out).1.2.2 k hlt
   have hA':A = some ⟨b,off,none⟩:=hA
   obtain ⟨hwas,okn,okd⟩:=(HA.out w (Same.refl _)).2 ra[k] (List.getElem_mem hlt)
   have hfew:=FEW.out ra[k] (List.getElem_mem hlt)
   obtain ⟨rk,hrk⟩:∃ rk,rk = ra[k]:=⟨_,rfl⟩
   rw [← hrk] at hc hwas okn okd hfew
   have HRK:=Lib.hid hrk
   clear hrk hA
   subst hA'
   obtain ⟨⟨n',kd,was,⟨dk,dn,ds⟩⟩,⟨A3,m3,c3⟩⟩:=rk
   have c0:=hc 0 (.string n') rfl
   have c1:=hc 1 (.int .i64 kd) rfl
   have c2':=hc 2 (.slice A3 m3 c3) rfl
   have c3':=hc 3 (.int .i64 dk) rfl
   have c4:=hc 4 (.int .i64 dn) rfl
   have c5:=hc 5 (.string ds) rfl
   simp only [Nat.add_zero] at c0
   have HWAS:=Lib.hid hwas
   have HFIT:Hid (∀ W,Calls Tryz.prog 49 #[.int .i64 kd,.agg #[.int .i64 dk,.int .i64 dn,.string ds]] W fun e W' => e = .returned (.bool (fitB kd ⟨dk,dn,ds⟩)) ∧ Same W W'):=fun W => fit_ok kd ⟨dk,dn,ds⟩ W
   have HAB:Hid (attrB ra[k].at_ = (kindB kd && fitB kd ⟨dk,dn,ds⟩)):=by rw [← HRK.out];rfl
   generalize fitB kd ⟨dk,dn,ds⟩ = q at HFIT HAB
   clear hc hwas okn okd
   go_upto_region 9 with (go_at_call 49;refine (HFIT.out _).mono ?_;rintro e w1 ⟨rfl,s1⟩;have S1:=Lib.hid s1;have K1:=s1.cells;have Z1:=s1.size;clear s1)
   ·go_ret
    exact ⟨ret_bool (rightB_attr HTA.out k hlt (by rw [HAB.out];cases q <;> simp_all [kindB] <;> omega)).symm,(sw.out.alloc _).trans S1.out⟩
   ·have hsr:Same wr w1:=((Same.refl wr).alloc _).trans S1.out
    have OWN:=Lib.hid (own_same hsr R.out.2.1)
    have hnb:u3.ownBlock ≠ some wr.heap.size:=fun e => by have:=R.out.2.1.lt _ e;omega
    have x0:w1.cell? ⟨wr.heap.size,0,none⟩ = some (.string n'):=(K1 _ _ (by simp)).trans (by simp)
    have x2:w1.cell? ⟨wr.heap.size,2,none⟩ = some (.slice A3 m3 c3):=(K1 _ _ (by simp)).trans (by simp)
    have hz1:wr.heap.size < w1.heap.size:=by simp at Z1;omega
    have hz0:W0.heap.size ≤ wr.heap.size:=R.out.1.size
    have HRD:=Lib.hid (strs_reads HWAS.out.1)
    have HM3:Hid (was.length = m3):=HWAS.out.1.1
    have hm3:m3 ≤ 1000000:=by rw [← HM3.out];exact hfew
    have NB:=Lib.hid hnb
    have hL:(namesR (ra.take k)).length ≤ 12000012:=by
     have:=namesR_len (rs:=ra.take k) (fun r hr => FEW.out r (List.mem_of_mem_take hr))
     have h2:(ra.take k).length ≤ 12:=by simp;omega
     omega
    have BD1:Hid ((namesR (ra.take k)).length + 1 ≤ maxLen ∧ ((namesR (ra.take k)).length + 1) * 16 ≤ 140737488355328):=⟨by unfold maxLen;omega,by omega⟩
    have BD2:Hid ((namesR (ra.take k)).length + 1 + m3 ≤ maxLen ∧ ((namesR (ra.take k)).length + 1 + m3) * 16 ≤ 140737488355328):=⟨by unfold maxLen;omega,by omega⟩
    have HZ0:Hid (W0.heap.size ≤ w1.heap.size):=by show W0.heap.size ≤ w1.heap.size;omega
    have HSR:=Lib.hid hsr
    clear hsr hnb K1
    have HZ0':Hid (W0.heap.size ≤ wr.heap.size):=hz0
    have HZ00:Hid (W0.heap.size ≤ (w1.alloc (.cells #[.string n'] 9)).drew.heap.size):=Nat.le_trans HZ0.out (le_alloc_drew _ _)
    have HZw:Hid (w.heap.size ≤ w1.heap.size):=by show w.heap.size ≤ w1.heap.size;omega
    have HZw0:Hid (w.heap.size ≤ W0.heap.size):=by show w.heap.size ≤ W0.heap.size;omega
    go_region_law (first
     | (refine step_append_any _ rfl (.tmp 53) (.tmp 56) 80 rfl W0.heap.size 9 i0 _ 1 16 Tryz.underlying80 hi0 hiz0 hiz1 hiz2 rfl (by decide) u3 _ _ rfl (OWN.out.drew.alloc _) _ _ 1 1 [.string n'] rfl (reads_new _ _ _) (fun u hu => by simp at hu;subst hu;rfl) BD1.out.1 BD1.out.2 ?_ ?_;exact Nat.le_trans HZ0.out (le_alloc_drew _ _);intro v1 wa hown1 hg1 hat1;have NX:wa.cell? ⟨wr.heap.size,2,none⟩ = some (.slice A3 m3 c3):=((World.cell?_of_block (a:=⟨wr.heap.size,2,none⟩) (hg1.block wr.heap.size (Nat.lt_of_lt_of_le hz1 (le_alloc_drew _ _)) NB.out.symm)).trans ((((Same.refl w1).alloc _).drew).cells _ 2 hz1)).trans x2;have OWN1:=Lib.hid hown1;have G1:=Lib.hid hg1;have BW:Hid (Below w.heap.size w wa):=Below.grown (((sw.out.trans HSR.out).alloc _).drew) hg1 (Nat.le_trans HZw.out (le_alloc_drew _ _)) (fun k hk => Nat.le_trans HZw0.out (OWN.out.lt k hk).1);clear hown1 hg1 hat1)
     | (refine step_append_any _ rfl (.tmp 57) (.tmp 59) 80 rfl W0.heap.size 9 i0 _ 1 16 Tryz.underlying80 hi0 hiz0 hiz1 hiz2 rfl (by decide) v1 _ _ rfl OWN1.out w.heap.size A3 m3 c3 (was.map .string) rfl (HRD.out.below BW.out) (fun u hu => by obtain ⟨y,_,rfl⟩:=List.mem_map.1 hu;rfl) BD2.out.1 BD2.out.2 ?_ ?_;exact Nat.le_trans (Nat.le_trans HZ0.out (le_alloc_drew _ _)) G1.out.size;intro v2 wb hown2 hg2 hat2;have OWN2:=Lib.hid hown2;have G2:=Lib.hid hg2;clear hown2 hg2 hat2 NX))
    all_goals
     go_wp2
     go_roundw
     case rel => exact ⟨k + 1,by omega,by go_num,rel1_step hlt HRK.out (Below.trans R.out.1 (Below.mono (HSR.out.alloc _).drew HZ0'.out)) HZ00.out (fun j hj => (OWN.out.lt j hj).1) G1.out (fun j hj => (OWN1.out.lt j hj).1) OWN2.out G2.out HM3.out (by rw [HAB.out];cases q <;> simp_all [kindB]) R.out.2.2⟩
     case measure => simp [intOf];omega
   ·go_ret
    exact ⟨ret_bool (rightB_attr HTA.out k hlt (by rw [HAB.out];simp [kindB];omega)).symm,sw.out.alloc _⟩
   ·go_ret
    exact ⟨ret_bool (rightB_attr HTA.out k hlt (by rw [HAB.out];simp [kindB];omega)).symm,sw.out.alloc _⟩
  ·have ek:k = ra.length:=by omega
   subst ek
   obtain ⟨rs,own,hall⟩:=R.out
   rw [List.take_length] at own
   obtain ⟨L,hL⟩:∃ L,L = namesR ra:=⟨_,rfl⟩
   rw [← hL] at own
   have hLp:0 < L.length:=by
    rw [hL]
    cases ra with
    | nil => simp at h0
    | cons r ra => simp [namesR,namesA]
   have hLm:L.length ≤ 12000012:=by
    have:=namesR_len (rs:=ra) FEW.out
    rw [← hL] at this
    omega
   obtain ⟨g,cap,hv,hgb,hglt⟩:=own.form hLp
   subst hv
   have hcap:L.length ≤ cap:=by
    rcases own.2 with ⟨e,_⟩ | ⟨g',cap',cur,e,_,_,hc,_⟩
    ·cases e
    ·injection e with _ _ e;subst e;exact hc
   have HL:=Lib.hid hL
   have HOK:Hid (∀ x ∈ L,okS x):=by
    intro x hx
    rw [hL] at hx
    obtain ⟨a,ha,hx⟩:=mem_namesA.1 hx
    obtain ⟨r,hr,rfl⟩:=List.mem_map.1 ha
    obtain ⟨q1,q2,_⟩:=(HA.out w (Same.refl _)).2 r hr
    rcases hx with rfl | hx
    ·exact q2
    ·exact q1.2 x hx
   have HNO:Hid (namesOf T = L):=by rw [hL];show namesA T.attrs = _;rw [HTA.out];rfl
   have HALL:Hid (T.attrs.all attrB = true):=by
    rw [HTA.out,List.all_eq_true]
    intro a ha
    obtain ⟨r,hr,rfl⟩:=List.mem_map.1 ha
    obtain ⟨j,hj,rfl⟩:=List.mem_iff_getElem.1 hr
    exact hall j hj hj
   have HPRE:Hid ((nameB T.name && (decide (1 ≤ T.attrs.length) && decide (T.attrs.length ≤ 12) && decide (1 ≤ T.key.length))) = true):=by
    rw [HTN.out,HTA.out,HTK.out,HNM.out,List.length_map,decide_eq_true (by omega),decide_eq_true (by omega),decide_eq_true (by omega)]
    rfl
   have OWN:=Lib.hid own
   have HRS:=Lib.hid rs
   have x1:wr.cell? ⟨w.heap.size,1,none⟩ = some (.slice A ra.length c):=(rs.cells _ 1 (by omega)).trans b0
   have x2:wr.cell? ⟨w.heap.size,2,none⟩ = some (.slice A2 key.length c2):=(rs.cells _ 2 (by omega)).trans b1
   have hzr:W0.heap.size ≤ wr.heap.size:=rs.size
   have HB:=Lib.hid (anyBad_ok ⟨some ⟨g,0,none⟩,L.length,cap⟩ L wr ⟨own_lies own rfl (by omega),HOK.out⟩)
   clear own rs hall hL R
   go_wp2_with fail
   refine HB.out.mono ?_
   rintro e w1 ⟨rfl,s1⟩
   have S1:=Lib.hid s1
   have K1:=s1.cells
   have Z1:=s1.size
   clear s1
   cases hbad:(L.any fun x => !nameB x) with
   | true =>
    have HBAD:=Lib.hid hbad
    clear hbad
    go_wp2
    go_ret
    refine ⟨ret_bool ?_,(HS0.out.trans HRS.out).trans S1.out⟩
    have:(namesOf T).all nameB = false:=by
     rw [HNO.out]
     have:=HBAD.out
     simp only [List.any_eq_true,Bool.not_eq_true'] at this
     obtain ⟨x,hx,hq⟩:=this
     rw [List.all_eq_false]
     exact ⟨x,hx,by simp [hq]⟩
    rw [rightB_eq,this]
    simp
   | false =>
    have HGOOD:Hid ((namesOf T).all nameB = true):=by
     rw [HNO.out,List.all_eq_true]
     intro x hx
     simp only [List.any_eq_false,Bool.not_eq_true',Bool.not_eq_false] at hbad
     exact hbad x hx
    clear hbad
    have own1:=own_same S1.out OWN.out
    obtain ⟨g',hg',hgB,hgl,hH,hc'⟩:=own_holds own1 hLp
    injection hg' with hg'
    injection hg' with hg' _ _
    subst hg'
    have HSORT:=Lib.hid (sortS_ok W0.heap.size g cap L w1 hH hgl hgB (by omega))
    have y1:w1.cell? ⟨w.heap.size,1,none⟩ = some (.slice A ra.length c):=(K1 _ 1 (by omega)).trans x1
    have y2:w1.cell? ⟨w.heap.size,2,none⟩ = some (.slice A2 key.length c2):=(K1 _ 2 (by omega)).trans x2
    clear x1 x2 K1 own1 hH hc'
    go_wp2_with fail
    refine HSORT.out.mono ?_
    rintro e w2 ⟨rfl,s2,hg2,hH2⟩
    obtain ⟨zs,hzs⟩:∃ zs,zs = (L.map ba).mergeSort fun x y => decide (x ≤ y):=⟨_,rfl⟩
    rw [← hzs] at hH2
    have hzl:zs.length = L.length:=by rw [hzs];simp
    have HD:=Lib.hid (compact_dup L)
    rw [← hzs] at HD
    have HCOMP:=Lib.hid (compactS_ok W0.heap.size g cap zs w2 hH2 hgB (by omega) (by omega))
    rw [hzl] at HCOMP
    have z1:w2.cell? ⟨w.heap.size,1,none⟩ = some (.slice A ra.length c):=(Below.cell (p:=⟨w.heap.size,1,none⟩) s2 (by show w.heap.size < _;omega)).trans y1
    have z2:w2.cell? ⟨w.heap.size,2,none⟩ = some (.slice A2 key.length c2):=(Below.cell (p:=⟨w.heap.size,2,none⟩) s2 (by show w.heap.size < _;omega)).trans y2
    have S2:=Lib.hid (Below.trans (HRS.out.trans S1.out) s2)
    clear y1 y2 s2 hzs hH2 hzl
    generalize (Lib.compact zs).length = cl at HD HCOMP
    go_wp2_with fail
    refine HCOMP.out.mono ?_
    rintro e w3 ⟨rfl,s3⟩
    have v1:w3.cell? ⟨w.heap.size,1,none⟩ = some (.slice A ra.length c):=(Below.cell (p:=⟨w.heap.size,1,none⟩) s3 (by show w.heap.size < _;omega)).trans z1
    have v2:w3.cell? ⟨w.heap.size,2,none⟩ = some (.slice A2 key.length c2):=(Below.cell (p:=⟨w.heap.size,2,none⟩) s3 (by show w.heap.size < _;omega)).trans z2
    have S3:=Lib.hid (HS0.out.trans (Below.trans S2.out s3))
    clear z1 z2 s3
    cases hd:dupB L with
    | true =>
     have hcl:cl < L.length:=by rw [hd] at HD;exact of_decide_eq_true HD.out
     have HDUP:=Lib.hid hd
     clear hd
     go_wp2
     go_ret
     refine ⟨ret_bool ?_,S3.out⟩
     rw [rightB_eq,HNO.out,HDUP.out]
     simp
    | false =>
     have hcl:¬ cl < L.length:=by rw [hd] at HD;exact of_decide_eq_false HD.out
     have HDUP:=Lib.hid hd
     clear hd
     have HE2:Hid (rightB T = keyB ra.length key):=by
      show rightB T = _
      rw [rightB_eq,HPRE.out,HALL.out,HGOOD.out,HNO.out,HDUP.out,HTA.out,HTK.out,List.length_map]
      simp
     have HKEY:=Lib.hid ((HK.out w3 S3.out).one)
     go_wp2
     go_loop [75] (fun i => ∃ k:Nat,k ≤ key.length ∧ i = .int .i64 k ∧ Hid (∀ j,j < k → keyAt ra.length key j = true)) (fun i => key.length - (intOf i).toNat)
     case atStart => exact ⟨0,Nat.zero_le _,rfl,fun j hj => absurd hj (Nat.not_lt_zero _)⟩
     case round =>
      obtain ⟨k,hk,rfl,N⟩:=hrel
      by_cases hlt:k < key.length
      ·obtain ⟨kb,ko,hA2,kblt,e0⟩:=HKEY.out k hlt (v:=.int .i64 key[k]) rfl
       have hA2':A2 = some ⟨kb,ko,none⟩:=hA2
       subst hA2'
       have hky:key.getD k 0 = key[k]:=by simp [List.getD_eq_getElem?_getD,hlt]
       by_cases hk0:k = 0
       ·subst hk0
        have HKA:Hid (keyAt ra.length key 0 = (decide (0 ≤ key[0]) && decide (key[0] < (ra.length:Int)))):=by
         show keyAt ra.length key 0 = _
         unfold keyAt
         rw [hky]
         simp
        generalize key[0] = y at e0 HKA
        clear hky hA2
        simp only [Nat.add_zero] at e0
        go_wp2
        all_goals
         first
          | (go_round
             case rel => exact ⟨0 + 1,by omega,rfl,yes_step N.out (by rw [HKA.out];simp;omega)⟩
             case measure => simp [intOf];omega)
          | (go_ret
             refine ⟨ret_bool ?_,S3.out⟩
             rw [HE2.out]
             exact (all_range_false 0 hlt (by rw [HKA.out];simp;omega)).symm)
       ·obtain ⟨j,rfl⟩:∃ j,k = j + 1:=⟨k - 1,by omega⟩
        obtain ⟨kb',ko',hA3,_,e1⟩:=HKEY.out j (by omega) (v:=.int .i64 (key[j]'(by omega))) rfl
        injection hA3 with hA3
        injection hA3 with q1 q2 _
        subst q1 q2
        have hky2:key.getD j 0 = key[j]'(by omega):=by simp [List.getD_eq_getElem?_getD];rw [List.getElem?_eq_getElem (by omega)];rfl
        have HKA:Hid (keyAt ra.length key (j + 1) = (decide (0 ≤ key[j + 1]) && decide (key[j + 1] < (ra.length:Int)) && decide (key[j]'(by omega) < key[j + 1]))):=by
         show keyAt ra.length key (j + 1) = _
         unfold keyAt
         rw [hky,Nat.add_sub_cancel,hky2]
         simp
        generalize key[j + 1] = y at e0 HKA
        generalize key[j]'(by omega) = y' at e1 HKA
        clear hky hky2 hA2
        go_wp2
        all_goals
         first
          | (go_round
             case rel => exact ⟨j + 1 + 1,by omega,by go_num,yes_step N.out (by rw [HKA.out];simp;omega)⟩
             case measure => simp [intOf];omega)
          | (go_ret
             refine ⟨ret_bool ?_,S3.out⟩
             rw [HE2.out]
             exact (all_range_false (j + 1) hlt (by rw [HKA.out];simp;omega)).symm)
      ·go_wp2
       go_ret
       refine ⟨ret_bool ?_,S3.out⟩
       rw [HE2.out]
       exact (all_range_true (fun j hj => N.out j (by omega))).symm
theorem right_ok (t:RT) (w:World) (a:TbAt w t) (few:∀ r ∈ t.ra,r.at_.was.length ≤ 1000000) :
  Calls Tryz.prog 45 #[t.val] w fun e w' => e = .returned (.bool (rightB t.tb)) ∧ Same w w':=by
 by_cases hp:nameB t.name = false ∨ t.ra.length = 0 ∨ 12 < t.ra.length ∨ t.key.length = 0
 ·refine (right_pre t w a hp).mono ?_
  rintro e w' ⟨rfl,s⟩
  refine ⟨ret_bool ?_,s⟩
  have e1:t.tb.name = t.name:=rfl
  have e2:t.tb.attrs.length = t.ra.length:=by simp [RT.tb]
  have e3:t.tb.key = t.key:=rfl
  rw [rightB_eq,e1,e2,e3]
  rcases hp with h | h | h | h
  ·simp [h]
  ·simp [h]
  ·rw [decide_eq_false (show ¬ t.ra.length ≤ 12 by omega)];simp
  ·rw [h];simp
 ·simp only [not_or,Bool.not_eq_false] at hp
  exact right_main t w a few hp.1 hp.2.1 hp.2.2.1 hp.2.2.2
def Few (ts:List RT):Prop:=∀ t ∈ ts,∀ r ∈ t.ra,r.at_.was.length ≤ 1000000
def validAt (s:List Tb) (i:Nat):Bool:=match s[i]? with | some t => rightB t && decide (findT s t.name = i) | none => false
theorem validB_eq (s:List Tb):validB s = (decide (s.length ≤ 20) && (List.range s.length).all (validAt s)):=rfl
theorem valid_s_ok (h:Hd) (ts:List RT) (w:World) (a:TabsAt w h ts) (few:Few ts) :
  Calls Tryz.prog 13 #[.agg #[h.val]] w fun e w' => e = .returned (.bool (validB (ts.map RT.tb))) ∧ Same w w':=by
 have hl:ts.length = h.n:=a.1.1
 have hb:h.n ≤ 9223372036854775807:=a.1.2.1
 have HR:=Lib.hid (fun (W:World) (s:Same w W) (k:Nat) (hk:k < ts.length) => right_ok ts[k] W ((a.2 _ (List.getElem_mem hk)).same s) (few _ (List.getElem_mem hk)))
 have HF:=Lib.hid (fun (W:World) (s:Same w W) (nm:ByteArray) => find_ok h ts nm W (a.same s))
 have HL:=Lib.hid (fun (W:World) (s:Same w W) => (a.same s).1)
 have HE:=Lib.hid (validB_eq (ts.map RT.tb))
 have HV:Hid (∀ k (hk:k < ts.length),validAt (ts.map RT.tb) k = (rightB ts[k].tb && decide (findT (ts.map RT.tb) ts[k].name = k))):=by
  intro k hk
  simp [validAt,hk]
  rfl
 have HLM:Hid ((ts.map RT.tb).length = ts.length):=List.length_map _
 clear a few
 obtain ⟨A,n,c⟩:=h
 simp only at hl hb
 subst hl
 generalize ts.map RT.tb = S at HF HE HV HLM ⊢
 have HF':Hid (∀ W,Same w W → ∀ nm,Calls Tryz.prog 15 #[.agg #[.slice A ts.length c],.string nm] W fun e w' => e = .returned (.int .i64 (findT S nm)) ∧ Same W w'):=HF
 clear HF
 show Calls Tryz.prog 13 #[.agg #[.slice A ts.length c]] w _
 by_cases h20:20 < ts.length
 ·go_enter Tryz.func13,Tryz.ntmps13
  go_wp2
  go_ret
  refine ⟨ret_bool ?_,(Same.refl w).alloc _⟩
  rw [HE.out,HLM.out,decide_eq_false (by omega)]
  rfl
 ·go_enter Tryz.func13,Tryz.ntmps13
  go_wp2
  go_loopw [11] (fun i wr => ∃ k:Nat,k ≤ ts.length ∧ i = .int .i64 k ∧ Hid (Same (w.alloc (.cells #[.slice A ts.length c] 24)) wr) ∧ Hid (∀ j,j < k → validAt S j = true)) (fun i _ => ts.length - (intOf i).toNat)
  case atStart => exact ⟨0,Nat.zero_le _,rfl,Same.refl _,fun j hj => absurd hj (Nat.not_lt_zero _)⟩
  case round =>
   obtain ⟨k,hk,rfl,Sw,N⟩:=hrel
   by_cases hlt:k < ts.length
   ·have sw:Same w wr:=((Same.refl w).alloc _).trans Sw.out
    have SW:=Lib.hid sw
    obtain ⟨b,off,hA,blt,hc⟩:=(HL.out wr sw).2.2 k hlt
    have hA':A = some ⟨b,off,none⟩:=hA
    clear hA
    subst hA'
    have hr:=fun W s => HR.out W s k hlt
    have hv:=HV.out k hlt
    obtain ⟨tk,htk⟩:∃ tk,tk = ts[k]:=⟨_,rfl⟩
    rw [← htk] at hc hv
    simp only [← htk] at hr
    clear htk
    generalize rightB tk.tb = q at hr hv
    have hf:=fun W s => HF'.out W s tk.name
    generalize findT S tk.name = f at hf hv
    obtain ⟨n',⟨A1,m1,c1⟩,ra,⟨A2,m2,c2⟩,key⟩:=tk
    have x0:=hc 0 (.string n') rfl
    have x1:=hc 1 (.slice A1 m1 c1) rfl
    have x2:=hc 2 (.slice A2 m2 c2) rfl
    have xs:wr.cell? ⟨w.heap.size,0,none⟩ = some (.slice (some ⟨b,off,none⟩) ts.length c):=(Sw.out.cells _ 0 (by simp)).trans (by simp)
    have bx:w.heap.size < wr.heap.size:=Nat.lt_of_lt_of_le (by simp) Sw.out.size
    simp only [Nat.add_zero] at x0
    have HR1:Hid (Rt 45 #[.agg #[.string n',.slice A1 m1 c1,.slice A2 m2 c2]] w (.bool q)):=hr
    have HF1:Hid (Rt 15 #[.agg #[.slice (some ⟨b,off,none⟩) ts.length c],.string n'] w (.int .i64 f)):=hf
    have HVk:=Lib.hid hv
    clear hc hr hf hv sw
    have k0:=cellr x0
    have k1:=cellr x1
    have k2:=cellr x2
    have ks:=cellr xs
    have cR:=regr (w:=wr) (fun W s => HR1.out W (SW.out.trans s))
    have cF:=regr (w:=wr) (fun W s => HF1.out W (SW.out.trans s))
    clear x0 x1 x2 xs
    cases q with
    | false =>
     go_wp2_with fail
     refine wp_region_quiet_below (by kernel_rfl) (by kernel_rfl) ?_
     repeat (go_big_quiet_step (first | (go_at_call 45;exact cR _ _) | (go_at_call 15;exact cF _ _)))
     refine wpQuiet_nil ?_
     intro _ hw'
     obtain ⟨⟨dq,osq⟩,hw''⟩:=hw'
     subst hw''
     have S1:=Lib.hid (Same.reg wr dq osq)
     generalize Sort.grow (redrawn wr dq) osq = w1 at S1 ⊢
     go_wp2
     go_ret
     refine ⟨ret_bool ?_,SW.out.trans S1.out⟩
     rw [HE.out,HLM.out,all_range_false k hlt (by rw [HVk.out];rfl),Bool.and_false]
    | true =>
     go_wp2_with fail
     refine wp_region_quiet_below (by kernel_rfl) (by kernel_rfl) ?_
     repeat (go_big_quiet_step (first | (go_at_call 45;exact cR _ _) | (go_at_call 15;exact cF _ _)))
     refine wpQuiet_nil ?_
     intro _ hw'
     obtain ⟨⟨dq,osq⟩,hw''⟩:=hw'
     subst hw''
     have S1:=Lib.hid (Same.reg wr dq osq)
     generalize Sort.grow (redrawn wr dq) osq = w1 at S1 ⊢
     go_wp2
     ·go_ret
      refine ⟨ret_bool ?_,SW.out.trans S1.out⟩
      rw [HE.out,HLM.out,all_range_false k hlt (by rw [HVk.out];simp_all),Bool.and_false]
     ·go_roundw
      case rel => exact ⟨k + 1,by omega,by go_num,Sw.out.trans S1.out,yes_step N.out (by rw [HVk.out];simp_all)⟩
      case measure => simp [intOf];omega
   ·go_wp2
    go_ret
    refine ⟨ret_bool ?_,((Same.refl w).alloc _).trans Sw.out⟩
    rw [HE.out,HLM.out,all_range_true (fun j hj => N.out j (by omega)),decide_eq_true (by omega)]
    rfl
end Go.Proofs.YtfifnemnihcijaaGreatDoor

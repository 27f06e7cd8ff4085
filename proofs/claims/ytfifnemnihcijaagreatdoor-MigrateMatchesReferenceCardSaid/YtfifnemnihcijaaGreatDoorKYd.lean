import Derived.Test.YtfifnemnihcijaaGreatDoorKMa
import Derived.Test.YtfifnemnihcijaaGreatDoorKYa
import Derived.IntWalk
set_option linter.unusedSimpArgs false
set_option linter.unusedVariables false
set_option maxHeartbeats 16000000
set_option maxRecDepth 100000
namespace Go.Proofs.YtfifnemnihcijaaGreatDoor
open Go.RowKit
theorem flat_strN (l:List ByteArray):l.flatMap strCell = l.map .string:=by
 induction l with
 | nil => rfl
 | cons x l ih => rw [List.flatMap_cons,ih];rfl
def RelN (W0:World) (ra:List RA) (k:Nat) (v:Value) (wr:World):Prop:=
 Same W0 wr ∧ wr.ownsRow W0.heap.size 9 1 v (namesR (ra.take k)).length ((namesR (ra.take k)).map .string)
theorem relN_step {W0 wr wa wb:World} {ra:List RA} {k:Nat} (hk:k < ra.length) {u v1 v2:Value} {ob:Obj} (R:RelN W0 ra k u wr) (g1:(wr.alloc ob).grownBy wa u.ownBlock)
  (own1:wa.ownsRow W0.heap.size 9 1 v1 ((namesR (ra.take k)).length + 1) ((namesR (ra.take k)).map .string ++ [.string ra[k].at_.name]))
  (g2:wa.grownBy wb v1.ownBlock) (own2:wb.ownsRow W0.heap.size 9 1 v2 ((namesR (ra.take k)).length + 1 + ra[k].at_.was.length) ((namesR (ra.take k)).map .string ++ [.string ra[k].at_.name] ++ ra[k].at_.was.map .string)):RelN W0 ra (k + 1) v2 wb:=by
 refine ⟨Below.grown (Below.grown (R.1.alloc ob) g1 (Nat.le_trans R.1.size (by simp)) (fun j hj => (R.2.lt j hj).1)) g2 (Nat.le_trans (Nat.le_trans R.1.size (by simp)) g1.size) (fun j hj => (own1.lt j hj).1),?_⟩
 rw [namesR_succ ra k hk]
 have e:((namesR (ra.take k) ++ [ra[k].at_.name] ++ ra[k].at_.was).map Value.string) = (namesR (ra.take k)).map .string ++ [.string ra[k].at_.name] ++ ra[k].at_.was.map .string:=by simp
 have e2:(namesR (ra.take k) ++ [ra[k].at_.name] ++ ra[k].at_.was).length = (namesR (ra.take k)).length + 1 + ra[k].at_.was.length:=by simp;omega
 rw [e,e2]
 exact own2
theorem names_strs {W0 wr:World} {ra:List RA} {v:Value} (R:RelN W0 ra ra.length v wr) (hb:(namesR ra).length ≤ 9223372036854775807) (ok:∀ x ∈ namesR ra,okS x):∃ A n c,v = .slice A n c ∧ StrsAt wr ⟨A,n,c⟩ (namesR ra):=by
 have o:=R.2
 rw [List.take_length] at o
 obtain ⟨A,c,rfl⟩:=own_val o
 refine ⟨A,_,c,rfl,own_lies' (e:=9) (base:=W0.heap.size) (fun _ => rfl) rfl hb ?_,ok⟩
 rw [flat_strN]
 exact o
theorem rnames_ok (t:RT) (w:World) (a:TbAt w t) (few:∀ r ∈ t.ra,r.at_.was.length ≤ 1000000) (h12:t.ra.length ≤ 12) :
  Calls Tryz.prog 82 #[t.val] w fun e w' => ∃ A n c,e = .returned (.slice A n c) ∧ StrsAt w' ⟨A,n,c⟩ (namesR t.ra) ∧ Same w w':=by
 obtain ⟨i0,hi0,hiz0,hiz1,hiz2⟩:=info_parts Tryz.infoStr
 have hl:t.ra.length = t.ha.n:=a.1.1.1
 have HL:=Lib.hid a.1.1
 have HX:=Lib.hid a.1.2
 have FEW:=Lib.hid few
 have HOK:Hid (∀ x ∈ namesR t.ra,okS x):=by
  intro x hx
  obtain ⟨y,hy,hx⟩:=mem_namesA.1 hx
  obtain ⟨r,hr,rfl⟩:=List.mem_map.1 hy
  obtain ⟨q1,q2,_⟩:=a.1.2 r hr
  rcases hx with rfl | hx
  ·exact q2
  ·exact q1.2 x hx
 have HBD:Hid (∀ k,(namesR (t.ra.take k)).length ≤ 12000012):=Lib.hid fun k => by
  have:=namesR_len (rs:=t.ra.take k) (fun r hr => few r (List.mem_of_mem_take hr))
  have h2:(t.ra.take k).length ≤ 12:=by simp;omega
  omega
 obtain ⟨n,⟨A,m,c⟩,ra,⟨A2,m2,c2⟩,key⟩:=t
 simp only at hl h12
 subst hl
 have HL':Hid (Lies w 6 ⟨A,ra.length,c⟩ RA.cells ra):=HL
 have HX':Hid (∀ r ∈ ra,StrsAt w r.h r.at_.was ∧ okS r.at_.name ∧ okS r.at_.dflt.s):=HX
 have FEW':Hid (∀ r ∈ ra,r.at_.was.length ≤ 1000000):=FEW
 have HBD':Hid (∀ k,(namesR (ra.take k)).length ≤ 12000012):=HBD
 have HOK':Hid (∀ x ∈ namesR ra,okS x):=HOK
 clear a few HL HX FEW HBD HOK
 show Calls Tryz.prog 82 #[.agg #[.string n,.slice A ra.length c,.slice A2 m2 c2]] w fun e w' => ∃ A n c,e = .returned (.slice A n c) ∧ StrsAt w' ⟨A,n,c⟩ (namesR ra) ∧ Same w w'
 go_enter Tryz.func82,Tryz.ntmps82
 go_wp2
 obtain ⟨W0,hW0⟩:∃ W0,W0 = w.alloc (.cells #[.string n,.slice A ra.length c,.slice A2 m2 c2] 44):=⟨_,rfl⟩
 have S0:Hid (Same w W0):=by show Same w W0;rw [hW0];exact (Same.refl w).alloc _
 have x1:W0.cell? ⟨w.heap.size,1,none⟩ = some (.slice A ra.length c):=by rw [hW0];simp
 have lw:w.heap.size < W0.heap.size:=by rw [hW0];simp
 rw [← hW0]
 clear hW0
 go_loopw [3,4] (fun v i wr => ∃ k:Nat,k ≤ ra.length ∧ i = .int .i64 k ∧ Hid (RelN W0 ra k v wr)) (fun _ i _ => ra.length - (intOf i).toNat)
 case atStart => exact ⟨0,Nat.zero_le _,rfl,Same.refl _,⟨rfl,.inl ⟨rfl,rfl⟩⟩⟩
 case round =>
  obtain ⟨k,hk,rfl,R⟩:=hrel
  have b1:wr.cell? ⟨w.heap.size,1,none⟩ = some (.slice A ra.length c):=(R.out.1.cells _ _ lw).trans x1
  by_cases hlt:k < ra.length
  ·obtain ⟨b,off,hA,blt,hc⟩:=HL'.out.2.2 k hlt
   have hA':A = some ⟨b,off,none⟩:=hA
   have HWAS:=Lib.hid (HX'.out _ (List.getElem_mem hlt)).1
   have hfew:=FEW'.out _ (List.getElem_mem hlt)
   have HST:=Lib.hid (fun (wa wb:World) (v1 v2:Value) (ob:Obj) (g1:(wr.alloc ob).grownBy wa u3.ownBlock) (o1:wa.ownsRow W0.heap.size 9 1 v1 ((namesR (ra.take k)).length + 1) ((namesR (ra.take k)).map Value.string ++ [Value.string ra[k].at_.name])) (g2:wa.grownBy wb v1.ownBlock) (o2:wb.ownsRow W0.heap.size 9 1 v2 ((namesR (ra.take k)).length + 1 + ra[k].at_.was.length) ((namesR (ra.take k)).map Value.string ++ [Value.string ra[k].at_.name] ++ ra[k].at_.was.map Value.string)) => relN_step hlt R.out g1 o1 g2 o2)
   have hbd:=HBD'.out k
   have OWN:=Lib.hid R.out.2
   obtain ⟨NL,hNL⟩:∃ NL,NL = (namesR (ra.take k)).length:=⟨_,rfl⟩
   obtain ⟨NX,hNX⟩:∃ NX,NX = (namesR (ra.take k)).map Value.string:=⟨_,rfl⟩
   rw [← hNL,← hNX] at HST OWN
   rw [← hNL] at hbd
   obtain ⟨rk,hrk⟩:∃ rk,rk = ra[k]:=⟨_,rfl⟩
   rw [← hrk] at hc HWAS hfew HST
   clear hrk hA hNL hNX
   subst hA'
   obtain ⟨⟨n',kd,was,⟨dk,dn,ds⟩⟩,⟨A3,m3,c3⟩⟩:=rk
   have hm3:was.length = m3:=HWAS.out.1.1
   have hf3:was.length ≤ 1000000:=hfew
   have c0w:w.cell? ⟨b,off + k * 6,none⟩ = some (.string n'):=hc 0 (.string n') rfl
   have c2w:w.cell? ⟨b,off + k * 6 + 2,none⟩ = some (.slice A3 m3 c3):=hc 2 (.slice A3 m3 c3) rfl
   have SW:Hid (Same w wr):=S0.out.trans R.out.1
   have c0:=(SW.out.cells _ _ blt).trans c0w
   have HWB:Hid (W0.heap.size ≤ wr.heap.size):=R.out.1.size
   have HW0:Hid (w.heap.size ≤ W0.heap.size):=S0.out.size
   have HRD:=Lib.hid (strs_reads HWAS.out.1)
   have HRD':Hid (Reads w w.heap.size 1 A3 m3 (was.map .string)):=HRD
   clear hc c0w hfew HWAS HRD
   subst hm3
   go_wp2_with (at_builtin;first
    | (refine wpList_append_any _ rfl (.tmp 12) (.tmp 19) 80 rfl W0.heap.size 9 i0 _ 1 16 Tryz.underlying80 hi0 hiz0 hiz1 hiz2 rfl (by decide) u3 NL NX rfl (OWN.out.alloc _) (wr.heap.size + 1) (some ⟨wr.heap.size,0,none⟩) 1 1 [.string n'] rfl (reads_new wr _ _) (fun u hu => by simp at hu;subst hu;rfl) (by simp only [maxLen];omega) (by omega) (Nat.le_trans HWB.out (by simp)) ?_;intro v1 wa hown1 hg1 hat1;have S1:Hid (Same w wa):=Below.grown (SW.out.alloc _) hg1 (Nat.le_trans SW.out.size (by simp)) (fun j hj => Nat.le_trans HW0.out (OWN.out.lt j hj).1);have S1':Hid (Same W0 wa):=Below.grown (R.out.1.alloc _) hg1 (Nat.le_trans HWB.out (by simp)) (fun j hj => (OWN.out.lt j hj).1);have b1a:=(S1'.out.cells _ _ lw).trans x1;have c2a:=(S1.out.cells _ _ blt).trans c2w;have OWN1:=Lib.hid hown1;have G1:=Lib.hid hg1;have HWA:Hid (W0.heap.size ≤ wa.heap.size):=S1'.out.size;clear hown1 hg1 hat1)
    | (refine wpList_append_any _ rfl (.tmp 21) (.tmp 27) 80 rfl W0.heap.size 9 i0 _ 1 16 Tryz.underlying80 hi0 hiz0 hiz1 hiz2 rfl (by decide) v1 (NL + 1) (NX ++ [.string n']) rfl OWN1.out w.heap.size A3 was.length c3 (was.map .string) rfl (HRD'.out.below S1.out) (fun u hu => by obtain ⟨y,_,rfl⟩:=List.mem_map.1 hu;rfl) (by simp only [maxLen];omega) (by omega) HWA.out ?_;intro v2 wb hown2 hg2 hat2;have HFF:=Lib.hid (HST.out wa wb v1 v2 _ G1.out OWN1.out hg2 hown2);clear hown2 hg2 hat2))
   go_roundw
   case rel => exact ⟨k + 1,by omega,by go_num,HFF⟩
   case measure => simp [intOf];omega
  ·have ek:k = ra.length:=by omega
   subst ek
   have HF:=Lib.hid (names_strs R.out (by have:=HBD'.out ra.length;rw [List.take_length] at this;omega) HOK'.out)
   have SW:Hid (Same w wr):=S0.out.trans R.out.1
   go_wp2
   go_ret
   obtain ⟨A,n,c,hv,st⟩:=HF.out
   exact ⟨A,n,c,congrArg Ending.returned hv,st,SW.out⟩
theorem rright_pre (t:RT) (w:World) (a:TbAt w t) (hp:nameB t.name = false ∨ t.ra.length < 1 ∨ 12 < t.ra.length ∨ t.key.length < 1) :
  Calls Tryz.prog 46 #[t.val] w fun e w' => e = .returned (.bool false) ∧ Same w w':=by
 have hla:t.ra.length = t.ha.n:=a.1.1.1
 have hlk:t.key.length = t.hk.n:=a.2.1.1
 have HN:=Lib.hid (fun W => rname_ok t.name W a.2.2)
 clear a
 obtain ⟨n,⟨A,m,c⟩,ra,⟨A2,m2,c2⟩,key⟩:=t
 simp only at hla hlk hp HN
 subst hla hlk
 show Calls Tryz.prog 46 #[.agg #[.string n,.slice A ra.length c,.slice A2 key.length c2]] w _
 generalize nameB n = q at HN hp
 have HP:=Lib.hid hp
 clear hp
 cases q with
 | false =>
  go_enter Tryz.func46,Tryz.ntmps46
  go_wp2_with (go_at_call 69;refine (HN.out _).mono ?_;rintro e w' ⟨rfl,rfl⟩)
  go_ret
  exact ⟨rfl,(Same.refl _).alloc _⟩
 | true =>
  have hp:ra.length < 1 ∨ 12 < ra.length ∨ key.length < 1:=by simpa using HP.out
  clear HP
  go_enter Tryz.func46,Tryz.ntmps46
  by_cases h0:ra.length < 1
  ·go_wp2_with (go_at_call 69;refine (HN.out _).mono ?_;rintro e w' ⟨rfl,rfl⟩)
   go_ret
   exact ⟨rfl,(Same.refl _).alloc _⟩
  ·by_cases h1:12 < ra.length
   ·go_wp2_with (go_at_call 69;refine (HN.out _).mono ?_;rintro e w' ⟨rfl,rfl⟩)
    go_ret
    exact ⟨rfl,(Same.refl _).alloc _⟩
   ·have h2:key.length < 1:=by omega
    clear hp
    go_wp2_with (go_at_call 69;refine (HN.out _).mono ?_;rintro e w' ⟨rfl,rfl⟩)
    go_ret
    exact ⟨rfl,(Same.refl _).alloc _⟩
def NamesTo (L:List ByteArray) (k:Nat):Prop:=(∀ j (hj:j < L.length),j < k → nameB L[j] = true) ∧ ∀ i j (hi:i < L.length) (hj:j < L.length),i < j → j < k → L[i] ≠ L[j]
theorem namesTo_end {L:List ByteArray} (h:NamesTo L L.length):L.all nameB = true ∧ dupB L = false:=by
 refine ⟨?_,(dupB_iff L).2 ?_⟩
 ·rw [List.all_eq_true]
  intro x hx
  obtain ⟨j,hj,rfl⟩:=List.mem_iff_getElem.1 hx
  exact h.1 j hj hj
 ·rw [List.Nodup,List.pairwise_iff_getElem]
  intro i j hi hj hij
  exact h.2 i j hi hj hij hj
theorem namesTo_step {L:List ByteArray} {k:Nat} (h:NamesTo L k) (hk:k < L.length) (hn:nameB L[k] = true) (hd:∀ j (hj:j < L.length),j < k → L[j] ≠ L[k]):NamesTo L (k + 1):=by
 refine ⟨fun j hj h2 => ?_,fun i j hi hj hij h2 => ?_⟩
 ·by_cases e:j = k
  ·subst e;exact hn
  ·exact h.1 j hj (by omega)
 ·by_cases e:j = k
  ·subst e;exact hd i hi hij
  ·exact h.2 i j hi hj hij (by omega)
theorem dup_at {L:List ByteArray} {i j:Nat} (hi:i < L.length) (hj:j < L.length) (hij:i < j) (e:L[i] = L[j]):dupB L = true:=by
 cases h:dupB L with
 | true => rfl
 | false =>
  have:=(dupB_iff L).1 h
  rw [List.Nodup,List.pairwise_iff_getElem] at this
  exact absurd e (this i j hi hj hij)
theorem rright_main (t:RT) (w:World) (a:TbAt w t) (few:∀ r ∈ t.ra,r.at_.was.length ≤ 1000000) (hp:nameB t.name = true) (h0:¬ t.ra.length < 1) (h1:¬ 12 < t.ra.length) (h2:¬ t.key.length < 1) :
  Calls Tryz.prog 46 #[t.val] w fun e w' => e = .returned (.bool (rightB t.tb)) ∧ Same w w':=by
 have hla:t.ra.length = t.ha.n:=a.1.1.1
 have hlk:t.key.length = t.hk.n:=a.2.1.1
 have hbk:t.hk.n ≤ 9223372036854775807:=a.2.1.2.1
 have HN:=Lib.hid (fun W => rname_ok t.name W a.2.2)
 rw [hp] at HN
 have HE:=Lib.hid (rightB_eq t.tb)
 have HNA:=Lib.hid (fun (W:World) (s:Same w W) => rnames_ok t W (a.same s) few (by omega))
 have HA:=Lib.hid (fun (W:World) (s:Same w W) => a.1.same s)
 have HK:=Lib.hid (fun (W:World) (s:Same w W) => a.2.1.same s)
 have HNL:Hid ((namesR t.ra).length ≤ 12000012):=by
  have:=namesR_len (rs:=t.ra) few
  show _ ≤ _
  omega
 have HNM:=Lib.hid hp
 clear a few hp
 obtain ⟨n,⟨A,m,c⟩,ra,⟨A2,m2,c2⟩,key⟩:=t
 generalize hT:RT.tb ⟨n,⟨A,m,c⟩,ra,⟨A2,m2,c2⟩,key⟩ = T at HE ⊢
 have HTA:Hid (T.attrs = ra.map RA.at_):=by rw [← hT];rfl
 have HTK:Hid (T.key = key):=by rw [← hT];rfl
 have HTN:Hid (T.name = n):=by rw [← hT];rfl
 clear hT
 simp only at hla hlk h0 h1 h2 hbk
 subst hla hlk
 obtain ⟨L,hL⟩:∃ L,L = namesR ra:=⟨_,rfl⟩
 have HNA':Hid (∀ W,Same w W → Calls Tryz.prog 82 #[.agg #[.string n,.slice A ra.length c,.slice A2 key.length c2]] W fun e w' => ∃ A n c,e = .returned (.slice A n c) ∧ StrsAt w' ⟨A,n,c⟩ L ∧ Same W w'):=by rw [hL];exact HNA
 have HNL':Hid (L.length ≤ 12000012):=by rw [hL];exact HNL
 have HNO:Hid (namesOf T = L):=by rw [hL];show namesA T.attrs = _;rw [HTA.out];rfl
 have HPRE:Hid ((nameB T.name && (decide (1 ≤ T.attrs.length) && decide (T.attrs.length ≤ 12) && decide (1 ≤ T.key.length))) = true):=by
  rw [HTN.out,HTA.out,HTK.out,List.length_map,decide_eq_true (by omega),decide_eq_true (by omega),decide_eq_true (by omega)]
  show (nameB n && true) = true
  have:=HNM.out
  rw [this];rfl
 have HA':Hid (∀ W,Same w W → AttrsAt W ⟨A,ra.length,c⟩ ra):=HA
 have HK':Hid (∀ W,Same w W → IntsAt W ⟨A2,key.length,c2⟩ key):=HK
 clear hL HNA HNL HA HK HNM
 show Calls Tryz.prog 46 #[.agg #[.string n,.slice A ra.length c,.slice A2 key.length c2]] w _
 go_enter Tryz.func46,Tryz.ntmps46
 go_wp2_with (go_at_call 69;refine (HN.out _).mono ?_;rintro e w' ⟨rfl,rfl⟩)
 obtain ⟨W0,hW0⟩:∃ W0,W0 = w.alloc (.cells #[.string n,.slice A ra.length c,.slice A2 key.length c2] 44):=⟨_,rfl⟩
 rw [← hW0]
 have S0:Hid (Same w W0):=by rw [hW0];exact Lib.hid ((Same.refl w).alloc _)
 have lw:w.heap.size < W0.heap.size:=by rw [hW0];simp
 have b0:W0.cell? ⟨w.heap.size,0,none⟩ = some (.string n):=by rw [hW0];simp
 have b1:W0.cell? ⟨w.heap.size,1,none⟩ = some (.slice A ra.length c):=by rw [hW0];simp
 have b2:W0.cell? ⟨w.heap.size,2,none⟩ = some (.slice A2 key.length c2):=by rw [hW0];simp
 clear hW0 HN
 refine (HNA'.out _ S0.out).mono ?_
 rintro e w1 ⟨A5,n5,c5,rfl,st,s1⟩
 have S1:Hid (Same w w1):=S0.out.trans s1
 have d1:=(s1.cells _ 1 lw).trans b1
 have d2:=(s1.cells _ 2 lw).trans b2
 have lw1:w.heap.size < w1.heap.size:=Nat.lt_of_lt_of_le lw s1.size
 have e5:L.length = n5:=st.1.1
 subst e5
 have HST:=Lib.hid st
 have hLb:=HNL'.out
 clear st s1 b0 b1 b2 HNA'
 go_wp2
 go_loopw [4] (fun i wr => ∃ k:Nat,k ≤ L.length ∧ i = .int .i64 k ∧ Hid (Same w1 wr) ∧ Hid (NamesTo L k)) (fun i _ => L.length - (intOf i).toNat)
 case atStart => exact ⟨0,Nat.zero_le _,rfl,Same.refl _,fun j _ hj => absurd hj (Nat.not_lt_zero _),fun i j _ _ _ hj => absurd hj (Nat.not_lt_zero _)⟩
 case round =>
  obtain ⟨k,hk,rfl,SN,N⟩:=hrel
  have SWN:Hid (Same w wr):=S1.out.trans SN.out
  by_cases hlt:k < L.length
  ·obtain ⟨b,off,hA,blt,c0⟩:=(HST.out.1.same SN.out).one k hlt (v:=.string L[k]) rfl
   have hA':A5 = some ⟨b,off,none⟩:=hA
   have HNK:=Lib.hid (fun W => rname_ok L[k] W (HST.out.2 _ (List.getElem_mem hlt)))
   clear hA
   subst hA'
   obtain ⟨y,hy⟩:∃ y,y = L[k]:=⟨_,rfl⟩
   rw [← hy] at c0 HNK
   have HY:=Lib.hid hy
   clear hy
   obtain ⟨qn,hqn⟩:∃ qn,qn = nameB y:=⟨_,rfl⟩
   rw [← hqn] at HNK
   have HQN:Hid (nameB L[k] = qn):=by rw [← HY.out];exact Lib.hid hqn.symm
   clear hqn
   cases qn with
   | false =>
    have HBAD:Hid (rightB T = false):=by
     have h3:(namesOf T).all nameB = false:=by
      rw [HNO.out,List.all_eq_false]
      exact ⟨_,List.getElem_mem hlt,by rw [HQN.out];simp⟩
     show _ = _
     rw [rightB_eq,h3];simp
    go_wp2_with (go_at_call 69;refine (HNK.out _).mono ?_;rintro e w' ⟨rfl,rfl⟩)
    go_ret
    exact ⟨ret_bool HBAD.out.symm,SWN.out⟩
   | true =>
    go_wp2_with (go_at_call 69;refine (HNK.out _).mono ?_;rintro e w' ⟨rfl,rfl⟩)
    clear c0
    go_loopw [5] (fun i wr => ∃ q:Nat,q ≤ k ∧ i = .int .i64 q ∧ Hid (Same w1 wr) ∧ Hid (∀ j (hj:j < L.length),j < q → L[j] ≠ L[k])) (fun i _ => k - (intOf i).toNat)
    case atStart => exact ⟨0,Nat.zero_le _,rfl,SN,fun j _ hj => absurd hj (Nat.not_lt_zero _)⟩
    case round =>
     obtain ⟨q,hq,rfl,SM,M⟩:=hrel
     obtain ⟨b9,off9,hA9,blt9,c0⟩:=(HST.out.1.same SM.out).one k hlt (v:=.string L[k]) rfl
     injection hA9 with hA9
     injection hA9 with q1 q2 _
     subst q1 q2
     rw [← HY.out] at c0
     by_cases hlq:q < k
     ·have hqL:q < L.length:=by omega
      obtain ⟨b',off',hA',blt',c0'⟩:=(HST.out.1.same SM.out).one q hqL (v:=.string L[q]) rfl
      injection hA' with hA'
      injection hA' with q1 q2 _
      subst q1 q2
      obtain ⟨z,hz⟩:∃ z,z = L[q]:=⟨_,rfl⟩
      rw [← hz] at c0'
      have HZ:=Lib.hid hz
      clear hz
      by_cases hzy:z = y
      ·have t1:(z.toList == y.toList) = true:=by rw [beqB];simp [hzy]
       have HBAD:Hid (rightB T = false):=by
        have h3:dupB (namesOf T) = true:=by
         rw [HNO.out]
         exact dup_at hqL hlt hlq (by rw [← HZ.out,← HY.out];exact hzy)
        show _ = _
        rw [rightB_eq,h3];simp
       clear hzy
       have hqi:(q:Int) < (L.length:Int):=by omega
       have hki:(k:Int) < (L.length:Int):=by omega
       go_wp2_with fail
       go_quiet (fail)
       go_wp2
       go_ret
       exact ⟨ret_bool HBAD.out.symm,(S1.out.trans SM.out).drewN _⟩
      ·have t1:(z.toList == y.toList) = false:=by rw [beqB];simp;exact hzy
       have HQ:Hid (L[q] ≠ L[k]):=by rw [← HZ.out,← HY.out];exact Lib.hid hzy
       clear hzy
       have hqi:(q:Int) < (L.length:Int):=by omega
       have hki:(k:Int) < (L.length:Int):=by omega
       go_wp2_with fail
       go_quiet (fail)
       go_wp2
       go_roundw
       case rel => exact ⟨q + 1,by omega,by go_num,SM.out.drewN _,fun j hj h3 => (by
        by_cases e:j = q
        ·subst e;exact HQ.out
        ·exact M.out j hj (by omega))⟩
       case measure => simp [intOf];omega
     ·go_wp2
      go_roundw
      case rel => exact ⟨k + 1,by omega,by go_num,SM,namesTo_step N.out hlt HQN.out (fun j hj h3 => M.out j hj (by omega))⟩
      case measure => simp [intOf];omega
  ·have ek:k = L.length:=by omega
   subst ek
   have HNE:=Lib.hid (namesTo_end N.out)
   have d1':=(SN.out.cells _ 1 lw1).trans d1
   have d2':=(SN.out.cells _ 2 lw1).trans d2
   clear N HST
   go_wp2
   clear d1' d2'
   go_loopw [6] (fun i wr => ∃ k:Nat,k ≤ ra.length ∧ i = .int .i64 k ∧ Hid (Same w1 wr) ∧ Hid (∀ j (hj:j < ra.length),j < k → attrB ra[j].at_ = true)) (fun i _ => ra.length - (intOf i).toNat)
   case atStart => exact ⟨0,Nat.zero_le _,rfl,SN,fun j _ hj => absurd hj (Nat.not_lt_zero _)⟩
   case round =>
    obtain ⟨k,hk,rfl,SR,N⟩:=hrel
    have f1:=(SR.out.cells _ 1 lw1).trans d1
    have f2:=(SR.out.cells _ 2 lw1).trans d2
    have SW:Hid (Same w wr):=S1.out.trans SR.out
    by_cases hlt:k < ra.length
    ·obtain ⟨b,off,hA,blt,hc⟩:=(HA'.out _ SW.out).1.2.2 k hlt
     have hA':A = some ⟨b,off,none⟩:=hA
     clear hA
     subst hA'
     obtain ⟨rk,hrk⟩:∃ rk,rk = ra[k]:=⟨_,rfl⟩
     rw [← hrk] at hc
     have HRK:=Lib.hid hrk
     clear hrk
     obtain ⟨⟨n',kd,was,⟨dk,dn,ds⟩⟩,⟨A3,m3,c3⟩⟩:=rk
     have c1:=hc 1 (.int .i64 kd) rfl
     have c3':=hc 3 (.int .i64 dk) rfl
     have c4:=hc 4 (.int .i64 dn) rfl
     have c5:=hc 5 (.string ds) rfl
     have HFIT:Hid (∀ W,Calls Tryz.prog 50 #[.int .i64 kd,.agg #[.int .i64 dk,.int .i64 dn,.string ds]] W fun e W' => e = .returned (.bool (fitB kd ⟨dk,dn,ds⟩)) ∧ Same W W'):=fun W => rfit_ok kd ⟨dk,dn,ds⟩ W
     have HKIN:Hid (∀ W,Calls Tryz.prog 70 #[.int .i64 kd] W fun e W' => e = .returned (.bool (kindB kd)) ∧ Same W W'):=Lib.hid fun W => (rkind_ok kd W).mono fun e w' ⟨he,hw⟩ => ⟨he,by rw [hw];exact Same.refl _⟩
     have HAB:Hid (attrB ra[k].at_ = (kindB kd && fitB kd ⟨dk,dn,ds⟩)):=by rw [← HRK.out];rfl
     generalize fitB kd ⟨dk,dn,ds⟩ = q at HFIT HAB
     generalize kindB kd = qk at HKIN HAB
     have k1:=cellr c1
     have k3:=cellr c3'
     have k4:=cellr c4
     have k5:=cellr c5
     have kf:=cellr f1
     have cF:=regr (w:=wr) (fun W _ => HFIT.out W)
     have cK:=regr (w:=wr) (fun W _ => HKIN.out W)
     clear hc c1 c3' c4 c5
     cases qk with
     | false =>
      have HBAD:Hid (rightB T = false):=rightB_attr HTA.out k hlt (by rw [HAB.out];rfl)
      go_wp2_with fail
      refine wp_region_quiet_below (by kernel_rfl) (by kernel_rfl) ?_
      repeat (go_big_quiet_step (first | (go_at_call 70;exact cK _ _) | (go_at_call 50;exact cF _ _)))
      refine wpQuiet_nil ?_
      intro _ hw'
      obtain ⟨⟨dq,osq⟩,hw''⟩:=hw'
      subst hw''
      have SQ:=Lib.hid (SW.out.trans (Same.reg wr dq osq))
      generalize Sort.grow (redrawn wr dq) osq = w2 at SQ ⊢
      clear k1 k3 k4 k5 kf cF cK f1 f2
      go_wp2
      go_ret
      exact ⟨ret_bool HBAD.out.symm,SQ.out⟩
     | true =>
      go_wp2_with fail
      refine wp_region_quiet_below (by kernel_rfl) (by kernel_rfl) ?_
      repeat (go_big_quiet_step (first | (go_at_call 70;exact cK _ _) | (go_at_call 50;exact cF _ _)))
      refine wpQuiet_nil ?_
      intro _ hw'
      obtain ⟨⟨dq,osq⟩,hw''⟩:=hw'
      subst hw''
      have SQ:=Lib.hid (SR.out.trans (Same.reg wr dq osq))
      generalize Sort.grow (redrawn wr dq) osq = w2 at SQ ⊢
      clear k1 k3 k4 k5 kf cF cK f1 f2
      cases q with
      | false =>
       have HBAD:Hid (rightB T = false):=rightB_attr HTA.out k hlt (by rw [HAB.out];rfl)
       go_wp2
       go_ret
       exact ⟨ret_bool HBAD.out.symm,S1.out.trans SQ.out⟩
      | true =>
       have HG:Hid (attrB ra[k].at_ = true):=by rw [HAB.out];exact Lib.hid rfl
       go_wp2
       go_roundw
       case rel => exact ⟨k + 1,by omega,by go_num,SQ,fun j hj h3 => (by
        by_cases e:j = k
        ·subst e;exact HG.out
        ·exact N.out j hj (by omega))⟩
       case measure => simp [intOf];omega
    ·have HALL:Hid (T.attrs.all attrB = true):=by
      show _ = _
      rw [HTA.out,List.all_eq_true]
      intro a ha
      obtain ⟨r,hr,rfl⟩:=List.mem_map.1 ha
      obtain ⟨j,hj,rfl⟩:=List.mem_iff_getElem.1 hr
      exact N.out j hj (by omega)
     have HE2:Hid (rightB T = keyB ra.length key):=by
      show rightB T = _
      rw [rightB_eq,HPRE.out,HALL.out,HNO.out,HNE.out.1,HNE.out.2,HTA.out,HTK.out,List.length_map]
      simp
     clear N HALL HNE
     go_wp2
     clear f1 f2
     go_loopw [7] (fun i wr => ∃ k:Nat,k ≤ key.length ∧ i = .int .i64 k ∧ Hid (Same w1 wr) ∧ Hid (∀ j,j < k → keyAt ra.length key j = true)) (fun i _ => key.length - (intOf i).toNat)
     case atStart => exact ⟨0,Nat.zero_le _,rfl,SR,fun j hj => absurd hj (Nat.not_lt_zero _)⟩
     case round =>
      obtain ⟨k,hk,rfl,SK,N⟩:=hrel
      have g1:=(SK.out.cells _ 1 lw1).trans d1
      have g2:=(SK.out.cells _ 2 lw1).trans d2
      have SWK:Hid (Same w wr):=S1.out.trans SK.out
      by_cases hlt:k < key.length
      ·obtain ⟨kb,ko,hA2,kblt,e0⟩:=(HK'.out _ SWK.out).one k hlt (v:=.int .i64 key[k]) rfl
       have hA2':A2 = some ⟨kb,ko,none⟩:=hA2
       subst hA2'
       have hky:key.getD k 0 = key[k]:=by simp [List.getD_eq_getElem?_getD,hlt]
       have hki:(k:Int) < (key.length:Int):=by omega
       by_cases hk0:k = 0
       ·subst hk0
        have HKA:Hid (keyAt ra.length key 0 = (decide (0 ≤ key[0]) && decide (key[0] < (ra.length:Int)))):=by
         show keyAt ra.length key 0 = _
         unfold keyAt
         rw [hky]
         simp
        generalize key[0] = y at e0 HKA
        clear hky hA2
        simp only [Nat.add_zero] at e0
        by_cases h3:y < 0
        ·have t1:decide (y < 0) = true:=decide_eq_true h3
         have HB:Hid (rightB T = false):=by show _ = _;rw [HE2.out];exact all_range_false 0 hlt (by rw [HKA.out,decide_eq_false (by omega)];rfl)
         clear h3
         go_wp2_with fail
         go_quiet (fail)
         go_wp2
         go_ret
         exact ⟨ret_bool HB.out.symm,SWK.out.drewN _⟩
        have t1:decide (y < 0) = false:=decide_eq_false h3
        by_cases h4:(ra.length:Int) ≤ y
        ·have t2:decide ((ra.length:Int) ≤ y) = true:=decide_eq_true h4
         have HB:Hid (rightB T = false):=by show _ = _;rw [HE2.out];exact all_range_false 0 hlt (by rw [HKA.out,decide_eq_false (show ¬ y < (ra.length:Int) by omega),Bool.and_false])
         clear h3 h4
         go_wp2_with fail
         go_quiet (fail)
         go_wp2
         go_ret
         exact ⟨ret_bool HB.out.symm,SWK.out.drewN _⟩
        have t2:decide ((ra.length:Int) ≤ y) = false:=decide_eq_false h4
        have HG:Hid (keyAt ra.length key 0 = true):=by show _ = _;rw [HKA.out,decide_eq_true (by omega),decide_eq_true (by omega)];rfl
        clear h3 h4
        go_wp2_with fail
        go_quiet (fail)
        go_wp2
        go_roundw
        case rel => exact ⟨0 + 1,by omega,rfl,SK.out.drewN _,yes_step N.out HG.out⟩
        case measure => simp [intOf];omega
       ·obtain ⟨j,rfl⟩:∃ j,k = j + 1:=⟨k - 1,by omega⟩
        obtain ⟨kb',ko',hA3,_,e1⟩:=(HK'.out _ SWK.out).one j (by omega) (v:=.int .i64 (key[j]'(by omega))) rfl
        injection hA3 with hA3
        injection hA3 with q1 q2 _
        subst q1 q2
        have hky2:key.getD j 0 = key[j]'(by omega):=by simp [List.getD_eq_getElem?_getD];rw [List.getElem?_eq_getElem (by omega)];rfl
        have HKA:Hid (keyAt ra.length key (j + 1) = (decide (0 ≤ key[j + 1]) && decide (key[j + 1] < (ra.length:Int)) && decide (key[j]'(by omega) < key[j + 1]))):=by
         show keyAt ra.length key (j + 1) = _
         unfold keyAt
         rw [hky,Nat.add_sub_cancel,hky2]
         simp
        generalize key[j + 1] = y at e0 HKA
        generalize key[j]'(by omega) = y' at e1 HKA
        clear hky hky2 hA2
        obtain ⟨K,hK⟩:∃ K:Int,K = ((j + 1:Nat):Int):=⟨_,rfl⟩
        by_cases h3:y < 0
        ·have t1:decide (y < 0) = true:=decide_eq_true h3
         have HB:Hid (rightB T = false):=by show _ = _;rw [HE2.out];exact all_range_false (j + 1) hlt (by rw [HKA.out,decide_eq_false (by omega)];rfl)
         clear h3
         go_wp2_with fail
         go_quiet (fail)
         go_wp2
         go_ret
         exact ⟨ret_bool HB.out.symm,SWK.out.drewN _⟩
        have t1:decide (y < 0) = false:=decide_eq_false h3
        by_cases h4:(ra.length:Int) ≤ y
        ·have t2:decide ((ra.length:Int) ≤ y) = true:=decide_eq_true h4
         have HB:Hid (rightB T = false):=by show _ = _;rw [HE2.out];exact all_range_false (j + 1) hlt (by rw [HKA.out,decide_eq_false (show ¬ y < (ra.length:Int) by omega),Bool.and_false,Bool.false_and])
         clear h3 h4
         go_wp2_with fail
         go_quiet (fail)
         go_wp2
         go_ret
         exact ⟨ret_bool HB.out.symm,SWK.out.drewN _⟩
        have t2:decide ((ra.length:Int) ≤ y) = false:=decide_eq_false h4
        have s2:(0:Int) ≤ (j:Int):=by omega
        have s3:(j:Int) < (key.length:Int):=by omega
        have s4:decide (((j + 1:Nat):Int) > 0) = true:=decide_eq_true (by omega)
        have s4':decide ((0:Int) < (j:Int) + 1) = true:=decide_eq_true (by omega)
        by_cases h5:y ≤ y'
        ·have t3:decide (y ≤ y') = true:=decide_eq_true h5
         have HB:Hid (rightB T = false):=by show _ = _;rw [HE2.out];exact all_range_false (j + 1) hlt (by rw [HKA.out,decide_eq_false (show ¬ y' < y by omega),Bool.and_false])
         clear h3 h4 h5
         have s1:IntKind.i64.wrap ((((j + 1:Nat)):Int) - 1) = (j:Int):=by rw [IntWalk.i64_in _ (by omega)];omega
         have s1':IntKind.i64.wrap ((j:Int) + 1 - 1) = (j:Int):=by rw [IntWalk.i64_in _ (by omega)];omega
         go_wp2_with fail
         go_quiet (fail)
         clear s1 s1'
         go_wp2
         go_ret
         exact ⟨ret_bool HB.out.symm,SWK.out.drewN _⟩
        have t3:decide (y ≤ y') = false:=decide_eq_false h5
        have HG:Hid (keyAt ra.length key (j + 1) = true):=by show _ = _;rw [HKA.out,decide_eq_true (by omega),decide_eq_true (by omega),decide_eq_true (by omega)];rfl
        clear h3 h4 h5
        have s1:IntKind.i64.wrap ((((j + 1:Nat)):Int) - 1) = (j:Int):=by rw [IntWalk.i64_in _ (by omega)];omega
        have s1':IntKind.i64.wrap ((j:Int) + 1 - 1) = (j:Int):=by rw [IntWalk.i64_in _ (by omega)];omega
        go_wp2_with fail
        go_quiet (fail)
        clear s1 s1'
        go_wp2
        go_roundw
        case rel => exact ⟨j + 1 + 1,by omega,by go_num,SK.out.drewN _,yes_step N.out HG.out⟩
        case measure => simp [intOf];omega
      ·go_wp2
       go_ret
       refine ⟨ret_bool ?_,SWK.out⟩
       rw [HE2.out]
       exact (all_range_true (fun j hj => N.out j (by omega))).symm
theorem rright_ok (t:RT) (w:World) (a:TbAt w t) (few:∀ r ∈ t.ra,r.at_.was.length ≤ 1000000) :
  Calls Tryz.prog 46 #[t.val] w fun e w' => e = .returned (.bool (rightB t.tb)) ∧ Same w w':=by
 by_cases hp:nameB t.name = false ∨ t.ra.length < 1 ∨ 12 < t.ra.length ∨ t.key.length < 1
 ·refine (rright_pre t w a hp).mono ?_
  rintro e w' ⟨rfl,s⟩
  refine ⟨ret_bool ?_,s⟩
  have e1:t.tb.name = t.name:=rfl
  have e2:t.tb.attrs.length = t.ra.length:=by simp [RT.tb]
  have e3:t.tb.key = t.key:=rfl
  rw [rightB_eq,e1,e2,e3]
  rcases hp with h | h | h | h
  ·simp [h]
  ·rw [decide_eq_false (show ¬ 1 ≤ t.ra.length by omega)];simp
  ·rw [decide_eq_false (show ¬ t.ra.length ≤ 12 by omega)];simp
  ·rw [decide_eq_false (show ¬ 1 ≤ t.key.length by omega)];simp
 ·simp only [not_or,Bool.not_eq_false] at hp
  exact rright_main t w a few hp.1 hp.2.1 hp.2.2.1 hp.2.2.2
end Go.Proofs.YtfifnemnihcijaaGreatDoor

import Derived.Test.YtfifnemnihcijaaGreatDoorKSm
set_option linter.unusedSimpArgs false
set_option linter.unusedVariables false
set_option maxHeartbeats 16000000
set_option maxRecDepth 100000
namespace Go.Proofs.YtfifnemnihcijaaGreatDoor
open Go.RowKit
theorem rvalid_ok (v:V) (w:World):Calls Tryz.prog 72 #[v.val] w fun e w' => e = .returned (.bool v.ok) ∧ Same w w':=by
 obtain ⟨k,n,s⟩:=v
 show Calls Tryz.prog 72 #[.agg #[.int .i64 k,.int .i64 n,.string s]] w _
 go_enter Tryz.func72,Tryz.ntmps72
 go_wp2
 all_goals
  go_ret
  refine ⟨ret_bool ?_,(Same.refl _).alloc _⟩
  rw [Bool.eq_iff_iff,V.ok_iff]
  simp only [V.low,V.high,decide_eq_true_eq,isE] at *
  first | (simp at *;omega) | (simp_all;done) | (simp_all;omega) | omega
theorem rkind_ok (k:Int) (w:World):Calls Tryz.prog 70 #[.int .i64 k] w fun e w' => e = .returned (.bool (kindB k)) ∧ w = w':=by
 go_enter Tryz.func70,Tryz.ntmps70
 go_wp2
 all_goals
  go_ret
  refine ⟨ret_bool ?_,rfl⟩
  simp only [kindB] at *
  first | (simp_all;done) | (simp_all;omega)
theorem rfit_ok (q:Int) (v:V) (w:World):Calls Tryz.prog 50 #[.int .i64 q,v.val] w fun e w' => e = .returned (.bool (fitB q v)) ∧ Same w w':=by
 have HV:=Lib.hid (rvalid_ok v)
 obtain ⟨k,n,s⟩:=v
 have hv:(⟨k,n,s⟩:V).val = .agg #[.int .i64 k,.int .i64 n,.string s]:=rfl
 rw [hv] at HV
 show Calls Tryz.prog 50 #[.int .i64 q,.agg #[.int .i64 k,.int .i64 n,.string s]] w _
 have HF:Hid (fitB q ⟨k,n,s⟩ = ((⟨k,n,s⟩:V).ok && (decide (k = 0) || decide (k = q)))):=Lib.hid rfl
 generalize (⟨k,n,s⟩:V).ok = b at HV HF
 clear hv
 go_enter Tryz.func50,Tryz.ntmps50
 go_wp2_with (first | (go_at_call 72;refine (HV.out _).mono ?_;rintro e w1 ⟨rfl,c1⟩;have C1:=Lib.hid c1;have K1:=c1.cells;have Z1:=c1.size;clear c1))
 all_goals
  go_ret
  exact ⟨ret_bool (by rw [HF.out];by_cases e:k = 0 <;> by_cases e2:k = q <;> simp_all),((Same.refl w).alloc _).trans C1.out⟩
theorem rname_ok (s:ByteArray) (w:World) (hs:s.size ≤ 9223372036854775807):Calls Tryz.prog 69 #[.string s] w fun e w' => e = .returned (.bool (nameB s)) ∧ w = w':=by
 go_enter Tryz.func69,Tryz.ntmps69
 go_wp2
 go_loop [3] (fun i => ∃ k:Nat,k ≤ s.size ∧ i = .int .i64 k ∧ nameL ((ba s).take k) = true) (fun i => s.size - (intOf i).toNat)
 case atStart => exact ⟨0,Nat.zero_le _,rfl,by simp [nameL]⟩
 case round =>
  obtain ⟨k,hk,rfl,hn⟩:=hrel
  by_cases hlt:k < s.size
  ·have hst:=nameL_step s k hlt
   have hbad:=nameL_bad s (k + 1)
   rw [hn,Bool.true_and] at hst
   have HS:=Lib.hid hst
   have HB:=Lib.hid hbad
   have HN:=Lib.hid hn
   clear hst hbad hn
   go_wp2
   all_goals
    first
     | (exfalso;subst_vars;omega)
     | (go_round
        case rel => exact ⟨k + 1,by omega,by go_num,HS.out.trans (chr_iff.2 (by (try simp at *);omega))⟩
        case measure => simp [intOf];omega)
     | (go_ret
        refine ⟨ret_bool ?_,rfl⟩
        rw [nameB,HB.out (HS.out.trans (Bool.eq_false_iff.2 (fun h => by have:=chr_iff.1 h;(try simp only [beq_eq_false_iff_ne] at *);(try simp at *);omega)))]
        rfl)
  ·obtain rfl:k = s.size:=by omega
   rw [← ba_length,List.take_length] at hn
   have HN:=Lib.hid hn
   clear hn
   have HE:nameB s = (decide (s.size ≠ 0) && decide (s.size ≤ 24)):=by rw [nameB,HN.out,Bool.true_and]
   have HF:=Lib.hid HE
   clear HE
   by_cases h1:1 ≤ s.size
   ·by_cases h2:s.size ≤ 24
    ·have HQ:Hid (nameB s = true):=by show _ = _;rw [HF.out,decide_eq_true (by omega),decide_eq_true h2];rfl
     go_wp2
     go_ret
     exact ⟨ret_bool (by rw [HQ.out];exact decide_eq_true (by omega)),rfl⟩
    ·have HQ:Hid (nameB s = false):=by show _ = _;rw [HF.out,decide_eq_false h2,Bool.and_false]
     go_wp2
     go_ret
     exact ⟨ret_bool (by rw [HQ.out];exact decide_eq_false (by omega)),rfl⟩
   ·have HQ:Hid (nameB s = false):=by show _ = _;rw [HF.out,decide_eq_false (by omega),Bool.false_and]
    go_wp2
    go_ret
    exact ⟨ret_bool HQ.out.symm,rfl⟩
theorem rfits_ok (t:RT) (h:Hd) (row:List V) (w:World) (a:TbAt w t) (r:RowAt w h row) :
  Calls Tryz.prog 18 #[t.val,h.val] w fun e w' => e = .returned (.bool (fitsB t.tb row)) ∧ Same w w':=by
 have hla:t.ra.length = t.ha.n:=a.1.1.1
 have hlr:row.length = h.n:=r.1.1
 have hbr:h.n ≤ 9223372036854775807:=r.1.2.1
 have hba:t.ha.n ≤ 9223372036854775807:=a.1.1.2.1
 have HE:=Lib.hid (fitsB_eq t.tb row)
 have htb:t.tb.attrs.length = t.ra.length:=by simp [RT.tb]
 have HA:=Lib.hid (fun (W:World) (s:Same w W) => (a.1.same s).1)
 have HR:=Lib.hid (fun (W:World) (s:Same w W) => (r.same s).1)
 have HAt:Hid (∀ k (h1:k < t.ra.length) (h2:k < row.length),fitAt t.tb row k = fitB t.ra[k].at_.kind row[k]):=by
  intro k h1 h2
  simp [fitAt,RT.tb,h1,h2]
 obtain ⟨n,⟨A,m,c⟩,ra,⟨A2,m2,c2⟩,key⟩:=t
 obtain ⟨B,q,d⟩:=h
 generalize hT:RT.tb ⟨n,⟨A,m,c⟩,ra,⟨A2,m2,c2⟩,key⟩ = T at HE htb HAt ⊢
 simp only at hla hlr hbr hba htb
 subst hla hlr
 have HTB:=Lib.hid htb
 clear a r hT htb
 have HA':Hid (∀ (W:World),Same w W → Lies W 6 ⟨A,ra.length,c⟩ RA.cells ra):=HA
 clear HA
 show Calls Tryz.prog 18 #[.agg #[.string n,.slice A ra.length c,.slice A2 m2 c2],.slice B row.length d] w _
 by_cases hne:row.length = ra.length
 ·have h1:((row.length:Int) != (ra.length:Int)) = false:=by simp [hne]
  have HN:=Lib.hid hne
  clear hne
  go_enter Tryz.func18,Tryz.ntmps18
  go_wp2
  go_loopw [5] (fun i wr => ∃ k:Nat,k ≤ row.length ∧ i = .int .i64 k ∧ Hid (Same (w.alloc (.cells #[.string n,.slice A ra.length c,.slice A2 m2 c2] 44)) wr) ∧ Hid (∀ j,j < k → fitAt T row j = true)) (fun i _ => row.length - (intOf i).toNat)
  case atStart => exact ⟨0,Nat.zero_le _,rfl,Same.refl _,fun j hj => absurd hj (Nat.not_lt_zero _)⟩
  case round =>
   obtain ⟨k,hk,rfl,S,N⟩:=hrel
   by_cases hlt:k < row.length
   ·have sw:Same w wr:=((Same.refl w).alloc _).trans S.out
    have hka:k < ra.length:=by have:=HN.out;omega
    obtain ⟨b,off,hA,blt,hc⟩:=(HA'.out wr sw).2.2 k hka
    have hA':A = some ⟨b,off,none⟩:=hA
    obtain ⟨b2,off2,hB,blt2,hc2⟩:=(HR.out wr sw).2.2 k hlt
    have hB':B = some ⟨b2,off2,none⟩:=hB
    have hf:=HAt.out k hka hlt
    obtain ⟨rk,hrk⟩:∃ rk,rk = ra[k]:=⟨_,rfl⟩
    obtain ⟨vk,hvk⟩:∃ vk,vk = row[k]:=⟨_,rfl⟩
    rw [← hrk] at hc hf
    rw [← hvk] at hc2 hf
    obtain ⟨⟨n',kd,was,dd⟩,h'⟩:=rk
    obtain ⟨vk1,vn1,vs1⟩:=vk
    have c1:=hc 1 (.int .i64 kd) rfl
    have d0:=hc2 0 (.int .i64 vk1) rfl
    have d1:=hc2 1 (.int .i64 vn1) rfl
    have d2:=hc2 2 (.string vs1) rfl
    have x0:wr.cell? ⟨w.heap.size,1,none⟩ = some (.slice A ra.length c):=(S.out.cells _ 1 (by simp)).trans (by simp)
    have bx:w.heap.size < wr.heap.size:=Nat.lt_of_lt_of_le (by simp) S.out.size
    simp only [Nat.add_zero] at d0 hf
    have HF:=Lib.hid hf
    have HC:Hid (∀ W,Calls Tryz.prog 50 #[.int .i64 kd,.agg #[.int .i64 vk1,.int .i64 vn1,.string vs1]] W fun e W' => e = .returned (.bool (fitB kd ⟨vk1,vn1,vs1⟩)) ∧ Same W W'):=fun W => rfit_ok kd ⟨vk1,vn1,vs1⟩ W
    clear hc hc2 hf hA hB hrk hvk
    subst hA' hB'
    go_wp2_with fail
    go_region_held3 (fun w' => w'.cell? ⟨w.heap.size,1,none⟩ = some (.slice (some ⟨b,off,none⟩) ra.length c) ∧ w'.cell? ⟨b,off + k * 6 + 1,none⟩ = some (.int .i64 kd) ∧ w'.cell? ⟨b2,off2 + k * 3,none⟩ = some (.int .i64 vk1) ∧ w'.cell? ⟨b2,off2 + k * 3 + 1,none⟩ = some (.int .i64 vn1) ∧ w'.cell? ⟨b2,off2 + k * 3 + 2,none⟩ = some (.string vs1)) (first | go_keep | simp [*])
     (first | (go_at_call 50;refine (HC.out _).mono ?_;rintro e w1 ⟨rfl,c1⟩;have C1:Hid (Same wr w1):=(Same.refl wr).drew.trans c1;have K1:∀ k o,k < wr.heap.size → w1.cell? ⟨k,o,none⟩ = wr.cell? ⟨k,o,none⟩:=c1.cells;have Z1:wr.heap.size ≤ w1.heap.size:=c1.size;clear c1))
    go_wp2
    ·go_ret
     refine ⟨ret_bool ?_,sw.trans C1.out⟩
     rw [HE.out,all_range_false k hlt (by rw [HF.out];simp_all),Bool.and_false]
    ·go_roundw
     case rel => exact ⟨k + 1,by omega,by go_num,S.out.trans C1.out,yes_step N.out (by rw [HF.out];simp_all)⟩
     case measure => simp [intOf];omega
   ·go_wp2
    go_ret
    refine ⟨ret_bool ?_,((Same.refl w).alloc _).trans S.out⟩
    rw [HE.out,all_range_true (fun j hj => N.out j (by omega)),decide_eq_true (HTB.out ▸ HN.out)]
    rfl
 ·have h1:((row.length:Int) != (ra.length:Int)) = true:=by simp;omega
  have HN:=Lib.hid hne
  clear hne
  go_enter Tryz.func18,Tryz.ntmps18
  go_wp2
  go_ret
  refine ⟨ret_bool ?_,(Same.refl w).alloc _⟩
  rw [HE.out,decide_eq_false (HTB.out ▸ HN.out)]
  rfl
theorem rfind_ok (h:Hd) (ts:List RT) (nm:ByteArray) (w:World) (a:TabsAt w h ts) :
  Calls Tryz.prog 16 #[.agg #[h.val],.string nm] w fun e w' => e = .returned (.int .i64 (findT (ts.map RT.tb) nm)) ∧ Same w w':=by
 have hl:ts.length = h.n:=a.1.1
 have hb:h.n ≤ 9223372036854775807:=a.1.2.1
 have HE:Hid (findT (ts.map RT.tb) nm = idxB (fun t:RT => decide (t.name = nm)) ts):=idxB_map RT.tb _ ts
 obtain ⟨A,n,c⟩:=h
 simp only at hl hb
 subst hl
 have HL:=Lib.hid a.1
 clear a
 show Calls Tryz.prog 16 #[.agg #[.slice A ts.length c],.string nm] w _
 go_enter Tryz.func16,Tryz.ntmps16
 go_wp2
 obtain ⟨W0,hW0⟩:∃ W0,W0 = w.alloc (.cells #[.slice A ts.length c] 24):=⟨_,rfl⟩
 have S0:Hid (Same w W0):=by show Same w W0;rw [hW0];exact (Same.refl w).alloc _
 have x0:W0.cell? ⟨w.heap.size,0,none⟩ = some (.slice A ts.length c):=by rw [hW0];simp
 rw [← hW0]
 clear hW0
 go_loop [5] (fun i => ∃ k:Nat,k ≤ ts.length ∧ i = .int .i64 k ∧ Hid (∀ j (hj:j < ts.length),j < k → decide (ts[j].name = nm) = false)) (fun i => ts.length - (intOf i).toNat)
 case atStart => exact ⟨0,Nat.zero_le _,rfl,fun j _ hj => absurd hj (Nat.not_lt_zero _)⟩
 case round =>
  obtain ⟨k,hk,rfl,N⟩:=hrel
  by_cases hlt:k < ts.length
  ·obtain ⟨b,off,hA,blt,hc⟩:=(HL.out.same S0.out).2.2 k hlt
   have hA':A = some ⟨b,off,none⟩:=hA
   clear hA
   subst hA'
   obtain ⟨y,hy⟩:∃ y,y = ts[k]:=⟨_,rfl⟩
   rw [← hy] at hc
   have HY:=Lib.hid hy
   clear hy
   obtain ⟨n1,⟨A1,m1,c1⟩,ra1,⟨B1,p1,d1⟩,key1⟩:=y
   have c0:=hc 0 (.string n1) rfl
   simp only [Nat.add_zero] at c0
   clear hc
   by_cases hq:n1 = nm
   ·have t1:(n1.toList == nm.toList) = true:=by rw [beqB];simp [hq]
    have HQ:Hid (ts[k].name = nm):=by rw [← HY.out];exact Lib.hid hq
    clear hq
    go_wp2
    go_ret
    exact ⟨ret_int (by rw [HE.out];exact (idxB_hit (p:=fun t:RT => decide (t.name = nm)) k hlt (decide_eq_true HQ.out) (fun j hj => N.out j (by omega) hj)).symm),S0.out⟩
   ·have t1:(n1.toList == nm.toList) = false:=by rw [beqB];simp;exact hq
    have HQ:Hid (¬ ts[k].name = nm):=by rw [← HY.out];exact Lib.hid hq
    clear hq
    go_wp2
    go_round
    case rel => exact ⟨k + 1,by omega,by go_num,not_step (p:=fun t:RT => decide (t.name = nm)) hlt (decide_eq_false HQ.out) N.out⟩
    case measure => simp [intOf];omega
  ·go_wp2
   go_ret
   exact ⟨ret_int (by rw [HE.out];exact (idxB_miss (p:=fun t:RT => decide (t.name = nm)) (fun j hj => N.out j hj (by omega))).symm),S0.out⟩
theorem rin_ok (h:Hd) (l:List Int) (x:Int) (w:World) (a:IntsAt w h l) :
  Calls Tryz.prog 71 #[h.val,.int .i64 x] w fun e w' => e = .returned (.bool (l.any fun y => decide (y = x))) ∧ w = w':=by
 obtain ⟨A,n,c⟩:=h
 show Calls Tryz.prog 71 #[.slice A n c,.int .i64 x] w _
 have hn:l.length = n:=a.1
 have hb:n ≤ 9223372036854775807:=a.2.1
 have HE:=Lib.hid (any_idxB (fun y => decide (y = x)) l)
 subst hn
 have HL:=Lib.hid a
 clear a
 go_enter Tryz.func71,Tryz.ntmps71
 go_wp2
 go_loop [5] (fun i => ∃ k:Nat,k ≤ l.length ∧ i = .int .i64 k ∧ Hid (∀ j (hj:j < l.length),j < k → decide (l[j] = x) = false)) (fun i => l.length - (intOf i).toNat)
 case atStart => exact ⟨0,Nat.zero_le _,rfl,fun j _ hj => absurd hj (Nat.not_lt_zero _)⟩
 case round =>
  obtain ⟨k,hk,rfl,N⟩:=hrel
  by_cases hlt:k < l.length
  ·obtain ⟨b,off,hA,blt,c0⟩:=Lies.one HL.out k hlt (v:=.int .i64 l[k]) rfl
   have hA':A = some ⟨b,off,none⟩:=hA
   clear hA
   subst hA'
   obtain ⟨y,hy⟩:∃ y,y = l[k]:=⟨_,rfl⟩
   rw [← hy] at c0
   have HY:=Lib.hid hy
   clear hy
   by_cases hq:y = x
   ·have HQ:=Lib.hid hq
    have t1:(y == x) = true:=by simp [hq]
    clear hq
    go_wp2
    go_ret
    exact ⟨ret_bool (by rw [HE.out,idxB_hit (p:=fun y => decide (y = x)) k hlt (by rw [← HY.out];exact decide_eq_true HQ.out) (fun j hj => N.out j (by omega) hj)];exact (decide_eq_true (by omega)).symm),rfl⟩
   ·have HQ:=Lib.hid hq
    have t1:(y == x) = false:=by simp [hq]
    clear hq
    go_wp2
    go_round
    case rel => exact ⟨k + 1,by omega,by go_num,not_step (p:=fun y => decide (y = x)) hlt (by rw [← HY.out];exact decide_eq_false HQ.out) N.out⟩
    case measure => simp [intOf];omega
  ·go_wp2
   go_ret
   exact ⟨ret_bool (by rw [HE.out,idxB_miss (p:=fun y => decide (y = x)) (fun j hj => N.out j hj (by omega))];rfl),rfl⟩
theorem rcolumn_ok (t:RT) (nm:ByteArray) (w:World) (a:TbAt w t) :
  Calls Tryz.prog 20 #[t.val,.string nm] w fun e w' => e = .returned (.int .i64 (colA t.tb.attrs nm)) ∧ Same w w':=by
 have e1:idxB (fun a:At => decide (a.name = nm)) (t.ra.map RA.at_) = idxB (fun r:RA => decide (r.at_.name = nm)) t.ra:=idxB_map RA.at_ _ t.ra
 have e2:idxB (fun a:At => a.was.any fun x => decide (x = nm)) (t.ra.map RA.at_) = idxB (fun r:RA => r.at_.was.any fun x => decide (x = nm)) t.ra:=idxB_map RA.at_ _ t.ra
 have HE:Hid (colA t.tb.attrs nm = if 0 ≤ idxB (fun r:RA => decide (r.at_.name = nm)) t.ra then idxB (fun r:RA => decide (r.at_.name = nm)) t.ra else idxB (fun r:RA => r.at_.was.any fun x => decide (x = nm)) t.ra):=by
  show colA (t.ra.map RA.at_) nm = _
  unfold colA
  rw [e1,e2]
 generalize colA t.tb.attrs nm = r at HE ⊢
 have hl:t.ra.length = t.ha.n:=a.1.1.1
 have hb:t.ha.n ≤ 9223372036854775807:=a.1.1.2.1
 have HL:=Lib.hid a.1.1
 have HW:=Lib.hid (fun x hx => (a.1.2 x hx).1)
 obtain ⟨n,⟨A,m,c⟩,ra,⟨A2,m2,c2⟩,key⟩:=t
 simp only at hl hb
 subst hl
 have HL':Hid (Lies w 6 ⟨A,ra.length,c⟩ RA.cells ra):=HL
 have HW':Hid (∀ x ∈ ra,StrsAt w x.h x.at_.was):=HW
 clear a e1 e2 HL HW
 show Calls Tryz.prog 20 #[.agg #[.string n,.slice A ra.length c,.slice A2 m2 c2],.string nm] w _
 go_enter Tryz.func20,Tryz.ntmps20
 go_wp2
 obtain ⟨W0,hW0⟩:∃ W0,W0 = w.alloc (.cells #[.string n,.slice A ra.length c,.slice A2 m2 c2] 44):=⟨_,rfl⟩
 have S0:Hid (Same w W0):=by show Same w W0;rw [hW0];exact (Same.refl w).alloc _
 have x1:W0.cell? ⟨w.heap.size,1,none⟩ = some (.slice A ra.length c):=by rw [hW0];simp
 rw [← hW0]
 clear hW0
 go_loop [5] (fun i => ∃ k:Nat,k ≤ ra.length ∧ i = .int .i64 k ∧ Hid (∀ j (hj:j < ra.length),j < k → decide (ra[j].at_.name = nm) = false)) (fun i => ra.length - (intOf i).toNat)
 case atStart => exact ⟨0,Nat.zero_le _,rfl,fun j _ hj => absurd hj (Nat.not_lt_zero _)⟩
 case round =>
  obtain ⟨k,hk,rfl,N⟩:=hrel
  by_cases hlt:k < ra.length
  ·obtain ⟨b,off,hA,blt,hc⟩:=(HL'.out.same S0.out).2.2 k hlt
   have hA':A = some ⟨b,off,none⟩:=hA
   clear hA
   subst hA'
   obtain ⟨y,hy⟩:∃ y,y = ra[k]:=⟨_,rfl⟩
   rw [← hy] at hc
   have HY:=Lib.hid hy
   clear hy
   obtain ⟨⟨n1,kd,was,dd⟩,h1⟩:=y
   have c0:=hc 0 (.string n1) rfl
   simp only [Nat.add_zero] at c0
   clear hc
   by_cases hq:n1 = nm
   ·have t1:(n1.toList == nm.toList) = true:=by rw [beqB];simp [hq]
    have HQ:Hid (ra[k].at_.name = nm):=by rw [← HY.out];exact Lib.hid hq
    clear hq
    go_wp2
    go_ret
    refine ⟨ret_int ?_,S0.out⟩
    rw [HE.out,idxB_hit (p:=fun r:RA => decide (r.at_.name = nm)) k hlt (decide_eq_true HQ.out) (fun j hj => N.out j (by omega) hj),if_pos (by omega)]
   ·have t1:(n1.toList == nm.toList) = false:=by rw [beqB];simp;exact hq
    have HQ:Hid (¬ ra[k].at_.name = nm):=by rw [← HY.out];exact Lib.hid hq
    clear hq
    go_wp2
    go_round
    case rel => exact ⟨k + 1,by omega,by go_num,not_step (p:=fun r:RA => decide (r.at_.name = nm)) hlt (decide_eq_false HQ.out) N.out⟩
    case measure => simp [intOf];omega
  ·have HE2:Hid (r = idxB (fun r:RA => r.at_.was.any fun x => decide (x = nm)) ra):=by
    show _ = _
    rw [HE.out,idxB_miss (p:=fun r:RA => decide (r.at_.name = nm)) (fun j hj => N.out j hj (by omega)),if_neg (by decide)]
   clear HE N
   go_wp2
   go_loop [6] (fun i => ∃ k:Nat,k ≤ ra.length ∧ i = .int .i64 k ∧ Hid (∀ j (hj:j < ra.length),j < k → (ra[j].at_.was.any fun x => decide (x = nm)) = false)) (fun i => ra.length - (intOf i).toNat)
   case atStart => exact ⟨0,Nat.zero_le _,rfl,fun j _ hj => absurd hj (Nat.not_lt_zero _)⟩
   case round =>
    obtain ⟨k,hk,rfl,N⟩:=hrel
    by_cases hlt:k < ra.length
    ·obtain ⟨b,off,hA,blt,hc⟩:=(HL'.out.same S0.out).2.2 k hlt
     have hA':A = some ⟨b,off,none⟩:=hA
     have HWK:=Lib.hid ((HW'.out _ (List.getElem_mem hlt)).1.same S0.out)
     clear hA
     subst hA'
     obtain ⟨y,hy⟩:∃ y,y = ra[k]:=⟨_,rfl⟩
     rw [← hy] at hc HWK
     have HY:=Lib.hid hy
     clear hy
     obtain ⟨⟨n1,kd,was,dd⟩,⟨A3,m3,c3⟩⟩:=y
     have c2':=hc 2 (.slice A3 m3 c3) rfl
     clear hc
     have e3:was.length = m3:=HWK.out.1
     have f3:m3 ≤ 9223372036854775807:=HWK.out.2.1
     subst e3
     have HWL:Hid (Lies W0 1 ⟨A3,was.length,c3⟩ strCell was):=HWK
     have HX:Hid ((ra[k].at_.was.any fun x => decide (x = nm)) = (was.any fun x => decide (x = nm))):=by show _ = _;rw [← HY.out]
     clear HWK
     go_wp2
     go_loop [7] (fun i => ∃ q:Nat,q ≤ was.length ∧ i = .int .i64 q ∧ Hid (∀ j (hj:j < was.length),j < q → decide (was[j] = nm) = false)) (fun i => was.length - (intOf i).toNat)
     case atStart => exact ⟨0,Nat.zero_le _,rfl,fun j _ hj => absurd hj (Nat.not_lt_zero _)⟩
     case round =>
      obtain ⟨q,hq,rfl,M⟩:=hrel
      by_cases hlq:q < was.length
      ·obtain ⟨b3,off3,hA3,blt3,d0⟩:=HWL.out.one q hlq (v:=.string was[q]) rfl
       have hA3':A3 = some ⟨b3,off3,none⟩:=hA3
       clear hA3
       subst hA3'
       obtain ⟨z,hz⟩:∃ z,z = was[q]:=⟨_,rfl⟩
       rw [← hz] at d0
       have HZ:=Lib.hid hz
       clear hz
       by_cases hq2:z = nm
       ·have t1:(z.toList == nm.toList) = true:=by rw [beqB];simp [hq2]
        have HQ:Hid ((ra[k].at_.was.any fun x => decide (x = nm)) = true):=by
         show _ = _
         rw [HX.out,List.any_eq_true]
         exact ⟨was[q],List.getElem_mem hlq,by rw [← HZ.out];exact decide_eq_true hq2⟩
        clear hq2
        go_wp2
        go_ret
        exact ⟨ret_int (by rw [HE2.out];exact (idxB_hit (p:=fun r:RA => r.at_.was.any fun x => decide (x = nm)) k hlt HQ.out (fun j hj => N.out j (by omega) hj)).symm),S0.out⟩
       ·have t1:(z.toList == nm.toList) = false:=by rw [beqB];simp;exact hq2
        have HQ:Hid (¬ was[q] = nm):=by rw [← HZ.out];exact Lib.hid hq2
        clear hq2
        go_wp2
        go_round
        case rel => exact ⟨q + 1,by omega,by go_num,not_step (p:=fun x => decide (x = nm)) hlq (decide_eq_false HQ.out) M.out⟩
        case measure => simp [intOf];omega
      ·have HQ:Hid ((ra[k].at_.was.any fun x => decide (x = nm)) = false):=by
        show _ = _
        rw [HX.out,List.any_eq_false]
        intro x hx
        obtain ⟨j,hj,rfl⟩:=List.mem_iff_getElem.1 hx
        have:=M.out j hj (by omega)
        simp [this]
       go_wp2
       go_round
       case rel => exact ⟨k + 1,by omega,by go_num,not_step (p:=fun r:RA => r.at_.was.any fun x => decide (x = nm)) hlt HQ.out N.out⟩
       case measure => simp [intOf];omega
    ·go_wp2
     go_ret
     exact ⟨ret_int (by rw [HE2.out];exact (idxB_miss (p:=fun r:RA => r.at_.was.any fun x => decide (x = nm)) (fun j hj => N.out j hj (by omega))).symm),S0.out⟩
theorem empty_iff (s:ByteArray):s = ByteArray.empty ↔ s.size = 0:=by
 constructor
 ·rintro rfl;rfl
 ·intro h
  apply ba_inj
  have:(ba s).length = 0:=by rw [ba_length];exact h
  rw [List.length_eq_zero_iff.1 this];rfl
theorem rformed_ok (c:Cg) (w:World):Calls Tryz.prog 68 #[.agg #[.int .i64 c.kind,.string c.table,.string c.attr,.string c.name,.int .i64 c.to_,.int .i64 c.dflt.k,.int .i64 c.dflt.n,.string c.dflt.s]] w fun e w' => e = .returned (.bool (formedB c)) ∧ Same w w':=by
 obtain ⟨k,t,aa,n,to_,⟨dk,dn,ds⟩⟩:=c
 have HF:Hid (formedB ⟨k,t,aa,n,to_,⟨dk,dn,ds⟩⟩ = (if k = 1 then decide (aa.size = 0) else if k = 2 then decide (n.size = 0) && (decide (to_ = 0) && (decide (dk = 0) && (decide (dn = 0) && decide (ds.size = 0)))) else if k = 3 then decide (to_ = 0) && (decide (dk = 0) && (decide (dn = 0) && decide (ds.size = 0))) else if k = 4 then decide (n.size = 0) else false)):=by
  show _ = _
  simp only [formedB,V.same,V.zero,empty_iff]
  rfl
 show Calls Tryz.prog 68 #[.agg #[.int .i64 k,.string t,.string aa,.string n,.int .i64 to_,.int .i64 dk,.int .i64 dn,.string ds]] w _
 go_enter Tryz.func68,Tryz.ntmps68
 go_wp2
 all_goals
  go_ret
  refine ⟨ret_bool ?_,?_⟩
  ·rw [HF.out,Bool.eq_iff_iff]
   (try simp only [isE,isE_nil,decide_eq_true_eq,beq_iff_eq,beq_eq_false_iff_ne,ne_eq] at *)
   first | (simp_all;done) | (simp_all;omega)
  ·first | exact (Same.refl w).alloc _ | exact ((Same.refl w).alloc _).alloc _ | exact (((Same.refl w).alloc _).alloc _).setCell (by simp) _
end Go.Proofs.YtfifnemnihcijaaGreatDoor

import Derived.Test.YtfifnemnihcijaaGreatDoorKYd
import Derived.Test.YtfifnemnihcijaaGreatDoorKYg
set_option linter.unusedSimpArgs false
set_option linter.unusedVariables false
set_option maxHeartbeats 16000000
set_option maxRecDepth 100000
namespace Go.Proofs.YtfifnemnihcijaaGreatDoor
open Go.RowKit
theorem rvalid_s_ok (h:Hd) (ts:List RT) (w:World) (a:TabsAt w h ts) (few:Few ts) :
  Calls Tryz.prog 14 #[.agg #[h.val]] w fun e w' => e = .returned (.bool (validB (ts.map RT.tb))) ∧ Same w w':=by
 have hl:ts.length = h.n:=a.1.1
 have hb:h.n ≤ 9223372036854775807:=a.1.2.1
 have HR:=Lib.hid (fun (W:World) (s:Same w W) (k:Nat) (hk:k < ts.length) => rright_ok ts[k] W ((a.2 _ (List.getElem_mem hk)).same s) (few _ (List.getElem_mem hk)))
 have HF:=Lib.hid (fun (W:World) (s:Same w W) (nm:ByteArray) => rfind_ok h ts nm W (a.same s))
 have HL:=Lib.hid (fun (W:World) (s:Same w W) => (a.same s).1)
 have HE:=Lib.hid (validB_eq (ts.map RT.tb))
 have HV:Hid (∀ k (hk:k < ts.length),validAt (ts.map RT.tb) k = (rightB ts[k].tb && decide (findT (ts.map RT.tb) ts[k].name = k))):=by
  intro k hk
  simp [validAt,hk]
  rfl
 have HLM:Hid ((ts.map RT.tb).length = ts.length):=List.length_map _
 clear a few
 obtain ⟨A,n,c⟩:=h
 simp only at hl hb
 subst hl
 generalize ts.map RT.tb = S at HF HE HV HLM ⊢
 have HF':Hid (∀ W,Same w W → ∀ nm,Calls Tryz.prog 16 #[.agg #[.slice A ts.length c],.string nm] W fun e w' => e = .returned (.int .i64 (findT S nm)) ∧ Same W w'):=HF
 clear HF
 show Calls Tryz.prog 14 #[.agg #[.slice A ts.length c]] w _
 by_cases h20:20 < ts.length
 ·go_enter Tryz.func14,Tryz.ntmps14
  go_wp2
  go_ret
  refine ⟨ret_bool ?_,(Same.refl w).alloc _⟩
  rw [HE.out,HLM.out,decide_eq_false (by omega)]
  rfl
 ·go_enter Tryz.func14,Tryz.ntmps14
  go_wp2
  go_loopw [3] (fun i wr => ∃ k:Nat,k ≤ ts.length ∧ i = .int .i64 k ∧ Hid (Same (w.alloc (.cells #[.slice A ts.length c] 24)) wr) ∧ Hid (∀ j,j < k → validAt S j = true)) (fun i _ => ts.length - (intOf i).toNat)
  case atStart => exact ⟨0,Nat.zero_le _,rfl,Same.refl _,fun j hj => absurd hj (Nat.not_lt_zero _)⟩
  case round =>
   obtain ⟨k,hk,rfl,Sw,N⟩:=hrel
   by_cases hlt:k < ts.length
   ·have sw:Same w wr:=((Same.refl w).alloc _).trans Sw.out
    have SW:=Lib.hid sw
    obtain ⟨b,off,hA,blt,hc⟩:=(HL.out wr sw).2.2 k hlt
    have hA':A = some ⟨b,off,none⟩:=hA
    clear hA
    subst hA'
    have hr:=fun W s => HR.out W s k hlt
    have hv:=HV.out k hlt
    obtain ⟨tk,htk⟩:∃ tk,tk = ts[k]:=⟨_,rfl⟩
    rw [← htk] at hc hv
    simp only [← htk] at hr
    clear htk
    generalize rightB tk.tb = q at hr hv
    have hf:=fun W s => HF'.out W s tk.name
    generalize findT S tk.name = f at hf hv
    obtain ⟨n',⟨A1,m1,c1⟩,ra,⟨A2,m2,c2⟩,key⟩:=tk
    have x0:=hc 0 (.string n') rfl
    have x1:=hc 1 (.slice A1 m1 c1) rfl
    have x2:=hc 2 (.slice A2 m2 c2) rfl
    have xs:wr.cell? ⟨w.heap.size,0,none⟩ = some (.slice (some ⟨b,off,none⟩) ts.length c):=(Sw.out.cells _ 0 (by simp)).trans (by simp)
    have bx:w.heap.size < wr.heap.size:=Nat.lt_of_lt_of_le (by simp) Sw.out.size
    simp only [Nat.add_zero] at x0
    have HR1:Hid (Rt 46 #[.agg #[.string n',.slice A1 m1 c1,.slice A2 m2 c2]] w (.bool q)):=hr
    have HF1:Hid (Rt 16 #[.agg #[.slice (some ⟨b,off,none⟩) ts.length c],.string n'] w (.int .i64 f)):=hf
    have HVk:=Lib.hid hv
    clear hc hr hf hv sw
    have k0:=cellr x0
    have k1:=cellr x1
    have k2:=cellr x2
    have ks:=cellr xs
    have cR:=regr (w:=wr) (fun W s => HR1.out W (SW.out.trans s))
    have cF:=regr (w:=wr) (fun W s => HF1.out W (SW.out.trans s))
    clear x0 x1 x2
    cases q with
    | false =>
     go_wp2_with fail
     refine wp_region_quiet_below (by kernel_rfl) (by kernel_rfl) ?_
     repeat (go_big_quiet_step (first | (go_at_call 46;exact cR _ _) | (go_at_call 16;exact cF _ _)))
     refine wpQuiet_nil ?_
     intro _ hw'
     obtain ⟨⟨dq,osq⟩,hw''⟩:=hw'
     subst hw''
     have S1:=Lib.hid (Same.reg wr dq osq)
     generalize Sort.grow (redrawn wr dq) osq = w1 at S1 ⊢
     go_wp2
     go_ret
     refine ⟨ret_bool ?_,SW.out.trans S1.out⟩
     rw [HE.out,HLM.out,all_range_false k hlt (by rw [HVk.out];rfl),Bool.and_false]
    | true =>
     go_wp2_with fail
     refine wp_region_quiet_below (by kernel_rfl) (by kernel_rfl) ?_
     repeat (go_big_quiet_step (first | (go_at_call 46;exact cR _ _) | (go_at_call 16;exact cF _ _)))
     refine wpQuiet_nil ?_
     intro _ hw'
     obtain ⟨⟨dq,osq⟩,hw''⟩:=hw'
     subst hw''
     have S1:=Lib.hid (Same.reg wr dq osq)
     generalize Sort.grow (redrawn wr dq) osq = w1 at S1 ⊢
     go_wp2
     ·go_ret
      refine ⟨ret_bool ?_,SW.out.trans S1.out⟩
      rw [HE.out,HLM.out,all_range_false k hlt (by rw [HVk.out];simp_all),Bool.and_false]
     ·go_roundw
      case rel => exact ⟨k + 1,by omega,by go_num,Sw.out.trans S1.out,yes_step N.out (by rw [HVk.out];simp_all)⟩
      case measure => simp [intOf];omega
   ·have xs:wr.cell? ⟨w.heap.size,0,none⟩ = some (.slice A ts.length c):=(Sw.out.cells _ 0 (by simp)).trans (by simp)
    go_wp2
    go_ret
    refine ⟨ret_bool ?_,((Same.refl w).alloc _).trans Sw.out⟩
    rw [HE.out,HLM.out,all_range_true (fun j hj => N.out j (by omega)),decide_eq_true (by omega)]
    rfl
theorem rcheck_low (A:Option Addr) (m cc:Nat) (k:Int) (t aa n:ByteArray) (to_ dk dn:Int) (ds:ByteArray) (w:World) (q1 q2:Bool) (HV:Hid (Rt 14 #[.agg #[.slice A m cc]] w (.bool q1))) (HFM:Hid (Rs 68 #[.agg #[.int .i64 k,.string t,.string aa,.string n,.int .i64 to_,.int .i64 dk,.int .i64 dn,.string ds]] (.bool q2))) (hq:(q1 && q2) = false) :
  Calls Tryz.prog 41 #[.agg #[.slice A m cc],.agg #[.int .i64 k,.string t,.string aa,.string n,.int .i64 to_,.int .i64 dk,.int .i64 dn,.string ds]] w fun e w' => e = .returned (.tuple #[.int .i64 0,.int .i64 0,.int .i64 1]) ∧ Same w w':=by
 go_enter Tryz.func41,Tryz.ntmps41
 go_wp2_with fail
 obtain ⟨W0,hW0,S_w_W0,lbsW0,bsW00,lbcW0,bcW00,bcW01,bcW02,bcW03,bcW04,bcW05,bcW06,bcW07⟩:=open18 w 24 28 (.slice A m cc) (.int .i64 k) (.string t) (.string aa) (.string n) (.int .i64 to_) (.int .i64 dk) (.int .i64 dn) (.string ds)
 rw [← hW0]
 clear hW0
 refine (HV.out _ S_w_W0.out).mono ?_
 rintro e w2 ⟨rfl,s2⟩
 have S_w_w2:Hid (Same w w2):=S_w_W0.out.trans s2
 obtain ⟨lbsw2,bsw20⟩:=st1 s2 lbsW0 bsW00
 obtain ⟨lbcw2,bcw20,bcw21,bcw22,bcw23,bcw24,bcw25,bcw26,bcw27⟩:=st8 s2 lbcW0 bcW00 bcW01 bcW02 bcW03 bcW04 bcW05 bcW06 bcW07
 clear S_w_W0 lbsW0 bsW00 lbcW0 bcW00 bcW01 bcW02 bcW03 bcW04 bcW05 bcW06 bcW07
 clear s2
 cases q1 with
 | false =>
  go_wp2_with fail
  go_ret3
  exact ⟨rfl,S_w_w2.out⟩
 | true =>
  obtain rfl:q2 = false:=by simpa using hq
  go_wp2_with fail
  refine (HFM.out _).mono ?_
  rintro e w3 ⟨rfl,s3⟩
  have S_w_w3:Hid (Same w w3):=S_w_w2.out.trans s3
  obtain ⟨lbsw3,bsw30⟩:=st1 s3 lbsw2 bsw20
  obtain ⟨lbcw3,bcw30,bcw31,bcw32,bcw33,bcw34,bcw35,bcw36,bcw37⟩:=st8 s3 lbcw2 bcw20 bcw21 bcw22 bcw23 bcw24 bcw25 bcw26 bcw27
  clear S_w_w2 lbsw2 bsw20 lbcw2 bcw20 bcw21 bcw22 bcw23 bcw24 bcw25 bcw26 bcw27
  clear s3
  go_wp2_with fail
  go_ret3
  exact ⟨rfl,S_w_w3.out⟩
theorem rcheck_none (A:Option Addr) (m cc:Nat) (k:Int) (t aa n:ByteArray) (to_ dk dn:Int) (ds:ByteArray) (w:World) (HV:Hid (Rt 14 #[.agg #[.slice A m cc]] w (.bool true))) (HFM:Hid (Rs 68 #[.agg #[.int .i64 k,.string t,.string aa,.string n,.int .i64 to_,.int .i64 dk,.int .i64 dn,.string ds]] (.bool true))) (HFD:Hid (Rt 16 #[.agg #[.slice A m cc],.string t] w (.int .i64 (-1)))) :
  Calls Tryz.prog 41 #[.agg #[.slice A m cc],.agg #[.int .i64 k,.string t,.string aa,.string n,.int .i64 to_,.int .i64 dk,.int .i64 dn,.string ds]] w fun e w' => e = .returned (.tuple #[.int .i64 0,.int .i64 0,.int .i64 11]) ∧ Same w w':=by
 go_enter Tryz.func41,Tryz.ntmps41
 go_wp2_with fail
 obtain ⟨W0,hW0,S_w_W0,lbsW0,bsW00,lbcW0,bcW00,bcW01,bcW02,bcW03,bcW04,bcW05,bcW06,bcW07⟩:=open18 w 24 28 (.slice A m cc) (.int .i64 k) (.string t) (.string aa) (.string n) (.int .i64 to_) (.int .i64 dk) (.int .i64 dn) (.string ds)
 rw [← hW0]
 clear hW0
 refine (HV.out _ S_w_W0.out).mono ?_
 rintro e w2 ⟨rfl,s2⟩
 have S_w_w2:Hid (Same w w2):=S_w_W0.out.trans s2
 obtain ⟨lbsw2,bsw20⟩:=st1 s2 lbsW0 bsW00
 obtain ⟨lbcw2,bcw20,bcw21,bcw22,bcw23,bcw24,bcw25,bcw26,bcw27⟩:=st8 s2 lbcW0 bcW00 bcW01 bcW02 bcW03 bcW04 bcW05 bcW06 bcW07
 clear S_w_W0 lbsW0 bsW00 lbcW0 bcW00 bcW01 bcW02 bcW03 bcW04 bcW05 bcW06 bcW07
 clear s2
 go_wp2_with fail
 refine (HFM.out _).mono ?_
 rintro e w3 ⟨rfl,s3⟩
 have S_w_w3:Hid (Same w w3):=S_w_w2.out.trans s3
 obtain ⟨lbsw3,bsw30⟩:=st1 s3 lbsw2 bsw20
 obtain ⟨lbcw3,bcw30,bcw31,bcw32,bcw33,bcw34,bcw35,bcw36,bcw37⟩:=st8 s3 lbcw2 bcw20 bcw21 bcw22 bcw23 bcw24 bcw25 bcw26 bcw27
 clear S_w_w2 lbsw2 bsw20 lbcw2 bcw20 bcw21 bcw22 bcw23 bcw24 bcw25 bcw26 bcw27
 clear s3
 go_wp2_with fail
 refine (HFD.out _ S_w_w3.out).mono ?_
 rintro e w4 ⟨rfl,s4⟩
 have S_w_w4:Hid (Same w w4):=S_w_w3.out.trans s4
 obtain ⟨lbsw4,bsw40⟩:=st1 s4 lbsw3 bsw30
 obtain ⟨lbcw4,bcw40,bcw41,bcw42,bcw43,bcw44,bcw45,bcw46,bcw47⟩:=st8 s4 lbcw3 bcw30 bcw31 bcw32 bcw33 bcw34 bcw35 bcw36 bcw37
 clear S_w_w3 lbsw3 bsw30 lbcw3 bcw30 bcw31 bcw32 bcw33 bcw34 bcw35 bcw36 bcw37
 clear s4
 go_wp2_with fail
 go_ret3
 exact ⟨rfl,S_w_w4.out⟩
def checkP (S:List Tb) (c:Cg):Int × Int:=if errOf S c = 0 then (findT S c.table,match S[(findT S c.table).toNat]? with | some t => colA t.attrs c.attr | none => 0) else (0,0)
theorem rcheck_ok (h:Hd) (ts:List RT) (c:Cg) (w:World) (a:TabsAt w h ts) (few:Few ts) (hn:okS c.name) :
  Calls Tryz.prog 41 #[.agg #[h.val],c.val] w fun e w' => e = .returned (.tuple #[.int .i64 (checkP (ts.map RT.tb) c).1,.int .i64 (checkP (ts.map RT.tb) c).2,.int .i64 (errOf (ts.map RT.tb) c)]) ∧ Same w w':=by
 have HV:=fun W (s:Same w W) => rvalid_s_ok h ts W (a.same s) few
 have HFM:=fun W => rformed_ok c W
 have HFD:=fun W (s:Same w W) => rfind_ok h ts c.table W (a.same s)
 have hl:ts.length = h.n:=a.1.1
 have hmm:(ts.map RT.tb).length = ts.length:=List.length_map _
 obtain ⟨A,m,cc⟩:=h
 obtain ⟨k,t,aa,n,to_,⟨dk,dn,ds⟩⟩:=c
 simp only at hl
 subst hl
 obtain ⟨S,hS⟩:∃ S,S = ts.map RT.tb:=⟨_,rfl⟩
 rw [← hS] at HV HFD hmm ⊢
 cases hv:(validB S && formedB ⟨k,t,aa,n,to_,⟨dk,dn,ds⟩⟩) with
 | false =>
  have e1:errOf S ⟨k,t,aa,n,to_,⟨dk,dn,ds⟩⟩ = 1:=by
   unfold errOf
   rw [Bool.and_comm] at hv
   rw [hv];rfl
  have e2:checkP S ⟨k,t,aa,n,to_,⟨dk,dn,ds⟩⟩ = (0,0):=by unfold checkP;rw [e1];rfl
  rw [e1,e2]
  exact rcheck_low A ts.length cc k t aa n to_ dk dn ds w _ _ (Lib.hid HV) (Lib.hid HFM) hv
 | true =>
  have hv':=hv
  rw [Bool.and_eq_true] at hv
  rw [hv.1] at HV
  rw [hv.2] at HFM
  have e0:∀ c':Cg,c' = ⟨k,t,aa,n,to_,⟨dk,dn,ds⟩⟩ → errOf S c' = (if findT S t < 0 then 11 else match S[(findT S t).toNat]? with | none => 11 | some tb => if decide (k ≠ 1) && decide (colA tb.attrs aa < 0) then 11 else checkE tb c' (colA tb.attrs aa).toNat):=by
   rintro c' rfl
   unfold errOf
   rw [Bool.and_comm] at hv'
   rw [hv'];rfl
  have e0:=e0 _ rfl
  rcases idxB_cases (fun x:Tb => decide (x.name = t)) S with ⟨hf,_⟩ | ⟨i,hi,hf,_⟩
  ·have hf':findT S t = -1:=hf
   have HFD':Rt 16 #[.agg #[(⟨A,ts.length,cc⟩:Hd).val],.string t] w (.int .i64 (findT S t)):=HFD
   rw [hf'] at e0 HFD'
   have e1:errOf S ⟨k,t,aa,n,to_,⟨dk,dn,ds⟩⟩ = 11:=by rw [e0];rfl
   have e2:checkP S ⟨k,t,aa,n,to_,⟨dk,dn,ds⟩⟩ = (0,0):=by unfold checkP;rw [e1];rfl
   rw [e1,e2]
   exact rcheck_none A ts.length cc k t aa n to_ dk dn ds w (Lib.hid HV) (Lib.hid HFM) (Lib.hid HFD')
  ·have hf':findT S t = (i:Int):=hf
   have HFD':Rt 16 #[.agg #[(⟨A,ts.length,cc⟩:Hd).val],.string t] w (.int .i64 (findT S t)):=HFD
   have hit:i < ts.length:=by rw [← hmm];exact hi
   have hsi:S[i] = ts[i].tb:=by simp only [hS,List.getElem_map]
   rw [hf',if_neg (by omega),Int.toNat_natCast,List.getElem?_eq_getElem hi,hsi] at e0
   simp only at e0
   rw [hf'] at HFD'
   have e2:checkP S ⟨k,t,aa,n,to_,⟨dk,dn,ds⟩⟩ = (if errOf S ⟨k,t,aa,n,to_,⟨dk,dn,ds⟩⟩ = 0 then (i:Int) else 0,if errOf S ⟨k,t,aa,n,to_,⟨dk,dn,ds⟩⟩ = 0 then colA ts[i].tb.attrs aa else 0):=by
    unfold checkP
    show (if _ then (findT S t,match S[(findT S t).toNat]? with | some t => colA t.attrs aa | none => 0) else (0,0)) = _
    rw [hf',Int.toNat_natCast,List.getElem?_eq_getElem hi,hsi]
    split <;> rfl
   rw [e2]
   obtain ⟨b,off,hA,blt,hc⟩:=a.1.2.2 i hit
   have hA':A = some ⟨b,off,none⟩:=hA
   subst hA'
   have hx:=a.2 _ (List.getElem_mem hit)
   have hk:k = 1 ∨ k = 2 ∨ k = 3 ∨ k = 4:=by
    have:=hv.2
    unfold formedB at this
    simp only at this
    split at this
    ·exact .inl (by assumption)
    ·split at this
     ·exact .inr (.inl (by assumption))
     ·split at this
      ·exact .inr (.inr (.inl (by assumption)))
      ·split at this
       ·exact .inr (.inr (.inr (by assumption)))
       ·cases this
   rcases hk with rfl | rfl | rfl | rfl
   ·exact rcheck_1 ts ts.length cc t aa n to_ dk dn ds w b off i ts[i] _ _ _ _ _ _ _ a hit hx blt hc (Lib.hid HV) (Lib.hid HFM) (Lib.hid HFD') rfl hn rfl rfl rfl rfl rfl (by rw [e0];rfl)
   ·exact rcheck_2 ts ts.length cc t aa n to_ dk dn ds w b off i ts[i] _ _ _ _ _ _ _ a hit hx blt hc (Lib.hid HV) (Lib.hid HFM) (Lib.hid HFD') rfl hn rfl rfl rfl rfl rfl (by rw [e0];rfl)
   ·exact rcheck_3 ts ts.length cc t aa n to_ dk dn ds w b off i ts[i] _ _ _ _ _ _ _ a hit hx blt hc (Lib.hid HV) (Lib.hid HFM) (Lib.hid HFD') rfl hn rfl rfl rfl rfl rfl (by rw [e0];rfl)
   ·exact rcheck_4 ts ts.length cc t aa n to_ dk dn ds w b off i ts[i] _ _ _ _ _ _ _ a hit hx blt hc (Lib.hid HV) (Lib.hid HFM) (Lib.hid HFD') rfl hn rfl rfl rfl rfl rfl (by rw [e0];rfl)
end Go.Proofs.YtfifnemnihcijaaGreatDoor

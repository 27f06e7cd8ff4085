import Derived.Test.YtfifnemnihcijaaGreatDoorKYa
import Derived.Test.YtfifnemnihcijaaGreatDoorKRa
set_option linter.unusedSimpArgs false
set_option linter.unusedVariables false
set_option maxHeartbeats 16000000
set_option maxRecDepth 100000
namespace Go.Proofs.YtfifnemnihcijaaGreatDoor
open Go.RowKit
theorem rcheck_1 (ts:List RT) (m cc:Nat) (t aa n:ByteArray) (to_ dk dn:Int) (ds:ByteArray) (w:World) (b off ti:Nat) (x:RT) (ca c2 E:Int) (qn qk qf qi:Bool)
  (a:TabsAt w ⟨some ⟨b,off,none⟩,ts.length,cc⟩ ts) (hti:ti < ts.length) (hx:TbAt w x) (blt:b < w.heap.size) (hc:∀ j v,x.cells[j]? = some v → w.cell? ⟨b,off + ti * 3 + j,none⟩ = some v)
  (HV:Hid (Rt 14 #[.agg #[.slice (some ⟨b,off,none⟩) ts.length cc]] w (.bool true)))
  (HFM:Hid (Rs 68 #[.agg #[.int .i64 1,.string t,.string aa,.string n,.int .i64 to_,.int .i64 dk,.int .i64 dn,.string ds]] (.bool true)))
  (HFD:Hid (Rt 16 #[.agg #[.slice (some ⟨b,off,none⟩) ts.length cc],.string t] w (.int .i64 (ti:Int))))
  (hca:colA x.tb.attrs aa = ca) (hn:okS n) (hqn:nameB n = qn) (hqk:kindB to_ = qk) (hqf:fitB to_ ⟨dk,dn,ds⟩ = qf) (hc2:colA x.tb.attrs n = c2) (hqi:(x.key.any fun k => decide (k = ca)) = qi)
  (hE:E = if false && decide (ca < 0) then 11 else checkE x.tb ⟨1,t,aa,n,to_,⟨dk,dn,ds⟩⟩ ca.toNat) :
  Calls Tryz.prog 41 #[.agg #[.slice (some ⟨b,off,none⟩) ts.length cc],.agg #[.int .i64 1,.string t,.string aa,.string n,.int .i64 to_,.int .i64 dk,.int .i64 dn,.string ds]] w fun e w' => e = .returned (.tuple #[.int .i64 (if E = 0 then (ti:Int) else 0),.int .i64 (if E = 0 then ca else 0),.int .i64 E]) ∧ Same w w':=by
 have hcb:=colA_lt x.tb.attrs aa
 rw [hca] at hcb
 have hlx:x.tb.attrs.length = x.ra.length:=List.length_map _
 have HC1:=Lib.hid (fun W (s:Same w W) => rcolumn_ok x aa W (hx.same s))
 have HC2:=Lib.hid (fun W (s:Same w W) => rcolumn_ok x n W (hx.same s))
 rw [hca] at HC1
 rw [hc2] at HC2
 have HNM:=Lib.hid (fun W => rname_ok n W hn)
 rw [hqn] at HNM
 have HKD:Hid (Rq 70 #[.int .i64 to_] (.bool qk)):=by rw [← hqk];exact Lib.hid (fun W => rkind_ok to_ W)
 have HFT:Hid (Rs 50 #[.int .i64 to_,.agg #[.int .i64 dk,.int .i64 dn,.string ds]] (.bool qf)):=by rw [← hqf];exact Lib.hid (fun W => rfit_ok to_ ⟨dk,dn,ds⟩ W)
 have HIN:Hid (Rt 71 #[x.hk.val,.int .i64 ca] w (.bool qi)):=by rw [← hqi];exact Lib.hid (fun W s => (rin_ok x.hk x.key ca W (hx.2.1.same s)).mono fun e w' ⟨he,hw⟩ => ⟨he,by rw [hw];exact Same.refl _⟩)
 have hal:x.ra.length = x.ha.n:=hx.1.1.1
 have hab:x.ha.n ≤ 9223372036854775807:=hx.1.1.2.1
 have HTS:Hid (x.tb.attrs.length = x.ra.length ∧ nameB n = qn ∧ kindB to_ = qk ∧ fitB to_ ⟨dk,dn,ds⟩ = qf ∧ colA x.tb.attrs n = c2 ∧ x.tb.key = x.key):=Lib.hid ⟨hlx,hqn,hqk,hqf,hc2,rfl⟩
 have HAT:Hid (∀ (j:Nat) (hj:j < x.ra.length),(x.tb.attrs.map At.kind)[j]? = some x.ra[j].at_.kind):=Lib.hid fun j hj => by simp [RT.tb,hj]
 have HAL:=Lib.hid hx.1.1
 have HEE:=Lib.hid hE
 have HQI:=Lib.hid hqi
 have hmb:ts.length ≤ 9223372036854775807:=a.1.2.1
 obtain ⟨TB,hTB⟩:∃ TB,TB = x.tb:=⟨_,rfl⟩
 rw [← hTB] at HTS HEE HAT hlx hcb
 rw [hlx] at hcb
 clear hE hqn hqk hqf hc2 hqi hca hx a hTB hlx
 obtain ⟨n1,⟨A1,m1,c1⟩,ra1,⟨A2,m2,c2'⟩,key1⟩:=x
 have y0:w.cell? ⟨b,off + ti * 3,none⟩ = some (.string n1):=hc 0 _ rfl
 have y1:w.cell? ⟨b,off + ti * 3 + 1,none⟩ = some (.slice A1 m1 c1):=hc 1 _ rfl
 have y2:w.cell? ⟨b,off + ti * 3 + 2,none⟩ = some (.slice A2 m2 c2'):=hc 2 _ rfl
 have hal':ra1.length = m1:=hal
 have hab':m1 ≤ 9223372036854775807:=hab
 subst hal'
 have HC1':Hid (Rt 20 #[.agg #[.string n1,.slice A1 ra1.length c1,.slice A2 m2 c2'],.string aa] w (.int .i64 ca)):=HC1
 have HC2':Hid (Rt 20 #[.agg #[.string n1,.slice A1 ra1.length c1,.slice A2 m2 c2'],.string n] w (.int .i64 c2)):=HC2
 have HIN':Hid (Rt 71 #[.slice A2 m2 c2',.int .i64 ca] w (.bool qi)):=HIN
 have HQI':Hid ((key1.any fun k => decide (k = ca)) = qi):=HQI
 have HTK:Hid (TB.key = key1):=HTS.out.2.2.2.2.2
 have HTL:Hid (TB.attrs.length = ra1.length):=HTS.out.1
 have HAL':Hid (Lies w 6 ⟨A1,ra1.length,c1⟩ RA.cells ra1):=HAL
 have HAT':Hid (∀ (j:Nat) (hj:j < ra1.length),(TB.attrs.map At.kind)[j]? = some ra1[j].at_.kind):=HAT
 have ti0:(0:Int) ≤ (ti:Int):=by omega
 have tiI:(ti:Int) < (ts.length:Int):=by omega
 have hcb':ca < (ra1.length:Int):=hcb.2
 have tn0:decide ((ti:Int) < 0) = false:=decide_eq_false (by omega)
 have e12:((1:Int) == 1) = true:=by decide
 have e2:((1:Int) == 2) = false:=by decide
 have e3:((1:Int) == 3) = false:=by decide
 have e4:((1:Int) == 4) = false:=by decide
 have e5:((1:Int) != 1) = false:=by decide
 clear HC1 HC2 HIN HQI HAL HAT hc hal hab
 obtain ⟨X,hX⟩:∃ X,X = (if E = 0 then (ti:Int) else 0):=⟨_,rfl⟩
 obtain ⟨Y,hY⟩:∃ Y,Y = (if E = 0 then ca else 0):=⟨_,rfl⟩
 rw [← hX,← hY]
 have HX:=Lib.hid hX
 have HY:=Lib.hid hY
 clear hX hY
 go_enter Tryz.func41,Tryz.ntmps41
 go_wp2_with fail
 obtain ⟨W0,hW0,S_w_W0,lbsW0,bsW00,lbcW0,bcW00,bcW01,bcW02,bcW03,bcW04,bcW05,bcW06,bcW07⟩:=open18 w 24 28 (.slice (some ⟨b,off,none⟩) ts.length cc) (.int .i64 1) (.string t) (.string aa) (.string n) (.int .i64 to_) (.int .i64 dk) (.int .i64 dn) (.string ds)
 rw [← hW0]
 clear hW0
 refine (HV.out _ S_w_W0.out).mono ?_
 rintro e w2 ⟨rfl,sw2⟩
 have S_w_w2:Hid (Same w w2):=S_w_W0.out.trans sw2
 obtain ⟨lbsw2,bsw20⟩:=st1 sw2 lbsW0 bsW00
 obtain ⟨lbcw2,bcw20,bcw21,bcw22,bcw23,bcw24,bcw25,bcw26,bcw27⟩:=st8 sw2 lbcW0 bcW00 bcW01 bcW02 bcW03 bcW04 bcW05 bcW06 bcW07
 clear S_w_W0 lbsW0 bsW00 lbcW0 bcW00 bcW01 bcW02 bcW03 bcW04 bcW05 bcW06 bcW07
 clear sw2
 go_wp2_with fail
 refine (HFM.out _).mono ?_
 rintro e w3 ⟨rfl,sw3⟩
 have S_w_w3:Hid (Same w w3):=S_w_w2.out.trans sw3
 obtain ⟨lbsw3,bsw30⟩:=st1 sw3 lbsw2 bsw20
 obtain ⟨lbcw3,bcw30,bcw31,bcw32,bcw33,bcw34,bcw35,bcw36,bcw37⟩:=st8 sw3 lbcw2 bcw20 bcw21 bcw22 bcw23 bcw24 bcw25 bcw26 bcw27
 clear S_w_w2 lbsw2 bsw20 lbcw2 bcw20 bcw21 bcw22 bcw23 bcw24 bcw25 bcw26 bcw27
 clear sw3
 clear HV HFM
 go_wp2_with fail
 refine (HFD.out _ S_w_w3.out).mono ?_
 rintro e w4 ⟨rfl,sw4⟩
 have S_w_w4:Hid (Same w w4):=S_w_w3.out.trans sw4
 obtain ⟨lbsw4,bsw40⟩:=st1 sw4 lbsw3 bsw30
 obtain ⟨lbcw4,bcw40,bcw41,bcw42,bcw43,bcw44,bcw45,bcw46,bcw47⟩:=st8 sw4 lbcw3 bcw30 bcw31 bcw32 bcw33 bcw34 bcw35 bcw36 bcw37
 clear S_w_w3 lbsw3 bsw30 lbcw3 bcw30 bcw31 bcw32 bcw33 bcw34 bcw35 bcw36 bcw37
 clear sw4
 clear HFD
 go_wp2_with fail
 have cC:=regr (w:=w4) (fun W s => HC1'.out W (S_w_w4.out.trans s))
 have kbs0:=cellr bsw40
 have kbc2:=cellr bcw42
 have kx0:=cellr ((S_w_w4.out.cells _ _ blt).trans y0)
 have kx1:=cellr ((S_w_w4.out.cells _ _ blt).trans y1)
 have kx2:=cellr ((S_w_w4.out.cells _ _ blt).trans y2)
 refine wp_region_quiet_below (by kernel_rfl) (by kernel_rfl) ?_
 repeat (go_big_quiet_step (first | (go_at_call 20;exact cC _ _)))
 refine wpQuiet_nil ?_
 intro _ hw'
 obtain ⟨⟨dq,osq⟩,hw''⟩:=hw'
 subst hw''
 have sw5:=Same.reg w4 dq osq
 generalize Sort.grow (redrawn w4 dq) osq = w5 at sw5 ⊢
 clear kbs0 kbc2 kx0 kx1 kx2 cC
 have S_w_w5:Hid (Same w w5):=S_w_w4.out.trans sw5
 obtain ⟨lbsw5,bsw50⟩:=st1 sw5 lbsw4 bsw40
 obtain ⟨lbcw5,bcw50,bcw51,bcw52,bcw53,bcw54,bcw55,bcw56,bcw57⟩:=st8 sw5 lbcw4 bcw40 bcw41 bcw42 bcw43 bcw44 bcw45 bcw46 bcw47
 clear S_w_w4 lbsw4 bsw40 lbcw4 bcw40 bcw41 bcw42 bcw43 bcw44 bcw45 bcw46 bcw47
 clear sw5
 have HE3:Hid (E = checkE TB ⟨1,t,aa,n,to_,⟨dk,dn,ds⟩⟩ ca.toNat):=by
  show _ = _
  rw [HEE.out];rfl
 have HEE:=HE3
 clear HE3
 go_wp2_with fail
 refine (HNM.out _).mono ?_
 rintro e wN ⟨rfl,rfl⟩
 cases qn with
 | false =>
  have HQ:Hid (E = 1):=by
   show _ = _
   rw [HEE.out]
   simp [checkE,typedB,freshE,HTS.out.2.1,HTS.out.2.2.1,HTS.out.2.2.2.1,HTS.out.2.2.2.2.1,HTK.out,HTL.out,HQI'.out]
  go_wp2_with fail
  go_ret3
  exact ⟨by rw [HX.out,HY.out,HQ.out];rfl,S_w_w5.out⟩
 | true =>
  go_wp2_with fail
  refine (HKD.out _).mono ?_
  rintro e wK ⟨rfl,rfl⟩
  cases qk with
  | false =>
   have HQ:Hid (E = 1):=by
    show _ = _
    rw [HEE.out]
    simp [checkE,typedB,freshE,HTS.out.2.1,HTS.out.2.2.1,HTS.out.2.2.2.1,HTS.out.2.2.2.2.1,HTK.out,HTL.out,HQI'.out]
   go_wp2_with fail
   go_ret3
   exact ⟨by rw [HX.out,HY.out,HQ.out];rfl,S_w_w5.out⟩
  | true =>
   go_wp2_with fail
   refine (HFT.out _).mono ?_
   rintro e w7 ⟨rfl,sw7⟩
   have S_w_w7:Hid (Same w w7):=S_w_w5.out.trans sw7
   obtain ⟨lbsw7,bsw70⟩:=st1 sw7 lbsw5 bsw50
   obtain ⟨lbcw7,bcw70,bcw71,bcw72,bcw73,bcw74,bcw75,bcw76,bcw77⟩:=st8 sw7 lbcw5 bcw50 bcw51 bcw52 bcw53 bcw54 bcw55 bcw56 bcw57
   clear S_w_w5 lbsw5 bsw50 lbcw5 bcw50 bcw51 bcw52 bcw53 bcw54 bcw55 bcw56 bcw57
   clear sw7
   cases qf with
   | false =>
    have HQ:Hid (E = 1):=by
     show _ = _
     rw [HEE.out]
     simp [checkE,typedB,freshE,HTS.out.2.1,HTS.out.2.2.1,HTS.out.2.2.2.1,HTS.out.2.2.2.2.1,HTK.out,HTL.out,HQI'.out]
    go_wp2_with fail
    go_ret3
    exact ⟨by rw [HX.out,HY.out,HQ.out];rfl,S_w_w7.out⟩
   | true =>
    go_wp2_with fail
    have kbc0:=cellr bcw70
    refine wp_region_quiet_below (by kernel_rfl) (by kernel_rfl) ?_
    repeat (go_big_quiet_step (fail))
    refine wpQuiet_nil ?_
    intro _ hw'
    obtain ⟨⟨dq,osq⟩,hw''⟩:=hw'
    subst hw''
    have sw8:=Same.reg w7 dq osq
    generalize Sort.grow (redrawn w7 dq) osq = w8 at sw8 ⊢
    clear kbc0
    have S_w_w8:Hid (Same w w8):=S_w_w7.out.trans sw8
    obtain ⟨lbsw8,bsw80⟩:=st1 sw8 lbsw7 bsw70
    obtain ⟨lbcw8,bcw80,bcw81,bcw82,bcw83,bcw84,bcw85,bcw86,bcw87⟩:=st8 sw8 lbcw7 bcw70 bcw71 bcw72 bcw73 bcw74 bcw75 bcw76 bcw77
    clear S_w_w7 lbsw7 bsw70 lbcw7 bcw70 bcw71 bcw72 bcw73 bcw74 bcw75 bcw76 bcw77
    clear sw8
    go_wp2_with fail
    by_cases h9:0 ≤ c2
    case pos =>
     have t9:decide (0 ≤ c2) = true:=decide_eq_true h9
     have H9:=Lib.hid h9
     clear h9
     have cC:=regr (w:=w8) (fun W s => HC2'.out W (S_w_w8.out.trans s))
     have kbs0:=cellr bsw80
     have kbc3:=cellr bcw83
     have kx0:=cellr ((S_w_w8.out.cells _ _ blt).trans y0)
     have kx1:=cellr ((S_w_w8.out.cells _ _ blt).trans y1)
     have kx2:=cellr ((S_w_w8.out.cells _ _ blt).trans y2)
     refine wp_region_quiet_below (by kernel_rfl) (by kernel_rfl) ?_
     repeat (go_big_quiet_step (first | (go_at_call 20;exact cC _ _)))
     refine wpQuiet_nil ?_
     intro _ hw'
     obtain ⟨⟨dq,osq⟩,hw''⟩:=hw'
     subst hw''
     have sw9:=Same.reg w8 dq osq
     generalize Sort.grow (redrawn w8 dq) osq = w9 at sw9 ⊢
     clear kbs0 kbc3 kx0 kx1 kx2 cC
     have S_w_w9:Hid (Same w w9):=S_w_w8.out.trans sw9
     obtain ⟨lbsw9,bsw90⟩:=st1 sw9 lbsw8 bsw80
     obtain ⟨lbcw9,bcw90,bcw91,bcw92,bcw93,bcw94,bcw95,bcw96,bcw97⟩:=st8 sw9 lbcw8 bcw80 bcw81 bcw82 bcw83 bcw84 bcw85 bcw86 bcw87
     clear S_w_w8 lbsw8 bsw80 lbcw8 bcw80 bcw81 bcw82 bcw83 bcw84 bcw85 bcw86 bcw87
     clear sw9
     clear t9
     have HQ:Hid (E = 9):=by
      show _ = _
      rw [HEE.out]
      simp [checkE,typedB,freshE,HTS.out.2.1,HTS.out.2.2.1,HTS.out.2.2.2.1,HTS.out.2.2.2.2.1,HTK.out,HTL.out,HQI'.out,H9.out]
     go_wp2_with fail
     go_ret3
     exact ⟨by rw [HX.out,HY.out,HQ.out];rfl,S_w_w9.out⟩
    case neg =>
     have t9:decide (0 ≤ c2) = false:=decide_eq_false h9
     have H9:=Lib.hid h9
     clear h9
     have cC:=regr (w:=w8) (fun W s => HC2'.out W (S_w_w8.out.trans s))
     have kbs0:=cellr bsw80
     have kbc3:=cellr bcw83
     have kx0:=cellr ((S_w_w8.out.cells _ _ blt).trans y0)
     have kx1:=cellr ((S_w_w8.out.cells _ _ blt).trans y1)
     have kx2:=cellr ((S_w_w8.out.cells _ _ blt).trans y2)
     refine wp_region_quiet_below (by kernel_rfl) (by kernel_rfl) ?_
     repeat (go_big_quiet_step (first | (go_at_call 20;exact cC _ _)))
     refine wpQuiet_nil ?_
     intro _ hw'
     obtain ⟨⟨dq,osq⟩,hw''⟩:=hw'
     subst hw''
     have sw10:=Same.reg w8 dq osq
     generalize Sort.grow (redrawn w8 dq) osq = w10 at sw10 ⊢
     clear kbs0 kbc3 kx0 kx1 kx2 cC
     have S_w_w10:Hid (Same w w10):=S_w_w8.out.trans sw10
     obtain ⟨lbsw10,bsw100⟩:=st1 sw10 lbsw8 bsw80
     obtain ⟨lbcw10,bcw100,bcw101,bcw102,bcw103,bcw104,bcw105,bcw106,bcw107⟩:=st8 sw10 lbcw8 bcw80 bcw81 bcw82 bcw83 bcw84 bcw85 bcw86 bcw87
     clear S_w_w8 lbsw8 bsw80 lbcw8 bcw80 bcw81 bcw82 bcw83 bcw84 bcw85 bcw86 bcw87
     clear sw10
     clear t9
     have x0w10:=(S_w_w10.out.cells _ _ blt).trans y0
     have x1w10:=(S_w_w10.out.cells _ _ blt).trans y1
     have x2w10:=(S_w_w10.out.cells _ _ blt).trans y2
     by_cases hl:ra1.length = 12
     case pos =>
      have tl:((ra1.length:Int) == 12) = true:=by simp;omega
      have HL:=Lib.hid hl
      clear hl
      have HQ:Hid (E = 3):=by
       show _ = _
       rw [HEE.out]
       simp [checkE,typedB,freshE,HTS.out.2.1,HTS.out.2.2.1,HTS.out.2.2.2.1,HTS.out.2.2.2.2.1,HTK.out,HTL.out,HQI'.out,H9.out,HL.out]
      go_wp2_with fail
      go_ret3
      exact ⟨by rw [HX.out,HY.out,HQ.out];rfl,S_w_w10.out⟩
     case neg =>
      have tl:((ra1.length:Int) == 12) = false:=by simp;omega
      have HL:=Lib.hid hl
      clear hl
      have HQ:Hid (E = 0):=by
       show _ = _
       rw [HEE.out]
       simp [checkE,typedB,freshE,HTS.out.2.1,HTS.out.2.2.1,HTS.out.2.2.2.1,HTS.out.2.2.2.2.1,HTK.out,HTL.out,HQI'.out,H9.out,HL.out]
      go_wp2_with fail
      go_ret3
      exact ⟨by rw [HX.out,HY.out,HQ.out];rfl,S_w_w10.out⟩
theorem rcheck_2 (ts:List RT) (m cc:Nat) (t aa n:ByteArray) (to_ dk dn:Int) (ds:ByteArray) (w:World) (b off ti:Nat) (x:RT) (ca c2 E:Int) (qn qk qf qi:Bool)
  (a:TabsAt w ⟨some ⟨b,off,none⟩,ts.length,cc⟩ ts) (hti:ti < ts.length) (hx:TbAt w x) (blt:b < w.heap.size) (hc:∀ j v,x.cells[j]? = some v → w.cell? ⟨b,off + ti * 3 + j,none⟩ = some v)
  (HV:Hid (Rt 14 #[.agg #[.slice (some ⟨b,off,none⟩) ts.length cc]] w (.bool true)))
  (HFM:Hid (Rs 68 #[.agg #[.int .i64 2,.string t,.string aa,.string n,.int .i64 to_,.int .i64 dk,.int .i64 dn,.string ds]] (.bool true)))
  (HFD:Hid (Rt 16 #[.agg #[.slice (some ⟨b,off,none⟩) ts.length cc],.string t] w (.int .i64 (ti:Int))))
  (hca:colA x.tb.attrs aa = ca) (hn:okS n) (hqn:nameB n = qn) (hqk:kindB to_ = qk) (hqf:fitB to_ ⟨dk,dn,ds⟩ = qf) (hc2:colA x.tb.attrs n = c2) (hqi:(x.key.any fun k => decide (k = ca)) = qi)
  (hE:E = if true && decide (ca < 0) then 11 else checkE x.tb ⟨2,t,aa,n,to_,⟨dk,dn,ds⟩⟩ ca.toNat) :
  Calls Tryz.prog 41 #[.agg #[.slice (some ⟨b,off,none⟩) ts.length cc],.agg #[.int .i64 2,.string t,.string aa,.string n,.int .i64 to_,.int .i64 dk,.int .i64 dn,.string ds]] w fun e w' => e = .returned (.tuple #[.int .i64 (if E = 0 then (ti:Int) else 0),.int .i64 (if E = 0 then ca else 0),.int .i64 E]) ∧ Same w w':=by
 have hcb:=colA_lt x.tb.attrs aa
 rw [hca] at hcb
 have hlx:x.tb.attrs.length = x.ra.length:=List.length_map _
 have HC1:=Lib.hid (fun W (s:Same w W) => rcolumn_ok x aa W (hx.same s))
 have HC2:=Lib.hid (fun W (s:Same w W) => rcolumn_ok x n W (hx.same s))
 rw [hca] at HC1
 rw [hc2] at HC2
 have HNM:=Lib.hid (fun W => rname_ok n W hn)
 rw [hqn] at HNM
 have HKD:Hid (Rq 70 #[.int .i64 to_] (.bool qk)):=by rw [← hqk];exact Lib.hid (fun W => rkind_ok to_ W)
 have HFT:Hid (Rs 50 #[.int .i64 to_,.agg #[.int .i64 dk,.int .i64 dn,.string ds]] (.bool qf)):=by rw [← hqf];exact Lib.hid (fun W => rfit_ok to_ ⟨dk,dn,ds⟩ W)
 have HIN:Hid (Rt 71 #[x.hk.val,.int .i64 ca] w (.bool qi)):=by rw [← hqi];exact Lib.hid (fun W s => (rin_ok x.hk x.key ca W (hx.2.1.same s)).mono fun e w' ⟨he,hw⟩ => ⟨he,by rw [hw];exact Same.refl _⟩)
 have hal:x.ra.length = x.ha.n:=hx.1.1.1
 have hab:x.ha.n ≤ 9223372036854775807:=hx.1.1.2.1
 have HTS:Hid (x.tb.attrs.length = x.ra.length ∧ nameB n = qn ∧ kindB to_ = qk ∧ fitB to_ ⟨dk,dn,ds⟩ = qf ∧ colA x.tb.attrs n = c2 ∧ x.tb.key = x.key):=Lib.hid ⟨hlx,hqn,hqk,hqf,hc2,rfl⟩
 have HAT:Hid (∀ (j:Nat) (hj:j < x.ra.length),(x.tb.attrs.map At.kind)[j]? = some x.ra[j].at_.kind):=Lib.hid fun j hj => by simp [RT.tb,hj]
 have HAL:=Lib.hid hx.1.1
 have HEE:=Lib.hid hE
 have HQI:=Lib.hid hqi
 have hmb:ts.length ≤ 9223372036854775807:=a.1.2.1
 obtain ⟨TB,hTB⟩:∃ TB,TB = x.tb:=⟨_,rfl⟩
 rw [← hTB] at HTS HEE HAT hlx hcb
 rw [hlx] at hcb
 clear hE hqn hqk hqf hc2 hqi hca hx a hTB hlx
 obtain ⟨n1,⟨A1,m1,c1⟩,ra1,⟨A2,m2,c2'⟩,key1⟩:=x
 have y0:w.cell? ⟨b,off + ti * 3,none⟩ = some (.string n1):=hc 0 _ rfl
 have y1:w.cell? ⟨b,off + ti * 3 + 1,none⟩ = some (.slice A1 m1 c1):=hc 1 _ rfl
 have y2:w.cell? ⟨b,off + ti * 3 + 2,none⟩ = some (.slice A2 m2 c2'):=hc 2 _ rfl
 have hal':ra1.length = m1:=hal
 have hab':m1 ≤ 9223372036854775807:=hab
 subst hal'
 have HC1':Hid (Rt 20 #[.agg #[.string n1,.slice A1 ra1.length c1,.slice A2 m2 c2'],.string aa] w (.int .i64 ca)):=HC1
 have HC2':Hid (Rt 20 #[.agg #[.string n1,.slice A1 ra1.length c1,.slice A2 m2 c2'],.string n] w (.int .i64 c2)):=HC2
 have HIN':Hid (Rt 71 #[.slice A2 m2 c2',.int .i64 ca] w (.bool qi)):=HIN
 have HQI':Hid ((key1.any fun k => decide (k = ca)) = qi):=HQI
 have HTK:Hid (TB.key = key1):=HTS.out.2.2.2.2.2
 have HTL:Hid (TB.attrs.length = ra1.length):=HTS.out.1
 have HAL':Hid (Lies w 6 ⟨A1,ra1.length,c1⟩ RA.cells ra1):=HAL
 have HAT':Hid (∀ (j:Nat) (hj:j < ra1.length),(TB.attrs.map At.kind)[j]? = some ra1[j].at_.kind):=HAT
 have ti0:(0:Int) ≤ (ti:Int):=by omega
 have tiI:(ti:Int) < (ts.length:Int):=by omega
 have hcb':ca < (ra1.length:Int):=hcb.2
 have tn0:decide ((ti:Int) < 0) = false:=decide_eq_false (by omega)
 have e12:((2:Int) == 1) = false:=by decide
 have e2:((2:Int) == 2) = true:=by decide
 have e3:((2:Int) == 3) = false:=by decide
 have e4:((2:Int) == 4) = false:=by decide
 have e5:((2:Int) != 1) = true:=by decide
 clear HC1 HC2 HIN HQI HAL HAT hc hal hab
 obtain ⟨X,hX⟩:∃ X,X = (if E = 0 then (ti:Int) else 0):=⟨_,rfl⟩
 obtain ⟨Y,hY⟩:∃ Y,Y = (if E = 0 then ca else 0):=⟨_,rfl⟩
 rw [← hX,← hY]
 have HX:=Lib.hid hX
 have HY:=Lib.hid hY
 clear hX hY
 go_enter Tryz.func41,Tryz.ntmps41
 go_wp2_with fail
 obtain ⟨W0,hW0,S_w_W0,lbsW0,bsW00,lbcW0,bcW00,bcW01,bcW02,bcW03,bcW04,bcW05,bcW06,bcW07⟩:=open18 w 24 28 (.slice (some ⟨b,off,none⟩) ts.length cc) (.int .i64 2) (.string t) (.string aa) (.string n) (.int .i64 to_) (.int .i64 dk) (.int .i64 dn) (.string ds)
 rw [← hW0]
 clear hW0
 refine (HV.out _ S_w_W0.out).mono ?_
 rintro e w2 ⟨rfl,sw2⟩
 have S_w_w2:Hid (Same w w2):=S_w_W0.out.trans sw2
 obtain ⟨lbsw2,bsw20⟩:=st1 sw2 lbsW0 bsW00
 obtain ⟨lbcw2,bcw20,bcw21,bcw22,bcw23,bcw24,bcw25,bcw26,bcw27⟩:=st8 sw2 lbcW0 bcW00 bcW01 bcW02 bcW03 bcW04 bcW05 bcW06 bcW07
 clear S_w_W0 lbsW0 bsW00 lbcW0 bcW00 bcW01 bcW02 bcW03 bcW04 bcW05 bcW06 bcW07
 clear sw2
 go_wp2_with fail
 refine (HFM.out _).mono ?_
 rintro e w3 ⟨rfl,sw3⟩
 have S_w_w3:Hid (Same w w3):=S_w_w2.out.trans sw3
 obtain ⟨lbsw3,bsw30⟩:=st1 sw3 lbsw2 bsw20
 obtain ⟨lbcw3,bcw30,bcw31,bcw32,bcw33,bcw34,bcw35,bcw36,bcw37⟩:=st8 sw3 lbcw2 bcw20 bcw21 bcw22 bcw23 bcw24 bcw25 bcw26 bcw27
 clear S_w_w2 lbsw2 bsw20 lbcw2 bcw20 bcw21 bcw22 bcw23 bcw24 bcw25 bcw26 bcw27
 clear sw3
 clear HV HFM
 go_wp2_with fail
 refine (HFD.out _ S_w_w3.out).mono ?_
 rintro e w4 ⟨rfl,sw4⟩
 have S_w_w4:Hid (Same w w4):=S_w_w3.out.trans sw4
 obtain ⟨lbsw4,bsw40⟩:=st1 sw4 lbsw3 bsw30
 obtain ⟨lbcw4,bcw40,bcw41,bcw42,bcw43,bcw44,bcw45,bcw46,bcw47⟩:=st8 sw4 lbcw3 bcw30 bcw31 bcw32 bcw33 bcw34 bcw35 bcw36 bcw37
 clear S_w_w3 lbsw3 bsw30 lbcw3 bcw30 bcw31 bcw32 bcw33 bcw34 bcw35 bcw36 bcw37
 clear sw4
 clear HFD
 go_wp2_with fail
 have cC:=regr (w:=w4) (fun W s => HC1'.out W (S_w_w4.out.trans s))
 have kbs0:=cellr bsw40
 have kbc2:=cellr bcw42
 have kx0:=cellr ((S_w_w4.out.cells _ _ blt).trans y0)
 have kx1:=cellr ((S_w_w4.out.cells _ _ blt).trans y1)
 have kx2:=cellr ((S_w_w4.out.cells _ _ blt).trans y2)
 refine wp_region_quiet_below (by kernel_rfl) (by kernel_rfl) ?_
 repeat (go_big_quiet_step (first | (go_at_call 20;exact cC _ _)))
 refine wpQuiet_nil ?_
 intro _ hw'
 obtain ⟨⟨dq,osq⟩,hw''⟩:=hw'
 subst hw''
 have sw5:=Same.reg w4 dq osq
 generalize Sort.grow (redrawn w4 dq) osq = w5 at sw5 ⊢
 clear kbs0 kbc2 kx0 kx1 kx2 cC
 have S_w_w5:Hid (Same w w5):=S_w_w4.out.trans sw5
 obtain ⟨lbsw5,bsw50⟩:=st1 sw5 lbsw4 bsw40
 obtain ⟨lbcw5,bcw50,bcw51,bcw52,bcw53,bcw54,bcw55,bcw56,bcw57⟩:=st8 sw5 lbcw4 bcw40 bcw41 bcw42 bcw43 bcw44 bcw45 bcw46 bcw47
 clear S_w_w4 lbsw4 bsw40 lbcw4 bcw40 bcw41 bcw42 bcw43 bcw44 bcw45 bcw46 bcw47
 clear sw5
 by_cases hneg:ca < 0
 case pos =>
  have tc:decide (ca < 0) = true:=decide_eq_true hneg
  have HNG:=Lib.hid hneg
  clear hneg
  have HQ:Hid (E = 11):=by
   show _ = _
   rw [HEE.out]
   rw [decide_eq_true HNG.out];rfl
  go_wp2_with fail
  go_ret3
  exact ⟨by rw [HX.out,HY.out,HQ.out];rfl,S_w_w5.out⟩
 have tc:decide (ca < 0) = false:=decide_eq_false hneg
 obtain ⟨cj,hcj⟩:∃ cj:Nat,ca = cj:=⟨ca.toNat,by omega⟩
 subst hcj
 have HE3:Hid (E = checkE TB ⟨2,t,aa,n,to_,⟨dk,dn,ds⟩⟩ cj):=by
  show _ = _
  rw [HEE.out,decide_eq_false hneg];rfl
 have hcjl:cj < ra1.length:=by omega
 have HNC:Hid (colA TB.attrs n = c2):=HTS.out.2.2.2.2.1
 clear hneg
 have HEE:=HE3
 clear HE3
 go_wp2_with fail
 cases qi with
 | true =>
  have cI:=regr (w:=w5) (fun W s => HIN'.out W (S_w_w5.out.trans s))
  have kbs0:=cellr bsw50
  have kbc0:=cellr bcw50
  have kx2:=cellr ((S_w_w5.out.cells _ _ blt).trans y2)
  refine wp_region_quiet_below (by kernel_rfl) (by kernel_rfl) ?_
  repeat (go_big_quiet_step (first | (go_at_call 71;exact cI _ _)))
  refine wpQuiet_nil ?_
  intro _ hw'
  obtain ⟨⟨dq,osq⟩,hw''⟩:=hw'
  subst hw''
  have sw6:=Same.reg w5 dq osq
  generalize Sort.grow (redrawn w5 dq) osq = w6 at sw6 ⊢
  clear kbs0 kbc0 kx2 cI
  have S_w_w6:Hid (Same w w6):=S_w_w5.out.trans sw6
  obtain ⟨lbsw6,bsw60⟩:=st1 sw6 lbsw5 bsw50
  obtain ⟨lbcw6,bcw60,bcw61,bcw62,bcw63,bcw64,bcw65,bcw66,bcw67⟩:=st8 sw6 lbcw5 bcw50 bcw51 bcw52 bcw53 bcw54 bcw55 bcw56 bcw57
  clear S_w_w5 lbsw5 bsw50 lbcw5 bcw50 bcw51 bcw52 bcw53 bcw54 bcw55 bcw56 bcw57
  clear sw6
  have HQ:Hid (E = 1):=by
   show _ = _
   rw [HEE.out]
   simp [checkE,typedB,freshE,HTS.out.2.1,HTS.out.2.2.1,HTS.out.2.2.2.1,HTS.out.2.2.2.2.1,HTK.out,HTL.out,HQI'.out]
  go_wp2_with fail
  go_ret3
  exact ⟨by rw [HX.out,HY.out,HQ.out];rfl,S_w_w6.out⟩
 | false =>
  have cI:=regr (w:=w5) (fun W s => HIN'.out W (S_w_w5.out.trans s))
  have kbs0:=cellr bsw50
  have kbc0:=cellr bcw50
  have kx2:=cellr ((S_w_w5.out.cells _ _ blt).trans y2)
  refine wp_region_quiet_below (by kernel_rfl) (by kernel_rfl) ?_
  repeat (go_big_quiet_step (first | (go_at_call 71;exact cI _ _)))
  refine wpQuiet_nil ?_
  intro _ hw'
  obtain ⟨⟨dq,osq⟩,hw''⟩:=hw'
  subst hw''
  have sw7:=Same.reg w5 dq osq
  generalize Sort.grow (redrawn w5 dq) osq = w7 at sw7 ⊢
  clear kbs0 kbc0 kx2 cI
  have S_w_w7:Hid (Same w w7):=S_w_w5.out.trans sw7
  obtain ⟨lbsw7,bsw70⟩:=st1 sw7 lbsw5 bsw50
  obtain ⟨lbcw7,bcw70,bcw71,bcw72,bcw73,bcw74,bcw75,bcw76,bcw77⟩:=st8 sw7 lbcw5 bcw50 bcw51 bcw52 bcw53 bcw54 bcw55 bcw56 bcw57
  clear S_w_w5 lbsw5 bsw50 lbcw5 bcw50 bcw51 bcw52 bcw53 bcw54 bcw55 bcw56 bcw57
  clear sw7
  go_wp2_with fail
  refine wp_region_quiet_below (by kernel_rfl) (by kernel_rfl) ?_
  repeat (go_big_quiet_step (fail))
  refine wpQuiet_nil ?_
  intro _ hw'
  obtain ⟨⟨dq,osq⟩,hw''⟩:=hw'
  subst hw''
  have sw8:=Same.reg w7 dq osq
  generalize Sort.grow (redrawn w7 dq) osq = w8 at sw8 ⊢
  clear e12
  have S_w_w8:Hid (Same w w8):=S_w_w7.out.trans sw8
  obtain ⟨lbsw8,bsw80⟩:=st1 sw8 lbsw7 bsw70
  obtain ⟨lbcw8,bcw80,bcw81,bcw82,bcw83,bcw84,bcw85,bcw86,bcw87⟩:=st8 sw8 lbcw7 bcw70 bcw71 bcw72 bcw73 bcw74 bcw75 bcw76 bcw77
  clear S_w_w7 lbsw7 bsw70 lbcw7 bcw70 bcw71 bcw72 bcw73 bcw74 bcw75 bcw76 bcw77
  clear sw8
  have e12:((2:Int) == 1) = false:=by decide
  have HQ:Hid (E = 0):=by
   show _ = _
   rw [HEE.out]
   simp [checkE,typedB,freshE,HTS.out.2.1,HTS.out.2.2.1,HTS.out.2.2.2.1,HTS.out.2.2.2.2.1,HTK.out,HTL.out,HQI'.out]
  go_wp2_with fail
  go_ret3
  exact ⟨by rw [HX.out,HY.out,HQ.out];rfl,S_w_w8.out⟩
theorem rcheck_3 (ts:List RT) (m cc:Nat) (t aa n:ByteArray) (to_ dk dn:Int) (ds:ByteArray) (w:World) (b off ti:Nat) (x:RT) (ca c2 E:Int) (qn qk qf qi:Bool)
  (a:TabsAt w ⟨some ⟨b,off,none⟩,ts.length,cc⟩ ts) (hti:ti < ts.length) (hx:TbAt w x) (blt:b < w.heap.size) (hc:∀ j v,x.cells[j]? = some v → w.cell? ⟨b,off + ti * 3 + j,none⟩ = some v)
  (HV:Hid (Rt 14 #[.agg #[.slice (some ⟨b,off,none⟩) ts.length cc]] w (.bool true)))
  (HFM:Hid (Rs 68 #[.agg #[.int .i64 3,.string t,.string aa,.string n,.int .i64 to_,.int .i64 dk,.int .i64 dn,.string ds]] (.bool true)))
  (HFD:Hid (Rt 16 #[.agg #[.slice (some ⟨b,off,none⟩) ts.length cc],.string t] w (.int .i64 (ti:Int))))
  (hca:colA x.tb.attrs aa = ca) (hn:okS n) (hqn:nameB n = qn) (hqk:kindB to_ = qk) (hqf:fitB to_ ⟨dk,dn,ds⟩ = qf) (hc2:colA x.tb.attrs n = c2) (hqi:(x.key.any fun k => decide (k = ca)) = qi)
  (hE:E = if true && decide (ca < 0) then 11 else checkE x.tb ⟨3,t,aa,n,to_,⟨dk,dn,ds⟩⟩ ca.toNat) :
  Calls Tryz.prog 41 #[.agg #[.slice (some ⟨b,off,none⟩) ts.length cc],.agg #[.int .i64 3,.string t,.string aa,.string n,.int .i64 to_,.int .i64 dk,.int .i64 dn,.string ds]] w fun e w' => e = .returned (.tuple #[.int .i64 (if E = 0 then (ti:Int) else 0),.int .i64 (if E = 0 then ca else 0),.int .i64 E]) ∧ Same w w':=by
 have hcb:=colA_lt x.tb.attrs aa
 rw [hca] at hcb
 have hlx:x.tb.attrs.length = x.ra.length:=List.length_map _
 have HC1:=Lib.hid (fun W (s:Same w W) => rcolumn_ok x aa W (hx.same s))
 have HC2:=Lib.hid (fun W (s:Same w W) => rcolumn_ok x n W (hx.same s))
 rw [hca] at HC1
 rw [hc2] at HC2
 have HNM:=Lib.hid (fun W => rname_ok n W hn)
 rw [hqn] at HNM
 have HKD:Hid (Rq 70 #[.int .i64 to_] (.bool qk)):=by rw [← hqk];exact Lib.hid (fun W => rkind_ok to_ W)
 have HFT:Hid (Rs 50 #[.int .i64 to_,.agg #[.int .i64 dk,.int .i64 dn,.string ds]] (.bool qf)):=by rw [← hqf];exact Lib.hid (fun W => rfit_ok to_ ⟨dk,dn,ds⟩ W)
 have HIN:Hid (Rt 71 #[x.hk.val,.int .i64 ca] w (.bool qi)):=by rw [← hqi];exact Lib.hid (fun W s => (rin_ok x.hk x.key ca W (hx.2.1.same s)).mono fun e w' ⟨he,hw⟩ => ⟨he,by rw [hw];exact Same.refl _⟩)
 have hal:x.ra.length = x.ha.n:=hx.1.1.1
 have hab:x.ha.n ≤ 9223372036854775807:=hx.1.1.2.1
 have HTS:Hid (x.tb.attrs.length = x.ra.length ∧ nameB n = qn ∧ kindB to_ = qk ∧ fitB to_ ⟨dk,dn,ds⟩ = qf ∧ colA x.tb.attrs n = c2 ∧ x.tb.key = x.key):=Lib.hid ⟨hlx,hqn,hqk,hqf,hc2,rfl⟩
 have HAT:Hid (∀ (j:Nat) (hj:j < x.ra.length),(x.tb.attrs.map At.kind)[j]? = some x.ra[j].at_.kind):=Lib.hid fun j hj => by simp [RT.tb,hj]
 have HAL:=Lib.hid hx.1.1
 have HEE:=Lib.hid hE
 have HQI:=Lib.hid hqi
 have hmb:ts.length ≤ 9223372036854775807:=a.1.2.1
 obtain ⟨TB,hTB⟩:∃ TB,TB = x.tb:=⟨_,rfl⟩
 rw [← hTB] at HTS HEE HAT hlx hcb
 rw [hlx] at hcb
 clear hE hqn hqk hqf hc2 hqi hca hx a hTB hlx
 obtain ⟨n1,⟨A1,m1,c1⟩,ra1,⟨A2,m2,c2'⟩,key1⟩:=x
 have y0:w.cell? ⟨b,off + ti * 3,none⟩ = some (.string n1):=hc 0 _ rfl
 have y1:w.cell? ⟨b,off + ti * 3 + 1,none⟩ = some (.slice A1 m1 c1):=hc 1 _ rfl
 have y2:w.cell? ⟨b,off + ti * 3 + 2,none⟩ = some (.slice A2 m2 c2'):=hc 2 _ rfl
 have hal':ra1.length = m1:=hal
 have hab':m1 ≤ 9223372036854775807:=hab
 subst hal'
 have HC1':Hid (Rt 20 #[.agg #[.string n1,.slice A1 ra1.length c1,.slice A2 m2 c2'],.string aa] w (.int .i64 ca)):=HC1
 have HC2':Hid (Rt 20 #[.agg #[.string n1,.slice A1 ra1.length c1,.slice A2 m2 c2'],.string n] w (.int .i64 c2)):=HC2
 have HIN':Hid (Rt 71 #[.slice A2 m2 c2',.int .i64 ca] w (.bool qi)):=HIN
 have HQI':Hid ((key1.any fun k => decide (k = ca)) = qi):=HQI
 have HTK:Hid (TB.key = key1):=HTS.out.2.2.2.2.2
 have HTL:Hid (TB.attrs.length = ra1.length):=HTS.out.1
 have HAL':Hid (Lies w 6 ⟨A1,ra1.length,c1⟩ RA.cells ra1):=HAL
 have HAT':Hid (∀ (j:Nat) (hj:j < ra1.length),(TB.attrs.map At.kind)[j]? = some ra1[j].at_.kind):=HAT
 have ti0:(0:Int) ≤ (ti:Int):=by omega
 have tiI:(ti:Int) < (ts.length:Int):=by omega
 have hcb':ca < (ra1.length:Int):=hcb.2
 have tn0:decide ((ti:Int) < 0) = false:=decide_eq_false (by omega)
 have e12:((3:Int) == 1) = false:=by decide
 have e2:((3:Int) == 2) = false:=by decide
 have e3:((3:Int) == 3) = true:=by decide
 have e4:((3:Int) == 4) = false:=by decide
 have e5:((3:Int) != 1) = true:=by decide
 clear HC1 HC2 HIN HQI HAL HAT hc hal hab
 obtain ⟨X,hX⟩:∃ X,X = (if E = 0 then (ti:Int) else 0):=⟨_,rfl⟩
 obtain ⟨Y,hY⟩:∃ Y,Y = (if E = 0 then ca else 0):=⟨_,rfl⟩
 rw [← hX,← hY]
 have HX:=Lib.hid hX
 have HY:=Lib.hid hY
 clear hX hY
 go_enter Tryz.func41,Tryz.ntmps41
 go_wp2_with fail
 obtain ⟨W0,hW0,S_w_W0,lbsW0,bsW00,lbcW0,bcW00,bcW01,bcW02,bcW03,bcW04,bcW05,bcW06,bcW07⟩:=open18 w 24 28 (.slice (some ⟨b,off,none⟩) ts.length cc) (.int .i64 3) (.string t) (.string aa) (.string n) (.int .i64 to_) (.int .i64 dk) (.int .i64 dn) (.string ds)
 rw [← hW0]
 clear hW0
 refine (HV.out _ S_w_W0.out).mono ?_
 rintro e w2 ⟨rfl,sw2⟩
 have S_w_w2:Hid (Same w w2):=S_w_W0.out.trans sw2
 obtain ⟨lbsw2,bsw20⟩:=st1 sw2 lbsW0 bsW00
 obtain ⟨lbcw2,bcw20,bcw21,bcw22,bcw23,bcw24,bcw25,bcw26,bcw27⟩:=st8 sw2 lbcW0 bcW00 bcW01 bcW02 bcW03 bcW04 bcW05 bcW06 bcW07
 clear S_w_W0 lbsW0 bsW00 lbcW0 bcW00 bcW01 bcW02 bcW03 bcW04 bcW05 bcW06 bcW07
 clear sw2
 go_wp2_with fail
 refine (HFM.out _).mono ?_
 rintro e w3 ⟨rfl,sw3⟩
 have S_w_w3:Hid (Same w w3):=S_w_w2.out.trans sw3
 obtain ⟨lbsw3,bsw30⟩:=st1 sw3 lbsw2 bsw20
 obtain ⟨lbcw3,bcw30,bcw31,bcw32,bcw33,bcw34,bcw35,bcw36,bcw37⟩:=st8 sw3 lbcw2 bcw20 bcw21 bcw22 bcw23 bcw24 bcw25 bcw26 bcw27
 clear S_w_w2 lbsw2 bsw20 lbcw2 bcw20 bcw21 bcw22 bcw23 bcw24 bcw25 bcw26 bcw27
 clear sw3
 clear HV HFM
 go_wp2_with fail
 refine (HFD.out _ S_w_w3.out).mono ?_
 rintro e w4 ⟨rfl,sw4⟩
 have S_w_w4:Hid (Same w w4):=S_w_w3.out.trans sw4
 obtain ⟨lbsw4,bsw40⟩:=st1 sw4 lbsw3 bsw30
 obtain ⟨lbcw4,bcw40,bcw41,bcw42,bcw43,bcw44,bcw45,bcw46,bcw47⟩:=st8 sw4 lbcw3 bcw30 bcw31 bcw32 bcw33 bcw34 bcw35 bcw36 bcw37
 clear S_w_w3 lbsw3 bsw30 lbcw3 bcw30 bcw31 bcw32 bcw33 bcw34 bcw35 bcw36 bcw37
 clear sw4
 clear HFD
 go_wp2_with fail
 have cC:=regr (w:=w4) (fun W s => HC1'.out W (S_w_w4.out.trans s))
 have kbs0:=cellr bsw40
 have kbc2:=cellr bcw42
 have kx0:=cellr ((S_w_w4.out.cells _ _ blt).trans y0)
 have kx1:=cellr ((S_w_w4.out.cells _ _ blt).trans y1)
 have kx2:=cellr ((S_w_w4.out.cells _ _ blt).trans y2)
 refine wp_region_quiet_below (by kernel_rfl) (by kernel_rfl) ?_
 repeat (go_big_quiet_step (first | (go_at_call 20;exact cC _ _)))
 refine wpQuiet_nil ?_
 intro _ hw'
 obtain ⟨⟨dq,osq⟩,hw''⟩:=hw'
 subst hw''
 have sw5:=Same.reg w4 dq osq
 generalize Sort.grow (redrawn w4 dq) osq = w5 at sw5 ⊢
 clear kbs0 kbc2 kx0 kx1 kx2 cC
 have S_w_w5:Hid (Same w w5):=S_w_w4.out.trans sw5
 obtain ⟨lbsw5,bsw50⟩:=st1 sw5 lbsw4 bsw40
 obtain ⟨lbcw5,bcw50,bcw51,bcw52,bcw53,bcw54,bcw55,bcw56,bcw57⟩:=st8 sw5 lbcw4 bcw40 bcw41 bcw42 bcw43 bcw44 bcw45 bcw46 bcw47
 clear S_w_w4 lbsw4 bsw40 lbcw4 bcw40 bcw41 bcw42 bcw43 bcw44 bcw45 bcw46 bcw47
 clear sw5
 by_cases hneg:ca < 0
 case pos =>
  have tc:decide (ca < 0) = true:=decide_eq_true hneg
  have HNG:=Lib.hid hneg
  clear hneg
  have HQ:Hid (E = 11):=by
   show _ = _
   rw [HEE.out]
   rw [decide_eq_true HNG.out];rfl
  go_wp2_with fail
  go_ret3
  exact ⟨by rw [HX.out,HY.out,HQ.out];rfl,S_w_w5.out⟩
 have tc:decide (ca < 0) = false:=decide_eq_false hneg
 obtain ⟨cj,hcj⟩:∃ cj:Nat,ca = cj:=⟨ca.toNat,by omega⟩
 subst hcj
 have HE3:Hid (E = checkE TB ⟨3,t,aa,n,to_,⟨dk,dn,ds⟩⟩ cj):=by
  show _ = _
  rw [HEE.out,decide_eq_false hneg];rfl
 have hcjl:cj < ra1.length:=by omega
 have HNC:Hid (colA TB.attrs n = c2):=HTS.out.2.2.2.2.1
 clear hneg
 have HEE:=HE3
 clear HE3
 go_wp2_with fail
 refine (HNM.out _).mono ?_
 rintro e wN ⟨rfl,rfl⟩
 cases qn with
 | false =>
  have HQ:Hid (E = 1):=by
   show _ = _
   rw [HEE.out]
   simp [checkE,typedB,freshE,HTS.out.2.1,HTS.out.2.2.1,HTS.out.2.2.2.1,HTS.out.2.2.2.2.1,HTK.out,HTL.out,HQI'.out]
  go_wp2_with fail
  go_ret3
  exact ⟨by rw [HX.out,HY.out,HQ.out];rfl,S_w_w5.out⟩
 | true =>
  go_wp2_with fail
  have kbc0:=cellr bcw50
  refine wp_region_quiet_below (by kernel_rfl) (by kernel_rfl) ?_
  repeat (go_big_quiet_step (fail))
  refine wpQuiet_nil ?_
  intro _ hw'
  obtain ⟨⟨dq,osq⟩,hw''⟩:=hw'
  subst hw''
  have sw7:=Same.reg w5 dq osq
  generalize Sort.grow (redrawn w5 dq) osq = w7 at sw7 ⊢
  clear kbc0
  have S_w_w7:Hid (Same w w7):=S_w_w5.out.trans sw7
  obtain ⟨lbsw7,bsw70⟩:=st1 sw7 lbsw5 bsw50
  obtain ⟨lbcw7,bcw70,bcw71,bcw72,bcw73,bcw74,bcw75,bcw76,bcw77⟩:=st8 sw7 lbcw5 bcw50 bcw51 bcw52 bcw53 bcw54 bcw55 bcw56 bcw57
  clear S_w_w5 lbsw5 bsw50 lbcw5 bcw50 bcw51 bcw52 bcw53 bcw54 bcw55 bcw56 bcw57
  clear sw7
  go_wp2_with fail
  by_cases h9:0 ≤ c2
  case pos =>
   have t9:decide (0 ≤ c2) = true:=decide_eq_true h9
   have H9:=Lib.hid h9
   clear h9
   have cC:=regr (w:=w7) (fun W s => HC2'.out W (S_w_w7.out.trans s))
   have kbs0:=cellr bsw70
   have kbc3:=cellr bcw73
   have kx0:=cellr ((S_w_w7.out.cells _ _ blt).trans y0)
   have kx1:=cellr ((S_w_w7.out.cells _ _ blt).trans y1)
   have kx2:=cellr ((S_w_w7.out.cells _ _ blt).trans y2)
   refine wp_region_quiet_below (by kernel_rfl) (by kernel_rfl) ?_
   repeat (go_big_quiet_step (first | (go_at_call 20;exact cC _ _)))
   refine wpQuiet_nil ?_
   intro _ hw'
   obtain ⟨⟨dq,osq⟩,hw''⟩:=hw'
   subst hw''
   have sw8:=Same.reg w7 dq osq
   generalize Sort.grow (redrawn w7 dq) osq = w8 at sw8 ⊢
   clear kbs0 kbc3 kx0 kx1 kx2 cC
   have S_w_w8:Hid (Same w w8):=S_w_w7.out.trans sw8
   obtain ⟨lbsw8,bsw80⟩:=st1 sw8 lbsw7 bsw70
   obtain ⟨lbcw8,bcw80,bcw81,bcw82,bcw83,bcw84,bcw85,bcw86,bcw87⟩:=st8 sw8 lbcw7 bcw70 bcw71 bcw72 bcw73 bcw74 bcw75 bcw76 bcw77
   clear S_w_w7 lbsw7 bsw70 lbcw7 bcw70 bcw71 bcw72 bcw73 bcw74 bcw75 bcw76 bcw77
   clear sw8
   clear t9
   have HQ:Hid (E = 9):=by
    show _ = _
    rw [HEE.out]
    simp [checkE,typedB,freshE,HTS.out.2.1,HTS.out.2.2.1,HTS.out.2.2.2.1,HTS.out.2.2.2.2.1,HTK.out,HTL.out,HQI'.out,H9.out]
   go_wp2_with fail
   go_ret3
   exact ⟨by rw [HX.out,HY.out,HQ.out];rfl,S_w_w8.out⟩
  case neg =>
   have t9:decide (0 ≤ c2) = false:=decide_eq_false h9
   have H9:=Lib.hid h9
   clear h9
   have cC:=regr (w:=w7) (fun W s => HC2'.out W (S_w_w7.out.trans s))
   have kbs0:=cellr bsw70
   have kbc3:=cellr bcw73
   have kx0:=cellr ((S_w_w7.out.cells _ _ blt).trans y0)
   have kx1:=cellr ((S_w_w7.out.cells _ _ blt).trans y1)
   have kx2:=cellr ((S_w_w7.out.cells _ _ blt).trans y2)
   refine wp_region_quiet_below (by kernel_rfl) (by kernel_rfl) ?_
   repeat (go_big_quiet_step (first | (go_at_call 20;exact cC _ _)))
   refine wpQuiet_nil ?_
   intro _ hw'
   obtain ⟨⟨dq,osq⟩,hw''⟩:=hw'
   subst hw''
   have sw9:=Same.reg w7 dq osq
   generalize Sort.grow (redrawn w7 dq) osq = w9 at sw9 ⊢
   clear kbs0 kbc3 kx0 kx1 kx2 cC
   have S_w_w9:Hid (Same w w9):=S_w_w7.out.trans sw9
   obtain ⟨lbsw9,bsw90⟩:=st1 sw9 lbsw7 bsw70
   obtain ⟨lbcw9,bcw90,bcw91,bcw92,bcw93,bcw94,bcw95,bcw96,bcw97⟩:=st8 sw9 lbcw7 bcw70 bcw71 bcw72 bcw73 bcw74 bcw75 bcw76 bcw77
   clear S_w_w7 lbsw7 bsw70 lbcw7 bcw70 bcw71 bcw72 bcw73 bcw74 bcw75 bcw76 bcw77
   clear sw9
   clear t9
   have HQ:Hid (E = 0):=by
    show _ = _
    rw [HEE.out]
    simp [checkE,typedB,freshE,HTS.out.2.1,HTS.out.2.2.1,HTS.out.2.2.2.1,HTS.out.2.2.2.2.1,HTK.out,HTL.out,HQI'.out,H9.out]
   go_wp2_with fail
   go_ret3
   exact ⟨by rw [HX.out,HY.out,HQ.out];rfl,S_w_w9.out⟩
theorem rcheck_4 (ts:List RT) (m cc:Nat) (t aa n:ByteArray) (to_ dk dn:Int) (ds:ByteArray) (w:World) (b off ti:Nat) (x:RT) (ca c2 E:Int) (qn qk qf qi:Bool)
  (a:TabsAt w ⟨some ⟨b,off,none⟩,ts.length,cc⟩ ts) (hti:ti < ts.length) (hx:TbAt w x) (blt:b < w.heap.size) (hc:∀ j v,x.cells[j]? = some v → w.cell? ⟨b,off + ti * 3 + j,none⟩ = some v)
  (HV:Hid (Rt 14 #[.agg #[.slice (some ⟨b,off,none⟩) ts.length cc]] w (.bool true)))
  (HFM:Hid (Rs 68 #[.agg #[.int .i64 4,.string t,.string aa,.string n,.int .i64 to_,.int .i64 dk,.int .i64 dn,.string ds]] (.bool true)))
  (HFD:Hid (Rt 16 #[.agg #[.slice (some ⟨b,off,none⟩) ts.length cc],.string t] w (.int .i64 (ti:Int))))
  (hca:colA x.tb.attrs aa = ca) (hn:okS n) (hqn:nameB n = qn) (hqk:kindB to_ = qk) (hqf:fitB to_ ⟨dk,dn,ds⟩ = qf) (hc2:colA x.tb.attrs n = c2) (hqi:(x.key.any fun k => decide (k = ca)) = qi)
  (hE:E = if true && decide (ca < 0) then 11 else checkE x.tb ⟨4,t,aa,n,to_,⟨dk,dn,ds⟩⟩ ca.toNat) :
  Calls Tryz.prog 41 #[.agg #[.slice (some ⟨b,off,none⟩) ts.length cc],.agg #[.int .i64 4,.string t,.string aa,.string n,.int .i64 to_,.int .i64 dk,.int .i64 dn,.string ds]] w fun e w' => e = .returned (.tuple #[.int .i64 (if E = 0 then (ti:Int) else 0),.int .i64 (if E = 0 then ca else 0),.int .i64 E]) ∧ Same w w':=by
 have hcb:=colA_lt x.tb.attrs aa
 rw [hca] at hcb
 have hlx:x.tb.attrs.length = x.ra.length:=List.length_map _
 have HC1:=Lib.hid (fun W (s:Same w W) => rcolumn_ok x aa W (hx.same s))
 have HC2:=Lib.hid (fun W (s:Same w W) => rcolumn_ok x n W (hx.same s))
 rw [hca] at HC1
 rw [hc2] at HC2
 have HNM:=Lib.hid (fun W => rname_ok n W hn)
 rw [hqn] at HNM
 have HKD:Hid (Rq 70 #[.int .i64 to_] (.bool qk)):=by rw [← hqk];exact Lib.hid (fun W => rkind_ok to_ W)
 have HFT:Hid (Rs 50 #[.int .i64 to_,.agg #[.int .i64 dk,.int .i64 dn,.string ds]] (.bool qf)):=by rw [← hqf];exact Lib.hid (fun W => rfit_ok to_ ⟨dk,dn,ds⟩ W)
 have HIN:Hid (Rt 71 #[x.hk.val,.int .i64 ca] w (.bool qi)):=by rw [← hqi];exact Lib.hid (fun W s => (rin_ok x.hk x.key ca W (hx.2.1.same s)).mono fun e w' ⟨he,hw⟩ => ⟨he,by rw [hw];exact Same.refl _⟩)
 have hal:x.ra.length = x.ha.n:=hx.1.1.1
 have hab:x.ha.n ≤ 9223372036854775807:=hx.1.1.2.1
 have HTS:Hid (x.tb.attrs.length = x.ra.length ∧ nameB n = qn ∧ kindB to_ = qk ∧ fitB to_ ⟨dk,dn,ds⟩ = qf ∧ colA x.tb.attrs n = c2 ∧ x.tb.key = x.key):=Lib.hid ⟨hlx,hqn,hqk,hqf,hc2,rfl⟩
 have HAT:Hid (∀ (j:Nat) (hj:j < x.ra.length),(x.tb.attrs.map At.kind)[j]? = some x.ra[j].at_.kind):=Lib.hid fun j hj => by simp [RT.tb,hj]
 have HAL:=Lib.hid hx.1.1
 have HEE:=Lib.hid hE
 have HQI:=Lib.hid hqi
 have hmb:ts.length ≤ 9223372036854775807:=a.1.2.1
 obtain ⟨TB,hTB⟩:∃ TB,TB = x.tb:=⟨_,rfl⟩
 rw [← hTB] at HTS HEE HAT hlx hcb
 rw [hlx] at hcb
 clear hE hqn hqk hqf hc2 hqi hca hx a hTB hlx
 obtain ⟨n1,⟨A1,m1,c1⟩,ra1,⟨A2,m2,c2'⟩,key1⟩:=x
 have y0:w.cell? ⟨b,off + ti * 3,none⟩ = some (.string n1):=hc 0 _ rfl
 have y1:w.cell? ⟨b,off + ti * 3 + 1,none⟩ = some (.slice A1 m1 c1):=hc 1 _ rfl
 have y2:w.cell? ⟨b,off + ti * 3 + 2,none⟩ = some (.slice A2 m2 c2'):=hc 2 _ rfl
 have hal':ra1.length = m1:=hal
 have hab':m1 ≤ 9223372036854775807:=hab
 subst hal'
 have HC1':Hid (Rt 20 #[.agg #[.string n1,.slice A1 ra1.length c1,.slice A2 m2 c2'],.string aa] w (.int .i64 ca)):=HC1
 have HC2':Hid (Rt 20 #[.agg #[.string n1,.slice A1 ra1.length c1,.slice A2 m2 c2'],.string n] w (.int .i64 c2)):=HC2
 have HIN':Hid (Rt 71 #[.slice A2 m2 c2',.int .i64 ca] w (.bool qi)):=HIN
 have HQI':Hid ((key1.any fun k => decide (k = ca)) = qi):=HQI
 have HTK:Hid (TB.key = key1):=HTS.out.2.2.2.2.2
 have HTL:Hid (TB.attrs.length = ra1.length):=HTS.out.1
 have HAL':Hid (Lies w 6 ⟨A1,ra1.length,c1⟩ RA.cells ra1):=HAL
 have HAT':Hid (∀ (j:Nat) (hj:j < ra1.length),(TB.attrs.map At.kind)[j]? = some ra1[j].at_.kind):=HAT
 have ti0:(0:Int) ≤ (ti:Int):=by omega
 have tiI:(ti:Int) < (ts.length:Int):=by omega
 have hcb':ca < (ra1.length:Int):=hcb.2
 have tn0:decide ((ti:Int) < 0) = false:=decide_eq_false (by omega)
 have e12:((4:Int) == 1) = false:=by decide
 have e2:((4:Int) == 2) = false:=by decide
 have e3:((4:Int) == 3) = false:=by decide
 have e4:((4:Int) == 4) = true:=by decide
 have e5:((4:Int) != 1) = true:=by decide
 clear HC1 HC2 HIN HQI HAL HAT hc hal hab
 obtain ⟨X,hX⟩:∃ X,X = (if E = 0 then (ti:Int) else 0):=⟨_,rfl⟩
 obtain ⟨Y,hY⟩:∃ Y,Y = (if E = 0 then ca else 0):=⟨_,rfl⟩
 rw [← hX,← hY]
 have HX:=Lib.hid hX
 have HY:=Lib.hid hY
 clear hX hY
 go_enter Tryz.func41,Tryz.ntmps41
 go_wp2_with fail
 obtain ⟨W0,hW0,S_w_W0,lbsW0,bsW00,lbcW0,bcW00,bcW01,bcW02,bcW03,bcW04,bcW05,bcW06,bcW07⟩:=open18 w 24 28 (.slice (some ⟨b,off,none⟩) ts.length cc) (.int .i64 4) (.string t) (.string aa) (.string n) (.int .i64 to_) (.int .i64 dk) (.int .i64 dn) (.string ds)
 rw [← hW0]
 clear hW0
 refine (HV.out _ S_w_W0.out).mono ?_
 rintro e w2 ⟨rfl,sw2⟩
 have S_w_w2:Hid (Same w w2):=S_w_W0.out.trans sw2
 obtain ⟨lbsw2,bsw20⟩:=st1 sw2 lbsW0 bsW00
 obtain ⟨lbcw2,bcw20,bcw21,bcw22,bcw23,bcw24,bcw25,bcw26,bcw27⟩:=st8 sw2 lbcW0 bcW00 bcW01 bcW02 bcW03 bcW04 bcW05 bcW06 bcW07
 clear S_w_W0 lbsW0 bsW00 lbcW0 bcW00 bcW01 bcW02 bcW03 bcW04 bcW05 bcW06 bcW07
 clear sw2
 go_wp2_with fail
 refine (HFM.out _).mono ?_
 rintro e w3 ⟨rfl,sw3⟩
 have S_w_w3:Hid (Same w w3):=S_w_w2.out.trans sw3
 obtain ⟨lbsw3,bsw30⟩:=st1 sw3 lbsw2 bsw20
 obtain ⟨lbcw3,bcw30,bcw31,bcw32,bcw33,bcw34,bcw35,bcw36,bcw37⟩:=st8 sw3 lbcw2 bcw20 bcw21 bcw22 bcw23 bcw24 bcw25 bcw26 bcw27
 clear S_w_w2 lbsw2 bsw20 lbcw2 bcw20 bcw21 bcw22 bcw23 bcw24 bcw25 bcw26 bcw27
 clear sw3
 clear HV HFM
 go_wp2_with fail
 refine (HFD.out _ S_w_w3.out).mono ?_
 rintro e w4 ⟨rfl,sw4⟩
 have S_w_w4:Hid (Same w w4):=S_w_w3.out.trans sw4
 obtain ⟨lbsw4,bsw40⟩:=st1 sw4 lbsw3 bsw30
 obtain ⟨lbcw4,bcw40,bcw41,bcw42,bcw43,bcw44,bcw45,bcw46,bcw47⟩:=st8 sw4 lbcw3 bcw30 bcw31 bcw32 bcw33 bcw34 bcw35 bcw36 bcw37
 clear S_w_w3 lbsw3 bsw30 lbcw3 bcw30 bcw31 bcw32 bcw33 bcw34 bcw35 bcw36 bcw37
 clear sw4
 clear HFD
 go_wp2_with fail
 have cC:=regr (w:=w4) (fun W s => HC1'.out W (S_w_w4.out.trans s))
 have kbs0:=cellr bsw40
 have kbc2:=cellr bcw42
 have kx0:=cellr ((S_w_w4.out.cells _ _ blt).trans y0)
 have kx1:=cellr ((S_w_w4.out.cells _ _ blt).trans y1)
 have kx2:=cellr ((S_w_w4.out.cells _ _ blt).trans y2)
 refine wp_region_quiet_below (by kernel_rfl) (by kernel_rfl) ?_
 repeat (go_big_quiet_step (first | (go_at_call 20;exact cC _ _)))
 refine wpQuiet_nil ?_
 intro _ hw'
 obtain ⟨⟨dq,osq⟩,hw''⟩:=hw'
 subst hw''
 have sw5:=Same.reg w4 dq osq
 generalize Sort.grow (redrawn w4 dq) osq = w5 at sw5 ⊢
 clear kbs0 kbc2 kx0 kx1 kx2 cC
 have S_w_w5:Hid (Same w w5):=S_w_w4.out.trans sw5
 obtain ⟨lbsw5,bsw50⟩:=st1 sw5 lbsw4 bsw40
 obtain ⟨lbcw5,bcw50,bcw51,bcw52,bcw53,bcw54,bcw55,bcw56,bcw57⟩:=st8 sw5 lbcw4 bcw40 bcw41 bcw42 bcw43 bcw44 bcw45 bcw46 bcw47
 clear S_w_w4 lbsw4 bsw40 lbcw4 bcw40 bcw41 bcw42 bcw43 bcw44 bcw45 bcw46 bcw47
 clear sw5
 by_cases hneg:ca < 0
 case pos =>
  have tc:decide (ca < 0) = true:=decide_eq_true hneg
  have HNG:=Lib.hid hneg
  clear hneg
  have HQ:Hid (E = 11):=by
   show _ = _
   rw [HEE.out]
   rw [decide_eq_true HNG.out];rfl
  go_wp2_with fail
  go_ret3
  exact ⟨by rw [HX.out,HY.out,HQ.out];rfl,S_w_w5.out⟩
 have tc:decide (ca < 0) = false:=decide_eq_false hneg
 obtain ⟨cj,hcj⟩:∃ cj:Nat,ca = cj:=⟨ca.toNat,by omega⟩
 subst hcj
 have HE3:Hid (E = checkE TB ⟨4,t,aa,n,to_,⟨dk,dn,ds⟩⟩ cj):=by
  show _ = _
  rw [HEE.out,decide_eq_false hneg];rfl
 have hcjl:cj < ra1.length:=by omega
 have HNC:Hid (colA TB.attrs n = c2):=HTS.out.2.2.2.2.1
 clear hneg
 have HEE:=HE3
 clear HE3
 go_wp2_with fail
 refine (HKD.out _).mono ?_
 rintro e wK ⟨rfl,rfl⟩
 cases qk with
 | false =>
  have HQ:Hid (E = 1):=by
   show _ = _
   rw [HEE.out]
   simp [checkE,typedB,freshE,HTS.out.2.1,HTS.out.2.2.1,HTS.out.2.2.2.1,HTS.out.2.2.2.2.1,HTK.out,HTL.out,HQI'.out]
  go_wp2_with fail
  go_ret3
  exact ⟨by rw [HX.out,HY.out,HQ.out];rfl,S_w_w5.out⟩
 | true =>
  go_wp2_with fail
  refine (HFT.out _).mono ?_
  rintro e w6 ⟨rfl,sw6⟩
  have S_w_w6:Hid (Same w w6):=S_w_w5.out.trans sw6
  obtain ⟨lbsw6,bsw60⟩:=st1 sw6 lbsw5 bsw50
  obtain ⟨lbcw6,bcw60,bcw61,bcw62,bcw63,bcw64,bcw65,bcw66,bcw67⟩:=st8 sw6 lbcw5 bcw50 bcw51 bcw52 bcw53 bcw54 bcw55 bcw56 bcw57
  clear S_w_w5 lbsw5 bsw50 lbcw5 bcw50 bcw51 bcw52 bcw53 bcw54 bcw55 bcw56 bcw57
  clear sw6
  cases qf with
  | false =>
   have HQ:Hid (E = 1):=by
    show _ = _
    rw [HEE.out]
    simp [checkE,typedB,freshE,HTS.out.2.1,HTS.out.2.2.1,HTS.out.2.2.2.1,HTS.out.2.2.2.2.1,HTK.out,HTL.out,HQI'.out]
   go_wp2_with fail
   go_ret3
   exact ⟨by rw [HX.out,HY.out,HQ.out];rfl,S_w_w6.out⟩
  | true =>
   go_wp2_with fail
   obtain ⟨b6,o6,hA6,blt6,hc6⟩:=HAL'.out.2.2 cj hcjl
   have hA6':A1 = some ⟨b6,o6,none⟩:=hA6
   have HKJ:=Lib.hid (HAT'.out cj hcjl)
   obtain ⟨z,hz⟩:∃ z,z = ra1[cj]:=⟨_,rfl⟩
   rw [← hz] at hc6 HKJ
   clear hz hA6
   obtain ⟨⟨n6,kd6,was6,d6⟩,h6⟩:=z
   have z1:w.cell? ⟨b6,o6 + cj * 6 + 1,none⟩ = some (.int .i64 kd6):=hc6 1 _ rfl
   have HKJ':Hid ((TB.attrs.map At.kind)[cj]? = some kd6):=HKJ
   have cj0:(0:Int) ≤ (cj:Int):=by omega
   have cjI:(cj:Int) < (ra1.length:Int):=by omega
   clear hc6 HKJ
   subst hA6'
   by_cases hkd:kd6 = to_
   case pos =>
    have tk:(kd6 == to_) = true:=by simp;exact hkd
    have HKQ:=Lib.hid hkd
    clear hkd
    have kz:=cellr ((S_w_w6.out.cells _ _ blt6).trans z1)
    have kbs0:=cellr bsw60
    have kbc0:=cellr bcw60
    have kbc4:=cellr bcw64
    have kx1:=cellr ((S_w_w6.out.cells _ _ blt).trans y1)
    refine wp_region_quiet_below (by kernel_rfl) (by kernel_rfl) ?_
    repeat (go_big_quiet_step (fail))
    refine wpQuiet_nil ?_
    intro _ hw'
    obtain ⟨⟨dq,osq⟩,hw''⟩:=hw'
    subst hw''
    have sw7:=Same.reg w6 dq osq
    generalize Sort.grow (redrawn w6 dq) osq = w7 at sw7 ⊢
    clear kbs0 kbc0 kbc4 kx1 kz
    have S_w_w7:Hid (Same w w7):=S_w_w6.out.trans sw7
    obtain ⟨lbsw7,bsw70⟩:=st1 sw7 lbsw6 bsw60
    obtain ⟨lbcw7,bcw70,bcw71,bcw72,bcw73,bcw74,bcw75,bcw76,bcw77⟩:=st8 sw7 lbcw6 bcw60 bcw61 bcw62 bcw63 bcw64 bcw65 bcw66 bcw67
    clear S_w_w6 lbsw6 bsw60 lbcw6 bcw60 bcw61 bcw62 bcw63 bcw64 bcw65 bcw66 bcw67
    clear sw7
    clear tk
    have HQ:Hid (E = 1):=by
     show _ = _
     rw [HEE.out]
     simp [checkE,HKJ'.out,HKQ.out]
    go_wp2_with fail
    go_ret3
    exact ⟨by rw [HX.out,HY.out,HQ.out];rfl,S_w_w7.out⟩
   case neg =>
    have tk:(kd6 == to_) = false:=by simp;exact hkd
    have HKQ:=Lib.hid hkd
    clear hkd
    have kz:=cellr ((S_w_w6.out.cells _ _ blt6).trans z1)
    have kbs0:=cellr bsw60
    have kbc0:=cellr bcw60
    have kbc4:=cellr bcw64
    have kx1:=cellr ((S_w_w6.out.cells _ _ blt).trans y1)
    refine wp_region_quiet_below (by kernel_rfl) (by kernel_rfl) ?_
    repeat (go_big_quiet_step (fail))
    refine wpQuiet_nil ?_
    intro _ hw'
    obtain ⟨⟨dq,osq⟩,hw''⟩:=hw'
    subst hw''
    have sw8:=Same.reg w6 dq osq
    generalize Sort.grow (redrawn w6 dq) osq = w8 at sw8 ⊢
    clear kbs0 kbc0 kbc4 kx1 kz
    have S_w_w8:Hid (Same w w8):=S_w_w6.out.trans sw8
    obtain ⟨lbsw8,bsw80⟩:=st1 sw8 lbsw6 bsw60
    obtain ⟨lbcw8,bcw80,bcw81,bcw82,bcw83,bcw84,bcw85,bcw86,bcw87⟩:=st8 sw8 lbcw6 bcw60 bcw61 bcw62 bcw63 bcw64 bcw65 bcw66 bcw67
    clear S_w_w6 lbsw6 bsw60 lbcw6 bcw60 bcw61 bcw62 bcw63 bcw64 bcw65 bcw66 bcw67
    clear sw8
    clear tk
    go_wp2_with fail
    refine wp_region_quiet_below (by kernel_rfl) (by kernel_rfl) ?_
    repeat (go_big_quiet_step (fail))
    refine wpQuiet_nil ?_
    intro _ hw'
    obtain ⟨⟨dq,osq⟩,hw''⟩:=hw'
    subst hw''
    have sw9:=Same.reg w8 dq osq
    generalize Sort.grow (redrawn w8 dq) osq = w9 at sw9 ⊢
    clear e12
    have S_w_w9:Hid (Same w w9):=S_w_w8.out.trans sw9
    obtain ⟨lbsw9,bsw90⟩:=st1 sw9 lbsw8 bsw80
    obtain ⟨lbcw9,bcw90,bcw91,bcw92,bcw93,bcw94,bcw95,bcw96,bcw97⟩:=st8 sw9 lbcw8 bcw80 bcw81 bcw82 bcw83 bcw84 bcw85 bcw86 bcw87
    clear S_w_w8 lbsw8 bsw80 lbcw8 bcw80 bcw81 bcw82 bcw83 bcw84 bcw85 bcw86 bcw87
    clear sw9
    have e12:((4:Int) == 1) = false:=by decide
    have HQ:Hid (E = 0):=by
     show _ = _
     rw [HEE.out]
     simp [checkE,typedB,freshE,HTS.out.2.1,HTS.out.2.2.1,HTS.out.2.2.2.1,HTS.out.2.2.2.2.1,HTK.out,HTL.out,HQI'.out,HKJ'.out,HKQ.out]
    go_wp2_with fail
    go_ret3
    exact ⟨by rw [HX.out,HY.out,HQ.out];rfl,S_w_w9.out⟩
end Go.Proofs.YtfifnemnihcijaaGreatDoor

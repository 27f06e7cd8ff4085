import Derived.Test.YtfifnemnihcijaaGreatDoorKZf
import Derived.Test.YtfifnemnihcijaaGreatDoorKZa
set_option linter.unusedSimpArgs false
set_option linter.unusedVariables false
set_option maxHeartbeats 16000000
set_option maxRecDepth 100000
namespace Go.Proofs.YtfifnemnihcijaaGreatDoor
open Go.RowKit
theorem rcheck_at {h:Hd} {ts:List RT} {c:Cg} {w:World} (a:TabsAt w h ts) (few:Few ts) (hn:okS c.name) (hE:errOf (ts.map RT.tb) c = 0) (q:Nat) (hq:q < ts.length) (hfi:findT (ts.map RT.tb) c.table = q) :
  Rt 41 #[.agg #[h.val],c.val] w (.tuple #[.int .i64 q,.int .i64 (colA ts[q].tb.attrs c.attr),.int .i64 0]):=by
 intro W s
 refine (rcheck_ok h ts c W (a.same s) few hn).mono ?_
 rintro e w' ⟨he,s'⟩
 have hq':q < (ts.map RT.tb).length:=by simpa using hq
 have e3:(ts.map RT.tb)[q] = ts[q].tb:=by simp
 have e2:checkP (ts.map RT.tb) c = ((q:Int),colA ts[q].tb.attrs c.attr):=by
  unfold checkP
  rw [if_pos hE,hfi,Int.toNat_natCast,List.getElem?_eq_getElem hq',e3]
 rw [e2,hE] at he
 exact ⟨he,s'⟩
theorem rapply_in (h:Hd) (ts:List RT) (c:Cg) (w:World) (a:TabsAt w h ts) (few:Few ts) (hn:okS c.name) (hd:okS c.dflt.s) (hE:errOf (ts.map RT.tb) c = 0) :
  Calls Tryz.prog 8 #[.agg #[h.val],c.val] w fun e w' => (∃ (h':Hd) (ts':List RT),e = .returned (.tuple #[.agg #[h'.val],.int .i64 0]) ∧ TabsAt w' h' ts' ∧ ts'.map RT.tb = applyS (ts.map RT.tb) c ∧ NewIn w h ts h' ts') ∧ Same w w':=by
 ·obtain ⟨hf,hv,q,hq',hfi,hnm,hc,hch⟩:=errOf_zero hE
  have hq:q < ts.length:=by simpa using hq'
  have e3:(ts.map RT.tb)[q] = ts[q].tb:=by simp
  rw [e3] at hc hch hnm
  obtain ⟨hl20,hright⟩:=valid_iff.1 hv
  have hl:ts.length ≤ 20:=by simpa using hl20
  have r:=(hright q hq').1
  rw [e3] at r
  have R:=ready_of (a.2 _ (List.getElem_mem hq)) (few _ (List.getElem_mem hq)) r
  have al:ts[q].tb.attrs.length = ts[q].ra.length:=by simp [RT.tb]
  have hcl:=(colA_lt ts[q].tb.attrs c.attr).2
  have FO:=rcheck_at a few hn hE q hq hfi
  have fin:∀ e w',ROut w h ts q (newT ts[q].tb c) w' e → (∃ (h':Hd) (ts':List RT),e = .returned (.tuple #[.agg #[h'.val],.int .i64 0]) ∧ TabsAt w' h' ts' ∧ ts'.map RT.tb = applyS (ts.map RT.tb) c ∧ NewIn w h ts h' ts') ∧ Same w w':=by
   rintro e w' ⟨⟨h',ts',he,hT,hm,hI⟩,s⟩
   refine ⟨⟨h',ts',he,hT,?_,hI⟩,s⟩
   rw [hm]
   unfold applyS
   rw [hfi,Int.toNat_natCast,← set_modify _ q hq',e3]
  have nat:c.kind ≠ 1 → ∃ k:Nat,colA ts[q].tb.attrs c.attr = k ∧ k < ts[q].ra.length:=fun h => ⟨(colA ts[q].tb.attrs c.attr).toNat,(Int.toNat_of_nonneg (hc h)).symm,by have:=hc h;omega⟩
  have hL:ts.length = h.n:=a.1.1
  obtain ⟨A,m,cc⟩:=h
  obtain ⟨k,tt,aa,n,to_,⟨dk,dn,ds⟩⟩:=c
  simp only at hL
  rcases formed_kind hf with hk | hk | hk | hk
  ·have hk:k = 1:=hk
   subst hk
   exact (rapply_add A m cc tt aa n to_ dk dn ds ts w hL (by omega) (Lib.hid a) q _ (Lib.hid FO) hq hn hd R.al).mono fin
  ·have hk:k = 2:=hk
   subst hk
   obtain ⟨k,hk1,hk2⟩:=nat (by show (2:Int) ≠ 1;omega)
   exact (rapply_drop A m cc tt aa n to_ dk dn ds ts w hL (by omega) (Lib.hid a) q _ (Lib.hid FO) hq hn hd R.al k hk1 hk2 hk1 R.kl R.kb).mono fin
  ·have hk:k = 3:=hk
   subst hk
   obtain ⟨k,hk1,hk2⟩:=nat (by show (3:Int) ≠ 1;omega)
   exact (rapply_ren A m cc tt aa n to_ dk dn ds ts w hL (by omega) (Lib.hid a) q _ (Lib.hid FO) hq hn hd R.al k hk1 hk2 hk1 R.few).mono fin
  ·have hk:k = 4:=hk
   subst hk
   obtain ⟨k,hk1,hk2⟩:=nat (by show (4:Int) ≠ 1;omega)
   exact (rapply_cast A m cc tt aa n to_ dk dn ds ts w hL (by omega) (Lib.hid a) q _ (Lib.hid FO) hq hn hd R.al k hk1 hk2 hk1).mono fin
theorem rconvert_ok (h:Hd) (ts:List RT) (c:Cg) (tb:Int) (hr:Hd) (row:List V) (w:World) (a:TabsAt w h ts) (few:Few ts) (hn:okS c.name) (hd:okS c.dflt.s) (r:RowAt w hr row) (hrl:row.length ≤ 1000000) (hm:ts.length ≤ 1000000) :
  Calls Tryz.prog 10 #[.agg #[h.val],c.val,.int .i64 tb,hr.val] w fun e w' => ConvOut (convS (ts.map RT.tb) c tb row) w.heap.size w' e ∧ Same w w':=by
 have hlm:(ts.map RT.tb).length = ts.length:=List.length_map _
 have hL:ts.length = h.n:=a.1.1
 have hRL:row.length = hr.n:=r.1.1
 have HCK:=fun W (s:Same w W) => rcheck_ok h ts c W (a.same s) few hn
 by_cases hE:errOf (ts.map RT.tb) c = 0
 ·obtain ⟨hf,hva,q,hq',hfi,hnm,hc,hch⟩:=errOf_zero hE
  have hq:q < ts.length:=by simpa using hq'
  have e3:∀ j (hj:j < ts.length),(ts.map RT.tb)[j]'(by simpa using hj) = ts[j].tb:=fun j hj => by simp
  rw [e3 q hq] at hc hch hnm
  have FO:=rcheck_at a few hn hE q hq hfi
  obtain ⟨A,m,cc⟩:=h
  obtain ⟨RA_,rm,rc⟩:=hr
  obtain ⟨k,tt,aa,n,to_,⟨dk,dn,ds⟩⟩:=c
  simp only at hL hRL
  subst hL hRL
  obtain ⟨qa,hqa⟩:∃ qa,qa = colA ts[q].tb.attrs aa:=⟨_,rfl⟩
  have HF:Hid (Rt 41 #[.agg #[.slice A ts.length cc],.agg #[.int .i64 k,.string tt,.string aa,.string n,.int .i64 to_,.int .i64 dk,.int .i64 dn,.string ds]] w (.tuple #[.int .i64 q,.int .i64 qa,.int .i64 0])):=by
   rw [hqa];exact FO
  by_cases ht:tb < 0
  ·refine (rconv_neg A ts.length cc k tt aa n to_ dk dn ds tb RA_ row.length rc 0 q qa w hm HF rfl ht).mono ?_
   rintro e w' ⟨he,s⟩
   rw [conv_none hE (.inl ht)]
   exact ⟨⟨⟨none,0,0⟩,he,row_none _,fresh_none _⟩,s⟩
  by_cases ht2:(ts.length:Int) ≤ tb
  ·refine (rconv_far A ts.length cc k tt aa n to_ dk dn ds tb RA_ row.length rc 0 q qa w hm HF rfl ht2).mono ?_
   rintro e w' ⟨he,s⟩
   rw [conv_none hE (.inr (by rw [hlm];exact ht2))]
   exact ⟨⟨⟨none,0,0⟩,he,row_none _,fresh_none _⟩,s⟩
  obtain ⟨j,htb⟩:∃ j:Nat,tb = j:=⟨tb.toNat,by omega⟩
  have hj:j < ts.length:=by omega
  obtain ⟨b,off,hA,hbl,hcell⟩:=a.1.2.2 j hj
  have HT:=fun W (s:Same w W) => rfits_ok ts[j] ⟨RA_,row.length,rc⟩ row W ((a.2 _ (List.getElem_mem hj)).same s) (r.same s)
  have hjt:j < (ts.map RT.tb).length:=by omega
  cases hfit:fitsB ts[j].tb row with
  | false =>
   rw [hfit] at HT
   obtain ⟨tj,htj⟩:∃ tj,tj = ts[j]:=⟨_,rfl⟩
   rw [← htj] at hcell HT
   obtain ⟨tn,⟨A1,m1,c1⟩,ra,⟨A2,m2,c2⟩,key⟩:=tj
   have y0:=hcell 0 (.string tn) rfl
   simp only [Nat.add_zero] at y0
   refine (rconv_unfit A ts.length cc k tt aa n to_ dk dn ds tb RA_ row.length rc 0 q qa w hm HF rfl j hj htb b off hA hbl tn A1 m1 c1 A2 m2 c2 y0 (hcell 1 _ rfl) (hcell 2 _ rfl) (Lib.hid HT)).mono ?_
   rintro e w' ⟨he,s⟩
   rw [htb,conv_unfit_eq hE hjt (by rw [e3 j hj];exact hfit)]
   exact ⟨⟨⟨none,0,0⟩,he,row_none _,fresh_none _⟩,s⟩
  | true =>
   rw [hfit] at HT
   have hfit':fitsB ((ts.map RT.tb)[j]'hjt) row = true:=by rw [e3 j hj];exact hfit
   have hrow63:row.length ≤ 9223372036854775807:=by omega
   obtain ⟨tj,htj⟩:∃ tj,tj = ts[j]:=⟨_,rfl⟩
   rw [← htj] at hcell HT
   obtain ⟨tn,⟨A1,m1,c1⟩,ra,⟨A2,m2,c2⟩,key⟩:=tj
   have y0:=hcell 0 (.string tn) rfl
   simp only [Nat.add_zero] at y0
   have hcv:=conv_at hE j hjt row hfit'
   have HT':Hid (Rt 18 #[.agg #[.string tn,.slice A1 m1 c1,.slice A2 m2 c2],.slice RA_ row.length rc] w (.bool true)):=HT
   by_cases hjq:j = q
   ·subst hjq
    have hnm':((ts.map RT.tb)[j]'hjt).name = tt:=by rw [e3 j hj];exact hnm
    rw [if_pos hnm',e3 j hj] at hcv
    have hqa':colA ts[j].tb.attrs (Cg.attr ⟨k,tt,aa,n,to_,⟨dk,dn,ds⟩⟩) = qa:=hqa.symm
    rw [hqa'] at hcv
    have hlen:=(fits_iff.1 hfit).1
    have hcl:qa < row.length:=by rw [hqa,hlen];exact (colA_lt ts[j].tb.attrs aa).2
    have nat:k ≠ 1 → ∃ i:Nat,qa = i ∧ i < row.length:=fun hk => ⟨qa.toNat,(Int.toNat_of_nonneg (by rw [hqa];exact hc hk)).symm,by have:=hc hk;rw [← hqa'] at hcl;omega⟩
    by_cases k1:k = 1
    ·subst k1
     refine (rconv_add A ts.length cc 1 tt aa n to_ dk dn ds tb RA_ row.length rc 0 j qa w hm HF rfl j hj htb b off hA hbl tn A1 m1 c1 A2 m2 c2 y0 (hcell 1 _ rfl) (hcell 2 _ rfl) HT' row rfl hrl (Lib.hid r.1) rfl rfl).mono ?_
     rintro e w' ⟨A',c',he,o,s⟩
     have ee:rowP ⟨1,tt,aa,n,to_,⟨dk,dn,ds⟩⟩ qa.toNat row = (row ++ [⟨dk,dn,ds⟩],0):=by simp [rowP]
     rw [htb,hcv,ee]
     refine ⟨⟨⟨A',row.length + 1,c'⟩,he,row_own (l:=row ++ [⟨dk,dn,ds⟩]) o (by simp) (by omega) ?_,fresh_own o⟩,s⟩
     intro v hv'
     rcases List.mem_append.1 hv' with h1 | h1
     ·exact r.2 v h1
     ·rw [List.mem_singleton.1 h1];exact hd
    by_cases k2:k = 2
    ·subst k2
     obtain ⟨i,hi,hil⟩:=nat (by omega)
     refine (rconv_drop A ts.length cc 2 tt aa n to_ dk dn ds tb RA_ row.length rc 0 j qa w hm HF rfl j hj htb b off hA hbl tn A1 m1 c1 A2 m2 c2 y0 (hcell 1 _ rfl) (hcell 2 _ rfl) HT' row rfl hrl (Lib.hid r.1) rfl rfl i hi hil).mono ?_
     rintro e w' ⟨A',c',he,o,s⟩
     have ee:rowP ⟨2,tt,aa,n,to_,⟨dk,dn,ds⟩⟩ qa.toNat row = (row.eraseIdx i,0):=by simp [rowP,hi]
     rw [htb,hcv,ee]
     exact ⟨⟨⟨A',row.length - 1,c'⟩,he,row_own (l:=row.eraseIdx i) o (by rw [List.length_eraseIdx,if_pos hil]) (by omega) (fun v hv' => r.2 v (List.mem_of_mem_eraseIdx hv')),fresh_own o⟩,s⟩
    by_cases k4:k = 4
    ·subst k4
     obtain ⟨i,hi,hil⟩:=nat (by omega)
     have HC0:=fun W => rcast_ok row[i] to_ W
     have eg:row.getD i V.zero = row[i]:=by rw [List.getD_eq_getElem?_getD,List.getElem?_eq_getElem hil];rfl
     have ee:rowP ⟨4,tt,aa,n,to_,⟨dk,dn,ds⟩⟩ qa.toNat row = if (castP row[i] to_).2 = 0 then (row.set i (castP row[i] to_).1,0) else ([],15):=by
      rw [hi,Int.toNat_natCast]
      unfold rowP
      simp only [eg]
      rfl
     obtain ⟨⟨⟨r0,r1,r2⟩,ce⟩,hcp⟩:∃ p,p = castP row[i] to_:=⟨_,rfl⟩
     have hfc:=fun (h0:(castP row[i] to_).2 = 0) => cast_fit h0
     rw [← hcp] at ee HC0 hfc
     obtain ⟨⟨v0,v1,v2⟩,hv⟩:∃ v,v = row[i]:=⟨_,rfl⟩
     rw [← hv] at HC0
     have HC:Hid (Rt 43 #[.agg #[.int .i64 v0,.int .i64 v1,.string v2],.int .i64 to_] w (.tuple #[.agg #[.int .i64 r0,.int .i64 r1,.string r2],.int .i64 ce])):=fun W _ => HC0 W
     by_cases hce:ce = 0
     ·refine (rconv_cast A ts.length cc 4 tt aa n to_ dk dn ds tb RA_ row.length rc 0 j qa w hm HF rfl j hj htb b off hA hbl tn A1 m1 c1 A2 m2 c2 y0 (hcell 1 _ rfl) (hcell 2 _ rfl) HT' row rfl hrl (Lib.hid r.1) rfl rfl i hi hil v0 v1 v2 hv.symm r0 r1 r2 ce HC hce).mono ?_
      rintro e w' ⟨A',c',he,o,s⟩
      rw [if_pos hce] at ee
      rw [htb,hcv,ee]
      refine ⟨⟨⟨A',row.length,c'⟩,he,row_own (l:=row.set i ⟨r0,r1,r2⟩) o (by simp) hrow63 ?_,fresh_own o⟩,s⟩
      intro v hv'
      rcases List.mem_or_eq_of_mem_set hv' with h1 | h1
      ·exact r.2 v h1
      ·rw [h1]
       have:=hfc hce
       simp only [fitB,Bool.and_eq_true] at this
       have:=(V.ok_iff.1 this.1).2.2.1
       show _ ≤ _
       omega
     ·refine (rconv_nocast A ts.length cc 4 tt aa n to_ dk dn ds tb RA_ row.length rc 0 j qa w hm HF rfl j hj htb b off hA hbl tn A1 m1 c1 A2 m2 c2 y0 (hcell 1 _ rfl) (hcell 2 _ rfl) HT' row rfl hrl (Lib.hid r.1) rfl rfl i hi hil v0 v1 v2 hv.symm r0 r1 r2 ce HC hce).mono ?_
      rintro e w' ⟨he,s⟩
      rw [if_neg hce] at ee
      rw [htb,hcv,ee]
      exact ⟨⟨⟨none,0,0⟩,he,row_none _,fresh_none _⟩,s⟩
    ·refine (rconv_same A ts.length cc k tt aa n to_ dk dn ds tb RA_ row.length rc 0 j qa w hm HF rfl j hj htb b off hA hbl tn A1 m1 c1 A2 m2 c2 y0 (hcell 1 _ rfl) (hcell 2 _ rfl) HT' row rfl hrl (Lib.hid r.1) rfl k1 k2 k4).mono ?_
     rintro e w' ⟨A',c',he,o,s⟩
     have k3:k = 3:=by
      rcases formed_kind hf with hk | hk | hk | hk
      ·exact absurd hk k1
      ·exact absurd hk k2
      ·exact hk
      ·exact absurd hk k4
     have ee:rowP ⟨k,tt,aa,n,to_,⟨dk,dn,ds⟩⟩ qa.toNat row = (row,0):=by simp [rowP,k3]
     rw [htb,hcv,ee]
     exact ⟨⟨⟨A',row.length,c'⟩,he,row_own o rfl hrow63 r.2,fresh_own o⟩,s⟩
   ·refine (rconv_other A ts.length cc k tt aa n to_ dk dn ds tb RA_ row.length rc 0 q qa w hm HF rfl j hj htb b off hA hbl tn A1 m1 c1 A2 m2 c2 y0 (hcell 1 _ rfl) (hcell 2 _ rfl) HT' row rfl hrl (Lib.hid r.1) (by omega)).mono ?_
    rintro e w' ⟨A',c',he,o,s⟩
    have hne:¬ ((ts.map RT.tb)[j]'hjt).name = tt:=by
     intro e2
     have h1:=((valid_iff.1 hva).2 j hjt).2
     rw [e2] at h1
     have h2:findT (ts.map RT.tb) tt = q:=hfi
     rw [h2] at h1
     omega
    rw [htb,hcv,if_neg hne]
    exact ⟨⟨⟨A',row.length,c'⟩,he,row_own o rfl hrow63 r.2,fresh_own o⟩,s⟩
 ·obtain ⟨A,m,cc⟩:=h
  obtain ⟨RA_,rm,rc⟩:=hr
  obtain ⟨k,tt,aa,n,to_,⟨dk,dn,ds⟩⟩:=c
  refine (rconv_err A m cc k tt aa n to_ dk dn ds tb RA_ rm rc _ _ _ w (Lib.hid HCK) hE).mono ?_
  rintro e w' ⟨he,s⟩
  rw [conv_err hE]
  exact ⟨⟨⟨none,0,0⟩,he,row_none _,fresh_none _⟩,s⟩
end Go.Proofs.YtfifnemnihcijaaGreatDoor

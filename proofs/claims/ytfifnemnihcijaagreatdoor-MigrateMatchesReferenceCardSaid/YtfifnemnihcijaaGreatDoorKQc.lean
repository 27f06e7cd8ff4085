import Derived.Test.YtfifnemnihcijaaGreatDoorKQa
set_option linter.unusedSimpArgs false
set_option linter.unusedVariables false
set_option maxHeartbeats 16000000
set_option maxRecDepth 100000
namespace Go.Proofs.YtfifnemnihcijaaGreatDoor.R43
open Go.RowKit
theorem MgAt.round {w:World} {p:MH} {m:Mg} (d:MgAt w p m) (hl:m.done.length < m.rows.length):∃ (go oc tn gi ic rl dl dc rn rc:Nat) (Ad Ar:Option Addr),
  (w.cell? ⟨p.g,10,none⟩ = some (.int .i64 m.ti) ∧ w.cell? ⟨p.g,11,none⟩ = some (.slice (some ⟨go,0,none⟩) tn oc) ∧ w.cell? ⟨p.g,12,none⟩ = some (.slice Ad dl dc)) ∧
  (w.cell? ⟨go,m.ti,none⟩ = some (.slice (some ⟨gi,0,none⟩) rl ic) ∧ w.cell? ⟨gi,dl,none⟩ = some (.slice Ar rn rc)) ∧ (m.ti < tn ∧ tn ≤ 9223372036854775807 ∧ dl < rl ∧ rl ≤ 9223372036854775807) ∧
  (p.hd = ⟨Ad,dl,dc⟩ ∧ dl = p.dr.length ∧ dl = m.done.length ∧ RowIn w (fun k => ¬ p.own k) ⟨⟨Ar,rn,rc⟩,m.rows[m.done.length]⟩):=by
 obtain ⟨go,oc,ho,hB,hc⟩:=d.outer
 obtain ⟨hti,hr⟩:=d.rows
 have hdl:m.done.length = p.dr.length:=by rw [← d.dr];simp
 obtain ⟨oi,oin⟩:=d.oi _ (List.getElem_mem hti)
 have hrl:m.rows.length = p.tb[m.ti].rs.length:=by rw [hr];simp [Tbl.rows]
 have hpos:0 < p.tb[m.ti].rs.length:=by omega
 have hd4:w.cell? ⟨p.g,12,none⟩ = some p.hd.val:=d.cell 12
 have h3:w.cell? ⟨p.g,11,none⟩ = some p.ho.val:=d.cell 11
 have hrr:=d.rr _ (List.getElem_mem hti)
 have hcell:=(hc m.ti hti).1
 have hdn:=d.dh
 have hrow:∀ (h:m.done.length < p.tb[m.ti].rs.length),m.rows[m.done.length] = (p.tb[m.ti].rs[m.done.length]).v:=by
  intro h
  have:m.rows[m.done.length]? = (p.tb[m.ti].rows)[m.done.length]?:=by rw [hr]
  rw [List.getElem?_eq_getElem hl] at this
  unfold Tbl.rows at this
  rw [List.getElem?_map,List.getElem?_eq_getElem h] at this
  exact Option.some.inj this
 generalize p.tb[m.ti] = t at oi oin hrl hpos hrr hcell hrow
 obtain ⟨⟨Ai,ni,ci⟩,rs⟩:=t
 simp only at oi oin hrl hpos hrr hcell hrow
 subst oin
 obtain ⟨gi,cur,hAi,_⟩:=own_blk oi hpos
 subst hAi
 have hlt:m.done.length < rs.length:=by omega
 have hrc:=own_cell Rw.clen oi rfl m.done.length hlt 0 (by decide)
 have hin:=hrr _ (List.getElem_mem hlt)
 rw [hrow hlt]
 generalize rs[m.done.length] = r at hrc hin
 obtain ⟨⟨Ar,rn,rc⟩,rv⟩:=r
 generalize p.hd = q at hd4 hdn
 obtain ⟨Ad,dn,dc⟩:=q
 simp only at hdn
 subst hdn
 refine ⟨go,oc,p.tb.length,gi,ci,rs.length,p.dr.length,dc,rn,rc,Ad,Ar,⟨d.cell 10,by rw [h3,ho];rfl,hd4⟩,⟨hcell,?_⟩,⟨hti,own_max d.oo,by omega,own_max oi⟩,rfl,rfl,hdl.symm,hin⟩
 rw [← hdl]
 simpa [Rw.cell,Hd.val] using hrc
theorem MTurn.then_ {w w1 w2:World} {p:MH} {p1:MH} {m2:Mg} (hg:p1.g = p.g) (hW:p1.W0 = p.W0) (hB:MH.Like p1 p) (c:Chg p.own w w1) (ho:∀ k,p1.own k → p.own k ∨ w.heap.size ≤ k)
  {p2:MH} (d2:MgAt w2 p2 m2) (g2:p2.g = p1.g) (W2:p2.W0 = p1.W0) (B2:MH.Like p2 p1) (c2:Chg p1.own w1 w2) (o2:∀ k,p2.own k → p1.own k ∨ w1.heap.size ≤ k):MTurn w w2 p m2:=
 MTurn.trans hg hW hB c ho ⟨p2,d2,g2,W2,B2,c2,o2⟩
theorem MgAt.push' {wr w1 w2:World} {p:MH} {m:Mg} (d:MgAt wr p m) (hf:m.failed = false) (hl:m.done.length < m.rows.length) (s1:Same wr w1) {cv:Row × Int} (hcv:cv = convS m.s m.c m.ti m.rows[m.done.length]) (hz:cv.2 = 0)
  {A':Option Addr} {n' c':Nat} (R:RowAt w1 ⟨A',n',c'⟩ cv.1) (F:Fresh wr.heap.size ⟨A',n',c'⟩) {Ad:Option Addr} {dl dc:Nat} (hhd:p.hd = ⟨Ad,dl,dc⟩) (hdl:dl = p.dr.length) {o:Obj} {A2:Option Addr} {n2 c2:Nat}
  (G:(w1.alloc o).grownBy w2 (Value.slice Ad dl dc).ownBlock) (own:w2.ownsRow p.B 29 1 (.slice A2 n2 c2) (dl + 1) (p.dr.flatMap Rw.cell ++ [.slice A' n' c']))
  (hat:(Value.slice A2 n2 c2).ownBlock = (Value.slice Ad dl dc).ownBlock ∨ (Value.slice A2 n2 c2).ownBlock = some (w1.alloc o).heap.size) :
  ∃ p2,MgAt (w2.setCell ⟨p.g,12,none⟩ (.slice A2 n2 c2)) p2 m.one ∧ p2.g = p.g ∧ p2.W0 = p.W0 ∧ MH.Like p2 p ∧ Chg p.own wr (w2.setCell ⟨p.g,12,none⟩ (.slice A2 n2 c2)) ∧ ∀ k,p2.own k → p.own k ∨ wr.heap.size ≤ k:=by
 have d1:=d.next s1
 have hv:p.hd.val = .slice Ad dl dc:=by rw [hhd];rfl
 have e1:=Mg.one_ok hf hl (by rw [← hcv];exact hz)
 have hr:RowIn w1 (fun k => ¬ p.own k) ⟨⟨A',n',c'⟩,cv.1⟩:=⟨R,(F.in_ R).mono fun k hk hk' => by have:=d.own_lt hk';omega⟩
 have hfine:({ m with done:=m.done ++ [cv.1] }:Mg).Fine:=by
  have:=d.fine.one
  rw [e1] at this
  rw [hcv];exact this
 obtain ⟨d2,c2',o2⟩:=d1.push (h:=⟨A',n',c'⟩) (row:=cv.1) hr ((F.in_ R).mono fun k hk => d.hw k hk.1) (by rw [hv];exact G) (by rw [← hdl];exact own) (by rw [hv];exact hat) hfine
 rw [e1,← hcv]
 exact ⟨_,d2,rfl,rfl,⟨rfl,rfl,rfl⟩,(Chg.of_same s1).trans c2' (fun _ _ h => h),fun k hk => (o2 k hk).imp id (fun h => Nat.le_trans s1.size h)⟩
theorem MgAt.fail' {wr w1:World} {p:MH} {m:Mg} (d:MgAt wr p m) (hf:m.failed = false) (hl:m.done.length < m.rows.length) (s1:Same wr w1) {cv:Row × Int} (hcv:cv = convS m.s m.c m.ti m.rows[m.done.length]) (hz:cv.2 ≠ 0) :
  MgAt (w1.setCell ⟨p.g,13,none⟩ (.bool true)) p m.one ∧ Chg p.own wr (w1.setCell ⟨p.g,13,none⟩ (.bool true)) ∧ m.one.failed = true ∧ m.one.left = m.left:=by
 have d1:=d.next s1
 have e1:=Mg.one_bad hf hl (by rw [← hcv];exact hz)
 have hfine:({ m with failed:=true }:Mg).Fine:=by
  have:=d.fine.one
  rwa [e1] at this
 obtain ⟨d2,c2⟩:=d1.flag { m with failed:=true } 13 (.bool true) rfl rfl rfl rfl rfl hfine
 rw [e1]
 exact ⟨d2,(Chg.of_same s1).trans c2 (fun _ _ h => h),rfl,rfl⟩
theorem MgAt.done_cell {wr:World} {p:MH} {m:Mg} (d:MgAt wr p m) {Ad:Option Addr} {dl dc:Nat} (hhd:p.hd = ⟨Ad,dl,dc⟩) (W:World) (o:Obj) (w2:World) (s:Same wr W) (G:(W.alloc o).grownBy w2 (Value.slice Ad dl dc).ownBlock) :
  w2.cell? ⟨p.g,12,none⟩ = some (.slice Ad dl dc) ∧ w2.frozen? ⟨p.g,12,none⟩ = false:=by
 have hv:p.hd.val = .slice Ad dl dc:=by rw [hhd];rfl
 have b:=(((d.next s).blk).alloc o).grown G (fun e => (d.next s).done_ne (by rw [hv];exact e.symm) rfl)
 refine ⟨?_,b.frozen 12⟩
 rw [b.cell 12,← hv];rfl
theorem MgAt.row_len {w:World} {p:MH} {m:Mg} (d:MgAt w p m) {row:Row} (hr:row ∈ m.rows):row.length ≤ 12:=by
 have hv:validB m.s = true:=(errOf_zero d.fine.err).2.1
 have h1:m.ti < m.tabs.length:=by rw [d.fine.len];exact d.fine.til
 have e:m.rows = m.tabs[m.ti]:=by unfold Mg.rows;rw [List.getD_eq_getElem?_getD,List.getElem?_eq_getElem h1];rfl
 rw [e] at hr
 have hf:=d.fine.fit m.ti h1 d.fine.til row hr
 have:=((valid_iff.1 hv).2 m.ti d.fine.til).1.l12
 have:=(fits_iff.1 hf).1
 omega
theorem step_none (w:World) (n:Int):Calls Tryz.prog 26 #[.pointer none,.int .i64 n] w fun e w' => e = .returned (.tuple #[.int .i64 0,.int .i64 1]) ∧ w = w':=by
 go_enter Tryz.func26,Tryz.ntmps26
 go_wp2_with fail
 go_ret2
 exact ⟨rfl,rfl⟩
theorem step_closed {w:World} {p:MH} {m:Mg} (d:MgAt w p m) (n:Int) (hc:m.closed = true) :
  Calls Tryz.prog 26 #[.pointer (some ⟨p.g,0,none⟩),.int .i64 n] w fun e w' => e = .returned (.tuple #[.int .i64 0,.int .i64 22]) ∧ w = w':=by
 have k7:w.cell? ⟨p.g,14,none⟩ = some (.bool m.closed):=d.cell 14
 rw [hc] at k7
 obtain ⟨g,hg⟩:∃ g,g = p.g:=⟨_,rfl⟩
 rw [← hg] at k7 ⊢
 clear d hc hg
 go_enter Tryz.func26,Tryz.ntmps26
 go_wp2_with fail
 go_ret2
 exact ⟨rfl,rfl⟩
theorem step_open {w:World} {p:MH} {m:Mg} (d:MgAt w p m) (n:Int) (hc:m.closed = false) (hb:m.rows.length ≤ 1000000) (hn1:-9223372036854775808 ≤ n) (hn2:n ≤ 9223372036854775807) :
  Calls Tryz.prog 26 #[.pointer (some ⟨p.g,0,none⟩),.int .i64 n] w fun e w' => e = .returned (.tuple #[.int .i64 ((m.steps (m.count n)).left:Int),.int .i64 (if (m.steps (m.count n)).failed then 15 else 0)]) ∧ MTurn w w' p (m.steps (m.count n)):=by
 obtain ⟨i0,hi0,hiz0,hiz1,hiz2⟩:=info_parts Tryz.infoVals
 have k14:w.cell? ⟨p.g,14,none⟩ = some (.bool m.closed):=d.cell 14
 rw [hc] at k14
 have hlb:m.left ≤ 1000000:=by unfold Mg.left;omega
 obtain ⟨cnt,hcnt⟩:∃ cnt,cnt = m.count n:=⟨_,rfl⟩
 have HCN:Hid (cnt = min (max n 0).toNat m.left):=hcnt
 have hcl:cnt ≤ m.left:=by rw [hcnt];exact m.count_le n
 rw [← hcnt]
 obtain ⟨lf,hlf⟩:∃ lf,lf = m.left:=⟨_,rfl⟩
 have HB:=Lib.hid hb
 have HD:=Lib.hid d
 obtain ⟨g,hg⟩:∃ g,g = p.g:=⟨_,rfl⟩
 rw [← hg] at k14 ⊢
 rw [← hlf] at HCN hlb hcl
 have HG:=Lib.hid hg
 have HLE:=Lib.hid hlf
 have FIN:Hid (∀ w',MTurn w w' p (m.steps cnt) → ∀ lv fv,lv = ((m.steps cnt).left:Int) → fv = (if (m.steps cnt).failed then (15:Int) else 0) → Ending.returned (.tuple #[.int .i64 lv,.int .i64 fv]) = .returned (.tuple #[.int .i64 ((m.steps cnt).left:Int),.int .i64 (if (m.steps cnt).failed then 15 else 0)]) ∧ MTurn w w' p (m.steps cnt)):=fun w' t lv fv h1 h2 => ⟨by rw [h1,h2],t⟩
 obtain ⟨POST,hPOST⟩:∃ POST:Ending → World → Prop,POST = fun e w' => e = .returned (.tuple #[.int .i64 ((m.steps cnt).left:Int),.int .i64 (if (m.steps cnt).failed then 15 else 0)]) ∧ MTurn w w' p (m.steps cnt):=⟨_,rfl⟩
 have HP:=Lib.hid hPOST
 rw [← hPOST]
 have HT0:Hid (MTurn w w p (m.steps 0)):=Lib.hid (MTurn.same d (Same.refl _))
 clear d hc hb hg hlf hcnt hPOST
 go_enter Tryz.func26,Tryz.ntmps26
 go_wp2_with fail
 clear k14
 go_loopw [6] (fun i wr => ∃ j:Nat,j ≤ cnt ∧ i = .int .i64 j ∧ Hid (MTurn w wr p (m.steps j))) (fun i _ => cnt + 1 - (intOf i).toNat)
 case atStart => exact ⟨0,Nat.zero_le _,rfl,HT0⟩
 case round =>
  obtain ⟨j,hj,rfl,T⟩:=hrel
  obtain ⟨p1,d1,hg1,hW1,hB1,c1,o1⟩:=T.out
  have D1:=Lib.hid d1
  have PT:Hid (p1.g = p.g ∧ p1.W0 = p.W0 ∧ MH.Like p1 p ∧ Chg p.own w wr ∧ ∀ k,p1.own k → p.own k ∨ w.heap.size ≤ k):=⟨hg1,hW1,hB1,c1,o1⟩
  have EG:Hid (p1.g = g):=hg1.trans HG.out.symm
  obtain ⟨m1,hm1⟩:∃ m1,m1 = m.steps j:=⟨_,rfl⟩
  rw [← hm1] at D1
  have HM1:=Lib.hid hm1
  have k6:wr.cell? ⟨g,13,none⟩ = some (.bool m1.failed):=by have:=D1.out.cell 13;rw [EG.out] at this;exact this
  have f6:wr.frozen? ⟨g,13,none⟩ = false:=by have:=D1.out.blk.frozen 13;rw [EG.out] at this;exact this
  have lg:g < wr.heap.size:=by have:=D1.out.blk.lt;rw [EG.out] at this;exact this
  obtain ⟨lv,hlv⟩:∃ lv,lv = m1.left:=⟨_,rfl⟩
  have HLF:Hid (Rt 65 #[.pointer (some ⟨g,0,none⟩)] wr (.int .i64 (lv:Int))):=Lib.hid fun W s => by
   have h:=left_ok (D1.out.next s)
   rw [EG.out,← hlv] at h
   exact h
  have HLV:=Lib.hid hlv
  have TS:Hid (∀ W,Same wr W → MTurn w W p m1):=Lib.hid fun W s => MTurn.trans hg1 hW1 hB1 c1 o1 (MTurn.same D1.out s)
  have HSL:Hid (m1.failed = false → m1.left + j = m.left):=Lib.hid fun hf => by
   rw [HM1.out] at hf ⊢
   exact (Mg.steps_left j m HD.out.fine (by have:=HLE.out;omega)).2.2 hf
  clear d1 hg1 hW1 hB1 c1 o1 hm1 T hlv
  by_cases hjn:(j:Int) < n
  case neg =>
   have ej:j = cnt:=by have:=HCN.out;omega
   have HE:Hid (m.steps cnt = m1):=by rw [← ej];exact Lib.hid HM1.out.symm
   have t1:decide ((j:Int) < n) = false:=decide_eq_false hjn
   have SL:Hid (Same wr wr):=Lib.hid (Same.refl wr)
   clear ej hjn
   cases hf:m1.failed with
   | true =>
    rw [hf] at k6
    have HFV:=Lib.hid hf
    clear hf
    go_wp2_with fail
    refine (HLF.out _ SL.out).mono ?_
    rintro e w2 ⟨rfl,s2⟩
    have S2:Hid (Same wr w2):=SL.out.trans s2
    clear s2
    go_wp2_with fail
    show POST (Ending.returned (.tuple #[.int .i64 (lv:Int),.int .i64 15])) w2
    rw [HP.out]
    refine FIN.out _ ?_ _ _ ?_ ?_
    ·rw [HE.out];exact TS.out _ S2.out
    ·rw [HE.out,HLV.out]
    ·rw [HE.out,HFV.out];rfl
   | false =>
    rw [hf] at k6
    have HFV:=Lib.hid hf
    clear hf
    go_wp2_with fail
    refine (HLF.out _ SL.out).mono ?_
    rintro e w2 ⟨rfl,s2⟩
    have S2:Hid (Same wr w2):=SL.out.trans s2
    clear s2
    go_wp2_with fail
    show POST (Ending.returned (.tuple #[.int .i64 (lv:Int),.int .i64 0])) w2
    rw [HP.out]
    refine FIN.out _ ?_ _ _ ?_ ?_
    ·rw [HE.out];exact TS.out _ S2.out
    ·rw [HE.out,HLV.out]
    ·rw [HE.out,HFV.out];rfl
  have t1:decide ((j:Int) < n) = true:=decide_eq_true hjn
  go_wp2_with fail
  refine (HLF.out _ (Same.refl _)).mono ?_
  rintro e wl ⟨rfl,sl⟩
  have SL:Hid (Same wr wl):=sl
  have k6l:=(SL.out.cells _ _ lg).trans k6
  have f6l:wl.frozen? ⟨g,13,none⟩ = false:=(SL.out.frees _ _ lg).trans f6
  have lgl:g < wl.heap.size:=Nat.lt_of_lt_of_le lg SL.out.size
  clear sl k6 f6
  cases hf:m1.failed with
  | true =>
   have HE:Hid (m.steps cnt = m1):=by
    rw [HM1.out]
    exact Lib.hid (Mg.steps_stop hj (by rw [← HM1.out];exact hf))
   rw [hf] at k6l
   have HFV:=Lib.hid hf
   clear hf
   by_cases hlp:0 < lv
   ·have t2:decide (0 < lv) = true:=decide_eq_true hlp
    have t3:decide ((0:Int) < (lv:Int)) = true:=decide_eq_true (by omega)
    go_wp2_with fail
    refine (HLF.out _ SL.out).mono ?_
    rintro e w2 ⟨rfl,s2⟩
    have S2:Hid (Same wr w2):=SL.out.trans s2
    clear s2
    go_wp2_with fail
    show POST (Ending.returned (.tuple #[.int .i64 (lv:Int),.int .i64 15])) w2
    rw [HP.out]
    refine FIN.out _ ?_ _ _ ?_ ?_
    ·rw [HE.out];exact TS.out _ S2.out
    ·rw [HE.out,HLV.out]
    ·rw [HE.out,HFV.out];rfl
   ·have t2:decide (0 < lv) = false:=decide_eq_false hlp
    have t3:decide ((0:Int) < (lv:Int)) = false:=decide_eq_false (by omega)
    go_wp2_with fail
    refine (HLF.out _ SL.out).mono ?_
    rintro e w2 ⟨rfl,s2⟩
    have S2:Hid (Same wr w2):=SL.out.trans s2
    clear s2
    go_wp2_with fail
    show POST (Ending.returned (.tuple #[.int .i64 (lv:Int),.int .i64 15])) w2
    rw [HP.out]
    refine FIN.out _ ?_ _ _ ?_ ?_
    ·rw [HE.out];exact TS.out _ S2.out
    ·rw [HE.out,HLV.out]
    ·rw [HE.out,HFV.out];rfl
  | false =>
  rw [hf] at k6l
  have HFV:=Lib.hid hf
  have hjl:=HSL.out hf
  by_cases hlp:0 < lv
  case neg =>
   have HE:Hid (m.steps cnt = m1):=by
    have h2:=HLV.out
    have h3:=HCN.out
    have h4:=HLE.out
    have ej:j = cnt:=by omega
    rw [← ej];exact Lib.hid HM1.out.symm
   have t2:decide (0 < lv) = false:=decide_eq_false hlp
   have t3:decide ((0:Int) < (lv:Int)) = false:=decide_eq_false (by omega)
   clear hf hjl
   go_wp2_with fail
   refine (HLF.out _ SL.out).mono ?_
   rintro e w2 ⟨rfl,s2⟩
   have S2:Hid (Same wr w2):=SL.out.trans s2
   clear s2
   go_wp2_with fail
   show POST (Ending.returned (.tuple #[.int .i64 (lv:Int),.int .i64 0])) w2
   rw [HP.out]
   refine FIN.out _ ?_ _ _ ?_ ?_
   ·rw [HE.out];exact TS.out _ S2.out
   ·rw [HE.out,HLV.out]
   ·rw [HE.out,HFV.out];rfl
  have t2:decide (0 < lv) = true:=decide_eq_true hlp
  have t3:decide ((0:Int) < (lv:Int)) = true:=decide_eq_true (by omega)
  have hlt:j < cnt:=by
   have h2:=HLV.out
   have h3:=HCN.out
   have h4:=HLE.out
   omega
  have hl:m1.done.length < m1.rows.length:=by
   have h2:=HLV.out
   unfold Mg.left at h2
   omega
  have DL:=Lib.hid (D1.out.next SL.out)
  clear hf HLF hjl hjn hlp
  obtain ⟨go,oc,tn,gi,ic,rl,dl,dc,rn,rc,Ad,Ar,⟨k2,k3,k4⟩,⟨k7,k8⟩,⟨b1,b2,b3,b4⟩,hhd,hdl,hdm,hin⟩:=DL.out.round hl
  rw [EG.out] at k2 k3 k4
  have HHD:=Lib.hid (And.intro hhd (And.intro hdl hdm))
  have HL:=Lib.hid hl
  have hrlen:(m1.rows[m1.done.length]).length ≤ 12:=DL.out.row_len (List.getElem_mem hl)
  have st:=DL.out.st
  have HC0:∀ W,Same wl W → Calls Tryz.prog 10 #[.agg #[p1.hs.val],m1.c.val,.int .i64 m1.ti,(⟨Ar,rn,rc⟩:Hd).val] W fun e w' => (∃ A' n' c',e = .returned (.tuple #[.slice A' n' c',.int .i64 (convS m1.s m1.c m1.ti m1.rows[m1.done.length]).2]) ∧ (RowAt w' ⟨A',n',c'⟩ (convS m1.s m1.c m1.ti m1.rows[m1.done.length]).1 ∧ Fresh wl.heap.size ⟨A',n',c'⟩)) ∧ Same W w':=by
   intro W s
   refine (rconvert_ok p1.hs p1.ts m1.c m1.ti ⟨Ar,rn,rc⟩ m1.rows[m1.done.length] W (DL.out.tabs.same s) st.few st.okn st.okd (hin.1.same s) (by omega) st.tsl).mono ?_
   rintro e w' ⟨⟨⟨A',n',c'⟩,he,hR,hF⟩,s'⟩
   rw [st.tsm] at he hR
   exact ⟨⟨A',n',c',he,hR,fun a ha => Nat.le_trans s.size (hF a ha)⟩,s'⟩
  have hcc:∀ i v,(p1.cells m1)[i]? = some v → wl.cell? ⟨g,i,none⟩ = some v:=fun i v hv => by
   have:=DL.out.cell i
   rw [EG.out] at this
   rw [this];exact hv
  obtain ⟨ti,hti⟩:∃ ti,ti = m1.ti:=⟨_,rfl⟩
  obtain ⟨cv,hcv⟩:∃ cv,cv = convS m1.s m1.c m1.ti m1.rows[m1.done.length]:=⟨_,rfl⟩
  rw [← hcv] at HC0
  have HCV:=Lib.hid hcv
  rw [← hti] at k2 k7 b1 HC0
  have HTI:=Lib.hid hti
  have HPH:Hid (∀ i v,(p1.cells m1)[i]? = some v → wl.cell? ⟨g,i,none⟩ = some v):=hcc
  have HC1:=Lib.hid HC0
  have y0:=hcc 0 p1.hs.val rfl
  have y1:=hcc 1 (.int .i64 m1.c.kind) rfl
  have y2:=hcc 2 (.string m1.c.table) rfl
  have y3:=hcc 3 (.string m1.c.attr) rfl
  have y4:=hcc 4 (.string m1.c.name) rfl
  have y5:=hcc 5 (.int .i64 m1.c.to_) rfl
  have y6:=hcc 6 (.int .i64 m1.c.dflt.k) rfl
  have y7:=hcc 7 (.int .i64 m1.c.dflt.n) rfl
  have y8:=hcc 8 (.string m1.c.dflt.s) rfl
  obtain ⟨⟨As,sn,sc⟩,hps⟩:∃ q:Hd,q = p1.hs:=⟨_,rfl⟩
  obtain ⟨⟨ck,ct,ca,cn,cto,⟨cdk,cdn,cds⟩⟩,hpc⟩:∃ q:Cg,q = m1.c:=⟨_,rfl⟩
  rw [← hps] at y0 HC1
  rw [← hpc] at y1 y2 y3 y4 y5 y6 y7 y8 HC1
  have y0':wl.cell? ⟨g,0,none⟩ = some (.slice As sn sc):=y0
  have HC:Hid (∀ W,Same wl W → Calls Tryz.prog 10 #[.agg #[.slice As sn sc],.agg #[.int .i64 ck,.string ct,.string ca,.string cn,.int .i64 cto,.int .i64 cdk,.int .i64 cdn,.string cds],.int .i64 ti,.slice Ar rn rc] W fun e w' => (∃ A' n' c',e = .returned (.tuple #[.slice A' n' c',.int .i64 cv.2]) ∧ (RowAt w' ⟨A',n',c'⟩ cv.1 ∧ Fresh wl.heap.size ⟨A',n',c'⟩)) ∧ Same W w'):=HC1
  obtain ⟨E,hE⟩:∃ E,E = cv.2:=⟨_,rfl⟩
  rw [← hE] at HC
  have HE2:=Lib.hid hE
  have l2:=World.block_lt_of_cell? wl _ k7
  have l3:=World.block_lt_of_cell? wl _ k8
  have l2':go < wl.heap.size:=l2
  have l3':gi < wl.heap.size:=l3
  have ti0:(0:Int) ≤ (ti:Int):=by omega
  have tiI:(ti:Int) < (tn:Int):=by omega
  have dl0:(0:Int) ≤ (dl:Int):=by omega
  have dlI:(dl:Int) < (rl:Int):=by omega
  have HOD:Hid (∀ W (o:Obj),Same wl W → (W.alloc o).ownsRow p1.B 29 1 (.slice Ad dl dc) dl (p1.dr.flatMap Rw.cell)):=Lib.hid fun W o s => by
   have h:=(own_same s DL.out.od).alloc o
   rw [HHD.out.1,← HHD.out.2.1] at h
   exact h
  have HG4:=Lib.hid (fun (W:World) (o:Obj) (w2:World) (s:Same wl W) (G:(W.alloc o).grownBy w2 (Value.slice Ad dl dc).ownBlock) => DL.out.done_cell HHD.out.1 W o w2 s G)
  have HPB:Hid (∀ W,Same wl W → p1.B ≤ W.heap.size):=Lib.hid fun W s => by
   have h1:=DL.out.st.gB
   have h2:=DL.out.blk.lt
   have h3:=s.size
   omega
  have hdb:dl ≤ 1000000:=by
   have h1:=HHD.out.2.2
   have h2:=HB.out
   have h3:m1.rows = m.rows:=by rw [HM1.out];exact Mg.steps_rows j m
   rw [h3] at hl
   omega
  obtain ⟨BB,hBB⟩:∃ BB,BB = p1.B:=⟨_,rfl⟩
  obtain ⟨XS,hXS⟩:∃ XS,XS = p1.dr.flatMap Rw.cell:=⟨_,rfl⟩
  rw [← hBB,← hXS] at HOD
  rw [← hBB] at HPB
  rw [EG.out] at HG4
  have HBX:=Lib.hid (And.intro hBB hXS)
  have HPU:=Lib.hid (fun (w1 w2:World) (s1:Same wl w1) (hz:cv.2 = 0) (A':Option Addr) (n' c':Nat) (R:RowAt w1 ⟨A',n',c'⟩ cv.1) (F:Fresh wl.heap.size ⟨A',n',c'⟩) (o:Obj) (A2:Option Addr) (n2 c2:Nat) (G:(w1.alloc o).grownBy w2 (Value.slice Ad dl dc).ownBlock) (own:w2.ownsRow p1.B 29 1 (.slice A2 n2 c2) (dl + 1) (p1.dr.flatMap Rw.cell ++ [.slice A' n' c'])) (hat:(Value.slice A2 n2 c2).ownBlock = (Value.slice Ad dl dc).ownBlock ∨ (Value.slice A2 n2 c2).ownBlock = some (w1.alloc o).heap.size) => DL.out.push' HFV.out HL.out s1 HCV.out hz R F HHD.out.1 HHD.out.2.1 G own hat)
  have HFA:=Lib.hid (fun (w1:World) (s1:Same wl w1) (hz:cv.2 ≠ 0) => DL.out.fail' HFV.out HL.out s1 HCV.out hz)
  rw [EG.out] at HPU HFA
  clear hhd hdl hdm hin hrlen hti hcv hE hBB hXS hps hpc HC0 HC1 hcc y0 st l2 l3
  have HTR:Hid (∀ w',(∃ p2,MgAt w' p2 m1.one ∧ p2.g = p1.g ∧ p2.W0 = p1.W0 ∧ MH.Like p2 p1 ∧ Chg p1.own wl w' ∧ ∀ k,p2.own k → p1.own k ∨ wl.heap.size ≤ k) → MTurn w w' p (m.steps (j + 1))):=Lib.hid fun w' h => by
   obtain ⟨p2,d2,e1,e2,e3,c2',o2⟩:=h
   have h1:m.steps (j + 1) = m1.one:=by rw [Mg.steps_succ,← HM1.out]
   rw [h1]
   exact MTurn.then_ PT.out.1 PT.out.2.1 PT.out.2.2.1 (PT.out.2.2.2.1.then_same SL.out) (fun k hk => PT.out.2.2.2.2 k hk) d2 e1 e2 e3 c2' o2
  by_cases hz:E = 0
  case neg =>
   have tE:(E != 0) = true:=by simp;exact hz
   have HZ:Hid (cv.2 ≠ 0):=by rw [← HE2.out];exact Lib.hid hz
   clear hz HOD HG4 HPB hdb HPU
   go_wp2_with fail
   go_region_held3 (fun w' => w'.cell? ⟨g,0,none⟩ = some (.slice As sn sc) ∧ w'.cell? ⟨g,1,none⟩ = some (.int .i64 ck) ∧ w'.cell? ⟨g,2,none⟩ = some (.string ct) ∧ w'.cell? ⟨g,3,none⟩ = some (.string ca) ∧ w'.cell? ⟨g,4,none⟩ = some (.string cn) ∧ w'.cell? ⟨g,5,none⟩ = some (.int .i64 cto) ∧ w'.cell? ⟨g,6,none⟩ = some (.int .i64 cdk) ∧ w'.cell? ⟨g,7,none⟩ = some (.int .i64 cdn) ∧ w'.cell? ⟨g,8,none⟩ = some (.string cds) ∧ w'.cell? ⟨g,10,none⟩ = some (.int .i64 ti) ∧ w'.cell? ⟨g,11,none⟩ = some (.slice (some ⟨go,0,none⟩) tn oc) ∧ w'.cell? ⟨g,12,none⟩ = some (.slice Ad dl dc) ∧ w'.cell? ⟨go,ti,none⟩ = some (.slice (some ⟨gi,0,none⟩) rl ic) ∧ w'.cell? ⟨gi,dl,none⟩ = some (.slice Ar rn rc)) (first | (simp [*];done) | ((repeat' apply And.intro) <;> (first | assumption | go_keep)))
    ((go_at_call 10;refine (HC.out _ ?_).mono ?_;exact (Same.refl wl).drew;rintro e w1 ⟨⟨A',n',c',rfl,hR⟩,s1⟩;have S1:Hid (Same wl w1):=Same.trans ((Same.refl wl).drew) s1;have u6:=(S1.out.cells _ 13 lgl).trans k6l;have v6:=(S1.out.frees _ 13 lgl).trans f6l;have q0:=(S1.out.cells _ _ lgl).trans y0';have q1:=(S1.out.cells _ _ lgl).trans y1;have q2:=(S1.out.cells _ _ lgl).trans y2;have q3:=(S1.out.cells _ _ lgl).trans y3;have q4:=(S1.out.cells _ _ lgl).trans y4;have q5:=(S1.out.cells _ _ lgl).trans y5;have q6:=(S1.out.cells _ _ lgl).trans y6;have q7:=(S1.out.cells _ _ lgl).trans y7;have q8:=(S1.out.cells _ _ lgl).trans y8;have q9:=(S1.out.cells _ _ lgl).trans k2;have q10:=(S1.out.cells _ _ lgl).trans k3;have q11:=(S1.out.cells _ _ lgl).trans k4;have q12:=(S1.out.cells _ _ l2').trans k7;have q13:=(S1.out.cells _ _ l3').trans k8;clear s1 hR))
   all_goals
    have D2:=Lib.hid (HFA.out w1 S1.out HZ.out)
    go_wp2_with fail
    go_roundw
    case rel =>
     refine ⟨j + 1,by omega,by go_num,?_⟩
     exact HTR.out _ ⟨p1,D2.out.1,rfl,rfl,MH.Like.refl _,D2.out.2.1,fun _ hk => .inl hk⟩
    case measure => simp [intOf];omega
  case pos =>
   subst hz
   have HZ:Hid (cv.2 = 0):=Lib.hid HE2.out.symm
   clear HFA
   go_wp2_with fail
   go_region_held3 (fun w' => w'.cell? ⟨g,0,none⟩ = some (.slice As sn sc) ∧ w'.cell? ⟨g,1,none⟩ = some (.int .i64 ck) ∧ w'.cell? ⟨g,2,none⟩ = some (.string ct) ∧ w'.cell? ⟨g,3,none⟩ = some (.string ca) ∧ w'.cell? ⟨g,4,none⟩ = some (.string cn) ∧ w'.cell? ⟨g,5,none⟩ = some (.int .i64 cto) ∧ w'.cell? ⟨g,6,none⟩ = some (.int .i64 cdk) ∧ w'.cell? ⟨g,7,none⟩ = some (.int .i64 cdn) ∧ w'.cell? ⟨g,8,none⟩ = some (.string cds) ∧ w'.cell? ⟨g,10,none⟩ = some (.int .i64 ti) ∧ w'.cell? ⟨g,11,none⟩ = some (.slice (some ⟨go,0,none⟩) tn oc) ∧ w'.cell? ⟨g,12,none⟩ = some (.slice Ad dl dc) ∧ w'.cell? ⟨go,ti,none⟩ = some (.slice (some ⟨gi,0,none⟩) rl ic) ∧ w'.cell? ⟨gi,dl,none⟩ = some (.slice Ar rn rc)) (first | (simp [*];done) | ((repeat' apply And.intro) <;> (first | assumption | go_keep)))
    ((go_at_call 10;refine (HC.out _ ?_).mono ?_;exact (Same.refl wl).drew;rintro e w1 ⟨⟨A',n',c',rfl,hR⟩,s1⟩;have S1:Hid (Same wl w1):=Same.trans ((Same.refl wl).drew) s1;have q0:=(S1.out.cells _ _ lgl).trans y0';have q1:=(S1.out.cells _ _ lgl).trans y1;have q2:=(S1.out.cells _ _ lgl).trans y2;have q3:=(S1.out.cells _ _ lgl).trans y3;have q4:=(S1.out.cells _ _ lgl).trans y4;have q5:=(S1.out.cells _ _ lgl).trans y5;have q6:=(S1.out.cells _ _ lgl).trans y6;have q7:=(S1.out.cells _ _ lgl).trans y7;have q8:=(S1.out.cells _ _ lgl).trans y8;have q9:=(S1.out.cells _ _ lgl).trans k2;have q10:=(S1.out.cells _ _ lgl).trans k3;have q11:=(S1.out.cells _ _ lgl).trans k4;have q12:=(S1.out.cells _ _ l2').trans k7;have q13:=(S1.out.cells _ _ l3').trans k8;have RR:=Lib.hid hR;clear s1 hR))
   all_goals
    have l1g:g < w1.heap.size:=Nat.lt_of_lt_of_le lgl S1.out.size
    have OD:=Lib.hid (HOD.out w1 (.cells #[.slice A' n' c'] 29) S1.out)
    have G4:=Lib.hid (fun w2 => HG4.out w1 (.cells #[.slice A' n' c'] 29) w2 S1.out)
    have PB1:=HPB.out w1 S1.out
    have u4:=(S1.out.cells _ 12 lgl).trans k4
    go_wp2_with (at_builtin;refine wpList_append_any _ rfl (.tmp 74) (.tmp 76) 99 rfl BB 29 i0 _ 1 24 Tryz.underlying99 hi0 hiz0 hiz1 hiz2 rfl (by decide) (.slice Ad dl dc) dl XS rfl OD.out (w1.heap.size + 1) (some ⟨w1.heap.size,0,none⟩) 1 1 [.slice A' n' c'] rfl (reads_new w1 _ _) (by intro u hu;simp at hu;rw [hu];rfl) (by simp only [maxLen];omega) (by omega) (by simp;omega) ?_;intro v1 w2 hown1 hg1 hat1;obtain ⟨A2,c2,hv⟩:=own_val hown1;subst hv;have g4:=(G4.out w2 hg1).1;have f4:=(G4.out w2 hg1).2;have P2:=Lib.hid (And.intro hown1 (And.intro hg1 hat1));clear hown1 hg1 hat1)
    go_roundw
    case rel =>
     refine ⟨j + 1,by omega,by go_num,?_⟩
     obtain ⟨p2,d2,e1,e2,e3,c2',o2⟩:=HPU.out w1 w2 S1.out HZ.out A' n' c' RR.out.1 RR.out.2 _ A2 (dl + 1) c2 P2.out.2.1 (by rw [← HBX.out.1,← HBX.out.2];exact P2.out.1) P2.out.2.2
     exact HTR.out _ ⟨p2,d2,e1.trans EG.out.symm,e2,e3,c2',o2⟩
    case measure => simp [intOf];omega
theorem step_ok {w:World} {p:MH} {m:Mg} (d:MgAt w p m) (n:Int) (hb:m.rows.length ≤ 1000000) (hn1:-9223372036854775808 ≤ n) (hn2:n ≤ 9223372036854775807) :
  Calls Tryz.prog 26 #[.pointer (some ⟨p.g,0,none⟩),.int .i64 n] w fun e w' => e = .returned (.tuple #[.int .i64 (m.stepN n),.int .i64 (m.stepE n)]) ∧ MTurn w w' p (m.step n):=by
 cases hc:m.closed with
 | true =>
  refine (step_closed d n hc).mono ?_
  rintro e w' ⟨he,rfl⟩
  have e1:m.step n = m:=by unfold Mg.step;rw [if_pos hc]
  refine ⟨?_,by rw [e1];exact MTurn.same d (Same.refl _)⟩
  rw [he]
  unfold Mg.stepN Mg.stepE
  rw [if_pos hc,if_pos hc]
  rfl
 | false =>
  refine (step_open d n hc hb hn1 hn2).mono ?_
  rintro e w' ⟨he,t⟩
  have h:¬ m.closed = true:=by rw [hc];simp
  have e1:m.step n = m.steps (m.count n):=by unfold Mg.step;rw [if_neg h]
  refine ⟨?_,by rw [e1];exact t⟩
  rw [he]
  unfold Mg.stepN Mg.stepE
  rw [if_neg h,if_neg h,e1]
end Go.Proofs.YtfifnemnihcijaaGreatDoor.R43
namespace Go.Proofs.YtfifnemnihcijaaGreatDoor.R43
open Go.RowKit
theorem MgAt.putRow {w w1:World} {p:MH} {m:Mg} (d:MgAt w p m) (i:Nat) (hi:i < p.tb.length) {go oc:Nat} (ho:p.ho = ⟨some ⟨go,0,none⟩,p.tb.length,oc⟩) {h:Hd} {row:Row} {o:Obj} (hr:RowIn w (fun k => ¬ p.own k) ⟨h,row⟩) (hlo:In (fun k => k < p.lo) h) {A:Option Addr} {n c:Nat}
  (G:(w.alloc o).grownBy w1 p.tb[i].h.val.ownBlock) (o1:w1.ownsRow p.B 29 1 (.slice A n c) (p.tb[i].rs.length + 1) (p.tb[i].rs.flatMap Rw.cell ++ [h.val]))
  (hat:(Value.slice A n c).ownBlock = p.tb[i].h.val.ownBlock ∨ (Value.slice A n c).ownBlock = some (w.alloc o).heap.size) (hf:({ m with tabs:=putT m.tabs i row }:Mg).Fine) :
  MgAt (w1.setCell ⟨go,i,none⟩ (.slice A n c)) { p with tb:=p.tb.set i ⟨⟨A,n,c⟩,p.tb[i].rs ++ [⟨h,row⟩]⟩ } { m with tabs:=putT m.tabs i row } ∧
  Chg p.own w (w1.setCell ⟨go,i,none⟩ (.slice A n c)) ∧ ∀ k,MH.own { p with tb:=p.tb.set i ⟨⟨A,n,c⟩,p.tb[i].rs ++ [⟨h,row⟩]⟩ } k → p.own k ∨ w.heap.size ≤ k:=by
 obtain ⟨nt,hnt⟩:∃ nt:Tbl,nt = ⟨⟨A,n,c⟩,p.tb[i].rs ++ [⟨h,row⟩]⟩:=⟨_,rfl⟩
 rw [← hnt]
 have hti:p.tb[i] ∈ p.tb:=List.getElem_mem hi
 have hgo:p.ho.val.ownBlock = some go:=by rw [ho];rfl
 have c1:Chg (fun k => p.tb[i].h.val.ownBlock = some k) w w1:=((Chg.refl _ w).alloc o).grown G fun k hk _ => hk
 have c2:Chg (fun k => k = go) w1 (w1.setCell ⟨go,i,none⟩ (.slice A n c)):=(Chg.refl _ _).setCell _ _ (fun _ => rfl)
 have c3:Chg (fun k => p.tb[i].h.val.ownBlock = some k ∨ k = go) w (w1.setCell ⟨go,i,none⟩ (.slice A n c)):=(c1.mono fun k _ e => .inl e).trans c2 fun i _ e => .inr e
 have c':Chg p.own w (w1.setCell ⟨go,i,none⟩ (.slice A n c)):=c3.mono fun k _ e => e.elim (fun e => .inr (.inr (.inl ⟨_,hti,e⟩))) (fun e => .inr (.inl (by rw [e];exact hgo)))
 have hnb:∀ k,nt.h.val.ownBlock = some k → p.tb[i].h.val.ownBlock = some k ∨ (k = (w.alloc o).heap.size ∧ w.heap.size ≤ k):=by
  intro k hk
  rw [hnt] at hk
  have hk':(Value.slice A n c).ownBlock = some k:=hk
  rcases hat with e | e
  ·exact .inl (e ▸ hk')
  ·right
   rw [e] at hk'
   injection hk' with hk'
   exact ⟨hk'.symm,by rw [← hk'];simp⟩
 have howp:∀ k,MH.own { p with tb:=p.tb.set i nt } k → p.own k ∨ w.heap.size ≤ k:=by
  intro k hk
  rcases hk with hk | hk | ⟨t,ht,hk⟩ | hk
  ·exact .inl (.inl hk)
  ·exact .inl (.inr (.inl hk))
  ·rcases List.mem_or_eq_of_mem_set (show t ∈ p.tb.set i nt from ht) with h1 | h1
   ·exact .inl (.inr (.inr (.inl ⟨t,h1,hk⟩)))
   ·rw [h1] at hk
    rcases hnb k hk with h2 | h2
    ·exact .inl (.inr (.inr (.inl ⟨_,hti,h2⟩)))
    ·exact .inr h2.2
  ·exact .inl (.inr (.inr (.inr hk)))
 have st:=d.st
 have hn:n = p.tb[i].rs.length + 1:=by
  obtain ⟨g,cap,hv,_⟩:=o1.form (Nat.succ_pos _)
  injection hv
 have hng:p.g ≠ go:=fun e => d.outer_ne hgo e.symm
 have gb:Blk (w1.setCell ⟨go,i,none⟩ (.slice A n c)) p.g 108 (p.cells m):=d.blk.chg c3 fun e => e.elim (fun e => d.inner_ne hti e rfl) hng
 have hset:∀ j (hj:j < (p.tb.set i nt).length),(∃ hj':j < p.tb.length,j ≠ i ∧ (p.tb.set i nt)[j] = p.tb[j]) ∨ (j = i ∧ (p.tb.set i nt)[j] = nt):=by
  intro j hj
  have hj':j < p.tb.length:=by simpa using hj
  by_cases e:j = i
  ·subst e;exact .inr ⟨rfl,by simp⟩
  ·exact .inl ⟨hj',e,by rw [List.getElem_set_ne (Ne.symm e)]⟩
 have hlt:∀ (j:Nat) (hj:j < p.tb.length) k,p.tb[j].h.val.ownBlock = some k → k < w.heap.size:=by
  intro j hj k hk
  obtain ⟨_,cs,hb⟩:=row_ty (d.oi _ (List.getElem_mem hj)).1 hk
  exact hb.lt
 refine ⟨d.turned c' ⟨st.ts,st.tsm,st.few,st.tsl,st.tn,st.tnm,st.fewn,st.okn,st.okd,st.laid,st.WB,st.gB,st.tsI,st.tnI⟩ rfl rfl ⟨rfl,rfl,rfl⟩ ?_ d.rh gb ?_ ?_ ?_ ?_ ?_ d.dh d.dr ?_ ?_ ?_ ?_ hf,c',howp⟩
 ·intro t ht r hr'
  obtain ⟨j,hj,rfl⟩:=List.mem_iff_getElem.1 (show t ∈ p.tb.set i nt from ht)
  rcases hset j hj with ⟨hj',hne,e⟩ | ⟨_,e⟩
  ·rw [e] at hr'
   exact d.rl _ (List.getElem_mem hj') r hr'
  ·rw [e,hnt] at hr'
   rcases List.mem_append.1 hr' with h1 | h1
   ·exact d.rl _ hti r h1
   ·rw [List.mem_singleton.1 h1];exact hlo
 ·show (w1.setCell ⟨go,i,none⟩ (.slice A n c)).ownsRow p.B 99 1 p.ho.val (p.tb.set i nt).length ((p.tb.set i nt).flatMap Tbl.cell)
  have oo:=own_chg d.oo c1 (fun k hk e => d.outer_inner hti e hk)
  rw [ho] at oo ⊢
  rw [List.length_set]
  show (w1.setCell ⟨go,i,none⟩ (.slice A n c)).ownsRow p.B 99 1 (.slice (some ⟨go,0,none⟩) p.tb.length oc) p.tb.length _
  have:=own_set Tbl.clen oo rfl i hi 0 (by decide) (.slice A n c) nt (by rw [hnt];rfl)
  simpa using this
 ·show p.ho.n = (p.tb.set i nt).length
  rw [List.length_set];exact d.oh
 ·intro t ht
  obtain ⟨j,hj,rfl⟩:=List.mem_iff_getElem.1 (show t ∈ p.tb.set i nt from ht)
  rcases hset j hj with ⟨hj',hne,e⟩ | ⟨_,e⟩
  ·rw [e]
   refine ⟨own_chg (d.oi _ (List.getElem_mem hj')).1 c3 fun k hk e2 => e2.elim (fun e2 => d.ai j i hj' hi hne k hk e2) (fun e2 => ?_),(d.oi _ (List.getElem_mem hj')).2⟩
   subst e2
   exact d.outer_inner (List.getElem_mem hj') hk hgo
  ·rw [e,hnt]
   have e1:(p.tb[i].rs ++ [(⟨h,row⟩:Rw)]).flatMap Rw.cell = p.tb[i].rs.flatMap Rw.cell ++ [h.val]:=by rw [List.flatMap_append];rfl
   show (w1.setCell ⟨go,i,none⟩ (.slice A n c)).ownsRow p.B 29 1 (.slice A n c) (p.tb[i].rs ++ [(⟨h,row⟩:Rw)]).length ((p.tb[i].rs ++ [(⟨h,row⟩:Rw)]).flatMap Rw.cell) ∧ n = (p.tb[i].rs ++ [(⟨h,row⟩:Rw)]).length
   rw [e1,List.length_append]
   refine ⟨own_far o1 (fun e2 => ?_) i _,hn⟩
   obtain ⟨_,cs,hb⟩:=row_ty o1 e2
   obtain ⟨_,cs',hb'⟩:=row_ty (own_chg d.oo c1 (fun k hk e => d.outer_inner hti e hk)) hgo
   exact Blk.ne_ hb hb' (by decide) rfl
 ·show rowsOf (p.tb.set i nt) = putT m.tabs i row
  rw [hnt,rows_put p.tb i hi ⟨A,n,c⟩ ⟨h,row⟩,d.tr]
 ·exact own_chg d.od c3 fun k hk e => e.elim (fun e => d.ad _ hti k e hk) (fun e => by subst e;exact d.outer_done hk hgo)
 ·intro t ht r hr'
  obtain ⟨j,hj,rfl⟩:=List.mem_iff_getElem.1 (show t ∈ p.tb.set i nt from ht)
  rcases hset j hj with ⟨hj',hne,e⟩ | ⟨_,e⟩
  ·rw [e] at hr'
   exact row_in_new2 d c' howp (d.rr _ (List.getElem_mem hj') r hr')
  ·rw [e,hnt] at hr'
   rcases List.mem_append.1 hr' with h1 | h1
   ·exact row_in_new2 d c' howp (d.rr _ hti r h1)
   ·rw [List.mem_singleton.1 h1]
    exact row_in_new2 d c' howp hr
 ·exact fun r hr' => row_in_new2 d c' howp (d.rd r hr')
 ·intro a b ha hb hab k h1 h2
  have h1':(p.tb.set i nt)[a].h.val.ownBlock = some k:=h1
  have h2':(p.tb.set i nt)[b].h.val.ownBlock = some k:=h2
  rcases hset a ha with ⟨ha',hna,ea⟩ | ⟨ha',ea⟩
  ·rw [ea] at h1'
   rcases hset b hb with ⟨hb',hnb',eb⟩ | ⟨hb',eb⟩
   ·rw [eb] at h2';exact d.ai a b ha' hb' hab k h1' h2'
   ·rw [eb] at h2'
    rcases hnb k h2' with h3 | h3
    ·exact d.ai a i ha' hi hna k h1' h3
    ·have:=hlt a ha' k h1';omega
  ·rw [ea] at h1'
   rcases hset b hb with ⟨hb',hnb',eb⟩ | ⟨hb',eb⟩
   ·rw [eb] at h2'
    rcases hnb k h1' with h3 | h3
    ·exact d.ai b i hb' hi hnb' k h2' h3
    ·have:=hlt b hb' k h2';omega
   ·exact hab (ha'.trans hb'.symm)
 ·intro t ht k hk
  show p.hd.val.ownBlock ≠ some k
  obtain ⟨j,hj,rfl⟩:=List.mem_iff_getElem.1 (show t ∈ p.tb.set i nt from ht)
  rcases hset j hj with ⟨hj',hne,e⟩ | ⟨_,e⟩
  ·rw [e] at hk;exact d.ad _ (List.getElem_mem hj') k hk
  ·rw [e] at hk
   rcases hnb k hk with h3 | h3
   ·exact d.ad _ hti k h3
   ·intro h4
    obtain ⟨_,cs,hb⟩:=row_ty d.od h4
    have:=hb.lt
    omega
theorem put_none (w:World) (t:Int) (A:Option Addr) (n c:Nat) :
  Calls Tryz.prog 28 #[.pointer none,.int .i64 t,.slice A n c] w fun e w' => e = .returned (.int .i64 1) ∧ w = w':=by
 go_enter Tryz.func28,Tryz.ntmps28
 go_wp2_with fail
 go_ret
 exact ⟨rfl,rfl⟩
theorem put_closed {w:World} {p:MH} {m:Mg} (d:MgAt w p m) (t:Int) (A:Option Addr) (n c:Nat) (hc:m.closed = true) :
  Calls Tryz.prog 28 #[.pointer (some ⟨p.g,0,none⟩),.int .i64 t,.slice A n c] w fun e w' => e = .returned (.int .i64 22) ∧ w = w':=by
 have k14:w.cell? ⟨p.g,14,none⟩ = some (.bool m.closed):=d.cell 14
 rw [hc] at k14
 obtain ⟨g,hg⟩:∃ g,g = p.g:=⟨_,rfl⟩
 rw [← hg] at k14 ⊢
 clear d hc hg
 go_enter Tryz.func28,Tryz.ntmps28
 go_wp2_with fail
 go_ret
 exact ⟨rfl,rfl⟩
theorem put_low {w:World} {p:MH} {m:Mg} (d:MgAt w p m) (t:Int) (A:Option Addr) (n c:Nat) (hc:m.closed = false) (ht:t < 0 ∨ (m.s.length:Int) ≤ t) :
  Calls Tryz.prog 28 #[.pointer (some ⟨p.g,0,none⟩),.int .i64 t,.slice A n c] w fun e w' => e = .returned (.int .i64 1) ∧ w = w':=by
 have k14:w.cell? ⟨p.g,14,none⟩ = some (.bool m.closed):=d.cell 14
 rw [hc] at k14
 obtain ⟨go,oc,ho,-,-⟩:=d.outer
 have k3:w.cell? ⟨p.g,11,none⟩ = some (.slice (some ⟨go,0,none⟩) p.tb.length oc):=by
  have h3:w.cell? ⟨p.g,11,none⟩ = some p.ho.val:=d.cell 11
  rw [h3,ho];rfl
 have hl:=d.tbl.1
 rw [← hl] at ht
 obtain ⟨tn,htn⟩:∃ tn,tn = p.tb.length:=⟨_,rfl⟩
 obtain ⟨g,hg⟩:∃ g,g = p.g:=⟨_,rfl⟩
 rw [← hg] at k14 k3 ⊢
 rw [← htn] at k3 ht
 clear d hc hg htn hl ho
 by_cases h0:t < 0
 ·have t1:decide (t < 0) = true:=decide_eq_true h0
  clear h0 ht
  go_enter Tryz.func28,Tryz.ntmps28
  go_wp2_with fail
  go_ret
  exact ⟨rfl,rfl⟩
 ·have t1:decide (t < 0) = false:=decide_eq_false h0
  have t2:(tn:Int) ≤ t:=ht.resolve_left h0
  have t3:decide ((tn:Int) ≤ t) = true:=decide_eq_true t2
  clear h0 ht
  go_enter Tryz.func28,Tryz.ntmps28
  go_wp2_with fail
  go_ret
  exact ⟨rfl,rfl⟩
theorem MgAt.put_cells {wr:World} {p:MH} {m:Mg} (d:MgAt wr p m) (i:Nat) (hi:i < p.tb.length) {go oc:Nat} (ho:p.ho = ⟨some ⟨go,0,none⟩,p.tb.length,oc⟩) (W:World) (o:Obj) (w3:World) (s:Same wr W) (G:(W.alloc o).grownBy w3 p.tb[i].h.val.ownBlock) :
  w3.cell? ⟨p.g,11,none⟩ = some p.ho.val ∧ w3.cell? ⟨go,i,none⟩ = some p.tb[i].h.val ∧ w3.frozen? ⟨go,i,none⟩ = false:=by
 have d1:=d.next s
 have hgo:p.ho.val.ownBlock = some go:=by rw [ho];rfl
 have hti:p.tb[i] ∈ p.tb:=List.getElem_mem hi
 have b:=((d1.blk).alloc o).grown G (fun e => d1.inner_ne hti e.symm rfl)
 have c1:Chg (fun k => p.tb[i].h.val.ownBlock = some k) W w3:=((Chg.refl _ W).alloc o).grown G fun k hk _ => hk
 have oo:=own_chg d1.oo c1 (fun k hk e => d1.outer_inner hti e hk)
 obtain ⟨_,cs,hb⟩:=row_ty oo hgo
 refine ⟨(b.cell 11).trans rfl,?_,hb.frozen i⟩
 rw [ho] at oo
 have:=own_cell Tbl.clen oo rfl i hi 0 (by decide)
 simpa [Tbl.cell] using this
theorem put_mid (g go tn oc ti tl tc b off n c rn rc BB:Nat) (Ai Ar:Option Addr) (XS:List Value) (x:RT) (fb:Bool) (w:World) (ht:ti < tn) (htn:tn ≤ 9223372036854775807) (hn:tn ≤ n) (hn2:n ≤ 9223372036854775807) (hl:tl ≤ 1000000) (hgl:g < w.heap.size) (hgol:go < w.heap.size) (hbl:b < w.heap.size) (hBB:BB ≤ w.heap.size)
  (k14:w.cell? ⟨g,14,none⟩ = some (.bool false))
  (k0:w.cell? ⟨g,0,none⟩ = some (.slice (some ⟨b,off,none⟩) n c)) (k3:w.cell? ⟨g,11,none⟩ = some (.slice (some ⟨go,0,none⟩) tn oc)) (kt:w.cell? ⟨go,ti,none⟩ = some (.slice Ai tl tc))
  (hx:∀ j v,x.cells[j]? = some v → w.cell? ⟨b,off + ti * 3 + j,none⟩ = some v)
  (HF:Calls Tryz.prog 18 #[x.val,.slice Ar rn rc] w fun e w' => e = .returned (.bool fb) ∧ Same w w')
  (HOD:Hid (∀ W (o:Obj),Same w W → (W.alloc o).ownsRow BB 29 1 (.slice Ai tl tc) tl XS))
  (HKP0:Hid (∀ W (o:Obj) w3,Same w W → (W.alloc o).grownBy w3 (Value.slice Ai tl tc).ownBlock → w3.cell? ⟨g,11,none⟩ = some (.slice (some ⟨go,0,none⟩) tn oc) ∧ w3.cell? ⟨go,ti,none⟩ = some (.slice Ai tl tc) ∧ w3.frozen? ⟨go,ti,none⟩ = false)) :
  Calls Tryz.prog 28 #[.pointer (some ⟨g,0,none⟩),.int .i64 ti,.slice Ar rn rc] w fun e w' => if fb then ∃ w2 w3 A2 c2,e = .returned (.int .i64 0) ∧ w' = w3.setCell ⟨go,ti,none⟩ (.slice A2 (tl + 1) c2) ∧ Same w w2 ∧ (w2.alloc (.cells #[.slice Ar rn rc] 29)).grownBy w3 (Value.slice Ai tl tc).ownBlock ∧
    w3.ownsRow BB 29 1 (.slice A2 (tl + 1) c2) (tl + 1) (XS ++ [.slice Ar rn rc]) ∧ ((Value.slice A2 (tl + 1) c2).ownBlock = (Value.slice Ai tl tc).ownBlock ∨ (Value.slice A2 (tl + 1) c2).ownBlock = some (w2.alloc (.cells #[.slice Ar rn rc] 29)).heap.size)
   else e = .returned (.int .i64 1) ∧ Same w w':=by
 obtain ⟨i0,hi0,hiz0,hiz1,hiz2⟩:=info_parts Tryz.infoVals
 obtain ⟨n1,⟨A4,m4,c4⟩,ra1,⟨B4,p4,d4⟩,key1⟩:=x
 have x0:=hx 0 (.string n1) rfl
 have x1:=hx 1 (.slice A4 m4 c4) rfl
 have x2:=hx 2 (.slice B4 p4 d4) rfl
 simp only [Nat.add_zero] at x0
 have HF':Hid (Calls Tryz.prog 18 #[.agg #[.string n1,.slice A4 m4 c4,.slice B4 p4 d4],.slice Ar rn rc] w fun e w' => e = .returned (.bool fb) ∧ Same w w'):=HF
 have ti0:(0:Int) ≤ (ti:Int):=by omega
 have tiI:(ti:Int) < (tn:Int):=by omega
 have tiN:(ti:Int) < (n:Int):=by omega
 have t1:decide ((ti:Int) < 0) = false:=decide_eq_false (by omega)
 have t2:decide (tn ≤ ti) = false:=decide_eq_false (by omega)
 have t3:decide ((tn:Int) ≤ (ti:Int)) = false:=decide_eq_false (by omega)
 clear hx HF
 obtain ⟨POST,hPOST⟩:∃ POST:Ending → World → Prop,POST = fun e w' => if fb then ∃ w2 w3 A2 c2,e = .returned (.int .i64 0) ∧ w' = w3.setCell ⟨go,ti,none⟩ (.slice A2 (tl + 1) c2) ∧ Same w w2 ∧ (w2.alloc (.cells #[.slice Ar rn rc] 29)).grownBy w3 (Value.slice Ai tl tc).ownBlock ∧
    w3.ownsRow BB 29 1 (.slice A2 (tl + 1) c2) (tl + 1) (XS ++ [.slice Ar rn rc]) ∧ ((Value.slice A2 (tl + 1) c2).ownBlock = (Value.slice Ai tl tc).ownBlock ∨ (Value.slice A2 (tl + 1) c2).ownBlock = some (w2.alloc (.cells #[.slice Ar rn rc] 29)).heap.size)
   else e = .returned (.int .i64 1) ∧ Same w w':=⟨_,rfl⟩
 rw [← hPOST]
 have HP:=Lib.hid hPOST
 clear hPOST
 go_enter Tryz.func28,Tryz.ntmps28
 go_wp2_with fail
 refine HF'.out.mono ?_
 rintro e w2 ⟨rfl,s2⟩
 have S2:=Lib.hid s2
 have k3':=(S2.out.cells _ 11 hgl).trans k3
 have kt':=(S2.out.cells _ ti hgol).trans kt
 have hgl':g < w2.heap.size:=Nat.lt_of_lt_of_le hgl S2.out.size
 have hgol':go < w2.heap.size:=Nat.lt_of_lt_of_le hgol S2.out.size
 have hBB':BB ≤ w2.heap.size:=Nat.le_trans hBB S2.out.size
 clear s2 k0 k3 kt x0 x1 x2
 cases fb with
 | false =>
  go_wp2_with fail
  show POST (Ending.returned (.int .i64 1)) w2
  rw [HP.out]
  exact ⟨rfl,S2.out⟩
 | true =>
 have z1:g ≠ w2.heap.size:=by omega
 have z2:go ≠ w2.heap.size:=by omega
 have OD:=Lib.hid (HOD.out w2 (.cells #[.slice Ar rn rc] 29) S2.out)
 have HKP:=Lib.hid (fun w3 => HKP0.out w2 (.cells #[.slice Ar rn rc] 29) w3 S2.out)
 clear HKP0 HOD HF'
 go_wp2_with fail
 refine wp_region_last (opsP:=?opsP) (S:=(fun w' => w'.cell? ⟨g,11,none⟩ = some (.slice (some ⟨go,0,none⟩) tn oc) ∧ w'.cell? ⟨go,ti,none⟩ = some (.slice Ai tl tc))) (n:=16) (by kernel_rfl) (lastOk_of (by kernel_rfl)) ?hp ?wk
 case hp => simp only [List.pop_toArray,List.dropLast_cons_cons,List.dropLast_singleton];rfl
 have hHeld:(fun w' => w'.cell? ⟨g,11,none⟩ = some (.slice (some ⟨go,0,none⟩) tn oc) ∧ w'.cell? ⟨go,ti,none⟩ = some (.slice Ai tl tc)) (w2.drew):=by
  show _ ∧ _
  (first | exact ⟨by assumption,by assumption⟩ | (simp [*];done) | (simp [*,size_setCell,cell_drew,cell_far,cell_near,cell_new',cell_old];done) | go_keep)
 refine tk 0 (oi:=?o1) (v:=?v1) ?h1 (by kernel_rfl) ?q1 ?w1 ?y1 hHeld ?r1
 case h1 => simp only [lxa,lxb,lxc];rfl
 case q1 => exact fun _ _ _ h => h
 case w1 => rfl
 case y1 => rintro w' ⟨y1,y2⟩;go_simp;try with_reducible rfl
 try simp only [Act.put,lxd,lxe,lxf]
 refine tk 1 (oi:=?o2) (v:=?v2) ?h2 (by kernel_rfl) ?q2 ?w2 ?y2 hHeld ?r2
 case h2 => simp only [lxa,lxb,lxc];rfl
 case q2 => exact fun _ _ _ h => h
 case w2 => rfl
 case y2 => rintro w' ⟨y1,y2⟩;go_simp;try with_reducible rfl
 try simp only [Act.put,lxd,lxe,lxf]
 refine tk 2 (oi:=?o3) (v:=?v3) ?h3 (by kernel_rfl) ?q3 ?w3 ?y3 hHeld ?r3
 case h3 => simp only [lxa,lxb,lxc];rfl
 case q3 => exact fun _ _ _ h => h
 case w3 => rfl
 case y3 => rintro w' ⟨y1,y2⟩;go_simp;try with_reducible rfl
 try simp only [Act.put,lxd,lxe,lxf]
 refine tk 3 (oi:=?o4) (v:=?v4) ?h4 (by kernel_rfl) ?q4 ?w4 ?y4 hHeld ?r4
 case h4 => simp only [lxa,lxb,lxc];rfl
 case q4 => exact fun _ _ _ h => h
 case w4 => rfl
 case y4 => rintro w' ⟨y1,y2⟩;go_simp;try with_reducible rfl
 try simp only [Act.put,lxd,lxe,lxf]
 refine tk 4 (oi:=?o5) (v:=?v5) ?h5 (by kernel_rfl) ?q5 ?w5 ?y5 hHeld ?r5
 case h5 => simp only [lxa,lxb,lxc];rfl
 case q5 => exact fun _ _ _ h => h
 case w5 => rfl
 case y5 => rintro w' ⟨y1,y2⟩;go_simp;try with_reducible rfl
 try simp only [Act.put,lxd,lxe,lxf]
 refine tk 5 (oi:=?o6) (v:=?v6) ?h6 (by kernel_rfl) ?q6 ?w6 ?y6 hHeld ?r6
 case h6 => simp only [lxa,lxb,lxc];rfl
 case q6 => exact fun _ _ _ h => h
 case w6 => rfl
 case y6 => rintro w' ⟨y1,y2⟩;go_simp;try with_reducible rfl
 try simp only [Act.put,lxd,lxe,lxf]
 refine tk 6 (oi:=?o7) (v:=?v7) ?h7 (by kernel_rfl) ?q7 ?w7 ?y7 hHeld ?r7
 case h7 => simp only [lxa,lxb,lxc];rfl
 case q7 => exact fun _ _ _ h => h
 case w7 => rfl
 case y7 => rintro w' ⟨y1,y2⟩;go_simp;try with_reducible rfl
 try simp only [Act.put,lxd,lxe,lxf]
 refine tk 7 (oi:=?o8) (v:=?v8) ?h8 (by kernel_rfl) ?q8 ?w8 ?y8 hHeld ?r8
 case h8 => simp only [lxa,lxb,lxc];rfl
 case q8 => exact fun _ _ _ h => h
 case w8 => rfl
 case y8 => rintro w' ⟨y1,y2⟩;go_simp;try with_reducible rfl
 try simp only [Act.put,lxd,lxe,lxf]
 refine tk 8 (oi:=?o9) (v:=?v9) ?h9 (by kernel_rfl) ?q9 ?w9 ?y9 hHeld ?r9
 case h9 => simp only [lxa,lxb,lxc];rfl
 case q9 => exact fun _ _ _ h => h
 case w9 => rfl
 case y9 => rintro w' ⟨y1,y2⟩;go_simp;try with_reducible rfl
 try simp only [Act.put,lxd,lxe,lxf]
 refine tk 9 (oi:=?o10) (v:=?v10) ?h10 (by kernel_rfl) ?q10 ?w10 ?y10 hHeld ?r10
 case h10 => simp only [lxa,lxb,lxc];rfl
 case q10 => exact fun _ _ _ h => h
 case w10 => rfl
 case y10 => rintro w' ⟨y1,y2⟩;go_simp;try with_reducible rfl
 try simp only [Act.put,lxd,lxe,lxf]
 refine tk 10 (oi:=?o11) (v:=?v11) ?h11 (by kernel_rfl) ?q11 ?w11 ?y11 hHeld ?r11
 case h11 => simp only [lxa,lxb,lxc];rfl
 case q11 => exact fun _ _ _ h => h
 case w11 => rfl
 case y11 => rintro w' ⟨y1,y2⟩;go_simp;try with_reducible rfl
 try simp only [Act.put,lxd,lxe,lxf]
 refine tk 11 (oi:=?o12) (v:=?v12) ?h12 (by kernel_rfl) ?q12 ?w12 ?y12 hHeld ?r12
 case h12 => simp only [lxa,lxb,lxc];rfl
 case q12 => exact fun _ _ _ h => h
 case w12 => rfl
 case y12 => rintro w' ⟨y1,y2⟩;go_simp;try with_reducible rfl
 try simp only [Act.put,lxd,lxe,lxf]
 refine tk 12 (oi:=?o13) (v:=?v13) ?h13 (by kernel_rfl) ?q13 ?w13 ?y13 hHeld ?r13
 case h13 => simp only [lxa,lxb,lxc];rfl
 case q13 => exact fun _ _ _ h => h
 case w13 => rfl
 case y13 => rintro w' ⟨y1,y2⟩;go_simp;try with_reducible rfl
 try simp only [Act.put,lxd,lxe,lxf]
 refine wpAnyH_ready (rs:=[13]) (by kernel_rfl) (by simp) ?_
 refine AllReadyH.cons (o:=?oo14) ?ho14 (fun K hK => ?st14) ?more14
 case ho14 => simp only [lxa,lxb,lxc];rfl
 case more14 => exact AllReadyH.nil
 rw [if_pos (by rfl)]
 go_simp
 refine hK.out _ _ ?_ (fun hHeld => ?_)
 ·show _ ∧ _
  (first | exact ⟨by assumption,by assumption⟩ | (simp [*];done) | (simp [*,size_setCell,cell_drew,cell_far,cell_near,cell_new',cell_old];done) | go_keep)
 clear hK K
 try simp only [Act.put,lxd,lxe,lxf]
 refine wpAnyH_ready (rs:=[14]) (by kernel_rfl) (by simp) ?_
 refine AllReadyH.cons (o:=?oo15) ?ho15 (fun K hK => ?st15) ?more15
 case ho15 => simp only [lxa,lxb,lxc];rfl
 case more15 => exact AllReadyH.nil
 refine step_append_any _ rfl (.tmp 48) (.tmp 50) 99 rfl BB 29 i0 _ 1 24 Tryz.underlying99 hi0 hiz0 hiz1 hiz2 rfl (by decide) (.slice Ai tl tc) tl XS rfl ?_ (w2.heap.size + 1) (some ⟨w2.heap.size,0,none⟩) 1 1 [.slice Ar rn rc] rfl ?_ (by intro u hu;simp at hu;rw [hu];rfl) (by simp only [maxLen];omega) (by omega) ?_ ?_
 ·first | exact OD.out | exact OD.out.drew
 ·first | exact reads_new w2 _ _ | exact (reads_new w2 _ _).drew
 ·simp [heap_drew];omega
 intro v1 w3 hown1 hg1 hat1
 obtain ⟨A2,c2,hv⟩:=own_val hown1
 subst hv
 have G1:(w2.alloc (.cells #[.slice Ar rn rc] 29)).grownBy w3 (Value.slice Ai tl tc).ownBlock:=⟨hg1.os,hg1.tape,hg1.output,hg1.size,hg1.block⟩
 have AT1:(Value.slice A2 (tl + 1) c2).ownBlock = (Value.slice Ai tl tc).ownBlock ∨ (Value.slice A2 (tl + 1) c2).ownBlock = some (w2.alloc (.cells #[.slice Ar rn rc] 29)).heap.size:=hat1
 obtain ⟨q3,qt,ft⟩:=HKP.out w3 G1
 have P3:=Lib.hid (And.intro hown1 (And.intro G1 AT1))
 clear hown1 hg1 hat1 G1 AT1
 refine hK.out _ _ ?_ (fun hHeld => ?_)
 ·show _ ∧ _
  (first | exact ⟨by assumption,by assumption⟩ | (simp [*];done) | (simp [*,size_setCell,cell_drew,cell_far,cell_near,cell_new',cell_old];done) | go_keep)
 clear hK K
 try simp only [Act.put,lxd,lxe,lxf]
 refine tk 15 (oi:=?o16) (v:=?v16) ?h16 (by kernel_rfl) ?q16 ?w16 ?y16 hHeld ?r16
 case h16 => simp only [lxa,lxb,lxc];rfl
 case q16 => exact fun _ _ _ h => h
 case w16 => rfl
 case y16 => rintro w' ⟨y1,y2⟩;go_simp;try with_reducible rfl
 try simp only [Act.put,lxd,lxe,lxf]
 refine wpAnyH_done (by kernel_rfl) ?_ _
 refine lastQ_of (o:=?oz17) ?hz17 ?gz17 ?sz17
 case hz17 => simp only [lxa,lxb,lxc];rfl
 case gz17 => rfl
 intro K hK
 go_simp
 refine hK.out _ _ ?_
 clear hK K
 try simp only [Act.put,lxd,lxe,lxf]
 go_wp2_with fail
 show POST (Ending.returned (.int .i64 0)) (w3.setCell ⟨go,ti,none⟩ (.slice A2 (tl + 1) c2))
 rw [HP.out]
 exact ⟨w2,w3,A2,c2,rfl,rfl,S2.out,P3.out.2.1,P3.out.1,P3.out.2.2⟩
theorem put_ok {w:World} {p:MH} {m:Mg} (d:MgAt w p m) (t:Int) {hr:Hd} {row:Row} (r:RowIn w (fun k => ¬ p.own k) ⟨hr,row⟩) (hlo:In (fun k => k < p.lo) hr) (hb:∀ rows ∈ m.tabs,rows.length ≤ 1000000) :
  Calls Tryz.prog 28 #[.pointer (some ⟨p.g,0,none⟩),.int .i64 t,hr.val] w fun e w' => e = .returned (.int .i64 (m.putE t row)) ∧ MTurn w w' p (m.put t row):=by
 cases hc:m.closed with
 | true =>
  have e1:m.putE t row = 22:=by unfold Mg.putE;rw [if_pos hc]
  have e2:m.put t row = m:=by unfold Mg.put;rw [e1,if_neg (by decide)]
  refine (put_closed d t hr.a hr.n hr.c hc).mono ?_
  rintro e w' ⟨he,rfl⟩
  rw [e1,e2]
  exact ⟨he,MTurn.same d (Same.refl _)⟩
 | false =>
  have hcn:¬ m.closed = true:=by rw [hc];simp
  by_cases ht:t < 0 ∨ (m.s.length:Int) ≤ t
  ·have e1:m.putE t row = 1:=by
    unfold Mg.putE
    rw [if_neg hcn]
    by_cases h0:t < 0
    ·rw [if_pos h0]
    ·rw [if_neg h0,List.getElem?_eq_none (by have:=ht.resolve_left h0;omega)]
   have e2:m.put t row = m:=by unfold Mg.put;rw [e1,if_neg (by decide)]
   refine (put_low d t hr.a hr.n hr.c hc ht).mono ?_
   rintro e w' ⟨he,rfl⟩
   rw [e1,e2]
   exact ⟨he,MTurn.same d (Same.refl _)⟩
  ·obtain ⟨ti,rfl⟩:∃ ti:Nat,t = ti:=⟨t.toNat,by omega⟩
   have htl:ti < m.s.length:=by omega
   have htb:ti < p.tb.length:=by rw [d.tbl.1];exact htl
   have e1:m.putE ti row = if fitsB m.s[ti] row then 0 else 1:=by
    unfold Mg.putE
    rw [if_neg hcn,if_neg (by omega),Int.toNat_natCast,List.getElem?_eq_getElem htl]
   have k14:w.cell? ⟨p.g,14,none⟩ = some (.bool m.closed):=d.cell 14
   rw [hc] at k14
   obtain ⟨go,oc,ho,hgB,hcell⟩:=d.outer
   have k3:w.cell? ⟨p.g,11,none⟩ = some (.slice (some ⟨go,0,none⟩) p.tb.length oc):=by
    have h3:w.cell? ⟨p.g,11,none⟩ = some p.ho.val:=d.cell 11
    rw [h3,ho];rfl
   have k0:w.cell? ⟨p.g,0,none⟩ = some p.hs.val:=d.cell 0
   obtain ⟨oi,oin⟩:=d.oi _ (List.getElem_mem htb)
   have hts:=d.tabs
   have htsl:p.ts.length = m.s.length:=by rw [← d.st.tsm,List.length_map]
   have htt:ti < p.ts.length:=by omega
   obtain ⟨b,off,hA,hbl,hx⟩:=hts.1.2.2 ti htt
   have hst:m.s[ti] = p.ts[ti].tb:=by
    have h:(p.ts.map RT.tb)[ti]? = m.s[ti]?:=by rw [d.st.tsm]
    rw [List.getElem?_map,List.getElem?_eq_getElem htt,List.getElem?_eq_getElem htl] at h
    exact (Option.some.inj h).symm
   have hF:=rfits_ok p.ts[ti] hr row w (hts.2 _ (List.getElem_mem htt)) r.1
   have hkp:=fun (W:World) (o:Obj) (w3:World) (s:Same w W) (G:(W.alloc o).grownBy w3 p.tb[ti].h.val.ownBlock) => d.put_cells ti htb ho W o w3 s G
   have hrl:p.tb[ti].rs.length ≤ 1000000:=by
    obtain ⟨h1,h2⟩:=d.tbl.2 ti htb
    have h3:=hb _ (List.getElem_mem h1)
    rw [h2] at h3
    simpa [Tbl.rows] using h3
   have hn:p.hs.n = p.ts.length:=d.st.ts.1.1.symm
   have hn2:p.hs.n ≤ 9223372036854775807:=d.st.ts.1.2.1
   obtain ⟨ph,hph⟩:∃ ph,ph = p.tb[ti].h:=⟨_,rfl⟩
   have hv:p.tb[ti].h.val = .slice ph.a ph.n ph.c:=by rw [hph];rfl
   have hvs:p.hs.val = .slice (some ⟨b,off,none⟩) p.hs.n p.hs.c:=by
    show Value.slice p.hs.a p.hs.n p.hs.c = _
    rw [hA]
   have hpn:ph.n = p.tb[ti].rs.length:=by rw [hph];exact oin
   rw [hvs] at k0
   have hct:=(hcell ti htb).1
   rw [hv] at hct oi
   rw [← hpn] at oi hrl
   have hkp':∀ W (o:Obj) w3,Same w W → (W.alloc o).grownBy w3 (Value.slice ph.a ph.n ph.c).ownBlock → w3.cell? ⟨p.g,11,none⟩ = some (.slice (some ⟨go,0,none⟩) p.tb.length oc) ∧ w3.cell? ⟨go,ti,none⟩ = some (.slice ph.a ph.n ph.c) ∧ w3.frozen? ⟨go,ti,none⟩ = false:=by
    intro W o w3 s G
    have h:=hkp W o w3 s (by rw [hv];exact G)
    rw [hv,ho] at h
    exact h
   have hgol:go < w.heap.size:=World.block_lt_of_cell? w _ hct
   refine (put_mid p.g go p.tb.length oc ti ph.n ph.c b off p.hs.n p.hs.c hr.n hr.c p.B ph.a hr.a (p.tb[ti].rs.flatMap Rw.cell) p.ts[ti] (fitsB p.ts[ti].tb row) w htb (own_max d.oo) (by rw [hn,htsl,d.tbl.1];exact Nat.le_refl _) hn2 hrl d.blk.lt hgol hbl (Nat.le_trans d.st.gB (Nat.le_of_lt d.blk.lt)) k14 k0 k3 hct hx hF (Lib.hid fun W o s => (own_same s oi).alloc o) (Lib.hid hkp')).mono ?_
   intro e w' hpost
   rw [e1,hst]
   cases hfb:fitsB p.ts[ti].tb row with
   | false =>
    rw [hfb] at hpost
    obtain ⟨he,s⟩:=hpost
    have e2:m.put ti row = m:=by unfold Mg.put;rw [e1,hst,hfb];rfl
    rw [e2]
    exact ⟨he,MTurn.same d s⟩
   | true =>
    rw [hfb] at hpost
    obtain ⟨w2,w3,A2,c2,he,rfl,s2,G,o1,hat⟩:=hpost
    have e3:m.putE ti row = 0:=by rw [e1,hst,hfb];rfl
    have e2:m.put ti row = { m with tabs:=putT m.tabs ti row }:=by unfold Mg.put;rw [if_pos e3]
    rw [e2]
    obtain ⟨d2,c',o2⟩:=(d.next s2).putRow ti htb ho (h:=hr) (row:=row) (r.same s2) hlo (A:=A2) (n:=ph.n + 1) (c:=c2) (by rw [hv];exact G) (by rw [← hpn];exact o1) (by rw [hv];exact hat) (Fine_put_tabs d.fine ti row e3)
    exact ⟨he,⟨_,d2,rfl,rfl,⟨rfl,rfl,rfl⟩,(Chg.of_same s2).trans c' (fun _ _ h => h),fun k hk => (o2 k hk).imp id (fun h => Nat.le_trans s2.size h)⟩⟩
end Go.Proofs.YtfifnemnihcijaaGreatDoor.R43

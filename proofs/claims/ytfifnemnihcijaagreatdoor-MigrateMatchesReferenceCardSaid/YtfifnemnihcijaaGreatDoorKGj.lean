import Derived.Test.YtfifnemnihcijaaGreatDoorKGf
import Derived.WalkMore
set_option linter.unusedSimpArgs false
set_option linter.unusedVariables false
set_option maxHeartbeats 16000000
set_option maxRecDepth 100000
namespace Go.Proofs.YtfifnemnihcijaaGreatDoor
open Go.RowKit
theorem step_closed {w:World} {p:MH} {m:Mg} (d:MgAt w p m) (n:Int) (hc:m.closed = true) :
  Calls Tryz.prog 25 #[.pointer (some ⟨p.g,0,none⟩),.int .i64 n] w fun e w' => e = .returned (.tuple #[.int .i64 0,.int .i64 22]) ∧ w = w':=by
 have HU:=Lib.hid (usable_ok d)
 have e:m.abE = 22:=by unfold Mg.abE;rw [if_pos hc]
 rw [e] at HU
 obtain ⟨g,hg⟩:∃ g,g = p.g:=⟨_,rfl⟩
 rw [← hg] at HU ⊢
 clear e d hc hg
 go_enter Tryz.func25,Tryz.ntmps25
 go_wp2_with fail
 go_step3
 go_wp2_with fail
 refine HU.out.mono ?_
 rintro e w' ⟨rfl,rfl⟩
 go_wp2_with fail
 try rw [Exit.noGoto_ret]
 go_ret2
 exact ⟨rfl,rfl⟩
theorem step_none (w:World) (n:Int) :
  Calls Tryz.prog 25 #[.pointer none,.int .i64 n] w fun e w' => e = .returned (.tuple #[.int .i64 0,.int .i64 1]) ∧ w = w':=by
 go_enter Tryz.func25,Tryz.ntmps25
 go_wp2_with fail
 go_step3
 go_wp2_with fail
 refine (usable_none w).mono ?_
 rintro e w' ⟨rfl,rfl⟩
 go_wp2_with fail
 try rw [Exit.noGoto_ret]
 go_ret2
 exact ⟨rfl,rfl⟩
theorem Tryz.infoVals:(Tryz.prog.info? 29).map (fun i => (i.zero,i.size,i.bytes)) = some (some (.slice none 0 0),1,24):=by kernel_rfl
theorem step_open {w:World} {p:MH} {m:Mg} (d:MgAt w p m) (n:Int) (hc:m.closed = false) (hb:m.rows.length ≤ 1000000) (hn1:-9223372036854775808 ≤ n) (hn2:n ≤ 9223372036854775807) :
  Calls Tryz.prog 25 #[.pointer (some ⟨p.g,0,none⟩),.int .i64 n] w fun e w' => e = .returned (.tuple #[.int .i64 ((m.steps (m.count n)).left:Int),.int .i64 (if (m.steps (m.count n)).failed then 15 else 0)]) ∧ MTurn w w' p (m.steps (m.count n)):=by
 obtain ⟨i0,hi0,hiz0,hiz1,hiz2⟩:=info_parts Tryz.infoVals
 have HU:=Lib.hid (usable_ok d)
 have e:m.abE = 0:=by unfold Mg.abE;rw [if_neg (by rw [hc];simp)]
 rw [e] at HU
 have HLF:=Lib.hid (left_ok d)
 have hlb:m.left ≤ 1000000:=by unfold Mg.left;omega
 obtain ⟨cnt,hcnt⟩:∃ cnt,cnt = m.count n:=⟨_,rfl⟩
 have HCN:Hid (cnt = min (max n 0).toNat m.left):=hcnt
 have hcl:cnt ≤ m.left:=by rw [hcnt];exact m.count_le n
 rw [← hcnt]
 obtain ⟨lf,hlf⟩:∃ lf,lf = m.left:=⟨_,rfl⟩
 have HB:=Lib.hid hb
 have HD:=Lib.hid d
 obtain ⟨g,hg⟩:∃ g,g = p.g:=⟨_,rfl⟩
 rw [← hg] at HU HLF ⊢
 rw [← hlf] at HLF HCN hlb hcl
 have HG:=Lib.hid hg
 have HLE:=Lib.hid hlf
 have FIN:Hid (∀ w',MTurn w w' p (m.steps cnt) → ∀ lv fv,lv = ((m.steps cnt).left:Int) → fv = (if (m.steps cnt).failed then (15:Int) else 0) → Ending.returned (.tuple #[.int .i64 lv,.int .i64 fv]) = .returned (.tuple #[.int .i64 ((m.steps cnt).left:Int),.int .i64 (if (m.steps cnt).failed then 15 else 0)]) ∧ MTurn w w' p (m.steps cnt)):=fun w' t lv fv h1 h2 => ⟨by rw [h1,h2],t⟩
 obtain ⟨POST,hPOST⟩:∃ POST:Ending → World → Prop,POST = fun e w' => e = .returned (.tuple #[.int .i64 ((m.steps cnt).left:Int),.int .i64 (if (m.steps cnt).failed then 15 else 0)]) ∧ MTurn w w' p (m.steps cnt):=⟨_,rfl⟩
 have HP:=Lib.hid hPOST
 rw [← hPOST]
 clear e d hc hb hg hlf hcnt hPOST
 go_enter Tryz.func25,Tryz.ntmps25
 go_wp2_with fail
 go_step3
 go_wp2_with fail
 refine HU.out.mono ?_
 rintro e w' ⟨rfl,rfl⟩
 go_wp2_with fail
 go_step3
 go_upto_region 4 with (fail)
 go_cut [18,19] (fun v i wx => v = .int .i64 (cnt:Int) ∧ i = .int .i64 0 ∧ Hid (Same w wx))
 case first =>
  go_wp2_with (refine HLF.out.mono ?_;rintro e w0 ⟨rfl,s0⟩;have S0:=Lib.hid s0;clear s0)
  all_goals go_meet
  all_goals exact ⟨congrArg (Value.int IntKind.i64) (by have:=HCN.out;omega),rfl,S0⟩
 case rest =>
  obtain ⟨rfl,rfl,S0⟩:=hcut
  obtain ⟨w0,rfl⟩:∃ w0:World,w0 = wc:=⟨_,rfl⟩
  have HT0:Hid (MTurn w w0 p (m.steps 0)):=Lib.hid (MTurn.same HD.out S0.out)
  clear S0 HU HLF
  go_wp2_with fail
  go_loopw [19] (fun i wr => ∃ j:Nat,j ≤ cnt ∧ i = .int .i64 j ∧ Hid (MTurn w wr p (m.steps j))) (fun i _ => cnt - (intOf i).toNat)
  case atStart => exact ⟨0,Nat.zero_le _,rfl,HT0⟩
  case round =>
   obtain ⟨j,hj,rfl,T⟩:=hrel
   obtain ⟨p1,d1,hg1,hW1,hB1,c1,o1⟩:=T.out
   have D1:=Lib.hid d1
   have PT:Hid (p1.g = p.g ∧ p1.W0 = p.W0 ∧ MH.Like p1 p ∧ Chg p.own w wr ∧ ∀ k,p1.own k → p.own k ∨ w.heap.size ≤ k):=⟨hg1,hW1,hB1,c1,o1⟩
   have EG:Hid (p1.g = g):=hg1.trans HG.out.symm
   obtain ⟨m1,hm1⟩:∃ m1,m1 = m.steps j:=⟨_,rfl⟩
   rw [← hm1] at D1
   have HM1:=Lib.hid hm1
   have k6:wr.cell? ⟨g,6,none⟩ = some (.bool m1.failed):=by have:=D1.out.cell 6;rw [EG.out] at this;exact this
   have f6:wr.frozen? ⟨g,6,none⟩ = false:=by have:=D1.out.blk.frozen 6;rw [EG.out] at this;exact this
   have lg:g < wr.heap.size:=by have:=D1.out.blk.lt;rw [EG.out] at this;exact this
   have HLF:Hid (Rt 64 #[.pointer (some ⟨g,0,none⟩)] wr (.int .i64 (m1.left:Int))):=Lib.hid fun W s => by
    have h:=left_ok (D1.out.next s)
    rw [EG.out] at h
    exact h
   have TS:Hid (∀ W,Same wr W → MTurn w W p m1):=Lib.hid fun W s => MTurn.trans hg1 hW1 hB1 c1 o1 (MTurn.same D1.out s)
   clear d1 hg1 hW1 hB1 c1 o1 hm1 T
   by_cases hlt:j < cnt
   case neg =>
    have ej:j = cnt:=by omega
    have HE:Hid (m.steps cnt = m1):=by rw [← ej];exact Lib.hid HM1.out.symm
    clear ej
    obtain ⟨lv,hlv⟩:∃ lv,lv = m1.left:=⟨_,rfl⟩
    rw [← hlv] at HLF
    have HLV:=Lib.hid hlv
    clear hlv
    cases hf:m1.failed with
    | true =>
     rw [hf] at k6
     have HFV:=Lib.hid hf
     clear hf
     go_wp2_with fail
     refine (HLF.out _ (Same.refl _)).mono ?_
     rintro e w2 ⟨rfl,s2⟩
     have S2:=Lib.hid s2
     clear s2 k6 f6 lg
     go_wp2_with fail
     show POST (Ending.returned (.tuple #[.int .i64 (lv:Int),.int .i64 15])) w2
     rw [HP.out]
     refine FIN.out _ ?_ _ _ ?_ ?_
     ·rw [HE.out];exact TS.out _ S2.out
     ·rw [HE.out,HLV.out]
     ·rw [HE.out,HFV.out];rfl
    | false =>
     rw [hf] at k6
     have HFV:=Lib.hid hf
     clear hf
     go_wp2_with fail
     refine (HLF.out _ (Same.refl _)).mono ?_
     rintro e w2 ⟨rfl,s2⟩
     have S2:=Lib.hid s2
     clear s2 k6 f6 lg
     go_wp2_with fail
     show POST (Ending.returned (.tuple #[.int .i64 (lv:Int),.int .i64 0])) w2
     rw [HP.out]
     refine FIN.out _ ?_ _ _ ?_ ?_
     ·rw [HE.out];exact TS.out _ S2.out
     ·rw [HE.out,HLV.out]
     ·rw [HE.out,HFV.out];rfl
   cases hf:m1.failed with
   | true =>
    have HE:Hid (m.steps cnt = m1):=by
     rw [HM1.out]
     exact Lib.hid (Mg.steps_stop hj (by rw [← HM1.out];exact hf))
    obtain ⟨lv,hlv⟩:∃ lv,lv = m1.left:=⟨_,rfl⟩
    rw [← hlv] at HLF
    have HLV:=Lib.hid hlv
    rw [hf] at k6
    have HFV:=Lib.hid hf
    clear hf hlv
    go_wp2_with fail
    refine (HLF.out _ (Same.refl _)).mono ?_
    rintro e w2 ⟨rfl,s2⟩
    have S2:=Lib.hid s2
    clear s2 k6 f6 lg
    go_wp2_with fail
    show POST (Ending.returned (.tuple #[.int .i64 (lv:Int),.int .i64 15])) w2
    rw [HP.out]
    refine FIN.out _ ?_ _ _ ?_ ?_
    ·rw [HE.out];exact TS.out _ S2.out
    ·rw [HE.out,HLV.out]
    ·rw [HE.out,HFV.out];rfl
   | false =>
    rw [hf] at k6
    have HFV:=Lib.hid hf
    have hl:m1.done.length < m1.rows.length:=by
     have h1:=(Mg.steps_left j m HD.out.fine (by have:=HLE.out;omega)).2.2 (by rw [← HM1.out];exact hf)
     have h2:=HLE.out
     rw [← HM1.out] at h1
     unfold Mg.left at h1 h2
     omega
    clear hf HLF
    obtain ⟨go,oc,tn,gi,ic,rl,dl,dc,rn,rc,Ad,Ar,⟨k2,k3,k4,k5⟩,⟨k7,k8⟩,⟨b1,b2,b3,b4⟩,hhd,hdl,hdm,hin⟩:=D1.out.round hl
    rw [EG.out] at k2 k3 k4 k5
    have k5':wr.cell? ⟨g,5,none⟩ = some (.func (.func 61) #[] #[.pointer (some ⟨p1.gs,0,none⟩),.pointer (some ⟨p1.gc,0,none⟩),.pointer (some ⟨p1.gm,0,none⟩)]):=k5
    have HHD:=Lib.hid (And.intro hhd (And.intro hdl hdm))
    have HIN:=Lib.hid hin
    have HL:=Lib.hid hl
    have hrlen:(m1.rows[m1.done.length]).length ≤ 12:=D1.out.row_len (List.getElem_mem hl)
    have HC:=Lib.hid (fun W (s:Same wr W) => conv1_ok (D1.out.next s) (hr:=⟨Ar,rn,rc⟩) (row:=m1.rows[m1.done.length]) (hin.1.same s) (by omega))
    obtain ⟨ti,hti⟩:∃ ti,ti = m1.ti:=⟨_,rfl⟩
    rw [← hti] at k2 k7 b1 HC
    obtain ⟨cv,hcv⟩:∃ cv,cv = convS m1.s m1.c ti m1.rows[m1.done.length]:=⟨_,rfl⟩
    rw [← hcv] at HC
    have HCV:Hid (cv = convS m1.s m1.c m1.ti m1.rows[m1.done.length]):=by rw [← hti];exact hcv
    obtain ⟨E,hE⟩:∃ E,E = cv.2:=⟨_,rfl⟩
    rw [← hE] at HC
    have HE2:=Lib.hid hE
    obtain ⟨gs,hgs⟩:∃ gs,gs = p1.gs:=⟨_,rfl⟩
    obtain ⟨gc,hgc⟩:∃ gc,gc = p1.gc:=⟨_,rfl⟩
    obtain ⟨gm,hgm⟩:∃ gm,gm = p1.gm:=⟨_,rfl⟩
    rw [← hgs,← hgc,← hgm] at k5' HC
    have HC':Hid (∀ W,Same wr W → Calls Tryz.prog 61 #[.slice Ar rn rc,.pointer (some ⟨gs,0,none⟩),.pointer (some ⟨gc,0,none⟩),.pointer (some ⟨gm,0,none⟩)] W fun e w' => ∃ A' n' c',e = .returned (.tuple #[.slice A' n' c',.int .i64 E]) ∧ (RowAt w' ⟨A',n',c'⟩ cv.1 ∧ Fresh wr.heap.size ⟨A',n',c'⟩) ∧ Same W w'):=Lib.hid fun W s => by
     refine (HC.out W s).mono ?_
     rintro e w' ⟨A',n',c',he,⟨h1,h2⟩,h3⟩
     exact ⟨A',n',c',he,⟨h1,fun a ha => Nat.le_trans s.size (h2 a ha)⟩,h3⟩
    have l2:=World.block_lt_of_cell? wr _ k7
    have l3:=World.block_lt_of_cell? wr _ k8
    have l2':go < wr.heap.size:=l2
    have l3':gi < wr.heap.size:=l3
    have ti0:(0:Int) ≤ (ti:Int):=by omega
    have tiI:(ti:Int) < (tn:Int):=by omega
    have dl0:(0:Int) ≤ (dl:Int):=by omega
    have dlI:(dl:Int) < (rl:Int):=by omega
    clear k5 hhd hdl hdm hin hrlen hti hcv hE hgs hgc hgm l2 l3 HC
    have HOD:Hid (∀ W (o:Obj),Same wr W → (W.alloc o).ownsRow p1.B 29 1 (.slice Ad dl dc) dl (p1.dr.flatMap Rw.cell)):=Lib.hid fun W o s => by
     have h:=(own_same s D1.out.od).alloc o
     rw [HHD.out.1,← HHD.out.2.1] at h
     exact h
    have HG4:=Lib.hid (fun (W:World) (o:Obj) (w2:World) (s:Same wr W) (G:(W.alloc o).grownBy w2 (Value.slice Ad dl dc).ownBlock) => D1.out.done_cell HHD.out.1 W o w2 s G)
    have HPB:Hid (∀ W,Same wr W → p1.B ≤ W.heap.size):=Lib.hid fun W s => by
     have h1:=D1.out.st.gB
     have h2:=D1.out.blk.lt
     have h3:=s.size
     omega
    have hdb:dl ≤ 1000000:=by
     have h1:=HHD.out.2.2
     have h2:=HB.out
     have h3:m1.rows = m.rows:=by rw [HM1.out];exact Mg.steps_rows j m
     rw [h3] at hl
     omega
    obtain ⟨BB,hBB⟩:∃ BB,BB = p1.B:=⟨_,rfl⟩
    obtain ⟨XS,hXS⟩:∃ XS,XS = p1.dr.flatMap Rw.cell:=⟨_,rfl⟩
    rw [← hBB,← hXS] at HOD
    rw [← hBB] at HPB
    rw [EG.out] at HG4
    have HBX:=Lib.hid (And.intro hBB hXS)
    have HPU:=Lib.hid (fun (w1 w2:World) (s1:Same wr w1) (hz:cv.2 = 0) (A':Option Addr) (n' c':Nat) (R:RowAt w1 ⟨A',n',c'⟩ cv.1) (F:Fresh wr.heap.size ⟨A',n',c'⟩) (o:Obj) (A2:Option Addr) (n2 c2:Nat) (G:(w1.alloc o).grownBy w2 (Value.slice Ad dl dc).ownBlock) (own:w2.ownsRow p1.B 29 1 (.slice A2 n2 c2) (dl + 1) (p1.dr.flatMap Rw.cell ++ [.slice A' n' c'])) (hat:(Value.slice A2 n2 c2).ownBlock = (Value.slice Ad dl dc).ownBlock ∨ (Value.slice A2 n2 c2).ownBlock = some (w1.alloc o).heap.size) => D1.out.push' HFV.out HL.out s1 HCV.out hz R F HHD.out.1 HHD.out.2.1 G own hat)
    have HFA:=Lib.hid (fun (w1:World) (s1:Same wr w1) (hz:cv.2 ≠ 0) => D1.out.fail' HFV.out HL.out s1 HCV.out hz)
    rw [EG.out] at HPU HFA
    clear hBB hXS
    by_cases hz:E = 0
    case neg =>
     have tE:(E != 0) = true:=by simp;exact hz
     have HZ:Hid (cv.2 ≠ 0):=by rw [← HE2.out];exact Lib.hid hz
     clear hz HOD HG4 HPB hdb HPU
     go_wp2_with fail
     go_region_held3 (fun w' => w'.cell? ⟨g,2,none⟩ = some (.int .i64 ti) ∧ w'.cell? ⟨g,3,none⟩ = some (.slice (some ⟨go,0,none⟩) tn oc) ∧ w'.cell? ⟨g,4,none⟩ = some (.slice Ad dl dc) ∧ w'.cell? ⟨g,5,none⟩ = some (.func (.func 61) #[] #[.pointer (some ⟨gs,0,none⟩),.pointer (some ⟨gc,0,none⟩),.pointer (some ⟨gm,0,none⟩)]) ∧ w'.cell? ⟨go,ti,none⟩ = some (.slice (some ⟨gi,0,none⟩) rl ic) ∧ w'.cell? ⟨gi,dl,none⟩ = some (.slice Ar rn rc)) (first | (simp [*];done) | ((repeat' apply And.intro) <;> (first | assumption | go_keep)))
      ((refine (HC'.out _ ?_).mono ?_;exact (Same.refl wr).drew;rintro e w1 ⟨A',n',c',rfl,hR,s1⟩;have S1:Hid (Same wr w1):=Same.trans ((Same.refl wr).drew) s1;have u2:=(S1.out.cells _ 2 lg).trans k2;have u3:=(S1.out.cells _ 3 lg).trans k3;have u4:=(S1.out.cells _ 4 lg).trans k4;have u5:=(S1.out.cells _ 5 lg).trans k5';have u6:=(S1.out.cells _ 6 lg).trans k6;have v6:=(S1.out.frees _ 6 lg).trans f6;have u7:=(S1.out.cells _ ti l2').trans k7;have u8:=(S1.out.cells _ dl l3').trans k8;clear s1 hR))
     all_goals
      have D2:=Lib.hid (HFA.out w1 S1.out HZ.out)
      have HLF:=Lib.hid (left_ok D2.out.1)
      rw [EG.out] at HLF
      obtain ⟨lv,hlv⟩:∃ lv,lv = m1.one.left:=⟨_,rfl⟩
      rw [← hlv] at HLF
      have HLV:=Lib.hid hlv
      clear hlv k2 k3 k4 k5' k6 f6 lg k7 k8
      go_wp2_with fail
      refine HLF.out.mono ?_
      rintro e w3 ⟨rfl,s3⟩
      have S3:=Lib.hid s3
      clear s3
      go_wp2_with fail
      show POST (Ending.returned (.tuple #[.int .i64 (lv:Int),.int .i64 15])) w3
      have HE:m.steps cnt = m1.one:=by
       have h1:m.steps (j + 1) = m1.one:=by rw [Mg.steps_succ,← HM1.out]
       rw [← h1]
       exact Mg.steps_stop (by omega) (by rw [h1];exact D2.out.2.2.1)
      rw [HP.out]
      refine FIN.out _ ?_ _ _ ?_ ?_
      ·rw [HE]
       exact MTurn.then_ PT.out.1 PT.out.2.1 PT.out.2.2.1 PT.out.2.2.2.1 PT.out.2.2.2.2 (D2.out.1.next S3.out) rfl rfl (MH.Like.refl _) (D2.out.2.1.then_same S3.out) (fun _ hk => .inl hk)
      ·rw [HE,HLV.out]
      ·rw [HE,D2.out.2.2.1];rfl
    case pos =>
     subst hz
     have HZ:Hid (cv.2 = 0):=Lib.hid HE2.out.symm
     clear HFA
     go_wp2_with fail
     go_region_held3 (fun w' => w'.cell? ⟨g,2,none⟩ = some (.int .i64 ti) ∧ w'.cell? ⟨g,3,none⟩ = some (.slice (some ⟨go,0,none⟩) tn oc) ∧ w'.cell? ⟨g,4,none⟩ = some (.slice Ad dl dc) ∧ w'.cell? ⟨g,5,none⟩ = some (.func (.func 61) #[] #[.pointer (some ⟨gs,0,none⟩),.pointer (some ⟨gc,0,none⟩),.pointer (some ⟨gm,0,none⟩)]) ∧ w'.cell? ⟨go,ti,none⟩ = some (.slice (some ⟨gi,0,none⟩) rl ic) ∧ w'.cell? ⟨gi,dl,none⟩ = some (.slice Ar rn rc)) (first | (simp [*];done) | ((repeat' apply And.intro) <;> (first | assumption | go_keep)))
      ((refine (HC'.out _ ?_).mono ?_;exact (Same.refl wr).drew;rintro e w1 ⟨A',n',c',rfl,hR,s1⟩;have S1:Hid (Same wr w1):=Same.trans ((Same.refl wr).drew) s1;have u2:=(S1.out.cells _ 2 lg).trans k2;have u3:=(S1.out.cells _ 3 lg).trans k3;have u4:=(S1.out.cells _ 4 lg).trans k4;have u5:=(S1.out.cells _ 5 lg).trans k5';have u7:=(S1.out.cells _ ti l2').trans k7;have u8:=(S1.out.cells _ dl l3').trans k8;have RR:=Lib.hid hR;clear s1 hR))
     all_goals
      have l1g:g < w1.heap.size:=Nat.lt_of_lt_of_le lg S1.out.size
      have OD:=Lib.hid (HOD.out w1 (.cells #[.slice A' n' c'] 29) S1.out)
      have G4:=Lib.hid (fun w2 => HG4.out w1 (.cells #[.slice A' n' c'] 29) w2 S1.out)
      have PB1:=HPB.out w1 S1.out
      clear k2 k3 k4 k5' k6 f6 lg k7 k8 u2 u3 u5 u7 u8
      go_wp2_with (at_builtin;refine wpList_append_any _ rfl (.tmp 59) (.tmp 61) 99 rfl BB 29 i0 _ 1 24 Tryz.underlying99 hi0 hiz0 hiz1 hiz2 rfl (by decide) (.slice Ad dl dc) dl XS rfl OD.out (w1.heap.size + 1) (some ⟨w1.heap.size,0,none⟩) 1 1 [.slice A' n' c'] rfl (reads_new w1 _ _) (by intro u hu;simp at hu;rw [hu];rfl) (by simp only [maxLen];omega) (by omega) (by simp;omega) ?_;intro v1 w2 hown1 hg1 hat1;obtain ⟨A2,c2,hv⟩:=own_val hown1;subst hv;have g4:=(G4.out w2 hg1).1;have f4:=(G4.out w2 hg1).2;have P2:=Lib.hid (And.intro hown1 (And.intro hg1 hat1));clear hown1 hg1 hat1)
      go_roundw
      case rel =>
       refine ⟨j + 1,by omega,by go_num,?_⟩
       obtain ⟨p2,d2,e1,e2,e3,c2',o2⟩:=HPU.out w1 w2 S1.out HZ.out A' n' c' RR.out.1 RR.out.2 _ A2 (dl + 1) c2 P2.out.2.1 (by rw [← HBX.out.1,← HBX.out.2];exact P2.out.1) P2.out.2.2
       have h1:m.steps (j + 1) = m1.one:=by rw [Mg.steps_succ,← HM1.out]
       rw [h1]
       exact MTurn.then_ PT.out.1 PT.out.2.1 PT.out.2.2.1 PT.out.2.2.2.1 PT.out.2.2.2.2 d2 (e1.trans EG.out.symm) e2 e3 c2' o2
      case measure => simp [intOf];omega
theorem step_ok {w:World} {p:MH} {m:Mg} (d:MgAt w p m) (n:Int) (hb:m.rows.length ≤ 1000000) (hn1:-9223372036854775808 ≤ n) (hn2:n ≤ 9223372036854775807) :
  Calls Tryz.prog 25 #[.pointer (some ⟨p.g,0,none⟩),.int .i64 n] w fun e w' => e = .returned (.tuple #[.int .i64 (m.stepN n),.int .i64 (m.stepE n)]) ∧ MTurn w w' p (m.step n):=by
 cases hc:m.closed with
 | true =>
  refine (step_closed d n hc).mono ?_
  rintro e w' ⟨he,rfl⟩
  have e1:m.step n = m:=by unfold Mg.step;rw [if_pos hc]
  refine ⟨?_,by rw [e1];exact MTurn.same d (Same.refl _)⟩
  rw [he]
  unfold Mg.stepN Mg.stepE
  rw [if_pos hc,if_pos hc]
  rfl
 | false =>
  refine (step_open d n hc hb hn1 hn2).mono ?_
  rintro e w' ⟨he,t⟩
  have h:¬ m.closed = true:=by rw [hc];simp
  have e1:m.step n = m.steps (m.count n):=by unfold Mg.step;rw [if_neg h]
  refine ⟨?_,by rw [e1];exact t⟩
  rw [he]
  unfold Mg.stepN Mg.stepE
  rw [if_neg h,if_neg h,e1]
theorem put_none (w:World) (t:Int) (A:Option Addr) (n c:Nat) :
  Calls Tryz.prog 27 #[.pointer none,.int .i64 t,.slice A n c] w fun e w' => e = .returned (.int .i64 1) ∧ w = w':=by
 go_enter Tryz.func27,Tryz.ntmps27
 go_wp2_with fail
 refine (usable_none w).mono ?_
 rintro e w' ⟨rfl,rfl⟩
 go_wp2_with fail
 go_ret
 exact ⟨rfl,rfl⟩
theorem put_closed {w:World} {p:MH} {m:Mg} (d:MgAt w p m) (t:Int) (A:Option Addr) (n c:Nat) (hc:m.closed = true) :
  Calls Tryz.prog 27 #[.pointer (some ⟨p.g,0,none⟩),.int .i64 t,.slice A n c] w fun e w' => e = .returned (.int .i64 22) ∧ w = w':=by
 have HU:=Lib.hid (usable_ok d)
 have e:m.abE = 22:=by unfold Mg.abE;rw [if_pos hc]
 rw [e] at HU
 obtain ⟨g,hg⟩:∃ g,g = p.g:=⟨_,rfl⟩
 rw [← hg] at HU ⊢
 clear e d hc hg
 go_enter Tryz.func27,Tryz.ntmps27
 go_wp2_with fail
 refine HU.out.mono ?_
 rintro e w' ⟨rfl,rfl⟩
 go_wp2_with fail
 go_ret
 exact ⟨rfl,rfl⟩
theorem put_low {w:World} {p:MH} {m:Mg} (d:MgAt w p m) (t:Int) (A:Option Addr) (n c:Nat) (hc:m.closed = false) (ht:t < 0 ∨ (m.s.length:Int) ≤ t) :
  Calls Tryz.prog 27 #[.pointer (some ⟨p.g,0,none⟩),.int .i64 t,.slice A n c] w fun e w' => e = .returned (.int .i64 1) ∧ w = w':=by
 have HU:=Lib.hid (usable_ok d)
 have e:m.abE = 0:=by unfold Mg.abE;rw [if_neg (by rw [hc];simp)]
 rw [e] at HU
 obtain ⟨go,oc,ho,-,-⟩:=d.outer
 have k3:w.cell? ⟨p.g,3,none⟩ = some (.slice (some ⟨go,0,none⟩) p.tb.length oc):=by
  have h3:w.cell? ⟨p.g,3,none⟩ = some p.ho.val:=d.cell 3
  rw [h3,ho];rfl
 have hl:=d.tbl.1
 rw [← hl] at ht
 obtain ⟨tn,htn⟩:∃ tn,tn = p.tb.length:=⟨_,rfl⟩
 obtain ⟨g,hg⟩:∃ g,g = p.g:=⟨_,rfl⟩
 rw [← hg] at HU k3 ⊢
 rw [← htn] at k3 ht
 clear e d hc hg htn hl ho
 by_cases h0:t < 0
 ·have t1:decide (t < 0) = true:=decide_eq_true h0
  clear h0 ht
  go_enter Tryz.func27,Tryz.ntmps27
  go_wp2_with fail
  refine HU.out.mono ?_
  rintro e w' ⟨rfl,rfl⟩
  go_wp2_with fail
  go_ret
  exact ⟨rfl,rfl⟩
 ·have t1:decide (t < 0) = false:=decide_eq_false h0
  have t2:(tn:Int) ≤ t:=ht.resolve_left h0
  have t3:decide ((tn:Int) ≤ t) = true:=decide_eq_true t2
  clear h0 ht
  go_enter Tryz.func27,Tryz.ntmps27
  go_wp2_with fail
  refine HU.out.mono ?_
  rintro e w' ⟨rfl,rfl⟩
  go_wp2_with fail
  go_ret
  exact ⟨rfl,rfl⟩
theorem MgAt.put_cells {wr:World} {p:MH} {m:Mg} (d:MgAt wr p m) (i:Nat) (hi:i < p.tb.length) {go oc:Nat} (ho:p.ho = ⟨some ⟨go,0,none⟩,p.tb.length,oc⟩) (W:World) (o:Obj) (w3:World) (s:Same wr W) (G:(W.alloc o).grownBy w3 p.tb[i].h.val.ownBlock) :
  w3.cell? ⟨p.g,3,none⟩ = some p.ho.val ∧ w3.cell? ⟨go,i,none⟩ = some p.tb[i].h.val ∧ w3.frozen? ⟨go,i,none⟩ = false:=by
 have d1:=d.next s
 have hgo:p.ho.val.ownBlock = some go:=by rw [ho];rfl
 have hti:p.tb[i] ∈ p.tb:=List.getElem_mem hi
 have b:=((d1.blk).alloc o).grown G (fun e => d1.inner_ne hti e.symm rfl)
 have c1:Chg (fun k => p.tb[i].h.val.ownBlock = some k) W w3:=((Chg.refl _ W).alloc o).grown G fun k hk _ => hk
 have oo:=own_chg d1.oo c1 (fun k hk e => d1.outer_inner hti e hk)
 obtain ⟨_,cs,hb⟩:=row_ty oo hgo
 refine ⟨(b.cell 3).trans rfl,?_,hb.frozen i⟩
 rw [ho] at oo
 have:=own_cell Tbl.clen oo rfl i hi 0 (by decide)
 simpa [Tbl.cell] using this
theorem put_mid (g go tn oc ti tl tc b off n c rn rc BB:Nat) (Ai Ar:Option Addr) (XS:List Value) (x:RT) (fb:Bool) (w:World) (ht:ti < tn) (htn:tn ≤ 9223372036854775807) (hn:tn ≤ n) (hn2:n ≤ 9223372036854775807) (hl:tl ≤ 1000000) (hgl:g < w.heap.size) (hgol:go < w.heap.size) (hbl:b < w.heap.size) (hBB:BB ≤ w.heap.size)
  (HU:Hid (Calls Tryz.prog 63 #[.pointer (some ⟨g,0,none⟩)] w fun e w' => e = .returned (.int .i64 0) ∧ w = w'))
  (k0:w.cell? ⟨g,0,none⟩ = some (.slice (some ⟨b,off,none⟩) n c)) (k3:w.cell? ⟨g,3,none⟩ = some (.slice (some ⟨go,0,none⟩) tn oc)) (kt:w.cell? ⟨go,ti,none⟩ = some (.slice Ai tl tc))
  (hx:∀ j v,x.cells[j]? = some v → w.cell? ⟨b,off + ti * 3 + j,none⟩ = some v)
  (HF:Calls Tryz.prog 17 #[x.val,.slice Ar rn rc] w fun e w' => e = .returned (.bool fb) ∧ Same w w')
  (HOD:Hid (∀ W (o:Obj),Same w W → (W.alloc o).ownsRow BB 29 1 (.slice Ai tl tc) tl XS))
  (HKP0:Hid (∀ W (o:Obj) w3,Same w W → (W.alloc o).grownBy w3 (Value.slice Ai tl tc).ownBlock → w3.cell? ⟨g,3,none⟩ = some (.slice (some ⟨go,0,none⟩) tn oc) ∧ w3.cell? ⟨go,ti,none⟩ = some (.slice Ai tl tc) ∧ w3.frozen? ⟨go,ti,none⟩ = false)) :
  Calls Tryz.prog 27 #[.pointer (some ⟨g,0,none⟩),.int .i64 ti,.slice Ar rn rc] w fun e w' => if fb then ∃ w2 w3 A2 c2,e = .returned (.int .i64 0) ∧ w' = w3.setCell ⟨go,ti,none⟩ (.slice A2 (tl + 1) c2) ∧ Same w w2 ∧ (w2.alloc (.cells #[.slice Ar rn rc] 29)).grownBy w3 (Value.slice Ai tl tc).ownBlock ∧
    w3.ownsRow BB 29 1 (.slice A2 (tl + 1) c2) (tl + 1) (XS ++ [.slice Ar rn rc]) ∧ ((Value.slice A2 (tl + 1) c2).ownBlock = (Value.slice Ai tl tc).ownBlock ∨ (Value.slice A2 (tl + 1) c2).ownBlock = some (w2.alloc (.cells #[.slice Ar rn rc] 29)).heap.size)
   else e = .returned (.int .i64 1) ∧ Same w w':=by
 obtain ⟨i0,hi0,hiz0,hiz1,hiz2⟩:=info_parts Tryz.infoVals
 obtain ⟨n1,⟨A4,m4,c4⟩,ra1,⟨B4,p4,d4⟩,key1⟩:=x
 have x0:=hx 0 (.string n1) rfl
 have x1:=hx 1 (.slice A4 m4 c4) rfl
 have x2:=hx 2 (.slice B4 p4 d4) rfl
 simp only [Nat.add_zero] at x0
 have HF':Hid (Calls Tryz.prog 17 #[.agg #[.string n1,.slice A4 m4 c4,.slice B4 p4 d4],.slice Ar rn rc] w fun e w' => e = .returned (.bool fb) ∧ Same w w'):=HF
 have ti0:(0:Int) ≤ (ti:Int):=by omega
 have tiI:(ti:Int) < (tn:Int):=by omega
 have tiN:(ti:Int) < (n:Int):=by omega
 have t1:decide ((ti:Int) < 0) = false:=decide_eq_false (by omega)
 have t2:decide (tn ≤ ti) = false:=decide_eq_false (by omega)
 have t3:decide ((tn:Int) ≤ (ti:Int)) = false:=decide_eq_false (by omega)
 clear hx HF
 obtain ⟨POST,hPOST⟩:∃ POST:Ending → World → Prop,POST = fun e w' => if fb then ∃ w2 w3 A2 c2,e = .returned (.int .i64 0) ∧ w' = w3.setCell ⟨go,ti,none⟩ (.slice A2 (tl + 1) c2) ∧ Same w w2 ∧ (w2.alloc (.cells #[.slice Ar rn rc] 29)).grownBy w3 (Value.slice Ai tl tc).ownBlock ∧
    w3.ownsRow BB 29 1 (.slice A2 (tl + 1) c2) (tl + 1) (XS ++ [.slice Ar rn rc]) ∧ ((Value.slice A2 (tl + 1) c2).ownBlock = (Value.slice Ai tl tc).ownBlock ∨ (Value.slice A2 (tl + 1) c2).ownBlock = some (w2.alloc (.cells #[.slice Ar rn rc] 29)).heap.size)
   else e = .returned (.int .i64 1) ∧ Same w w':=⟨_,rfl⟩
 rw [← hPOST]
 have HP:=Lib.hid hPOST
 clear hPOST
 go_enter Tryz.func27,Tryz.ntmps27
 go_wp2_with fail
 refine HU.out.mono ?_
 rintro e w' ⟨rfl,rfl⟩
 go_wp2_with fail
 refine HF'.out.mono ?_
 rintro e w2 ⟨rfl,s2⟩
 have S2:=Lib.hid s2
 have k3':=(S2.out.cells _ 3 hgl).trans k3
 have kt':=(S2.out.cells _ ti hgol).trans kt
 have hgl':g < w2.heap.size:=Nat.lt_of_lt_of_le hgl S2.out.size
 have hgol':go < w2.heap.size:=Nat.lt_of_lt_of_le hgol S2.out.size
 have hBB':BB ≤ w2.heap.size:=Nat.le_trans hBB S2.out.size
 clear s2 k0 k3 kt x0 x1 x2
 cases fb with
 | false =>
  go_wp2_with fail
  show POST (Ending.returned (.int .i64 1)) w2
  rw [HP.out]
  exact ⟨rfl,S2.out⟩
 | true =>
 have z1:g ≠ w2.heap.size:=by omega
 have z2:go ≠ w2.heap.size:=by omega
 have OD:=Lib.hid (HOD.out w2 (.cells #[.slice Ar rn rc] 29) S2.out)
 have HKP:=Lib.hid (fun w3 => HKP0.out w2 (.cells #[.slice Ar rn rc] 29) w3 S2.out)
 clear HKP0 HOD HU HF'
 go_wp2_with fail
 refine wp_region_last (opsP:=?opsP) (S:=(fun w' => w'.cell? ⟨g,3,none⟩ = some (.slice (some ⟨go,0,none⟩) tn oc) ∧ w'.cell? ⟨go,ti,none⟩ = some (.slice Ai tl tc))) (n:=16) (by kernel_rfl) (lastOk_of (by kernel_rfl)) ?hp ?wk
 case hp => simp only [List.pop_toArray,List.dropLast_cons_cons,List.dropLast_singleton];rfl
 have hHeld:(fun w' => w'.cell? ⟨g,3,none⟩ = some (.slice (some ⟨go,0,none⟩) tn oc) ∧ w'.cell? ⟨go,ti,none⟩ = some (.slice Ai tl tc)) (w2.drew):=by
  show _ ∧ _
  (first | exact ⟨by assumption,by assumption⟩ | (simp [*];done) | (simp [*,size_setCell,cell_drew,cell_far,cell_near,cell_new',cell_old];done) | go_keep)
 refine tk 0 (oi:=?o1) (v:=?v1) ?h1 (by kernel_rfl) ?q1 ?w1 ?y1 hHeld ?r1
 case h1 => simp only [lxa,lxb,lxc];rfl
 case q1 => exact fun _ _ _ h => h
 case w1 => rfl
 case y1 => rintro w' ⟨y1,y2⟩;go_simp;try with_reducible rfl
 try simp only [Act.put,lxd,lxe,lxf]
 refine tk 1 (oi:=?o2) (v:=?v2) ?h2 (by kernel_rfl) ?q2 ?w2 ?y2 hHeld ?r2
 case h2 => simp only [lxa,lxb,lxc];rfl
 case q2 => exact fun _ _ _ h => h
 case w2 => rfl
 case y2 => rintro w' ⟨y1,y2⟩;go_simp;try with_reducible rfl
 try simp only [Act.put,lxd,lxe,lxf]
 refine tk 2 (oi:=?o3) (v:=?v3) ?h3 (by kernel_rfl) ?q3 ?w3 ?y3 hHeld ?r3
 case h3 => simp only [lxa,lxb,lxc];rfl
 case q3 => exact fun _ _ _ h => h
 case w3 => rfl
 case y3 => rintro w' ⟨y1,y2⟩;go_simp;try with_reducible rfl
 try simp only [Act.put,lxd,lxe,lxf]
 refine tk 3 (oi:=?o4) (v:=?v4) ?h4 (by kernel_rfl) ?q4 ?w4 ?y4 hHeld ?r4
 case h4 => simp only [lxa,lxb,lxc];rfl
 case q4 => exact fun _ _ _ h => h
 case w4 => rfl
 case y4 => rintro w' ⟨y1,y2⟩;go_simp;try with_reducible rfl
 try simp only [Act.put,lxd,lxe,lxf]
 refine tk 4 (oi:=?o5) (v:=?v5) ?h5 (by kernel_rfl) ?q5 ?w5 ?y5 hHeld ?r5
 case h5 => simp only [lxa,lxb,lxc];rfl
 case q5 => exact fun _ _ _ h => h
 case w5 => rfl
 case y5 => rintro w' ⟨y1,y2⟩;go_simp;try with_reducible rfl
 try simp only [Act.put,lxd,lxe,lxf]
 refine tk 5 (oi:=?o6) (v:=?v6) ?h6 (by kernel_rfl) ?q6 ?w6 ?y6 hHeld ?r6
 case h6 => simp only [lxa,lxb,lxc];rfl
 case q6 => exact fun _ _ _ h => h
 case w6 => rfl
 case y6 => rintro w' ⟨y1,y2⟩;go_simp;try with_reducible rfl
 try simp only [Act.put,lxd,lxe,lxf]
 refine tk 6 (oi:=?o7) (v:=?v7) ?h7 (by kernel_rfl) ?q7 ?w7 ?y7 hHeld ?r7
 case h7 => simp only [lxa,lxb,lxc];rfl
 case q7 => exact fun _ _ _ h => h
 case w7 => rfl
 case y7 => rintro w' ⟨y1,y2⟩;go_simp;try with_reducible rfl
 try simp only [Act.put,lxd,lxe,lxf]
 refine tk 7 (oi:=?o8) (v:=?v8) ?h8 (by kernel_rfl) ?q8 ?w8 ?y8 hHeld ?r8
 case h8 => simp only [lxa,lxb,lxc];rfl
 case q8 => exact fun _ _ _ h => h
 case w8 => rfl
 case y8 => rintro w' ⟨y1,y2⟩;go_simp;try with_reducible rfl
 try simp only [Act.put,lxd,lxe,lxf]
 refine tk 8 (oi:=?o9) (v:=?v9) ?h9 (by kernel_rfl) ?q9 ?w9 ?y9 hHeld ?r9
 case h9 => simp only [lxa,lxb,lxc];rfl
 case q9 => exact fun _ _ _ h => h
 case w9 => rfl
 case y9 => rintro w' ⟨y1,y2⟩;go_simp;try with_reducible rfl
 try simp only [Act.put,lxd,lxe,lxf]
 refine tk 9 (oi:=?o10) (v:=?v10) ?h10 (by kernel_rfl) ?q10 ?w10 ?y10 hHeld ?r10
 case h10 => simp only [lxa,lxb,lxc];rfl
 case q10 => exact fun _ _ _ h => h
 case w10 => rfl
 case y10 => rintro w' ⟨y1,y2⟩;go_simp;try with_reducible rfl
 try simp only [Act.put,lxd,lxe,lxf]
 refine tk 10 (oi:=?o11) (v:=?v11) ?h11 (by kernel_rfl) ?q11 ?w11 ?y11 hHeld ?r11
 case h11 => simp only [lxa,lxb,lxc];rfl
 case q11 => exact fun _ _ _ h => h
 case w11 => rfl
 case y11 => rintro w' ⟨y1,y2⟩;go_simp;try with_reducible rfl
 try simp only [Act.put,lxd,lxe,lxf]
 refine tk 11 (oi:=?o12) (v:=?v12) ?h12 (by kernel_rfl) ?q12 ?w12 ?y12 hHeld ?r12
 case h12 => simp only [lxa,lxb,lxc];rfl
 case q12 => exact fun _ _ _ h => h
 case w12 => rfl
 case y12 => rintro w' ⟨y1,y2⟩;go_simp;try with_reducible rfl
 try simp only [Act.put,lxd,lxe,lxf]
 refine tk 12 (oi:=?o13) (v:=?v13) ?h13 (by kernel_rfl) ?q13 ?w13 ?y13 hHeld ?r13
 case h13 => simp only [lxa,lxb,lxc];rfl
 case q13 => exact fun _ _ _ h => h
 case w13 => rfl
 case y13 => rintro w' ⟨y1,y2⟩;go_simp;try with_reducible rfl
 try simp only [Act.put,lxd,lxe,lxf]
 refine wpAnyH_ready (rs:=[13]) (by kernel_rfl) (by simp) ?_
 refine AllReadyH.cons (o:=?oo14) ?ho14 (fun K hK => ?st14) ?more14
 case ho14 => simp only [lxa,lxb,lxc];rfl
 case more14 => exact AllReadyH.nil
 rw [if_pos (by rfl)]
 go_simp
 refine hK.out _ _ ?_ (fun hHeld => ?_)
 ·show _ ∧ _
  (first | exact ⟨by assumption,by assumption⟩ | (simp [*];done) | (simp [*,size_setCell,cell_drew,cell_far,cell_near,cell_new',cell_old];done) | go_keep)
 clear hK K
 try simp only [Act.put,lxd,lxe,lxf]
 refine wpAnyH_ready (rs:=[14]) (by kernel_rfl) (by simp) ?_
 refine AllReadyH.cons (o:=?oo15) ?ho15 (fun K hK => ?st15) ?more15
 case ho15 => simp only [lxa,lxb,lxc];rfl
 case more15 => exact AllReadyH.nil
 refine step_append_any _ rfl (.tmp 48) (.tmp 50) 99 rfl BB 29 i0 _ 1 24 Tryz.underlying99 hi0 hiz0 hiz1 hiz2 rfl (by decide) (.slice Ai tl tc) tl XS rfl ?_ (w2.heap.size + 1) (some ⟨w2.heap.size,0,none⟩) 1 1 [.slice Ar rn rc] rfl ?_ (by intro u hu;simp at hu;rw [hu];rfl) (by simp only [maxLen];omega) (by omega) ?_ ?_
 ·first | exact OD.out | exact OD.out.drew
 ·first | exact reads_new w2 _ _ | exact (reads_new w2 _ _).drew
 ·simp [heap_drew];omega
 intro v1 w3 hown1 hg1 hat1
 obtain ⟨A2,c2,hv⟩:=own_val hown1
 subst hv
 have G1:(w2.alloc (.cells #[.slice Ar rn rc] 29)).grownBy w3 (Value.slice Ai tl tc).ownBlock:=⟨hg1.os,hg1.tape,hg1.output,hg1.size,hg1.block⟩
 have AT1:(Value.slice A2 (tl + 1) c2).ownBlock = (Value.slice Ai tl tc).ownBlock ∨ (Value.slice A2 (tl + 1) c2).ownBlock = some (w2.alloc (.cells #[.slice Ar rn rc] 29)).heap.size:=hat1
 obtain ⟨q3,qt,ft⟩:=HKP.out w3 G1
 have P3:=Lib.hid (And.intro hown1 (And.intro G1 AT1))
 clear hown1 hg1 hat1 G1 AT1
 refine hK.out _ _ ?_ (fun hHeld => ?_)
 ·show _ ∧ _
  (first | exact ⟨by assumption,by assumption⟩ | (simp [*];done) | (simp [*,size_setCell,cell_drew,cell_far,cell_near,cell_new',cell_old];done) | go_keep)
 clear hK K
 try simp only [Act.put,lxd,lxe,lxf]
 refine tk 15 (oi:=?o16) (v:=?v16) ?h16 (by kernel_rfl) ?q16 ?w16 ?y16 hHeld ?r16
 case h16 => simp only [lxa,lxb,lxc];rfl
 case q16 => exact fun _ _ _ h => h
 case w16 => rfl
 case y16 => rintro w' ⟨y1,y2⟩;go_simp;try with_reducible rfl
 try simp only [Act.put,lxd,lxe,lxf]
 refine wpAnyH_done (by kernel_rfl) ?_ _
 refine lastQ_of (o:=?oz17) ?hz17 ?gz17 ?sz17
 case hz17 => simp only [lxa,lxb,lxc];rfl
 case gz17 => rfl
 intro K hK
 go_simp
 refine hK.out _ _ ?_
 clear hK K
 try simp only [Act.put,lxd,lxe,lxf]
 go_wp2_with fail
 show POST (Ending.returned (.int .i64 0)) (w3.setCell ⟨go,ti,none⟩ (.slice A2 (tl + 1) c2))
 rw [HP.out]
 exact ⟨w2,w3,A2,c2,rfl,rfl,S2.out,P3.out.2.1,P3.out.1,P3.out.2.2⟩
theorem Fine_put_tabs {m:Mg} (h:m.Fine) (t:Int) (row:Row) (hp:m.putE t row = 0):({ m with tabs:=putT m.tabs t row }:Mg).Fine:=by
 have:=h.put t row
 unfold Mg.put at this
 rwa [if_pos hp] at this
theorem put_ok {w:World} {p:MH} {m:Mg} (d:MgAt w p m) (t:Int) {hr:Hd} {row:Row} (r:RowIn w (fun k => ¬ p.own k) ⟨hr,row⟩) (hlo:In (fun k => k < p.lo) hr) (hb:∀ rows ∈ m.tabs,rows.length ≤ 1000000) :
  Calls Tryz.prog 27 #[.pointer (some ⟨p.g,0,none⟩),.int .i64 t,hr.val] w fun e w' => e = .returned (.int .i64 (m.putE t row)) ∧ MTurn w w' p (m.put t row):=by
 cases hc:m.closed with
 | true =>
  have e1:m.putE t row = 22:=by unfold Mg.putE;rw [if_pos hc]
  have e2:m.put t row = m:=by unfold Mg.put;rw [e1,if_neg (by decide)]
  refine (put_closed d t hr.a hr.n hr.c hc).mono ?_
  rintro e w' ⟨he,rfl⟩
  rw [e1,e2]
  exact ⟨he,MTurn.same d (Same.refl _)⟩
 | false =>
  have hcn:¬ m.closed = true:=by rw [hc];simp
  by_cases ht:t < 0 ∨ (m.s.length:Int) ≤ t
  ·have e1:m.putE t row = 1:=by
    unfold Mg.putE
    rw [if_neg hcn]
    by_cases h0:t < 0
    ·rw [if_pos h0]
    ·rw [if_neg h0,List.getElem?_eq_none (by have:=ht.resolve_left h0;omega)]
   have e2:m.put t row = m:=by unfold Mg.put;rw [e1,if_neg (by decide)]
   refine (put_low d t hr.a hr.n hr.c hc ht).mono ?_
   rintro e w' ⟨he,rfl⟩
   rw [e1,e2]
   exact ⟨he,MTurn.same d (Same.refl _)⟩
  ·obtain ⟨ti,rfl⟩:∃ ti:Nat,t = ti:=⟨t.toNat,by omega⟩
   have htl:ti < m.s.length:=by omega
   have htb:ti < p.tb.length:=by rw [d.tbl.1];exact htl
   have e1:m.putE ti row = if fitsB m.s[ti] row then 0 else 1:=by
    unfold Mg.putE
    rw [if_neg hcn,if_neg (by omega),Int.toNat_natCast,List.getElem?_eq_getElem htl]
   have HU:=Lib.hid (usable_ok d)
   have e0:m.abE = 0:=by unfold Mg.abE;rw [if_neg hcn]
   rw [e0] at HU
   obtain ⟨go,oc,ho,hgB,hcell⟩:=d.outer
   have k3:w.cell? ⟨p.g,3,none⟩ = some (.slice (some ⟨go,0,none⟩) p.tb.length oc):=by
    have h3:w.cell? ⟨p.g,3,none⟩ = some p.ho.val:=d.cell 3
    rw [h3,ho];rfl
   have k0:w.cell? ⟨p.g,0,none⟩ = some p.hs.val:=d.cell 0
   obtain ⟨oi,oin⟩:=d.oi _ (List.getElem_mem htb)
   have hts:=d.st.ts.same d.same
   have htsl:p.ts.length = m.s.length:=by rw [← d.st.tsm,List.length_map]
   have htt:ti < p.ts.length:=by omega
   obtain ⟨b,off,hA,hbl,hx⟩:=hts.1.2.2 ti htt
   have hst:m.s[ti] = p.ts[ti].tb:=by
    have h:(p.ts.map RT.tb)[ti]? = m.s[ti]?:=by rw [d.st.tsm]
    rw [List.getElem?_map,List.getElem?_eq_getElem htt,List.getElem?_eq_getElem htl] at h
    exact (Option.some.inj h).symm
   have hF:=fits_ok p.ts[ti] hr row w (hts.2 _ (List.getElem_mem htt)) r.1
   have hkp:=fun (W:World) (o:Obj) (w3:World) (s:Same w W) (G:(W.alloc o).grownBy w3 p.tb[ti].h.val.ownBlock) => d.put_cells ti htb ho W o w3 s G
   have hrl:p.tb[ti].rs.length ≤ 1000000:=by
    obtain ⟨h1,h2⟩:=d.tbl.2 ti htb
    have h3:=hb _ (List.getElem_mem h1)
    rw [h2] at h3
    simpa [Tbl.rows] using h3
   have hn:p.hs.n = p.ts.length:=d.st.ts.1.1.symm
   have hn2:p.hs.n ≤ 9223372036854775807:=d.st.ts.1.2.1
   obtain ⟨ph,hph⟩:∃ ph,ph = p.tb[ti].h:=⟨_,rfl⟩
   have hv:p.tb[ti].h.val = .slice ph.a ph.n ph.c:=by rw [hph];rfl
   have hvs:p.hs.val = .slice (some ⟨b,off,none⟩) p.hs.n p.hs.c:=by
    show Value.slice p.hs.a p.hs.n p.hs.c = _
    rw [hA]
   have hpn:ph.n = p.tb[ti].rs.length:=by rw [hph];exact oin
   rw [hvs] at k0
   have hct:=(hcell ti htb).1
   rw [hv] at hct oi
   rw [← hpn] at oi hrl
   have hkp':∀ W (o:Obj) w3,Same w W → (W.alloc o).grownBy w3 (Value.slice ph.a ph.n ph.c).ownBlock → w3.cell? ⟨p.g,3,none⟩ = some (.slice (some ⟨go,0,none⟩) p.tb.length oc) ∧ w3.cell? ⟨go,ti,none⟩ = some (.slice ph.a ph.n ph.c) ∧ w3.frozen? ⟨go,ti,none⟩ = false:=by
    intro W o w3 s G
    have h:=hkp W o w3 s (by rw [hv];exact G)
    rw [hv,ho] at h
    exact h
   have hgol:go < w.heap.size:=World.block_lt_of_cell? w _ hct
   refine (put_mid p.g go p.tb.length oc ti ph.n ph.c b off p.hs.n p.hs.c hr.n hr.c p.B ph.a hr.a (p.tb[ti].rs.flatMap Rw.cell) p.ts[ti] (fitsB p.ts[ti].tb row) w htb (own_max d.oo) (by rw [hn,htsl,d.tbl.1];exact Nat.le_refl _) hn2 hrl d.blk.lt hgol hbl (Nat.le_trans d.st.gB (Nat.le_of_lt d.blk.lt)) HU k0 k3 hct hx hF (Lib.hid fun W o s => (own_same s oi).alloc o) (Lib.hid hkp')).mono ?_
   intro e w' hpost
   rw [e1,hst]
   cases hfb:fitsB p.ts[ti].tb row with
   | false =>
    rw [hfb] at hpost
    obtain ⟨he,s⟩:=hpost
    have e2:m.put ti row = m:=by unfold Mg.put;rw [e1,hst,hfb];rfl
    rw [e2]
    exact ⟨he,MTurn.same d s⟩
   | true =>
    rw [hfb] at hpost
    obtain ⟨w2,w3,A2,c2,he,rfl,s2,G,o1,hat⟩:=hpost
    have e3:m.putE ti row = 0:=by rw [e1,hst,hfb];rfl
    have e2:m.put ti row = { m with tabs:=putT m.tabs ti row }:=by unfold Mg.put;rw [if_pos e3]
    rw [e2]
    obtain ⟨d2,c',o2⟩:=(d.next s2).putRow ti htb ho (h:=hr) (row:=row) (r.same s2) hlo (A:=A2) (n:=ph.n + 1) (c:=c2) (by rw [hv];exact G) (by rw [← hpn];exact o1) (by rw [hv];exact hat) (Fine_put_tabs d.fine ti row e3)
    exact ⟨he,⟨_,d2,rfl,rfl,⟨rfl,rfl,rfl⟩,(Chg.of_same s2).trans c' (fun _ _ h => h),fun k hk => (o2 k hk).imp id (fun h => Nat.le_trans s2.size h)⟩⟩
def OutAt (w:World) (B lo:Nat) (hi:Nat → Prop) (h:Hd) (ts:List Tbl) (tabs:List (List Row)):Prop:=
 OwnT w B h ts ∧ rowsOf ts = tabs ∧ ∀ t ∈ ts,∀ r ∈ t.rs,RowAt w r.h r.v ∧ In (fun k => k < lo ∨ hi k) r.h
theorem OutAt.same {w w':World} {B lo:Nat} {hi:Nat → Prop} {h:Hd} {ts:List Tbl} {tabs:List (List Row)} (o:OutAt w B lo hi h ts tabs) (s:Same w w'):OutAt w' B lo hi h ts tabs:=
 ⟨o.1.same s,o.2.1,fun t ht r hr => ⟨(o.2.2 t ht r hr).1.same s,(o.2.2 t ht r hr).2⟩⟩
theorem OwnT.lies {w:World} {B:Nat} {h:Hd} {ts:List Tbl} (o:OwnT w B h ts):Lies w 1 h Tbl.cell ts:=by
 have hb:h.n ≤ 9223372036854775807:=by rw [o.oh];exact own_max o.oo
 refine own_lies' (e:=99) (base:=B) Tbl.clen o.oh.symm hb ?_
 rw [o.oh];exact o.oo
theorem OwnT.inner {w:World} {B:Nat} {h:Hd} {ts:List Tbl} (o:OwnT w B h ts) {t:Tbl} (ht:t ∈ ts):Lies w 1 t.h Rw.cell t.rs:=by
 obtain ⟨oi,on⟩:=o.oi t ht
 have hb:t.h.n ≤ 9223372036854775807:=by rw [on];exact own_max oi
 refine own_lies' (e:=29) (base:=B) Rw.clen on.symm hb ?_
 rw [on];exact oi
theorem OutAt.tables {w:World} {B lo:Nat} {hi:Nat → Prop} {h:Hd} {ts:List Tbl} {tabs:List (List Row)} (o:OutAt w B lo hi h ts tabs):TablesAt w (fun k => k < w.heap.size) h ts:=
 ⟨o.1.lies,o.1.lies.in_,fun t ht => ⟨o.1.inner ht,(o.1.inner ht).in_,fun r hr => ⟨(o.2.2 t ht r hr).1,(o.2.2 t ht r hr).1.in_⟩⟩⟩
theorem MgAt.ownT {w:World} {p:MH} {m:Mg} (d:MgAt w p m):OwnT w p.B p.ho p.tb:=⟨d.oo,d.oh,d.oi,d.ai⟩
theorem MgAt.tables {w:World} {p:MH} {m:Mg} (d:MgAt w p m):TablesAt w (fun k => k < w.heap.size) p.ho p.tb:=
 ⟨d.ownT.lies,d.ownT.lies.in_,fun t ht => ⟨d.ownT.inner ht,(d.ownT.inner ht).in_,fun r hr => ⟨(d.rr t ht r hr).1,(d.rr t ht r hr).1.in_⟩⟩⟩
def FewR (tabs:List (List Row)):Prop:=tabs.length ≤ 1000000 ∧ ∀ rows ∈ tabs,rows.length ≤ 1000000
theorem rows_same {ts ts':List Tbl} (h:ts.map Tbl.rs = ts'.map Tbl.rs):rowsOf ts = rowsOf ts':=by
 have e:∀ l:List Tbl,rowsOf l = (l.map Tbl.rs).map (fun rs => rs.map Rw.v):=fun l => by simp [rowsOf,Tbl.rows]
 rw [e,e,h]
theorem mem_rs {ts ts':List Tbl} (h:ts.map Tbl.rs = ts'.map Tbl.rs) {t:Tbl} (ht:t ∈ ts):∃ t' ∈ ts',t'.rs = t.rs:=by
 have:t.rs ∈ ts.map Tbl.rs:=List.mem_map_of_mem ht
 rw [h] at this
 exact List.mem_map.1 this
theorem MgAt.clone {w:World} {p:MH} {m:Mg} (d:MgAt w p m) (few:FewR m.tabs) :
  Calls Tryz.prog 60 #[p.ho.val] w fun e w' => ∃ (A:Option Addr) (n c:Nat) (ts:List Tbl),e = .returned (.slice A n c) ∧ OutAt w' w.heap.size p.lo p.hi ⟨A,n,c⟩ ts m.tabs ∧ Same w w':=by
 have hl:p.tb.length ≤ 1000000:=by
  have:=congrArg List.length d.tr
  simp only [rowsOf,List.length_map] at this
  rw [this];exact few.1
 have hr:∀ t ∈ p.tb,t.rs.length ≤ 1000000000:=by
  intro t ht
  have h1:t.rows ∈ m.tabs:=by rw [← d.tr];exact List.mem_map_of_mem ht
  have:=few.2 _ h1
  simp only [Tbl.rows,List.length_map] at this
  omega
 refine (clone_ok p.ho p.tb w d.tables hl hr).mono ?_
 rintro e w' ⟨⟨A,n,c⟩,ts,he,o,s,hm⟩
 refine ⟨A,n,c,ts,he,⟨o,?_,?_⟩,s⟩
 ·rw [rows_same hm];exact d.tr
 ·intro t ht r hr
  obtain ⟨t',ht',e'⟩:=mem_rs hm ht
  rw [← e'] at hr
  exact ⟨(d.rr t' ht' r hr).1.same s,(d.rl t' ht' r hr).mono fun k hk => .inl hk⟩
theorem MgAt.close {w:World} {p:MH} {m:Mg} (d:MgAt w p m):MgAt (w.setCell ⟨p.g,7,none⟩ (.bool true)) p m.abandon ∧ Chg p.own w (w.setCell ⟨p.g,7,none⟩ (.bool true)):=
 d.flag m.abandon 7 (.bool true) rfl rfl rfl rfl rfl ⟨d.fine.err,d.fine.at_,d.fine.til,d.fine.len,d.fine.fit,d.fine.dl,d.fine.dn,d.fine.bad⟩
theorem abandon_none (w:World):Calls Tryz.prog 32 #[.pointer none] w fun e w' => e = .returned (.tuple #[.slice none 0 0,.int .i64 1]) ∧ w = w':=by
 go_enter Tryz.func32,Tryz.ntmps32
 go_wp2_with fail
 refine (usable_none w).mono ?_
 rintro e w' ⟨rfl,rfl⟩
 go_wp2_with fail
 go_ret2
 exact ⟨rfl,rfl⟩
theorem abandon_closed {w:World} {p:MH} {m:Mg} (d:MgAt w p m) (hc:m.closed = true) :
  Calls Tryz.prog 32 #[.pointer (some ⟨p.g,0,none⟩)] w fun e w' => e = .returned (.tuple #[.slice none 0 0,.int .i64 22]) ∧ w = w':=by
 have HU:=Lib.hid (usable_ok d)
 have e:m.abE = 22:=by unfold Mg.abE;rw [if_pos hc]
 rw [e] at HU
 obtain ⟨g,hg⟩:∃ g,g = p.g:=⟨_,rfl⟩
 rw [← hg] at HU ⊢
 clear e d hc hg
 go_enter Tryz.func32,Tryz.ntmps32
 go_wp2_with fail
 refine HU.out.mono ?_
 rintro e w' ⟨rfl,rfl⟩
 go_wp2_with fail
 go_ret2
 exact ⟨rfl,rfl⟩
theorem abandon_ok {w:World} {p:MH} {m:Mg} (d:MgAt w p m) (few:FewR m.tabs) (hc:m.closed = false) :
  Calls Tryz.prog 32 #[.pointer (some ⟨p.g,0,none⟩)] w fun e w' => ∃ (A:Option Addr) (n c:Nat) (ts:List Tbl),e = .returned (.tuple #[.slice A n c,.int .i64 0]) ∧ OutAt w' w.heap.size p.lo p.hi ⟨A,n,c⟩ ts m.tabs ∧ MTurn w w' p m.abandon:=by
 have HU:=Lib.hid (usable_ok d)
 have e:m.abE = 0:=by unfold Mg.abE;rw [if_neg (by rw [hc];simp)]
 rw [e] at HU
 have k7:w.cell? ⟨p.g,7,none⟩ = some (.bool m.closed):=d.cell 7
 have f7:w.frozen? ⟨p.g,7,none⟩ = false:=d.blk.frozen 7
 have k3:w.cell? ⟨p.g,3,none⟩ = some p.ho.val:=d.cell 3
 have D2:=Lib.hid d.close
 have HC0:=D2.out.1.clone few
 have e9:m.abandon.tabs = m.tabs:=rfl
 rw [e9] at HC0
 have HC:=Lib.hid HC0
 clear HC0 e9
 have HS:Hid ((w.setCell ⟨p.g,7,none⟩ (.bool true)).heap.size = w.heap.size):=by show _ = _;simp [World.setCell]
 have FIN:Hid (∀ A n c ts w',OutAt w' (w.setCell ⟨p.g,7,none⟩ (.bool true)).heap.size p.lo p.hi ⟨A,n,c⟩ ts m.tabs → Same (w.setCell ⟨p.g,7,none⟩ (.bool true)) w' → OutAt w' w.heap.size p.lo p.hi ⟨A,n,c⟩ ts m.tabs ∧ MTurn w w' p m.abandon):=Lib.hid fun A n c ts w' o s => by
  rw [HS.out] at o
  exact ⟨o,p,D2.out.1.next s,rfl,rfl,MH.Like.refl p,D2.out.2.then_same s,fun k hk => .inl hk⟩
 rw [hc] at k7
 obtain ⟨⟨Ao,no,co⟩,hho⟩:∃ q:Hd,q = p.ho:=⟨_,rfl⟩
 rw [← hho] at k3 HC
 obtain ⟨lo,hlo⟩:∃ lo,lo = p.lo:=⟨_,rfl⟩
 obtain ⟨hi,hhi⟩:∃ hi,hi = p.hi:=⟨_,rfl⟩
 obtain ⟨TA,hTA⟩:∃ TA,TA = m.tabs:=⟨_,rfl⟩
 obtain ⟨g,hg⟩:∃ g,g = p.g:=⟨_,rfl⟩
 obtain ⟨M,hM⟩:∃ M:World → Prop,M = fun w' => MTurn w w' p m.abandon:=⟨_,rfl⟩
 have HM:Hid (∀ w',MTurn w w' p m.abandon → M w'):=Lib.hid fun w' h => by rw [hM];exact h
 have HM':Hid (∀ w',M w' → MTurn w w' p m.abandon):=Lib.hid fun w' h => by rw [hM] at h;exact h
 rw [← hlo,← hhi,← hTA,← hg] at HC FIN
 rw [← hg] at HU k7 f7 k3
 refine Calls.mono (R:=fun e w' => ∃ (A:Option Addr) (n c:Nat) (ts:List Tbl),e = .returned (.tuple #[.slice A n c,.int .i64 0]) ∧ OutAt w' w.heap.size lo hi ⟨A,n,c⟩ ts TA ∧ M w') ?_ (fun e w' ⟨A,n,c,ts,h1,h2,h3⟩ => ⟨A,n,c,ts,h1,by rw [← hlo,← hhi,← hTA];exact h2,HM'.out _ h3⟩)
 rw [← hg]
 have k3':w.cell? ⟨g,3,none⟩ = some (.slice Ao no co):=k3
 have HC':Hid (Calls Tryz.prog 60 #[.slice Ao no co] (w.setCell ⟨g,7,none⟩ (.bool true)) fun e w' => ∃ (A:Option Addr) (n c:Nat) (ts:List Tbl),e = .returned (.slice A n c) ∧ OutAt w' (w.setCell ⟨g,7,none⟩ (.bool true)).heap.size lo hi ⟨A,n,c⟩ ts TA ∧ Same (w.setCell ⟨g,7,none⟩ (.bool true)) w'):=HC
 have FIN':Hid (∀ A n c ts w',OutAt w' (w.setCell ⟨g,7,none⟩ (.bool true)).heap.size lo hi ⟨A,n,c⟩ ts TA → Same (w.setCell ⟨g,7,none⟩ (.bool true)) w' → OutAt w' w.heap.size lo hi ⟨A,n,c⟩ ts TA ∧ M w'):=Lib.hid fun A n c ts w' o s => ⟨(FIN.out A n c ts w' o s).1,HM.out _ (FIN.out A n c ts w' o s).2⟩
 clear e d hc hho hlo hhi hTA hg hM k3 HC FIN D2 HS HM HM' few
 go_enter Tryz.func32,Tryz.ntmps32
 go_wp2_with fail
 refine HU.out.mono ?_
 rintro e w' ⟨rfl,rfl⟩
 go_wp2_with fail
 refine HC'.out.mono ?_
 rintro e w1 ⟨A,n,c,ts,rfl,o,s⟩
 have OO:=Lib.hid (FIN'.out A n c ts w1 o s)
 clear o s
 go_wp2_with fail
 go_ret2
 exact ⟨A,n,c,ts,rfl,OO.out⟩
end Go.Proofs.YtfifnemnihcijaaGreatDoor

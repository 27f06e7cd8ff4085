import Derived.Test.YtfifnemnihcijaaGreatDoorKYv
import Derived.Test.YtfifnemnihcijaaGreatDoorKZc
import Derived.Test.YtfifnemnihcijaaGreatDoorKYu
set_option linter.unusedSimpArgs false
set_option linter.unusedVariables false
set_option maxHeartbeats 16000000
set_option maxRecDepth 100000
namespace Go.Proofs.YtfifnemnihcijaaGreatDoor
open Go.RowKit
theorem rconv_drop (A:Option Addr) (m cc:Nat) (k:Int) (tt aa n:ByteArray) (to_ dk dn:Int) (ds:ByteArray) (tb:Int) (RA_:Option Addr) (rm rc:Nat) (E ci cj:Int) (w:World) (hm:m ≤ 1000000)
  (HF:Hid (Rt 41 #[.agg #[.slice A m cc],.agg #[.int .i64 k,.string tt,.string aa,.string n,.int .i64 to_,.int .i64 dk,.int .i64 dn,.string ds]] w (.tuple #[.int .i64 ci,.int .i64 cj,.int .i64 E]))) (hE:E = 0) (q:Nat) (hq:q < m) (htb:tb = q) (b off:Nat) (hA:A = some ⟨b,off,none⟩) (hbl:b < w.heap.size) (tn:ByteArray) (A1:Option Addr) (m1 c1_:Nat) (A2:Option Addr) (m2 c2_:Nat) (y0:w.cell? ⟨b,off + q * 3,none⟩ = some (.string tn)) (y1:w.cell? ⟨b,off + q * 3 + 1,none⟩ = some (.slice A1 m1 c1_)) (y2:w.cell? ⟨b,off + q * 3 + 2,none⟩ = some (.slice A2 m2 c2_)) (HT:Hid (Rt 18 #[.agg #[.string tn,.slice A1 m1 c1_,.slice A2 m2 c2_],.slice RA_ rm rc] w (.bool true))) (row:List V) (hrow:row.length = rm) (hrm:rm ≤ 1000000) (HR:Hid (Lies w 3 ⟨RA_,rm,rc⟩ V.cells row)) (hne:(q:Int) = ci) (k2:k = 2) (i:Nat) (hci:cj = i) (hil:i < rm) :
  Calls Tryz.prog 10 #[.agg #[.slice A m cc],.agg #[.int .i64 k,.string tt,.string aa,.string n,.int .i64 to_,.int .i64 dk,.int .i64 dn,.string ds],.int .i64 tb,.slice RA_ rm rc] w fun e w' => ∃ A3 c3,e = .returned (.tuple #[.slice A3 (rm - 1) c3,.int .i64 0]) ∧ w'.ownsRow w.heap.size 26 3 (.slice A3 (rm - 1) c3) (rm - 1) ((row.eraseIdx i).flatMap V.cells) ∧ Same w w':=by
 subst hci
 obtain ⟨i0,hi0,hiz0,hiz1,hiz2⟩:=info_parts Tryz.infoCV
 have tE:(E != 0) = false:=by simp;exact hE
 subst htb hA
 have t1:decide ((q:Int) < 0) = false:=by simp
 have t2:decide ((m:Int) ≤ (q:Int)) = false:=by simp;omega
 have q0:(0:Int) ≤ (q:Int):=by omega
 have q1:(q:Int) < (m:Int):=by omega
 subst hne
 have t3:((q:Int) != (q:Int)) = false:=by simp
 subst k2
 clear hE
 go_enter Tryz.func10,Tryz.ntmps10
 go_wp2_with fail
 refine (HF.out _ ?_).mono ?_
 ·exact ((Same.refl w).alloc _).alloc _
 rintro e w1 ⟨rfl,s1⟩
 have S1:=Lib.hid (Same.trans (((Same.refl w).alloc _).alloc _) s1)
 have Z1:=in2 s1
 have z0:w.heap.size < w1.heap.size:=by omega
 have z1:w.heap.size + 1 < w1.heap.size:=by omega
 obtain ⟨b0,c0,-,-,-,c4,-⟩:=in18 s1
 clear s1
 have yy0:=(S1.out.cells _ _ hbl).trans y0
 have yy1:=(S1.out.cells _ _ hbl).trans y1
 have yy2:=(S1.out.cells _ _ hbl).trans y2
 go_wp2_with fail
 refine (HT.out _ S1.out).mono ?_
 rintro e w2 ⟨rfl,s2⟩
 have S2:=Lib.hid (S1.out.trans s2)
 have z2:w.heap.size + 2 ≤ w2.heap.size:=by have:=s2.size;omega
 have d0:=(s2.cells _ _ z1).trans c0
 have d4:=(s2.cells _ _ z1).trans c4
 have HRR:Hid (Reads w2 w2.heap.size 3 RA_ rm (row.flatMap V.cells)):=lies_reads V.clen (HR.out.same S2.out)
 have H1:Hid (∀ u ∈ row.flatMap V.cells,u.oneCell' = true):=Lib.hid fun u hu => by
  obtain ⟨x,_,hx⟩:=List.mem_flatMap.1 hu
  exact V.one x u hx
 have hxl:(row.flatMap V.cells).length = rm * 3:=by rw [← hrow];exact flat_len V.clen row
 clear s2 yy0 yy1 yy2 b0 c0 c4
 have lw2:w.heap.size ≤ w2.heap.size:=by omega
 go_upto_region 13 with (at_builtin;refine wpList_append_any _ rfl (.tmp 45) (.tmp 46) 29 rfl w.heap.size 26 i0 _ 3 32 Tryz.underlying29 hi0 hiz0 hiz1 hiz2 rfl (by decide) (.slice (some ⟨w2.heap.size,0,none⟩) 0 0) 0 [] rfl (rown_base (ownsRow_new w2 _ _) lw2) w2.heap.size RA_ rm rc (row.flatMap V.cells) rfl (HRR.out.alloc (Nat.le_refl _) _) H1.out (by simp only [maxLen];omega) (by omega) (by simp;omega) ?_;intro v1 w3 hown1 hg1 hat1;rw [List.nil_append,Nat.zero_add] at hown1;obtain ⟨A3,c3,hv⟩:=own_val hown1;subst hv;have sm:Same w2 w3:=Below.grown ((Same.refl w2).alloc _) hg1 (by simp) (fun k hk => by simp [Value.ownBlock] at hk;omega);have SM:=Lib.hid (S2.out.trans sm);have OWN:=Lib.hid hown1;have e0:=(sm.cells _ 0 (show w.heap.size + 1 < w2.heap.size by omega)).trans d0;have hown1':=hown1;obtain ⟨g,cur,hA3,hgb,_,_,hnc,hcm,_⟩:=own_blk hown1 (by omega);subst hA3;clear hown1 hown1' hg1 hat1 sm)
 obtain ⟨news,AD,W4,hAD,DF⟩:=del_facts OWN.out.drew hil (by decide) H1.out
 have hcm':c3 ≤ 9223372036854775807:=by unfold maxLen at hcm;exact hcm
 have hic:i ≤ c3:=by omega
 have hjc:i + 1 ≤ c3:=by omega
 have hjn:i + 1 ≤ rm:=by omega
 have hwp:IntKind.i64.wrap ((i:Int) + 1) = (i:Int) + 1:=IntWalk.i64_in _ ⟨by omega,by omega⟩
 have htn:((i:Int) + 1).toNat = i + 1:=by omega
 have hp0:(0:Int) ≤ (i:Int) + 1:=by omega
 have hp1:(i:Int) + 1 ≤ (rm:Int):=by omega
 have s1:=Lib.hid DF.len
 have s2:=Lib.hid DF.one
 have s3:=Lib.hid DF.dst
 have hsrc:=Lib.hid DF.src
 have hW:=Lib.hid DF.out
 have OD:=Lib.hid DF.own
 have GR:=Lib.hid DF.grown
 clear DF
 go_region_law (refine step_append_room rfl (.tmp 65) (.tmp 69) 29 rfl 26 i0 3 Tryz.underlying29 hi0 hiz1 g 0 i c3 (by simp [Act.eval,Act.put]) AD (rm - (i + 1)) (c3 - (i + 1)) news (by simp [Act.eval,Act.put]) s1.out hsrc.out s2.out (by omega) s3.out ?_;rw [hW.out])
 go_wp2_with fail
 go_ret2
 have e9:i + (rm - (i + 1)) = rm - 1:=by omega
 refine ⟨some ⟨g,0,none⟩,c3,by rw [e9];rfl,?_,?_⟩
 ·have:=OD.out
  rw [flat_erase V.clen row i (by omega)] at this
  exact this
 ·exact Below.grown SM.out.drew GR.out (by have:=SM.out.size;rw [heap_drew];exact this) (fun k hk => by injection hk with hk;omega)
theorem rconv_cast (A:Option Addr) (m cc:Nat) (k:Int) (tt aa n:ByteArray) (to_ dk dn:Int) (ds:ByteArray) (tb:Int) (RA_:Option Addr) (rm rc:Nat) (E ci cj:Int) (w:World) (hm:m ≤ 1000000)
  (HF:Hid (Rt 41 #[.agg #[.slice A m cc],.agg #[.int .i64 k,.string tt,.string aa,.string n,.int .i64 to_,.int .i64 dk,.int .i64 dn,.string ds]] w (.tuple #[.int .i64 ci,.int .i64 cj,.int .i64 E]))) (hE:E = 0) (q:Nat) (hq:q < m) (htb:tb = q) (b off:Nat) (hA:A = some ⟨b,off,none⟩) (hbl:b < w.heap.size) (tn:ByteArray) (A1:Option Addr) (m1 c1_:Nat) (A2:Option Addr) (m2 c2_:Nat) (y0:w.cell? ⟨b,off + q * 3,none⟩ = some (.string tn)) (y1:w.cell? ⟨b,off + q * 3 + 1,none⟩ = some (.slice A1 m1 c1_)) (y2:w.cell? ⟨b,off + q * 3 + 2,none⟩ = some (.slice A2 m2 c2_)) (HT:Hid (Rt 18 #[.agg #[.string tn,.slice A1 m1 c1_,.slice A2 m2 c2_],.slice RA_ rm rc] w (.bool true))) (row:List V) (hrow:row.length = rm) (hrm:rm ≤ 1000000) (HR:Hid (Lies w 3 ⟨RA_,rm,rc⟩ V.cells row)) (hne:(q:Int) = ci) (k4:k = 4) (i:Nat) (hci:cj = i) (hil:i < rm) (v0 v1:Int) (v2:ByteArray) (hv:row[i]'(by omega) = ⟨v0,v1,v2⟩) (r0 r1:Int) (r2:ByteArray) (ce:Int) (HC:Hid (Rt 43 #[.agg #[.int .i64 v0,.int .i64 v1,.string v2],.int .i64 to_] w (.tuple #[.agg #[.int .i64 r0,.int .i64 r1,.string r2],.int .i64 ce]))) (hce:ce = 0) :
  Calls Tryz.prog 10 #[.agg #[.slice A m cc],.agg #[.int .i64 k,.string tt,.string aa,.string n,.int .i64 to_,.int .i64 dk,.int .i64 dn,.string ds],.int .i64 tb,.slice RA_ rm rc] w fun e w' => ∃ A3 c3,e = .returned (.tuple #[.slice A3 rm c3,.int .i64 0]) ∧ w'.ownsRow w.heap.size 26 3 (.slice A3 rm c3) rm ((row.set i ⟨r0,r1,r2⟩).flatMap V.cells) ∧ Same w w':=by
 subst hci
 obtain ⟨rb,ro,hRA,hrb,hrc⟩:=HR.out.2.2 i (by omega)
 have hRA':RA_ = some ⟨rb,ro,none⟩:=hRA
 clear hRA
 subst hRA'
 have y30:Hid (w.cell? ⟨rb,ro + i * 3,none⟩ = some (.int .i64 v0)):=hrc 0 _ (by rw [hv];rfl)
 have y31:Hid (w.cell? ⟨rb,ro + i * 3 + 1,none⟩ = some (.int .i64 v1)):=hrc 1 _ (by rw [hv];rfl)
 have y32:Hid (w.cell? ⟨rb,ro + i * 3 + 2,none⟩ = some (.string v2)):=hrc 2 _ (by rw [hv];rfl)
 clear hrc
 obtain ⟨i0,hi0,hiz0,hiz1,hiz2⟩:=info_parts Tryz.infoCV
 have tE:(E != 0) = false:=by simp;exact hE
 subst htb hA
 have t1:decide ((q:Int) < 0) = false:=by simp
 have t2:decide ((m:Int) ≤ (q:Int)) = false:=by simp;omega
 have q0:(0:Int) ≤ (q:Int):=by omega
 have q1:(q:Int) < (m:Int):=by omega
 subst hne
 have t3:((q:Int) != (q:Int)) = false:=by simp
 subst k4
 have tce:(ce != 0) = false:=by simp;exact hce
 clear hce
 clear hE
 go_enter Tryz.func10,Tryz.ntmps10
 go_wp2_with fail
 refine (HF.out _ ?_).mono ?_
 ·exact ((Same.refl w).alloc _).alloc _
 rintro e w1 ⟨rfl,s1⟩
 have S1:=Lib.hid (Same.trans (((Same.refl w).alloc _).alloc _) s1)
 have Z1:=in2 s1
 have z0:w.heap.size < w1.heap.size:=by omega
 have z1:w.heap.size + 1 < w1.heap.size:=by omega
 obtain ⟨b0,c0,-,-,-,c4,-⟩:=in18 s1
 clear s1
 have yy0:=(S1.out.cells _ _ hbl).trans y0
 have yy1:=(S1.out.cells _ _ hbl).trans y1
 have yy2:=(S1.out.cells _ _ hbl).trans y2
 go_wp2_with fail
 refine (HT.out _ S1.out).mono ?_
 rintro e w2 ⟨rfl,s2⟩
 have S2:=Lib.hid (S1.out.trans s2)
 have z2:w.heap.size + 2 ≤ w2.heap.size:=by have:=s2.size;omega
 have d0:=(s2.cells _ _ z1).trans c0
 have d4:=(s2.cells _ _ z1).trans c4
 have hz12:w.heap.size + 1 < w2.heap.size:=by omega
 have HRR:Hid (Reads w2 w2.heap.size 3 (some ⟨rb,ro,none⟩) rm (row.flatMap V.cells)):=lies_reads V.clen (HR.out.same S2.out)
 have H1:Hid (∀ u ∈ row.flatMap V.cells,u.oneCell' = true):=Lib.hid fun u hu => by
  obtain ⟨x,_,hx⟩:=List.mem_flatMap.1 hu
  exact V.one x u hx
 have hxl:(row.flatMap V.cells).length = rm * 3:=by rw [← hrow];exact flat_len V.clen row
 clear s2 yy0 yy1 yy2 b0 c0 c4
 have lw2:w.heap.size ≤ w2.heap.size:=by omega
 go_upto_region 15 with (at_builtin;refine wpList_append_any _ rfl (.tmp 45) (.tmp 46) 29 rfl w.heap.size 26 i0 _ 3 32 Tryz.underlying29 hi0 hiz0 hiz1 hiz2 rfl (by decide) (.slice (some ⟨w2.heap.size,0,none⟩) 0 0) 0 [] rfl (rown_base (ownsRow_new w2 _ _) lw2) w2.heap.size (some ⟨rb,ro,none⟩) rm rc (row.flatMap V.cells) rfl (HRR.out.alloc (Nat.le_refl _) _) H1.out (by simp only [maxLen];omega) (by omega) (by simp;omega) ?_;intro v1 w3 hown1 hg1 hat1;rw [List.nil_append,Nat.zero_add] at hown1;obtain ⟨A3,c3,hv⟩:=own_val hown1;subst hv;have sm:Same w2 w3:=Below.grown ((Same.refl w2).alloc _) hg1 (by simp) (fun k hk => by simp [Value.ownBlock] at hk;omega);have SM:=Lib.hid (S2.out.trans sm);have OWN:=Lib.hid hown1;have e0:=(sm.cells _ 0 (show w.heap.size + 1 < w2.heap.size by omega)).trans d0;have e4:=(sm.cells _ 4 hz12).trans d4;have hlt3:w.heap.size + 1 < w3.heap.size:=Nat.lt_of_lt_of_le hz12 sm.size;have hown1':=hown1;obtain ⟨g,cur,hA3,hgb,hbk,_,hnc,hcm,_⟩:=own_blk hown1 (by omega);subst hA3;have x0:=own_cell V.clen hown1 hrow i hil 0 (by decide);have x1:=own_cell V.clen hown1 hrow i hil 1 (by decide);have x2:=own_cell V.clen hown1 hrow i hil 2 (by decide);have HFZ:=Lib.hid (fun (W:World) (s:Same w3 W) (j:Nat) => (s.frees g j hbk.lt).trans (hbk.frozen j));have hgl3:g < w3.heap.size:=hbk.lt;clear hown1' hbk hown1 hg1 hat1 sm)
 have x0':w3.cell? ⟨g,i * 3,none⟩ = some (.int .i64 v0):=by rw [hv] at x0;exact x0
 have x1':w3.cell? ⟨g,i * 3 + 1,none⟩ = some (.int .i64 v1):=by rw [hv] at x1;exact x1
 have x2':w3.cell? ⟨g,i * 3 + 2,none⟩ = some (.string v2):=by rw [hv] at x2;exact x2
 clear x0 x1 x2
 have y40:=y30.out
 have y41:=y31.out
 have y42:=y32.out
 have g0:=(SM.out.cells _ _ hrb).trans y40
 have g1:=(SM.out.cells _ _ hrb).trans y41
 have g2:=(SM.out.cells _ _ hrb).trans y42
 have hrb3:rb < w3.heap.size:=Nat.lt_of_lt_of_le hrb SM.out.size
 have HO:Hid (∀ W,Same w3 W → (((W.setCell ⟨g,i * 3,none⟩ (.int .i64 r0)).setCell ⟨g,i * 3 + 1,none⟩ (.int .i64 r1)).setCell ⟨g,i * 3 + 2,none⟩ (.string r2)).ownsRow w.heap.size 26 3 (.slice (some ⟨g,0,none⟩) rm c3) rm ((row.set i ⟨r0,r1,r2⟩).flatMap V.cells)):=Lib.hid fun W s => own_set3 (own_same s OWN.out) hrow hil ⟨r0,r1,r2⟩
 go_region_held3 (fun w' => w'.cell? ⟨rb,ro + i * 3,none⟩ = some (.int .i64 v0) ∧ w'.cell? ⟨rb,ro + i * 3 + 1,none⟩ = some (.int .i64 v1) ∧ w'.cell? ⟨rb,ro + i * 3 + 2,none⟩ = some (.string v2) ∧ w'.cell? ⟨w.heap.size + 1,4,none⟩ = some (.int .i64 to_)) (first | (simp [*];done) | (simp [*,cell_drew,cell_far,cell_new',cell_old];done) | ((repeat' apply And.intro) <;> (first | (simp [*];done) | (simp [*,cell_drew,cell_far,cell_new',cell_old];done) | go_keep)))
  (first
  | (go_at_call 43;refine (HC.out _ ?_).mono ?_;exact (SM.out.alloc _).drew;rintro e w4 ⟨rfl,s4⟩;have S34:Hid (Same w3 w4):=Same.trans (((Same.refl w3).alloc _).drew) s4;have S4:Hid (Same w w4):=SM.out.trans S34.out;have u0:=(S4.out.cells _ _ hrb).trans y40;have u1:=(S4.out.cells _ _ hrb).trans y41;have u2:=(S4.out.cells _ _ hrb).trans y42;have u3:=(S34.out.cells _ _ hlt3).trans e4;have hg4:g < w4.heap.size:=Nat.lt_of_lt_of_le hgl3 S34.out.size;have X0:=(S34.out.cells _ _ hgl3).trans x0';have X1:=(S34.out.cells _ _ hgl3).trans x1';have X2:=(S34.out.cells _ _ hgl3).trans x2';have fr0:=HFZ.out w4 S34.out (i * 3);have fr1:=HFZ.out w4 S34.out (i * 3 + 1);have fr2:=HFZ.out w4 S34.out (i * 3 + 2);have m0:w4.cell? ⟨w3.heap.size,0,none⟩ = some (.int .i64 0):=(s4.cells _ _ (by simp [heap_drew])).trans (by simp [cell_drew]);have f0:w4.frozen? ⟨w3.heap.size,0,none⟩ = false:=(s4.frees _ _ (by simp [heap_drew])).trans (by simp);have m1:w4.cell? ⟨w3.heap.size,1,none⟩ = some (.int .i64 0):=(s4.cells _ _ (by simp [heap_drew])).trans (by simp [cell_drew]);have f1:w4.frozen? ⟨w3.heap.size,1,none⟩ = false:=(s4.frees _ _ (by simp [heap_drew])).trans (by simp);have m2:w4.cell? ⟨w3.heap.size,2,none⟩ = some (.string ⟨#[]⟩):=(s4.cells _ _ (by simp [heap_drew])).trans (by simp [cell_drew]);have f2:w4.frozen? ⟨w3.heap.size,2,none⟩ = false:=(s4.frees _ _ (by simp [heap_drew])).trans (by simp);have hz4:w3.heap.size < w4.heap.size:=Nat.lt_of_lt_of_le (by simp [heap_drew]) s4.size;have hgn:g ≠ w3.heap.size:=(by omega);have hbn:w.heap.size + 1 ≠ w3.heap.size:=(by omega);have hrn:rb ≠ w3.heap.size:=(by omega);clear s4)
  | (go_at_call 43;refine (HC.out _ ?_).mono ?_;exact SM.out.drew;rintro e w4 ⟨rfl,s4⟩;have S34:Hid (Same w3 w4):=Same.trans ((Same.refl w3).drew) s4;have S4:Hid (Same w w4):=SM.out.trans S34.out;have u0:=(S4.out.cells _ _ hrb).trans y40;have u1:=(S4.out.cells _ _ hrb).trans y41;have u2:=(S4.out.cells _ _ hrb).trans y42;have u3:=(S34.out.cells _ _ hlt3).trans e4;have hg4:g < w4.heap.size:=Nat.lt_of_lt_of_le hgl3 S34.out.size;have X0:=(S34.out.cells _ _ hgl3).trans x0';have X1:=(S34.out.cells _ _ hgl3).trans x1';have X2:=(S34.out.cells _ _ hgl3).trans x2';have fr0:=HFZ.out w4 S34.out (i * 3);have fr1:=HFZ.out w4 S34.out (i * 3 + 1);have fr2:=HFZ.out w4 S34.out (i * 3 + 2);have hz4:w3.heap.size ≤ w4.heap.size:=s4.size;clear s4))
 all_goals
  go_wp2_with fail
  go_ret2
  refine ⟨some ⟨g,0,none⟩,c3,rfl,?_,?_⟩
  ·first
    | with_reducible exact (HO.out w4 S34.out).alloc _
    | ((with_reducible refine HO.out _ ?_)
       exact ((S34.out.setCell (p:=⟨w3.heap.size,0,none⟩) (Nat.le_refl _) _).setCell (p:=⟨w3.heap.size,1,none⟩) (Nat.le_refl _) _).setCell (p:=⟨w3.heap.size,2,none⟩) (Nat.le_refl _) _)
  ·have hz9:=S4.out.size
   have hz8:=SM.out.size
   repeat with_reducible first | refine Same.setCell ?_ (by dsimp only;omega) _ | refine Same.drew ?_ | refine Same.alloc ?_ _
   exact S4.out
theorem rconv_nocast (A:Option Addr) (m cc:Nat) (k:Int) (tt aa n:ByteArray) (to_ dk dn:Int) (ds:ByteArray) (tb:Int) (RA_:Option Addr) (rm rc:Nat) (E ci cj:Int) (w:World) (hm:m ≤ 1000000)
  (HF:Hid (Rt 41 #[.agg #[.slice A m cc],.agg #[.int .i64 k,.string tt,.string aa,.string n,.int .i64 to_,.int .i64 dk,.int .i64 dn,.string ds]] w (.tuple #[.int .i64 ci,.int .i64 cj,.int .i64 E]))) (hE:E = 0) (q:Nat) (hq:q < m) (htb:tb = q) (b off:Nat) (hA:A = some ⟨b,off,none⟩) (hbl:b < w.heap.size) (tn:ByteArray) (A1:Option Addr) (m1 c1_:Nat) (A2:Option Addr) (m2 c2_:Nat) (y0:w.cell? ⟨b,off + q * 3,none⟩ = some (.string tn)) (y1:w.cell? ⟨b,off + q * 3 + 1,none⟩ = some (.slice A1 m1 c1_)) (y2:w.cell? ⟨b,off + q * 3 + 2,none⟩ = some (.slice A2 m2 c2_)) (HT:Hid (Rt 18 #[.agg #[.string tn,.slice A1 m1 c1_,.slice A2 m2 c2_],.slice RA_ rm rc] w (.bool true))) (row:List V) (hrow:row.length = rm) (hrm:rm ≤ 1000000) (HR:Hid (Lies w 3 ⟨RA_,rm,rc⟩ V.cells row)) (hne:(q:Int) = ci) (k4:k = 4) (i:Nat) (hci:cj = i) (hil:i < rm) (v0 v1:Int) (v2:ByteArray) (hv:row[i]'(by omega) = ⟨v0,v1,v2⟩) (r0 r1:Int) (r2:ByteArray) (ce:Int) (HC:Hid (Rt 43 #[.agg #[.int .i64 v0,.int .i64 v1,.string v2],.int .i64 to_] w (.tuple #[.agg #[.int .i64 r0,.int .i64 r1,.string r2],.int .i64 ce]))) (hce:ce ≠ 0) :
  Calls Tryz.prog 10 #[.agg #[.slice A m cc],.agg #[.int .i64 k,.string tt,.string aa,.string n,.int .i64 to_,.int .i64 dk,.int .i64 dn,.string ds],.int .i64 tb,.slice RA_ rm rc] w fun e w' => e = .returned (.tuple #[.slice none 0 0,.int .i64 15]) ∧ Same w w':=by
 subst hci
 obtain ⟨rb,ro,hRA,hrb,hrc⟩:=HR.out.2.2 i (by omega)
 have hRA':RA_ = some ⟨rb,ro,none⟩:=hRA
 clear hRA
 subst hRA'
 have y30:Hid (w.cell? ⟨rb,ro + i * 3,none⟩ = some (.int .i64 v0)):=hrc 0 _ (by rw [hv];rfl)
 have y31:Hid (w.cell? ⟨rb,ro + i * 3 + 1,none⟩ = some (.int .i64 v1)):=hrc 1 _ (by rw [hv];rfl)
 have y32:Hid (w.cell? ⟨rb,ro + i * 3 + 2,none⟩ = some (.string v2)):=hrc 2 _ (by rw [hv];rfl)
 clear hrc
 obtain ⟨i0,hi0,hiz0,hiz1,hiz2⟩:=info_parts Tryz.infoCV
 have tE:(E != 0) = false:=by simp;exact hE
 subst htb hA
 have t1:decide ((q:Int) < 0) = false:=by simp
 have t2:decide ((m:Int) ≤ (q:Int)) = false:=by simp;omega
 have q0:(0:Int) ≤ (q:Int):=by omega
 have q1:(q:Int) < (m:Int):=by omega
 subst hne
 have t3:((q:Int) != (q:Int)) = false:=by simp
 subst k4
 have tce:(ce != 0) = true:=by simp;exact hce
 clear hce
 clear hE
 go_enter Tryz.func10,Tryz.ntmps10
 go_wp2_with fail
 refine (HF.out _ ?_).mono ?_
 ·exact ((Same.refl w).alloc _).alloc _
 rintro e w1 ⟨rfl,s1⟩
 have S1:=Lib.hid (Same.trans (((Same.refl w).alloc _).alloc _) s1)
 have Z1:=in2 s1
 have z0:w.heap.size < w1.heap.size:=by omega
 have z1:w.heap.size + 1 < w1.heap.size:=by omega
 obtain ⟨b0,c0,-,-,-,c4,-⟩:=in18 s1
 clear s1
 have yy0:=(S1.out.cells _ _ hbl).trans y0
 have yy1:=(S1.out.cells _ _ hbl).trans y1
 have yy2:=(S1.out.cells _ _ hbl).trans y2
 go_wp2_with fail
 refine (HT.out _ S1.out).mono ?_
 rintro e w2 ⟨rfl,s2⟩
 have S2:=Lib.hid (S1.out.trans s2)
 have z2:w.heap.size + 2 ≤ w2.heap.size:=by have:=s2.size;omega
 have d0:=(s2.cells _ _ z1).trans c0
 have d4:=(s2.cells _ _ z1).trans c4
 have hz12:w.heap.size + 1 < w2.heap.size:=by omega
 have HRR:Hid (Reads w2 w2.heap.size 3 (some ⟨rb,ro,none⟩) rm (row.flatMap V.cells)):=lies_reads V.clen (HR.out.same S2.out)
 have H1:Hid (∀ u ∈ row.flatMap V.cells,u.oneCell' = true):=Lib.hid fun u hu => by
  obtain ⟨x,_,hx⟩:=List.mem_flatMap.1 hu
  exact V.one x u hx
 have hxl:(row.flatMap V.cells).length = rm * 3:=by rw [← hrow];exact flat_len V.clen row
 clear s2 yy0 yy1 yy2 b0 c0 c4
 have lw2:w.heap.size ≤ w2.heap.size:=by omega
 go_upto_region 15 with (at_builtin;refine wpList_append_any _ rfl (.tmp 45) (.tmp 46) 29 rfl w.heap.size 26 i0 _ 3 32 Tryz.underlying29 hi0 hiz0 hiz1 hiz2 rfl (by decide) (.slice (some ⟨w2.heap.size,0,none⟩) 0 0) 0 [] rfl (rown_base (ownsRow_new w2 _ _) lw2) w2.heap.size (some ⟨rb,ro,none⟩) rm rc (row.flatMap V.cells) rfl (HRR.out.alloc (Nat.le_refl _) _) H1.out (by simp only [maxLen];omega) (by omega) (by simp;omega) ?_;intro v1 w3 hown1 hg1 hat1;rw [List.nil_append,Nat.zero_add] at hown1;obtain ⟨A3,c3,hv⟩:=own_val hown1;subst hv;have sm:Same w2 w3:=Below.grown ((Same.refl w2).alloc _) hg1 (by simp) (fun k hk => by simp [Value.ownBlock] at hk;omega);have SM:=Lib.hid (S2.out.trans sm);have OWN:=Lib.hid hown1;have e0:=(sm.cells _ 0 (show w.heap.size + 1 < w2.heap.size by omega)).trans d0;have e4:=(sm.cells _ 4 hz12).trans d4;have hlt3:w.heap.size + 1 < w3.heap.size:=Nat.lt_of_lt_of_le hz12 sm.size;have hown1':=hown1;obtain ⟨g,cur,hA3,hgb,hbk,_,hnc,hcm,_⟩:=own_blk hown1 (by omega);subst hA3;have x0:=own_cell V.clen hown1 hrow i hil 0 (by decide);have x1:=own_cell V.clen hown1 hrow i hil 1 (by decide);have x2:=own_cell V.clen hown1 hrow i hil 2 (by decide);have HFZ:=Lib.hid (fun (W:World) (s:Same w3 W) (j:Nat) => (s.frees g j hbk.lt).trans (hbk.frozen j));have hgl3:g < w3.heap.size:=hbk.lt;clear hown1' hbk hown1 hg1 hat1 sm)
 have x0':w3.cell? ⟨g,i * 3,none⟩ = some (.int .i64 v0):=by rw [hv] at x0;exact x0
 have x1':w3.cell? ⟨g,i * 3 + 1,none⟩ = some (.int .i64 v1):=by rw [hv] at x1;exact x1
 have x2':w3.cell? ⟨g,i * 3 + 2,none⟩ = some (.string v2):=by rw [hv] at x2;exact x2
 clear x0 x1 x2
 have y40:=y30.out
 have y41:=y31.out
 have y42:=y32.out
 have g0:=(SM.out.cells _ _ hrb).trans y40
 have g1:=(SM.out.cells _ _ hrb).trans y41
 have g2:=(SM.out.cells _ _ hrb).trans y42
 have hrb3:rb < w3.heap.size:=Nat.lt_of_lt_of_le hrb SM.out.size
 have HO:Hid (∀ W,Same w3 W → (((W.setCell ⟨g,i * 3,none⟩ (.int .i64 r0)).setCell ⟨g,i * 3 + 1,none⟩ (.int .i64 r1)).setCell ⟨g,i * 3 + 2,none⟩ (.string r2)).ownsRow w.heap.size 26 3 (.slice (some ⟨g,0,none⟩) rm c3) rm ((row.set i ⟨r0,r1,r2⟩).flatMap V.cells)):=Lib.hid fun W s => own_set3 (own_same s OWN.out) hrow hil ⟨r0,r1,r2⟩
 go_region_held3 (fun w' => w'.cell? ⟨rb,ro + i * 3,none⟩ = some (.int .i64 v0) ∧ w'.cell? ⟨rb,ro + i * 3 + 1,none⟩ = some (.int .i64 v1) ∧ w'.cell? ⟨rb,ro + i * 3 + 2,none⟩ = some (.string v2) ∧ w'.cell? ⟨w.heap.size + 1,4,none⟩ = some (.int .i64 to_)) (first | (simp [*];done) | (simp [*,cell_drew,cell_far,cell_new',cell_old];done) | ((repeat' apply And.intro) <;> (first | (simp [*];done) | (simp [*,cell_drew,cell_far,cell_new',cell_old];done) | go_keep)))
  (first
  | (go_at_call 43;refine (HC.out _ ?_).mono ?_;exact (SM.out.alloc _).drew;rintro e w4 ⟨rfl,s4⟩;have S34:Hid (Same w3 w4):=Same.trans (((Same.refl w3).alloc _).drew) s4;have S4:Hid (Same w w4):=SM.out.trans S34.out;have u0:=(S4.out.cells _ _ hrb).trans y40;have u1:=(S4.out.cells _ _ hrb).trans y41;have u2:=(S4.out.cells _ _ hrb).trans y42;have u3:=(S34.out.cells _ _ hlt3).trans e4;have hg4:g < w4.heap.size:=Nat.lt_of_lt_of_le hgl3 S34.out.size;have X0:=(S34.out.cells _ _ hgl3).trans x0';have X1:=(S34.out.cells _ _ hgl3).trans x1';have X2:=(S34.out.cells _ _ hgl3).trans x2';have fr0:=HFZ.out w4 S34.out (i * 3);have fr1:=HFZ.out w4 S34.out (i * 3 + 1);have fr2:=HFZ.out w4 S34.out (i * 3 + 2);have m0:w4.cell? ⟨w3.heap.size,0,none⟩ = some (.int .i64 0):=(s4.cells _ _ (by simp [heap_drew])).trans (by simp [cell_drew]);have f0:w4.frozen? ⟨w3.heap.size,0,none⟩ = false:=(s4.frees _ _ (by simp [heap_drew])).trans (by simp);have m1:w4.cell? ⟨w3.heap.size,1,none⟩ = some (.int .i64 0):=(s4.cells _ _ (by simp [heap_drew])).trans (by simp [cell_drew]);have f1:w4.frozen? ⟨w3.heap.size,1,none⟩ = false:=(s4.frees _ _ (by simp [heap_drew])).trans (by simp);have m2:w4.cell? ⟨w3.heap.size,2,none⟩ = some (.string ⟨#[]⟩):=(s4.cells _ _ (by simp [heap_drew])).trans (by simp [cell_drew]);have f2:w4.frozen? ⟨w3.heap.size,2,none⟩ = false:=(s4.frees _ _ (by simp [heap_drew])).trans (by simp);have hz4:w3.heap.size < w4.heap.size:=Nat.lt_of_lt_of_le (by simp [heap_drew]) s4.size;have hgn:g ≠ w3.heap.size:=(by omega);have hbn:w.heap.size + 1 ≠ w3.heap.size:=(by omega);have hrn:rb ≠ w3.heap.size:=(by omega);clear s4)
  | (go_at_call 43;refine (HC.out _ ?_).mono ?_;exact SM.out.drew;rintro e w4 ⟨rfl,s4⟩;have S34:Hid (Same w3 w4):=Same.trans ((Same.refl w3).drew) s4;have S4:Hid (Same w w4):=SM.out.trans S34.out;have u0:=(S4.out.cells _ _ hrb).trans y40;have u1:=(S4.out.cells _ _ hrb).trans y41;have u2:=(S4.out.cells _ _ hrb).trans y42;have u3:=(S34.out.cells _ _ hlt3).trans e4;have hg4:g < w4.heap.size:=Nat.lt_of_lt_of_le hgl3 S34.out.size;have X0:=(S34.out.cells _ _ hgl3).trans x0';have X1:=(S34.out.cells _ _ hgl3).trans x1';have X2:=(S34.out.cells _ _ hgl3).trans x2';have fr0:=HFZ.out w4 S34.out (i * 3);have fr1:=HFZ.out w4 S34.out (i * 3 + 1);have fr2:=HFZ.out w4 S34.out (i * 3 + 2);have hz4:w3.heap.size ≤ w4.heap.size:=s4.size;clear s4))
 all_goals
  go_wp2_with fail
  go_ret2
  refine ⟨rfl,?_⟩
  have hz9:=S4.out.size
  have hz8:=SM.out.size
  repeat with_reducible first | refine Same.setCell ?_ (by dsimp only;omega) _ | refine Same.drew ?_ | refine Same.alloc ?_ _
  exact S4.out
end Go.Proofs.YtfifnemnihcijaaGreatDoor

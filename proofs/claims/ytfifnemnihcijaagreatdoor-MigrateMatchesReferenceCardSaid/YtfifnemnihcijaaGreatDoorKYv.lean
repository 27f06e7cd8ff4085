import Derived.Test.YtfifnemnihcijaaGreatDoorKYf
set_option linter.unusedSimpArgs false
set_option linter.unusedVariables false
set_option maxHeartbeats 16000000
set_option maxRecDepth 100000
namespace Go.Proofs.YtfifnemnihcijaaGreatDoor
open Go.RowKit
theorem rconv_err (A:Option Addr) (m cc:Nat) (k:Int) (tt aa n:ByteArray) (to_ dk dn:Int) (ds:ByteArray) (tb:Int) (RA_:Option Addr) (rm rc:Nat) (E ci cj:Int) (w:World)
  (HF:Hid (Rt 41 #[.agg #[.slice A m cc],.agg #[.int .i64 k,.string tt,.string aa,.string n,.int .i64 to_,.int .i64 dk,.int .i64 dn,.string ds]] w (.tuple #[.int .i64 ci,.int .i64 cj,.int .i64 E]))) (hE:E ≠ 0) :
  Calls Tryz.prog 10 #[.agg #[.slice A m cc],.agg #[.int .i64 k,.string tt,.string aa,.string n,.int .i64 to_,.int .i64 dk,.int .i64 dn,.string ds],.int .i64 tb,.slice RA_ rm rc] w fun e w' => e = .returned (.tuple #[.slice none 0 0,.int .i64 E]) ∧ Same w w':=by
 have tE:(E != 0) = true:=by simp;exact hE
 clear hE
 go_enter Tryz.func10,Tryz.ntmps10
 go_wp2_with fail
 refine (HF.out _ ?_).mono ?_
 ·exact ((Same.refl w).alloc _).alloc _
 rintro e w1 ⟨rfl,s1⟩
 have S1:=Lib.hid (Same.trans (((Same.refl w).alloc _).alloc _) s1)
 have Z1:=in2 s1
 have z0:w.heap.size < w1.heap.size:=by omega
 have z1:w.heap.size + 1 < w1.heap.size:=by omega
 obtain ⟨b0,c0,-,-,-,c4,-⟩:=in18 s1
 clear s1
 go_wp2_with fail
 go_ret2
 exact ⟨rfl,S1.out⟩
theorem rconv_neg (A:Option Addr) (m cc:Nat) (k:Int) (tt aa n:ByteArray) (to_ dk dn:Int) (ds:ByteArray) (tb:Int) (RA_:Option Addr) (rm rc:Nat) (E ci cj:Int) (w:World) (hm:m ≤ 1000000)
  (HF:Hid (Rt 41 #[.agg #[.slice A m cc],.agg #[.int .i64 k,.string tt,.string aa,.string n,.int .i64 to_,.int .i64 dk,.int .i64 dn,.string ds]] w (.tuple #[.int .i64 ci,.int .i64 cj,.int .i64 E]))) (hE:E = 0) (ht:tb < 0) :
  Calls Tryz.prog 10 #[.agg #[.slice A m cc],.agg #[.int .i64 k,.string tt,.string aa,.string n,.int .i64 to_,.int .i64 dk,.int .i64 dn,.string ds],.int .i64 tb,.slice RA_ rm rc] w fun e w' => e = .returned (.tuple #[.slice none 0 0,.int .i64 1]) ∧ Same w w':=by
 have tE:(E != 0) = false:=by simp;exact hE
 have t1:decide (tb < 0) = true:=decide_eq_true ht
 clear hE
 go_enter Tryz.func10,Tryz.ntmps10
 go_wp2_with fail
 refine (HF.out _ ?_).mono ?_
 ·exact ((Same.refl w).alloc _).alloc _
 rintro e w1 ⟨rfl,s1⟩
 have S1:=Lib.hid (Same.trans (((Same.refl w).alloc _).alloc _) s1)
 have Z1:=in2 s1
 have z0:w.heap.size < w1.heap.size:=by omega
 have z1:w.heap.size + 1 < w1.heap.size:=by omega
 obtain ⟨b0,c0,-,-,-,c4,-⟩:=in18 s1
 clear s1
 go_wp2_with fail
 go_ret2
 exact ⟨rfl,S1.out⟩
theorem rconv_far (A:Option Addr) (m cc:Nat) (k:Int) (tt aa n:ByteArray) (to_ dk dn:Int) (ds:ByteArray) (tb:Int) (RA_:Option Addr) (rm rc:Nat) (E ci cj:Int) (w:World) (hm:m ≤ 1000000)
  (HF:Hid (Rt 41 #[.agg #[.slice A m cc],.agg #[.int .i64 k,.string tt,.string aa,.string n,.int .i64 to_,.int .i64 dk,.int .i64 dn,.string ds]] w (.tuple #[.int .i64 ci,.int .i64 cj,.int .i64 E]))) (hE:E = 0) (ht:(m:Int) ≤ tb) :
  Calls Tryz.prog 10 #[.agg #[.slice A m cc],.agg #[.int .i64 k,.string tt,.string aa,.string n,.int .i64 to_,.int .i64 dk,.int .i64 dn,.string ds],.int .i64 tb,.slice RA_ rm rc] w fun e w' => e = .returned (.tuple #[.slice none 0 0,.int .i64 1]) ∧ Same w w':=by
 have tE:(E != 0) = false:=by simp;exact hE
 have t1:decide (tb < 0) = false:=by simp;omega
 have t2:decide ((m:Int) ≤ tb) = true:=decide_eq_true ht
 clear hE
 go_enter Tryz.func10,Tryz.ntmps10
 go_wp2_with fail
 refine (HF.out _ ?_).mono ?_
 ·exact ((Same.refl w).alloc _).alloc _
 rintro e w1 ⟨rfl,s1⟩
 have S1:=Lib.hid (Same.trans (((Same.refl w).alloc _).alloc _) s1)
 have Z1:=in2 s1
 have z0:w.heap.size < w1.heap.size:=by omega
 have z1:w.heap.size + 1 < w1.heap.size:=by omega
 obtain ⟨b0,c0,-,-,-,c4,-⟩:=in18 s1
 clear s1
 go_wp2_with fail
 go_ret2
 exact ⟨rfl,S1.out⟩
theorem rconv_unfit (A:Option Addr) (m cc:Nat) (k:Int) (tt aa n:ByteArray) (to_ dk dn:Int) (ds:ByteArray) (tb:Int) (RA_:Option Addr) (rm rc:Nat) (E ci cj:Int) (w:World) (hm:m ≤ 1000000)
  (HF:Hid (Rt 41 #[.agg #[.slice A m cc],.agg #[.int .i64 k,.string tt,.string aa,.string n,.int .i64 to_,.int .i64 dk,.int .i64 dn,.string ds]] w (.tuple #[.int .i64 ci,.int .i64 cj,.int .i64 E]))) (hE:E = 0) (q:Nat) (hq:q < m) (htb:tb = q) (b off:Nat) (hA:A = some ⟨b,off,none⟩) (hbl:b < w.heap.size) (tn:ByteArray) (A1:Option Addr) (m1 c1_:Nat) (A2:Option Addr) (m2 c2_:Nat) (y0:w.cell? ⟨b,off + q * 3,none⟩ = some (.string tn)) (y1:w.cell? ⟨b,off + q * 3 + 1,none⟩ = some (.slice A1 m1 c1_)) (y2:w.cell? ⟨b,off + q * 3 + 2,none⟩ = some (.slice A2 m2 c2_)) (HT:Hid (Rt 18 #[.agg #[.string tn,.slice A1 m1 c1_,.slice A2 m2 c2_],.slice RA_ rm rc] w (.bool false))) :
  Calls Tryz.prog 10 #[.agg #[.slice A m cc],.agg #[.int .i64 k,.string tt,.string aa,.string n,.int .i64 to_,.int .i64 dk,.int .i64 dn,.string ds],.int .i64 tb,.slice RA_ rm rc] w fun e w' => e = .returned (.tuple #[.slice none 0 0,.int .i64 1]) ∧ Same w w':=by
 have tE:(E != 0) = false:=by simp;exact hE
 subst htb hA
 have t1:decide ((q:Int) < 0) = false:=by simp
 have t2:decide ((m:Int) ≤ (q:Int)) = false:=by simp;omega
 have q0:(0:Int) ≤ (q:Int):=by omega
 have q1:(q:Int) < (m:Int):=by omega
 clear hE
 go_enter Tryz.func10,Tryz.ntmps10
 go_wp2_with fail
 refine (HF.out _ ?_).mono ?_
 ·exact ((Same.refl w).alloc _).alloc _
 rintro e w1 ⟨rfl,s1⟩
 have S1:=Lib.hid (Same.trans (((Same.refl w).alloc _).alloc _) s1)
 have Z1:=in2 s1
 have z0:w.heap.size < w1.heap.size:=by omega
 have z1:w.heap.size + 1 < w1.heap.size:=by omega
 obtain ⟨b0,c0,-,-,-,c4,-⟩:=in18 s1
 clear s1
 have yy0:=(S1.out.cells _ _ hbl).trans y0
 have yy1:=(S1.out.cells _ _ hbl).trans y1
 have yy2:=(S1.out.cells _ _ hbl).trans y2
 go_wp2_with fail
 refine (HT.out _ S1.out).mono ?_
 rintro e w2 ⟨rfl,s2⟩
 have S2:=Lib.hid (S1.out.trans s2)
 clear s2
 go_wp2_with fail
 go_ret2
 exact ⟨rfl,S2.out⟩
theorem rown_base {w:World} {B B':Nat} {e:TypeId} {m n:Nat} {v:Value} {xs:List Value} (o:w.ownsRow B' e m v n xs) (h:B ≤ B'):w.ownsRow B e m v n xs:=
 ⟨o.1,o.2.elim .inl fun ⟨g,cap,cur,h1,h2,rest⟩ => .inr ⟨g,cap,cur,h1,Nat.le_trans h h2,rest⟩⟩
theorem rconv_other (A:Option Addr) (m cc:Nat) (k:Int) (tt aa n:ByteArray) (to_ dk dn:Int) (ds:ByteArray) (tb:Int) (RA_:Option Addr) (rm rc:Nat) (E ci cj:Int) (w:World) (hm:m ≤ 1000000)
  (HF:Hid (Rt 41 #[.agg #[.slice A m cc],.agg #[.int .i64 k,.string tt,.string aa,.string n,.int .i64 to_,.int .i64 dk,.int .i64 dn,.string ds]] w (.tuple #[.int .i64 ci,.int .i64 cj,.int .i64 E]))) (hE:E = 0) (q:Nat) (hq:q < m) (htb:tb = q) (b off:Nat) (hA:A = some ⟨b,off,none⟩) (hbl:b < w.heap.size) (tn:ByteArray) (A1:Option Addr) (m1 c1_:Nat) (A2:Option Addr) (m2 c2_:Nat) (y0:w.cell? ⟨b,off + q * 3,none⟩ = some (.string tn)) (y1:w.cell? ⟨b,off + q * 3 + 1,none⟩ = some (.slice A1 m1 c1_)) (y2:w.cell? ⟨b,off + q * 3 + 2,none⟩ = some (.slice A2 m2 c2_)) (HT:Hid (Rt 18 #[.agg #[.string tn,.slice A1 m1 c1_,.slice A2 m2 c2_],.slice RA_ rm rc] w (.bool true))) (row:List V) (hrow:row.length = rm) (hrm:rm ≤ 1000000) (HR:Hid (Lies w 3 ⟨RA_,rm,rc⟩ V.cells row)) (hne:(q:Int) ≠ ci) :
  Calls Tryz.prog 10 #[.agg #[.slice A m cc],.agg #[.int .i64 k,.string tt,.string aa,.string n,.int .i64 to_,.int .i64 dk,.int .i64 dn,.string ds],.int .i64 tb,.slice RA_ rm rc] w fun e w' => ∃ A3 c3,e = .returned (.tuple #[.slice A3 rm c3,.int .i64 0]) ∧ w'.ownsRow w.heap.size 26 3 (.slice A3 rm c3) rm (row.flatMap V.cells) ∧ Same w w':=by
 obtain ⟨i0,hi0,hiz0,hiz1,hiz2⟩:=info_parts Tryz.infoCV
 have tE:(E != 0) = false:=by simp;exact hE
 subst htb hA
 have t1:decide ((q:Int) < 0) = false:=by simp
 have t2:decide ((m:Int) ≤ (q:Int)) = false:=by simp;omega
 have q0:(0:Int) ≤ (q:Int):=by omega
 have q1:(q:Int) < (m:Int):=by omega
 have t3:((q:Int) != ci) = true:=by simp;exact hne
 clear hne
 clear hE
 go_enter Tryz.func10,Tryz.ntmps10
 go_wp2_with fail
 refine (HF.out _ ?_).mono ?_
 ·exact ((Same.refl w).alloc _).alloc _
 rintro e w1 ⟨rfl,s1⟩
 have S1:=Lib.hid (Same.trans (((Same.refl w).alloc _).alloc _) s1)
 have Z1:=in2 s1
 have z0:w.heap.size < w1.heap.size:=by omega
 have z1:w.heap.size + 1 < w1.heap.size:=by omega
 obtain ⟨b0,c0,-,-,-,c4,-⟩:=in18 s1
 clear s1
 have yy0:=(S1.out.cells _ _ hbl).trans y0
 have yy1:=(S1.out.cells _ _ hbl).trans y1
 have yy2:=(S1.out.cells _ _ hbl).trans y2
 go_wp2_with fail
 refine (HT.out _ S1.out).mono ?_
 rintro e w2 ⟨rfl,s2⟩
 have S2:=Lib.hid (S1.out.trans s2)
 have z2:w.heap.size + 2 ≤ w2.heap.size:=by have:=s2.size;omega
 have d0:=(s2.cells _ _ z1).trans c0
 have d4:=(s2.cells _ _ z1).trans c4
 have HRR:Hid (Reads w2 w2.heap.size 3 RA_ rm (row.flatMap V.cells)):=lies_reads V.clen (HR.out.same S2.out)
 have H1:Hid (∀ u ∈ row.flatMap V.cells,u.oneCell' = true):=Lib.hid fun u hu => by
  obtain ⟨x,_,hx⟩:=List.mem_flatMap.1 hu
  exact V.one x u hx
 have hxl:(row.flatMap V.cells).length = rm * 3:=by rw [← hrow];exact flat_len V.clen row
 clear s2 yy0 yy1 yy2 b0 c0 c4
 have lw2:w.heap.size ≤ w2.heap.size:=by omega
 go_wp2_with (at_builtin;refine wpList_append_any _ rfl (.tmp 45) (.tmp 46) 29 rfl w.heap.size 26 i0 _ 3 32 Tryz.underlying29 hi0 hiz0 hiz1 hiz2 rfl (by decide) (.slice (some ⟨w2.heap.size,0,none⟩) 0 0) 0 [] rfl (rown_base (ownsRow_new w2 _ _) lw2) w2.heap.size RA_ rm rc (row.flatMap V.cells) rfl (HRR.out.alloc (Nat.le_refl _) _) H1.out (by simp only [maxLen];omega) (by omega) (by simp;omega) ?_;intro v1 w3 hown1 hg1 hat1;rw [List.nil_append,Nat.zero_add] at hown1;obtain ⟨A3,c3,hv⟩:=own_val hown1;subst hv;have sm:Same w2 w3:=Below.grown ((Same.refl w2).alloc _) hg1 (by simp) (fun k hk => by simp [Value.ownBlock] at hk;omega);have SM:=Lib.hid (S2.out.trans sm);have OWN:=Lib.hid hown1;have e0:=(sm.cells _ 0 (show w.heap.size + 1 < w2.heap.size by omega)).trans d0;clear hown1 hg1 hat1 sm)
 go_ret2
 exact ⟨A3,c3,rfl,OWN.out,SM.out⟩
theorem rconv_same (A:Option Addr) (m cc:Nat) (k:Int) (tt aa n:ByteArray) (to_ dk dn:Int) (ds:ByteArray) (tb:Int) (RA_:Option Addr) (rm rc:Nat) (E ci cj:Int) (w:World) (hm:m ≤ 1000000)
  (HF:Hid (Rt 41 #[.agg #[.slice A m cc],.agg #[.int .i64 k,.string tt,.string aa,.string n,.int .i64 to_,.int .i64 dk,.int .i64 dn,.string ds]] w (.tuple #[.int .i64 ci,.int .i64 cj,.int .i64 E]))) (hE:E = 0) (q:Nat) (hq:q < m) (htb:tb = q) (b off:Nat) (hA:A = some ⟨b,off,none⟩) (hbl:b < w.heap.size) (tn:ByteArray) (A1:Option Addr) (m1 c1_:Nat) (A2:Option Addr) (m2 c2_:Nat) (y0:w.cell? ⟨b,off + q * 3,none⟩ = some (.string tn)) (y1:w.cell? ⟨b,off + q * 3 + 1,none⟩ = some (.slice A1 m1 c1_)) (y2:w.cell? ⟨b,off + q * 3 + 2,none⟩ = some (.slice A2 m2 c2_)) (HT:Hid (Rt 18 #[.agg #[.string tn,.slice A1 m1 c1_,.slice A2 m2 c2_],.slice RA_ rm rc] w (.bool true))) (row:List V) (hrow:row.length = rm) (hrm:rm ≤ 1000000) (HR:Hid (Lies w 3 ⟨RA_,rm,rc⟩ V.cells row)) (hne:(q:Int) = ci) (k1:k ≠ 1) (k2:k ≠ 2) (k4:k ≠ 4) :
  Calls Tryz.prog 10 #[.agg #[.slice A m cc],.agg #[.int .i64 k,.string tt,.string aa,.string n,.int .i64 to_,.int .i64 dk,.int .i64 dn,.string ds],.int .i64 tb,.slice RA_ rm rc] w fun e w' => ∃ A3 c3,e = .returned (.tuple #[.slice A3 rm c3,.int .i64 0]) ∧ w'.ownsRow w.heap.size 26 3 (.slice A3 rm c3) rm (row.flatMap V.cells) ∧ Same w w':=by
 obtain ⟨i0,hi0,hiz0,hiz1,hiz2⟩:=info_parts Tryz.infoCV
 have tE:(E != 0) = false:=by simp;exact hE
 subst htb hA
 have t1:decide ((q:Int) < 0) = false:=by simp
 have t2:decide ((m:Int) ≤ (q:Int)) = false:=by simp;omega
 have q0:(0:Int) ≤ (q:Int):=by omega
 have q1:(q:Int) < (m:Int):=by omega
 subst hne
 have t3:((q:Int) != (q:Int)) = false:=by simp
 have u1:(k == 1) = false:=by simp;exact k1
 have u2:(k == 2) = false:=by simp;exact k2
 have u4:(k == 4) = false:=by simp;exact k4
 clear k1 k2 k4
 clear hE
 go_enter Tryz.func10,Tryz.ntmps10
 go_wp2_with fail
 refine (HF.out _ ?_).mono ?_
 ·exact ((Same.refl w).alloc _).alloc _
 rintro e w1 ⟨rfl,s1⟩
 have S1:=Lib.hid (Same.trans (((Same.refl w).alloc _).alloc _) s1)
 have Z1:=in2 s1
 have z0:w.heap.size < w1.heap.size:=by omega
 have z1:w.heap.size + 1 < w1.heap.size:=by omega
 obtain ⟨b0,c0,-,-,-,c4,-⟩:=in18 s1
 clear s1
 have yy0:=(S1.out.cells _ _ hbl).trans y0
 have yy1:=(S1.out.cells _ _ hbl).trans y1
 have yy2:=(S1.out.cells _ _ hbl).trans y2
 go_wp2_with fail
 refine (HT.out _ S1.out).mono ?_
 rintro e w2 ⟨rfl,s2⟩
 have S2:=Lib.hid (S1.out.trans s2)
 have z2:w.heap.size + 2 ≤ w2.heap.size:=by have:=s2.size;omega
 have d0:=(s2.cells _ _ z1).trans c0
 have d4:=(s2.cells _ _ z1).trans c4
 have HRR:Hid (Reads w2 w2.heap.size 3 RA_ rm (row.flatMap V.cells)):=lies_reads V.clen (HR.out.same S2.out)
 have H1:Hid (∀ u ∈ row.flatMap V.cells,u.oneCell' = true):=Lib.hid fun u hu => by
  obtain ⟨x,_,hx⟩:=List.mem_flatMap.1 hu
  exact V.one x u hx
 have hxl:(row.flatMap V.cells).length = rm * 3:=by rw [← hrow];exact flat_len V.clen row
 clear s2 yy0 yy1 yy2 b0 c0 c4
 have lw2:w.heap.size ≤ w2.heap.size:=by omega
 go_wp2_with (at_builtin;refine wpList_append_any _ rfl (.tmp 45) (.tmp 46) 29 rfl w.heap.size 26 i0 _ 3 32 Tryz.underlying29 hi0 hiz0 hiz1 hiz2 rfl (by decide) (.slice (some ⟨w2.heap.size,0,none⟩) 0 0) 0 [] rfl (rown_base (ownsRow_new w2 _ _) lw2) w2.heap.size RA_ rm rc (row.flatMap V.cells) rfl (HRR.out.alloc (Nat.le_refl _) _) H1.out (by simp only [maxLen];omega) (by omega) (by simp;omega) ?_;intro v1 w3 hown1 hg1 hat1;rw [List.nil_append,Nat.zero_add] at hown1;obtain ⟨A3,c3,hv⟩:=own_val hown1;subst hv;have sm:Same w2 w3:=Below.grown ((Same.refl w2).alloc _) hg1 (by simp) (fun k hk => by simp [Value.ownBlock] at hk;omega);have SM:=Lib.hid (S2.out.trans sm);have OWN:=Lib.hid hown1;have e0:=(sm.cells _ 0 (show w.heap.size + 1 < w2.heap.size by omega)).trans d0;clear hown1 hg1 hat1 sm)
 go_ret2
 exact ⟨A3,c3,rfl,OWN.out,SM.out⟩
theorem rconv_add (A:Option Addr) (m cc:Nat) (k:Int) (tt aa n:ByteArray) (to_ dk dn:Int) (ds:ByteArray) (tb:Int) (RA_:Option Addr) (rm rc:Nat) (E ci cj:Int) (w:World) (hm:m ≤ 1000000)
  (HF:Hid (Rt 41 #[.agg #[.slice A m cc],.agg #[.int .i64 k,.string tt,.string aa,.string n,.int .i64 to_,.int .i64 dk,.int .i64 dn,.string ds]] w (.tuple #[.int .i64 ci,.int .i64 cj,.int .i64 E]))) (hE:E = 0) (q:Nat) (hq:q < m) (htb:tb = q) (b off:Nat) (hA:A = some ⟨b,off,none⟩) (hbl:b < w.heap.size) (tn:ByteArray) (A1:Option Addr) (m1 c1_:Nat) (A2:Option Addr) (m2 c2_:Nat) (y0:w.cell? ⟨b,off + q * 3,none⟩ = some (.string tn)) (y1:w.cell? ⟨b,off + q * 3 + 1,none⟩ = some (.slice A1 m1 c1_)) (y2:w.cell? ⟨b,off + q * 3 + 2,none⟩ = some (.slice A2 m2 c2_)) (HT:Hid (Rt 18 #[.agg #[.string tn,.slice A1 m1 c1_,.slice A2 m2 c2_],.slice RA_ rm rc] w (.bool true))) (row:List V) (hrow:row.length = rm) (hrm:rm ≤ 1000000) (HR:Hid (Lies w 3 ⟨RA_,rm,rc⟩ V.cells row)) (hne:(q:Int) = ci) (k1:k = 1) :
  Calls Tryz.prog 10 #[.agg #[.slice A m cc],.agg #[.int .i64 k,.string tt,.string aa,.string n,.int .i64 to_,.int .i64 dk,.int .i64 dn,.string ds],.int .i64 tb,.slice RA_ rm rc] w fun e w' => ∃ A3 c3,e = .returned (.tuple #[.slice A3 (rm + 1) c3,.int .i64 0]) ∧ w'.ownsRow w.heap.size 26 3 (.slice A3 (rm + 1) c3) (rm + 1) ((row ++ [(⟨dk,dn,ds⟩:V)]).flatMap V.cells) ∧ Same w w':=by
 obtain ⟨i0,hi0,hiz0,hiz1,hiz2⟩:=info_parts Tryz.infoCV
 have tE:(E != 0) = false:=by simp;exact hE
 subst htb hA
 have t1:decide ((q:Int) < 0) = false:=by simp
 have t2:decide ((m:Int) ≤ (q:Int)) = false:=by simp;omega
 have q0:(0:Int) ≤ (q:Int):=by omega
 have q1:(q:Int) < (m:Int):=by omega
 subst hne
 have t3:((q:Int) != (q:Int)) = false:=by simp
 subst k1
 clear hE
 go_enter Tryz.func10,Tryz.ntmps10
 go_wp2_with fail
 refine (HF.out _ ?_).mono ?_
 ·exact ((Same.refl w).alloc _).alloc _
 rintro e w1 ⟨rfl,s1⟩
 have S1:=Lib.hid (Same.trans (((Same.refl w).alloc _).alloc _) s1)
 have Z1:=in2 s1
 have z0:w.heap.size < w1.heap.size:=by omega
 have z1:w.heap.size + 1 < w1.heap.size:=by omega
 obtain ⟨b0,c0,-,-,-,c4,-⟩:=in18 s1
 have c5:w1.cell? ⟨w.heap.size + 1,5,none⟩ = some (.int .i64 dk):=(s1.cells _ _ (by simp)).trans (by simp)
 have c6:w1.cell? ⟨w.heap.size + 1,6,none⟩ = some (.int .i64 dn):=(s1.cells _ _ (by simp)).trans (by simp)
 have c7:w1.cell? ⟨w.heap.size + 1,7,none⟩ = some (.string ds):=(s1.cells _ _ (by simp)).trans (by simp)
 clear s1
 have yy0:=(S1.out.cells _ _ hbl).trans y0
 have yy1:=(S1.out.cells _ _ hbl).trans y1
 have yy2:=(S1.out.cells _ _ hbl).trans y2
 go_wp2_with fail
 refine (HT.out _ S1.out).mono ?_
 rintro e w2 ⟨rfl,s2⟩
 have S2:=Lib.hid (S1.out.trans s2)
 have z2:w.heap.size + 2 ≤ w2.heap.size:=by have:=s2.size;omega
 have d0:=(s2.cells _ _ z1).trans c0
 have d4:=(s2.cells _ _ z1).trans c4
 have d5:=(s2.cells _ _ z1).trans c5
 have d6:=(s2.cells _ _ z1).trans c6
 have d7:=(s2.cells _ _ z1).trans c7
 have hz12:w.heap.size + 1 < w2.heap.size:=by omega
 have HRR:Hid (Reads w2 w2.heap.size 3 RA_ rm (row.flatMap V.cells)):=lies_reads V.clen (HR.out.same S2.out)
 have H1:Hid (∀ u ∈ row.flatMap V.cells,u.oneCell' = true):=Lib.hid fun u hu => by
  obtain ⟨x,_,hx⟩:=List.mem_flatMap.1 hu
  exact V.one x u hx
 have hxl:(row.flatMap V.cells).length = rm * 3:=by rw [← hrow];exact flat_len V.clen row
 clear s2 yy0 yy1 yy2 b0 c0 c4 c5 c6 c7
 have lw2:w.heap.size ≤ w2.heap.size:=by omega
 go_wp2_with (at_builtin;first | (refine wpList_append_any _ rfl (.tmp 45) (.tmp 46) 29 rfl w.heap.size 26 i0 _ 3 32 Tryz.underlying29 hi0 hiz0 hiz1 hiz2 rfl (by decide) (.slice (some ⟨w2.heap.size,0,none⟩) 0 0) 0 [] rfl (rown_base (ownsRow_new w2 _ _) lw2) w2.heap.size RA_ rm rc (row.flatMap V.cells) rfl (HRR.out.alloc (Nat.le_refl _) _) H1.out (by simp only [maxLen];omega) (by omega) (by simp;omega) ?_;intro v1 w3 hown1 hg1 hat1;rw [List.nil_append,Nat.zero_add] at hown1;obtain ⟨A3,c3,hv⟩:=own_val hown1;subst hv;have sm:Same w2 w3:=Below.grown ((Same.refl w2).alloc _) hg1 (by simp) (fun k hk => by simp [Value.ownBlock] at hk;omega);have SM:=Lib.hid (S2.out.trans sm);have OWN:=Lib.hid hown1;have e0:=(sm.cells _ 0 (show w.heap.size + 1 < w2.heap.size by omega)).trans d0;have e5:=(sm.cells _ 5 hz12).trans d5;have e6:=(sm.cells _ 6 hz12).trans d6;have e7:=(sm.cells _ 7 hz12).trans d7;have hz3:w2.heap.size ≤ w3.heap.size:=sm.size;clear hown1 hg1 hat1 sm d0 d4 d5 d6 d7) | (refine wpList_append_any _ rfl (.tmp 56) (.tmp 59) 29 rfl w.heap.size 26 i0 _ 3 32 Tryz.underlying29 hi0 hiz0 hiz1 hiz2 rfl (by decide) (.slice A3 rm c3) rm (row.flatMap V.cells) rfl (OWN.out.alloc _) (w3.heap.size + 1) (some ⟨w3.heap.size,0,none⟩) 1 1 [.int .i64 dk,.int .i64 dn,.string ds] rfl (reads_agg w3 _ rfl _ _ 3 rfl) (by intro u hu;simp at hu;rcases hu with rfl | rfl | rfl <;> rfl) (by simp only [maxLen];omega) (by omega) (by simp;omega) ?_;intro v2 w4 hown2 hg2 hat2;obtain ⟨A4,c4,hv⟩:=own_val hown2;subst hv;have P4:=Lib.hid (And.intro hown2 (And.intro hg2 hat2));clear hown2 hg2 hat2))
 go_ret2
 refine ⟨A4,c4,rfl,?_,?_⟩
 ·have h:=P4.out.1
  rw [List.flatMap_append]
  exact h
 ·refine Below.grown (SM.out.alloc _) P4.out.2.1 (by have:=SM.out.size;simp;omega) (fun k hk => ?_)
  rcases OWN.out.2 with ⟨hv,_⟩ | ⟨g,cap,cur,hv,hg,_⟩
  ·injection hv with h1 _ _
   subst h1
   simp [Value.ownBlock] at hk
  ·injection hv with h1 _ _
   subst h1
   simp [Value.ownBlock] at hk
   omega
theorem rapply_bad (h:Hd) (ts:List RT) (c:Cg) (w:World) (a:TabsAt w h ts) (few:Few ts) (hn:okS c.name) (hE:errOf (ts.map RT.tb) c ≠ 0) :
  Calls Tryz.prog 8 #[.agg #[h.val],c.val] w fun e w' => e = .returned (.tuple #[.agg #[.slice none 0 0],.int .i64 (errOf (ts.map RT.tb) c)]) ∧ Same w w':=by
 have HF:=Lib.hid (fun W (s:Same w W) => rcheck_ok h ts c W (a.same s) few hn)
 obtain ⟨E,hEE⟩:∃ E,E = errOf (ts.map RT.tb) c:=⟨_,rfl⟩
 rw [← hEE] at hE HF ⊢
 obtain ⟨⟨ci,cj⟩,hc⟩:∃ q,q = checkP (ts.map RT.tb) c:=⟨_,rfl⟩
 rw [← hc] at HF
 clear a few hn hEE hc
 obtain ⟨A,m,cc⟩:=h
 obtain ⟨k,tt,aa,n,to_,⟨dk,dn,ds⟩⟩:=c
 have HF':Hid (Rt 41 #[.agg #[.slice A m cc],.agg #[.int .i64 k,.string tt,.string aa,.string n,.int .i64 to_,.int .i64 dk,.int .i64 dn,.string ds]] w (.tuple #[.int .i64 ci,.int .i64 cj,.int .i64 E])):=HF
 clear HF
 have tE:(E != 0) = true:=by simp;exact hE
 show Calls Tryz.prog 8 #[.agg #[.slice A m cc],.agg #[.int .i64 k,.string tt,.string aa,.string n,.int .i64 to_,.int .i64 dk,.int .i64 dn,.string ds]] w _
 go_enter Tryz.func8,Tryz.ntmps8
 go_wp2_with fail
 refine (HF'.out _ ?_).mono ?_
 ·exact (((Same.refl w).alloc _).alloc _).alloc _
 rintro e w1 ⟨rfl,s1⟩
 have S1:=Lib.hid s1
 have K1:=s1.cells
 have F1:=s1.frees
 have Z1:w.heap.size + 3 ≤ w1.heap.size:=by have:=s1.size;simp at this;omega
 have z2:w.heap.size + 1 + 1 < w1.heap.size:=by omega
 clear s1
 go_wp2_with fail
 refine bodyPost_ret (v:=.tuple #[.agg #[.slice none 0 0],.int .i64 E]) ?_ rfl ⟨rfl,?_⟩
 ·simp [results,Tryz.results8,go_sem,K1,F1,z2]
 ·repeat with_reducible first | refine Same.setCell ?_ (by dsimp only;omega) _ | refine Same.drew ?_ | refine Same.alloc ?_ _
  exact ((((Same.refl w).alloc _).alloc _).alloc _).trans S1.out
end Go.Proofs.YtfifnemnihcijaaGreatDoor

import Derived.Test.YtfifnemnihcijaaGreatDoorKTj
set_option linter.unusedSimpArgs false
set_option linter.unusedVariables false
set_option maxHeartbeats 16000000
set_option maxRecDepth 100000
namespace Go.Proofs.YtfifnemnihcijaaGreatDoor
open Go.RowKit
theorem cloneV' (h:Hd) (l:List V) (w:World) (a:Lies w 3 h V.cells l) (hn:h.n ≤ 1000000000) :
  Calls Tryz.prog 42 #[h.val] w fun e w' => ∃ A c,e = .returned (.slice A l.length c) ∧ Same w w' ∧ w'.ownsRow w.heap.size 26 3 (.slice A l.length c) l.length (l.flatMap V.cells):=by
 refine (cloneV_ok h V.cells V.clen V.one l w a hn).mono ?_
 rintro e1 w' (⟨rfl,rfl,s⟩ | ⟨c,g,rfl,s,o⟩)
 ·exact ⟨none,0,rfl,s,rfl,.inl ⟨rfl,rfl⟩⟩
 ·exact ⟨_,c,rfl,s,o⟩
theorem row_none (w:World):RowAt w ⟨none,0,0⟩ []:=⟨⟨rfl,by show (0:Nat) ≤ _;omega,fun k hk => by simp at hk⟩,fun s hs => by simp at hs⟩
theorem row_own {w:World} {B n c:Nat} {A:Option Addr} {l:List V} (o:w.ownsRow B 26 3 (.slice A n c) n (l.flatMap V.cells)) (hl:l.length = n) (hn:n ≤ 9223372036854775807) (hs:∀ v ∈ l,okS v.s):RowAt w ⟨A,n,c⟩ l:=
 ⟨own_lies' (h:=⟨A,n,c⟩) V.clen hl hn o,hs⟩
theorem effV_form (k:Int):∃ x0 x1 x2 x3,effV k = .agg #[x0,x1,x2,x3] ∧ x0.oneCell' = true ∧ x1.oneCell' = true ∧ x2.oneCell' = true ∧ x3.oneCell' = true:=by
 unfold effV
 split
 ·exact ⟨_,_,_,_,rfl,rfl,rfl,rfl,rfl⟩
 split
 ·exact ⟨_,_,_,_,rfl,rfl,rfl,rfl,rfl⟩
 split
 ·exact ⟨_,_,_,_,rfl,rfl,rfl,rfl,rfl⟩
 split
 ·exact ⟨_,_,_,_,rfl,rfl,rfl,rfl,rfl⟩
 ·exact ⟨_,_,_,_,rfl,rfl,rfl,rfl,rfl⟩
theorem conv_bad (x0 x1 x2 x3:Value) (o0:x0.oneCell' = true) (o1:x1.oneCell' = true) (o2:x2.oneCell' = true) (o3:x3.oneCell' = true) (A:Option Addr) (m cc:Nat) (k:Int) (tt aa n:ByteArray) (to_ dk dn:Int) (ds:ByteArray) (tb:Int) (RA_:Option Addr) (rm rc:Nat) (E:Int) (w:World) (hm:m ≤ 1000000)
  (HF:Hid (∀ W,Same w W → Calls Tryz.prog 37 #[.agg #[.slice A m cc],.agg #[.int .i64 k,.string tt,.string aa,.string n,.int .i64 to_,.int .i64 dk,.int .i64 dn,.string ds]] W fun e w' => (∃ qn qa:Int,e = .returned (.tuple #[.agg #[x0,x1,x2,x3],.int .i64 qn,.int .i64 qa,.int .i64 E])) ∧ Same W w')) (hE:E ≠ 0) :
  Calls Tryz.prog 9 #[.agg #[.slice A m cc],.agg #[.int .i64 k,.string tt,.string aa,.string n,.int .i64 to_,.int .i64 dk,.int .i64 dn,.string ds],.int .i64 tb,.slice RA_ rm rc] w fun e w' => e = .returned (.tuple #[.slice none 0 0,.int .i64 E]) ∧ Same w w':=by
 have r0:=fun w a m => run_store Tryz.prog w a x0 m o0
 have r1:=fun w a m => run_store Tryz.prog w a x1 m o1
 have r2:=fun w a m => run_store Tryz.prog w a x2 m o2
 have r3:=fun w a m => run_store Tryz.prog w a x3 m o3
 have tE:(E != 0) = true:=by simp;exact hE
 clear o0 o1 o2 o3 hE
 go_enter Tryz.func9,Tryz.ntmps9
 go_wp2_with fail
 refine (HF.out _ ?_).mono ?_
 ·exact ((Same.refl w).alloc _).alloc _
 rintro e w1 ⟨⟨qn,qa,rfl⟩,s1⟩
 have S1:=Lib.hid (Same.trans (((Same.refl w).alloc _).alloc _) s1)
 have Z1:=in2 s1
 have z0:w.heap.size < w1.heap.size:=by omega
 have z1:w.heap.size + 1 < w1.heap.size:=by omega
 have hne1:w.heap.size ≠ w1.heap.size:=by omega
 have hne2:w.heap.size + 1 ≠ w1.heap.size:=by omega
 obtain ⟨b0,c0,c1,c2,c3,c4,c5,c6,c7⟩:=in18 s1
 clear s1
 go_wp2_with fail
 go_ret2
 exact ⟨rfl,S1.out.alloc _⟩
theorem conv_neg (x0 x1 x2 x3:Value) (o0:x0.oneCell' = true) (o1:x1.oneCell' = true) (o2:x2.oneCell' = true) (o3:x3.oneCell' = true) (A:Option Addr) (m cc:Nat) (k:Int) (tt aa n:ByteArray) (to_ dk dn:Int) (ds:ByteArray) (tb:Int) (RA_:Option Addr) (rm rc:Nat) (E qn qa:Int) (w:World) (hm:m ≤ 1000000)
  (HF:Hid (Rt 37 #[.agg #[.slice A m cc],.agg #[.int .i64 k,.string tt,.string aa,.string n,.int .i64 to_,.int .i64 dk,.int .i64 dn,.string ds]] w (.tuple #[.agg #[x0,x1,x2,x3],.int .i64 qn,.int .i64 qa,.int .i64 E]))) (hE:E = 0) (ht:tb < 0) :
  Calls Tryz.prog 9 #[.agg #[.slice A m cc],.agg #[.int .i64 k,.string tt,.string aa,.string n,.int .i64 to_,.int .i64 dk,.int .i64 dn,.string ds],.int .i64 tb,.slice RA_ rm rc] w fun e w' => e = .returned (.tuple #[.slice none 0 0,.int .i64 1]) ∧ Same w w':=by
 have r0:=fun w a m => run_store Tryz.prog w a x0 m o0
 have r1:=fun w a m => run_store Tryz.prog w a x1 m o1
 have r2:=fun w a m => run_store Tryz.prog w a x2 m o2
 have r3:=fun w a m => run_store Tryz.prog w a x3 m o3
 have tE:(E != 0) = false:=by simp;exact hE
 clear o0 o1 o2 o3 hE
 go_enter Tryz.func9,Tryz.ntmps9
 go_wp2_with fail
 refine (HF.out _ ?_).mono ?_
 ·exact ((Same.refl w).alloc _).alloc _
 rintro e w1 ⟨rfl,s1⟩
 have S1:=Lib.hid (Same.trans (((Same.refl w).alloc _).alloc _) s1)
 have Z1:=in2 s1
 have z0:w.heap.size < w1.heap.size:=by omega
 have z1:w.heap.size + 1 < w1.heap.size:=by omega
 have hne1:w.heap.size ≠ w1.heap.size:=by omega
 have hne2:w.heap.size + 1 ≠ w1.heap.size:=by omega
 obtain ⟨b0,c0,c1,c2,c3,c4,c5,c6,c7⟩:=in18 s1
 clear s1
 go_wp2_with fail
 go_ret2
 exact ⟨rfl,S1.out.alloc _⟩
theorem conv_far (x0 x1 x2 x3:Value) (o0:x0.oneCell' = true) (o1:x1.oneCell' = true) (o2:x2.oneCell' = true) (o3:x3.oneCell' = true) (A:Option Addr) (m cc:Nat) (k:Int) (tt aa n:ByteArray) (to_ dk dn:Int) (ds:ByteArray) (tb:Int) (RA_:Option Addr) (rm rc:Nat) (E qn qa:Int) (w:World) (hm:m ≤ 1000000)
  (HF:Hid (Rt 37 #[.agg #[.slice A m cc],.agg #[.int .i64 k,.string tt,.string aa,.string n,.int .i64 to_,.int .i64 dk,.int .i64 dn,.string ds]] w (.tuple #[.agg #[x0,x1,x2,x3],.int .i64 qn,.int .i64 qa,.int .i64 E]))) (hE:E = 0) (ht:(m:Int) ≤ tb) :
  Calls Tryz.prog 9 #[.agg #[.slice A m cc],.agg #[.int .i64 k,.string tt,.string aa,.string n,.int .i64 to_,.int .i64 dk,.int .i64 dn,.string ds],.int .i64 tb,.slice RA_ rm rc] w fun e w' => e = .returned (.tuple #[.slice none 0 0,.int .i64 1]) ∧ Same w w':=by
 have r0:=fun w a m => run_store Tryz.prog w a x0 m o0
 have r1:=fun w a m => run_store Tryz.prog w a x1 m o1
 have r2:=fun w a m => run_store Tryz.prog w a x2 m o2
 have r3:=fun w a m => run_store Tryz.prog w a x3 m o3
 have tE:(E != 0) = false:=by simp;exact hE
 have t1:decide (tb < 0) = false:=by simp;omega
 have t2:decide ((m:Int) ≤ tb) = true:=decide_eq_true ht
 clear o0 o1 o2 o3 hE
 go_enter Tryz.func9,Tryz.ntmps9
 go_wp2_with fail
 refine (HF.out _ ?_).mono ?_
 ·exact ((Same.refl w).alloc _).alloc _
 rintro e w1 ⟨rfl,s1⟩
 have S1:=Lib.hid (Same.trans (((Same.refl w).alloc _).alloc _) s1)
 have Z1:=in2 s1
 have z0:w.heap.size < w1.heap.size:=by omega
 have z1:w.heap.size + 1 < w1.heap.size:=by omega
 have hne1:w.heap.size ≠ w1.heap.size:=by omega
 have hne2:w.heap.size + 1 ≠ w1.heap.size:=by omega
 obtain ⟨b0,c0,c1,c2,c3,c4,c5,c6,c7⟩:=in18 s1
 clear s1
 go_wp2_with fail
 go_ret2
 exact ⟨rfl,S1.out.alloc _⟩
theorem conv_unfit (x0 x1 x2 x3:Value) (o0:x0.oneCell' = true) (o1:x1.oneCell' = true) (o2:x2.oneCell' = true) (o3:x3.oneCell' = true) (A:Option Addr) (m cc:Nat) (k:Int) (tt aa n:ByteArray) (to_ dk dn:Int) (ds:ByteArray) (tb:Int) (RA_:Option Addr) (rm rc:Nat) (E qn qa:Int) (w:World) (hm:m ≤ 1000000)
  (HF:Hid (Rt 37 #[.agg #[.slice A m cc],.agg #[.int .i64 k,.string tt,.string aa,.string n,.int .i64 to_,.int .i64 dk,.int .i64 dn,.string ds]] w (.tuple #[.agg #[x0,x1,x2,x3],.int .i64 qn,.int .i64 qa,.int .i64 E]))) (hE:E = 0) (q:Nat) (hq:q < m) (htb:tb = q) (b off:Nat) (hA:A = some ⟨b,off,none⟩) (hbl:b < w.heap.size) (tn:ByteArray) (A1:Option Addr) (m1 c1_:Nat) (A2:Option Addr) (m2 c2_:Nat) (y0:w.cell? ⟨b,off + q * 3,none⟩ = some (.string tn)) (y1:w.cell? ⟨b,off + q * 3 + 1,none⟩ = some (.slice A1 m1 c1_)) (y2:w.cell? ⟨b,off + q * 3 + 2,none⟩ = some (.slice A2 m2 c2_)) (HT:Hid (Rt 17 #[.agg #[.string tn,.slice A1 m1 c1_,.slice A2 m2 c2_],.slice RA_ rm rc] w (.bool false))) :
  Calls Tryz.prog 9 #[.agg #[.slice A m cc],.agg #[.int .i64 k,.string tt,.string aa,.string n,.int .i64 to_,.int .i64 dk,.int .i64 dn,.string ds],.int .i64 tb,.slice RA_ rm rc] w fun e w' => e = .returned (.tuple #[.slice none 0 0,.int .i64 1]) ∧ Same w w':=by
 have r0:=fun w a m => run_store Tryz.prog w a x0 m o0
 have r1:=fun w a m => run_store Tryz.prog w a x1 m o1
 have r2:=fun w a m => run_store Tryz.prog w a x2 m o2
 have r3:=fun w a m => run_store Tryz.prog w a x3 m o3
 have tE:(E != 0) = false:=by simp;exact hE
 subst htb hA
 have t1:decide ((q:Int) < 0) = false:=by simp
 have t2:decide ((m:Int) ≤ (q:Int)) = false:=by simp;omega
 clear o0 o1 o2 o3 hE
 go_enter Tryz.func9,Tryz.ntmps9
 go_wp2_with fail
 refine (HF.out _ ?_).mono ?_
 ·exact ((Same.refl w).alloc _).alloc _
 rintro e w1 ⟨rfl,s1⟩
 have S1:=Lib.hid (Same.trans (((Same.refl w).alloc _).alloc _) s1)
 have Z1:=in2 s1
 have z0:w.heap.size < w1.heap.size:=by omega
 have z1:w.heap.size + 1 < w1.heap.size:=by omega
 have hne1:w.heap.size ≠ w1.heap.size:=by omega
 have hne2:w.heap.size + 1 ≠ w1.heap.size:=by omega
 obtain ⟨b0,c0,c1,c2,c3,c4,c5,c6,c7⟩:=in18 s1
 clear s1
 have yy0:=(S1.out.cells _ _ hbl).trans y0
 have yy1:=(S1.out.cells _ _ hbl).trans y1
 have yy2:=(S1.out.cells _ _ hbl).trans y2
 have hbl1:b < w1.heap.size:=Nat.lt_of_lt_of_le hbl S1.out.size
 have hnb:b ≠ w1.heap.size:=by omega
 clear y0 y1 y2
 go_wp2_with fail
 refine (HT.out _ ?_).mono ?_
 ·exact S1.out.alloc _
 rintro e w2 ⟨rfl,s2⟩
 have S2:=Lib.hid ((S1.out.alloc _).trans s2)
 clear s2
 go_wp2_with fail
 go_ret2
 exact ⟨rfl,S2.out⟩
theorem conv_other (x0 x1 x2 x3:Value) (o0:x0.oneCell' = true) (o1:x1.oneCell' = true) (o2:x2.oneCell' = true) (o3:x3.oneCell' = true) (A:Option Addr) (m cc:Nat) (k:Int) (tt aa n:ByteArray) (to_ dk dn:Int) (ds:ByteArray) (tb:Int) (RA_:Option Addr) (rm rc:Nat) (E qn qa:Int) (w:World) (hm:m ≤ 1000000)
  (HF:Hid (Rt 37 #[.agg #[.slice A m cc],.agg #[.int .i64 k,.string tt,.string aa,.string n,.int .i64 to_,.int .i64 dk,.int .i64 dn,.string ds]] w (.tuple #[.agg #[x0,x1,x2,x3],.int .i64 qn,.int .i64 qa,.int .i64 E]))) (hE:E = 0) (q:Nat) (hq:q < m) (htb:tb = q) (b off:Nat) (hA:A = some ⟨b,off,none⟩) (hbl:b < w.heap.size) (tn:ByteArray) (A1:Option Addr) (m1 c1_:Nat) (A2:Option Addr) (m2 c2_:Nat) (y0:w.cell? ⟨b,off + q * 3,none⟩ = some (.string tn)) (y1:w.cell? ⟨b,off + q * 3 + 1,none⟩ = some (.slice A1 m1 c1_)) (y2:w.cell? ⟨b,off + q * 3 + 2,none⟩ = some (.slice A2 m2 c2_)) (HT:Hid (Rt 17 #[.agg #[.string tn,.slice A1 m1 c1_,.slice A2 m2 c2_],.slice RA_ rm rc] w (.bool true))) (rl:Nat) (row:List V) (HCL:Hid (∀ W,Same w W → Calls Tryz.prog 42 #[.slice RA_ rm rc] W fun e w' => ∃ A c,e = .returned (.slice A rl c) ∧ Same W w' ∧ w'.ownsRow W.heap.size 26 3 (.slice A rl c) rl (row.flatMap V.cells))) (hqn:(q:Int) ≠ qn) :
  Calls Tryz.prog 9 #[.agg #[.slice A m cc],.agg #[.int .i64 k,.string tt,.string aa,.string n,.int .i64 to_,.int .i64 dk,.int .i64 dn,.string ds],.int .i64 tb,.slice RA_ rm rc] w fun e w' => ∃ A c,e = .returned (.tuple #[.slice A rl c,.int .i64 0]) ∧ w'.ownsRow w.heap.size 26 3 (.slice A rl c) rl (row.flatMap V.cells) ∧ Same w w':=by
 have r0:=fun w a m => run_store Tryz.prog w a x0 m o0
 have r1:=fun w a m => run_store Tryz.prog w a x1 m o1
 have r2:=fun w a m => run_store Tryz.prog w a x2 m o2
 have r3:=fun w a m => run_store Tryz.prog w a x3 m o3
 have tE:(E != 0) = false:=by simp;exact hE
 subst htb hA
 have t1:decide ((q:Int) < 0) = false:=by simp
 have t2:decide ((m:Int) ≤ (q:Int)) = false:=by simp;omega
 have t3:((q:Int) != qn) = true:=by simp;exact hqn
 clear o0 o1 o2 o3 hE hqn
 go_enter Tryz.func9,Tryz.ntmps9
 go_wp2_with fail
 refine (HF.out _ ?_).mono ?_
 ·exact ((Same.refl w).alloc _).alloc _
 rintro e w1 ⟨rfl,s1⟩
 have S1:=Lib.hid (Same.trans (((Same.refl w).alloc _).alloc _) s1)
 have Z1:=in2 s1
 have z0:w.heap.size < w1.heap.size:=by omega
 have z1:w.heap.size + 1 < w1.heap.size:=by omega
 have hne1:w.heap.size ≠ w1.heap.size:=by omega
 have hne2:w.heap.size + 1 ≠ w1.heap.size:=by omega
 obtain ⟨b0,c0,c1,c2,c3,c4,c5,c6,c7⟩:=in18 s1
 clear s1
 have yy0:=(S1.out.cells _ _ hbl).trans y0
 have yy1:=(S1.out.cells _ _ hbl).trans y1
 have yy2:=(S1.out.cells _ _ hbl).trans y2
 have hbl1:b < w1.heap.size:=Nat.lt_of_lt_of_le hbl S1.out.size
 have hnb:b ≠ w1.heap.size:=by omega
 clear y0 y1 y2
 go_wp2_with fail
 refine (HT.out _ ?_).mono ?_
 ·exact S1.out.alloc _
 rintro e w2 ⟨rfl,s2⟩
 have S2:=Lib.hid ((S1.out.alloc _).trans s2)
 clear s2
 go_wp2_with fail
 refine (HCL.out _ S2.out).mono ?_
 rintro e w3 ⟨A3,c3_,rfl,s3,o3⟩
 have O3:=Lib.hid (o3.mono S2.out.size)
 have S3:=Lib.hid (S2.out.trans s3)
 clear s3 o3
 go_wp2_with fail
 go_ret2
 exact ⟨A3,c3_,rfl,O3.out,S3.out⟩
theorem conv_own (x0 x1 x2 x3:Value) (o0:x0.oneCell' = true) (o1:x1.oneCell' = true) (o2:x2.oneCell' = true) (o3:x3.oneCell' = true) (A:Option Addr) (m cc:Nat) (k:Int) (tt aa n:ByteArray) (to_ dk dn:Int) (ds:ByteArray) (tb:Int) (RA_:Option Addr) (rm rc:Nat) (E qn qa:Int) (w:World) (hm:m ≤ 1000000)
  (HF:Hid (Rt 37 #[.agg #[.slice A m cc],.agg #[.int .i64 k,.string tt,.string aa,.string n,.int .i64 to_,.int .i64 dk,.int .i64 dn,.string ds]] w (.tuple #[.agg #[x0,x1,x2,x3],.int .i64 qn,.int .i64 qa,.int .i64 E]))) (hE:E = 0) (q:Nat) (hq:q < m) (htb:tb = q) (b off:Nat) (hA:A = some ⟨b,off,none⟩) (hbl:b < w.heap.size) (tn:ByteArray) (A1:Option Addr) (m1 c1_:Nat) (A2:Option Addr) (m2 c2_:Nat) (y0:w.cell? ⟨b,off + q * 3,none⟩ = some (.string tn)) (y1:w.cell? ⟨b,off + q * 3 + 1,none⟩ = some (.slice A1 m1 c1_)) (y2:w.cell? ⟨b,off + q * 3 + 2,none⟩ = some (.slice A2 m2 c2_)) (HT:Hid (Rt 17 #[.agg #[.string tn,.slice A1 m1 c1_,.slice A2 m2 c2_],.slice RA_ rm rc] w (.bool true))) (rl:Nat) (row:List V) (HCL:Hid (∀ W,Same w W → Calls Tryz.prog 42 #[.slice RA_ rm rc] W fun e w' => ∃ A c,e = .returned (.slice A rl c) ∧ Same W w' ∧ w'.ownsRow W.heap.size 26 3 (.slice A rl c) rl (row.flatMap V.cells))) (hqn:(q:Int) = qn) (g3:Nat) (hx3:x3 = .func (.func g3) #[] #[]) (eg:∀ args w,(callFunc g3 args).run Tryz.prog w = .ok (.enter g3 args) w) (R:Hd → Int → World → Prop)
  (HG:Hid (∀ W A cc,Same w W → W.ownsRow w.heap.size 26 3 (.slice A rl cc) rl (row.flatMap V.cells) → Calls Tryz.prog g3 #[.slice A rl cc,.agg #[.int .i64 k,.string tt,.string aa,.string n,.int .i64 to_,.int .i64 dk,.int .i64 dn,.string ds],.int .i64 qa] W fun e w' => ∃ A' n' c' E',e = .returned (.tuple #[.slice A' n' c',.int .i64 E']) ∧ R ⟨A',n',c'⟩ E' w' ∧ Below w.heap.size W w')) :
  Calls Tryz.prog 9 #[.agg #[.slice A m cc],.agg #[.int .i64 k,.string tt,.string aa,.string n,.int .i64 to_,.int .i64 dk,.int .i64 dn,.string ds],.int .i64 tb,.slice RA_ rm rc] w fun e w' => ∃ A' n' c' E',e = .returned (.tuple #[.slice A' n' c',.int .i64 E']) ∧ R ⟨A',n',c'⟩ E' w' ∧ Same w w':=by
 have r0:=fun w a m => run_store Tryz.prog w a x0 m o0
 have r1:=fun w a m => run_store Tryz.prog w a x1 m o1
 have r2:=fun w a m => run_store Tryz.prog w a x2 m o2
 have tE:(E != 0) = false:=by simp;exact hE
 subst htb hA
 have t1:decide ((q:Int) < 0) = false:=by simp
 have t2:decide ((m:Int) ≤ (q:Int)) = false:=by simp;omega
 have t3:((q:Int) != qn) = false:=by simp;exact hqn
 subst hx3
 have r3:=fun w a m => run_store Tryz.prog w a (.func (.func g3) #[] #[]) m rfl
 clear o0 o1 o2 hE hqn
 go_enter Tryz.func9,Tryz.ntmps9
 go_wp2_with fail
 refine (HF.out _ ?_).mono ?_
 ·exact ((Same.refl w).alloc _).alloc _
 rintro e w1 ⟨rfl,s1⟩
 have S1:=Lib.hid (Same.trans (((Same.refl w).alloc _).alloc _) s1)
 have Z1:=in2 s1
 have z0:w.heap.size < w1.heap.size:=by omega
 have z1:w.heap.size + 1 < w1.heap.size:=by omega
 have hne1:w.heap.size ≠ w1.heap.size:=by omega
 have hne2:w.heap.size + 1 ≠ w1.heap.size:=by omega
 obtain ⟨b0,c0,c1,c2,c3,c4,c5,c6,c7⟩:=in18 s1
 clear s1
 have yy0:=(S1.out.cells _ _ hbl).trans y0
 have yy1:=(S1.out.cells _ _ hbl).trans y1
 have yy2:=(S1.out.cells _ _ hbl).trans y2
 have hbl1:b < w1.heap.size:=Nat.lt_of_lt_of_le hbl S1.out.size
 have hnb:b ≠ w1.heap.size:=by omega
 clear y0 y1 y2
 go_wp2_with fail
 refine (HT.out _ ?_).mono ?_
 ·exact S1.out.alloc _
 rintro e w2 ⟨rfl,s2⟩
 have S2:=Lib.hid ((S1.out.alloc _).trans s2)
 have px:w2.cell? ⟨w1.heap.size,3,none⟩ = some (.func (.func g3) #[] #[]):=(s2.cells _ _ (by simp)).trans (by simp)
 have d0:w2.cell? ⟨w.heap.size + 1,0,none⟩ = some (.int .i64 k):=(s2.cells _ _ (by simp <;> omega)).trans ((((Same.refl w1).alloc _).cells _ _ z1).trans c0)
 have d1:w2.cell? ⟨w.heap.size + 1,1,none⟩ = some (.string tt):=(s2.cells _ _ (by simp <;> omega)).trans ((((Same.refl w1).alloc _).cells _ _ z1).trans c1)
 have d2:w2.cell? ⟨w.heap.size + 1,2,none⟩ = some (.string aa):=(s2.cells _ _ (by simp <;> omega)).trans ((((Same.refl w1).alloc _).cells _ _ z1).trans c2)
 have d3:w2.cell? ⟨w.heap.size + 1,3,none⟩ = some (.string n):=(s2.cells _ _ (by simp <;> omega)).trans ((((Same.refl w1).alloc _).cells _ _ z1).trans c3)
 have d4:w2.cell? ⟨w.heap.size + 1,4,none⟩ = some (.int .i64 to_):=(s2.cells _ _ (by simp <;> omega)).trans ((((Same.refl w1).alloc _).cells _ _ z1).trans c4)
 have d5:w2.cell? ⟨w.heap.size + 1,5,none⟩ = some (.int .i64 dk):=(s2.cells _ _ (by simp <;> omega)).trans ((((Same.refl w1).alloc _).cells _ _ z1).trans c5)
 have d6:w2.cell? ⟨w.heap.size + 1,6,none⟩ = some (.int .i64 dn):=(s2.cells _ _ (by simp <;> omega)).trans ((((Same.refl w1).alloc _).cells _ _ z1).trans c6)
 have d7:w2.cell? ⟨w.heap.size + 1,7,none⟩ = some (.string ds):=(s2.cells _ _ (by simp <;> omega)).trans ((((Same.refl w1).alloc _).cells _ _ z1).trans c7)
 have z20:w1.heap.size < w2.heap.size:=Nat.lt_of_lt_of_le (by simp) s2.size
 have z21:w.heap.size + 1 < w2.heap.size:=by omega
 clear s2 c0 c1 c2 c3 c4 c5 c6 c7 b0 yy0 yy1 yy2
 go_wp2_with fail
 go_region_with
  (first
   | (go_at_call 42;refine (HCL.out _ S2.out.drew).mono ?_;rintro e w3 ⟨A3,c3_,rfl,s3,o3⟩;have S3:Hid (Same w w3):=Same.trans S2.out.drew s3;have o3':=World.ownsRow.mono o3 S2.out.size;have HG3:=Lib.hid (HG.out w3 A3 c3_ S3.out o3');have px3:=(s3.cells _ _ z20).trans px;have e0:=(s3.cells _ _ z21).trans d0;have e1:=(s3.cells _ _ z21).trans d1;have e2:=(s3.cells _ _ z21).trans d2;have e3:=(s3.cells _ _ z21).trans d3;have e4:=(s3.cells _ _ z21).trans d4;have e5:=(s3.cells _ _ z21).trans d5;have e6:=(s3.cells _ _ z21).trans d6;have e7:=(s3.cells _ _ z21).trans d7;clear s3 o3 o3')
   | (refine HG3.out.mono ?_;rintro e w4 ⟨A4,n4,c4_,E4,rfl,h4,b4⟩;have H4:=Lib.hid h4;have S4:Hid (Same w w4):=Below.trans S3.out b4;clear h4 b4))
 all_goals
  go_wp2_with fail
  go_ret2
  exact ⟨A4,n4,c4_,E4,rfl,H4.out,S4.out⟩
def Fresh (B:Nat) (h:Hd):Prop:=∀ a,h.a = some a → B ≤ a.block
theorem fresh_none (B:Nat):Fresh B ⟨none,0,0⟩:=fun _ h => by cases h
theorem fresh_own {w:World} {base:Nat} {e:TypeId} {m n k:Nat} {A:Option Addr} {c:Nat} {xs:List Value} (o:w.ownsRow base e m (.slice A n c) n xs):Fresh base ⟨A,k,c⟩:=by
 intro a ha
 simp only at ha
 rcases o.2 with ⟨hv,_⟩ | ⟨g,cap,cur,hv,hg,_⟩
 ·injection hv with hv
  rw [hv] at ha;cases ha
 ·injection hv with hv
  rw [hv] at ha
  injection ha with ha
  subst ha
  exact hg
def ConvOut (p:List V × Int) (B:Nat) (w':World) (e:Ending):Prop:=∃ h':Hd,e = .returned (.tuple #[h'.val,.int .i64 p.2]) ∧ RowAt w' h' p.1 ∧ Fresh B h'
theorem conv_none {s:List Tb} {c:Cg} {tb:Int} {row:List V} (h:errOf s c = 0) (ht:tb < 0 ∨ (s.length:Int) ≤ tb):convS s c tb row = ([],1):=by
 unfold convS
 rw [if_neg (by rw [h];simp)]
 rcases ht with ht | ht
 ·cases hh:s[tb.toNat]? with
  | none => rfl
  | some t => simp only;rw [if_pos (.inl ht)]
 ·rw [List.getElem?_eq_none (by omega)]
theorem conv_unfit_eq {s:List Tb} {c:Cg} {n:Nat} {row:List V} (h:errOf s c = 0) (hn:n < s.length) (hf:fitsB s[n] row = false):convS s c n row = ([],1):=by
 unfold convS
 rw [if_neg (by rw [h];simp)]
 simp only [Int.toNat_natCast,List.getElem?_eq_getElem hn]
 rw [if_pos (.inr hf)]
theorem conv_err {s:List Tb} {c:Cg} {tb:Int} {row:List V} (h:errOf s c ≠ 0):convS s c tb row = ([],errOf s c):=by
 unfold convS;rw [if_pos h]
theorem convert_ok (h:Hd) (ts:List RT) (c:Cg) (tb:Int) (hr:Hd) (row:List V) (w:World) (l:Laid w) (a:TabsAt w h ts) (few:Few ts) (hn:okS c.name) (hd:okS c.dflt.s) (r:RowAt w hr row) (hrl:row.length ≤ 1000000) (hm:ts.length ≤ 1000000) :
  Calls Tryz.prog 9 #[.agg #[h.val],c.val,.int .i64 tb,hr.val] w fun e w' => ConvOut (convS (ts.map RT.tb) c tb row) w.heap.size w' e ∧ Same w w':=by
 have hlm:(ts.map RT.tb).length = ts.length:=List.length_map _
 have hL:ts.length = h.n:=a.1.1
 have hRL:row.length = hr.n:=r.1.1
 obtain ⟨x0,x1,x2,x3,hv,o0,o1,o2,o3⟩:=effV_form c.kind
 have HFA:=fun W (s:Same w W) => find_all h ts c W (a.same s) few hn
 obtain ⟨A,m,cc⟩:=h
 obtain ⟨RA_,rm,rc⟩:=hr
 obtain ⟨k,tt,aa,n,to_,⟨dk,dn,ds⟩⟩:=c
 simp only at hL hRL hv
 subst hL hRL
 by_cases hE:errOf (ts.map RT.tb) ⟨k,tt,aa,n,to_,⟨dk,dn,ds⟩⟩ = 0
 ·obtain ⟨hf,hva,q,hq',hfi,hnm,hc,hch⟩:=errOf_zero hE
  have hq:q < ts.length:=by simpa using hq'
  have e3:∀ j (hj:j < ts.length),(ts.map RT.tb)[j]'(by simpa using hj) = ts[j].tb:=fun j hj => by simp
  rw [e3 q hq] at hc hch hnm
  obtain ⟨qa,hqa⟩:∃ qa,qa = colA ts[q].tb.attrs aa:=⟨_,rfl⟩
  have HF:Hid (Rt 37 #[.agg #[.slice A ts.length cc],.agg #[.int .i64 k,.string tt,.string aa,.string n,.int .i64 to_,.int .i64 dk,.int .i64 dn,.string ds]] w (.tuple #[.agg #[x0,x1,x2,x3],.int .i64 q,.int .i64 qa,.int .i64 0])):=by
   intro W s
   refine (HFA W s).mono ?_
   rintro e w' ⟨⟨x,y,he,hxy⟩,s'⟩
   obtain ⟨e1,e2⟩:=hxy hE
   rw [hfi] at e1 e2
   rw [Int.toNat_natCast,List.getElem?_eq_getElem hq] at e2
   rw [he,e1,e2,hE]
   rw [hqa]
   simp only [hv]
   exact ⟨trivial,s'⟩
  by_cases ht:tb < 0
  ·refine (conv_neg x0 x1 x2 x3 o0 o1 o2 o3 A ts.length cc k tt aa n to_ dk dn ds tb RA_ row.length rc 0 q qa w hm HF rfl ht).mono ?_
   rintro e w' ⟨he,s⟩
   rw [conv_none hE (.inl ht)]
   exact ⟨⟨⟨none,0,0⟩,he,row_none _,fresh_none _⟩,s⟩
  by_cases ht2:(ts.length:Int) ≤ tb
  ·refine (conv_far x0 x1 x2 x3 o0 o1 o2 o3 A ts.length cc k tt aa n to_ dk dn ds tb RA_ row.length rc 0 q qa w hm HF rfl ht2).mono ?_
   rintro e w' ⟨he,s⟩
   rw [conv_none hE (.inr (by rw [hlm];exact ht2))]
   exact ⟨⟨⟨none,0,0⟩,he,row_none _,fresh_none _⟩,s⟩
  obtain ⟨j,htb⟩:∃ j:Nat,tb = j:=⟨tb.toNat,by omega⟩
  have hj:j < ts.length:=by omega
  obtain ⟨b,off,hA,hbl,hcell⟩:=a.1.2.2 j hj
  have HT:=fun W (s:Same w W) => fits_ok ts[j] ⟨RA_,row.length,rc⟩ row W ((a.2 _ (List.getElem_mem hj)).same s) (r.same s)
  have hjt:j < (ts.map RT.tb).length:=by omega
  cases hfit:fitsB ts[j].tb row with
  | false =>
   rw [hfit] at HT
   obtain ⟨tj,htj⟩:∃ tj,tj = ts[j]:=⟨_,rfl⟩
   rw [← htj] at hcell HT
   obtain ⟨tn,⟨A1,m1,c1⟩,ra,⟨A2,m2,c2⟩,key⟩:=tj
   have y0:=hcell 0 (.string tn) rfl
   simp only [Nat.add_zero] at y0
   refine (conv_unfit x0 x1 x2 x3 o0 o1 o2 o3 A ts.length cc k tt aa n to_ dk dn ds tb RA_ row.length rc 0 q qa w hm HF rfl j hj htb b off hA hbl tn A1 m1 c1 A2 m2 c2 y0 (hcell 1 _ rfl) (hcell 2 _ rfl) (Lib.hid HT)).mono ?_
   rintro e w' ⟨he,s⟩
   rw [htb,conv_unfit_eq hE hjt (by rw [e3 j hj];exact hfit)]
   exact ⟨⟨⟨none,0,0⟩,he,row_none _,fresh_none _⟩,s⟩
  | true =>
   rw [hfit] at HT
   have hfit':fitsB ((ts.map RT.tb)[j]'hjt) row = true:=by rw [e3 j hj];exact hfit
   have HCL:Hid (∀ W,Same w W → Calls Tryz.prog 42 #[.slice RA_ row.length rc] W fun e w' => ∃ A c,e = .returned (.slice A row.length c) ∧ Same W w' ∧ w'.ownsRow W.heap.size 26 3 (.slice A row.length c) row.length (row.flatMap V.cells)):=
    fun W s => cloneV' ⟨RA_,row.length,rc⟩ row W (r.same s).1 (by show row.length ≤ _;omega)
   have hrow63:row.length ≤ 9223372036854775807:=by omega
   obtain ⟨tj,htj⟩:∃ tj,tj = ts[j]:=⟨_,rfl⟩
   rw [← htj] at hcell HT
   obtain ⟨tn,⟨A1,m1,c1⟩,ra,⟨A2,m2,c2⟩,key⟩:=tj
   have y0:=hcell 0 (.string tn) rfl
   simp only [Nat.add_zero] at y0
   have hcv:=conv_at hE j hjt row hfit'
   by_cases hjq:j = q
   ·subst hjq
    have hnm':((ts.map RT.tb)[j]'hjt).name = tt:=by rw [e3 j hj];exact hnm
    rw [if_pos hnm',e3 j hj] at hcv
    have hqa':colA ts[j].tb.attrs (Cg.attr ⟨k,tt,aa,n,to_,⟨dk,dn,ds⟩⟩) = qa:=hqa.symm
    rw [hqa'] at hcv
    have hlen:=(fits_iff.1 hfit).1
    have hcl:qa < row.length:=by rw [hqa,hlen];exact (colA_lt ts[j].tb.attrs aa).2
    have fin:∀ (x3':Value) (g3:Nat) (eg:∀ args w,(callFunc g3 args).run Tryz.prog w = .ok (.enter g3 args) w) (_:x3 = .func (.func g3) #[] #[])
      (_:∀ W A cc,Same w W → W.ownsRow w.heap.size 26 3 (.slice A row.length cc) row.length (row.flatMap V.cells) → Calls Tryz.prog g3 #[.slice A row.length cc,.agg #[.int .i64 k,.string tt,.string aa,.string n,.int .i64 to_,.int .i64 dk,.int .i64 dn,.string ds],.int .i64 qa] W fun e w' => ∃ A' n' c' E',e = .returned (.tuple #[.slice A' n' c',.int .i64 E']) ∧ (E' = (rowP ⟨k,tt,aa,n,to_,⟨dk,dn,ds⟩⟩ qa.toNat row).2 ∧ RowAt w' ⟨A',n',c'⟩ (rowP ⟨k,tt,aa,n,to_,⟨dk,dn,ds⟩⟩ qa.toNat row).1 ∧ Fresh w.heap.size ⟨A',n',c'⟩) ∧ Below w.heap.size W w'),
      Calls Tryz.prog 9 #[.agg #[.slice A ts.length cc],.agg #[.int .i64 k,.string tt,.string aa,.string n,.int .i64 to_,.int .i64 dk,.int .i64 dn,.string ds],.int .i64 tb,.slice RA_ row.length rc] w fun e w' => ConvOut (convS (ts.map RT.tb) ⟨k,tt,aa,n,to_,⟨dk,dn,ds⟩⟩ tb row) w.heap.size w' e ∧ Same w w':=by
     intro _ g3 eg hx3 HG
     refine (conv_own x0 x1 x2 x3 o0 o1 o2 o3 A ts.length cc k tt aa n to_ dk dn ds tb RA_ row.length rc 0 j qa w hm HF rfl j hj htb b off hA hbl tn A1 m1 c1 A2 m2 c2 y0 (hcell 1 _ rfl) (hcell 2 _ rfl) (Lib.hid HT) row.length row HCL rfl g3 hx3 eg
      (fun h' E' w' => E' = (rowP ⟨k,tt,aa,n,to_,⟨dk,dn,ds⟩⟩ qa.toNat row).2 ∧ RowAt w' h' (rowP ⟨k,tt,aa,n,to_,⟨dk,dn,ds⟩⟩ qa.toNat row).1 ∧ Fresh w.heap.size h') (Lib.hid HG)).mono ?_
     rintro e w' ⟨A',n',c',E',he,⟨hE',hR,hF⟩,s⟩
     rw [htb,hcv]
     exact ⟨⟨⟨A',n',c'⟩,by rw [← hE'];exact he,hR,hF⟩,s⟩
    have nat:k ≠ 1 → ∃ i:Nat,qa = i ∧ i < row.length:=fun hk => ⟨qa.toNat,(Int.toNat_of_nonneg (by rw [hqa];exact hc hk)).symm,by have:=hc hk;rw [← hqa'] at hcl;omega⟩
    rcases formed_kind hf with hk | hk | hk | hk
    ·have hk:k = 1:=hk
     subst hk
     have hx:x3 = .func (.func 104) #[] #[]:=by
      have:effV 1 = .agg #[.bool false,fnV 100,fnV 103,fnV 104]:=rfl
      rw [this] at hv;injection hv with hv;simp only [Array.mk.injEq,List.cons.injEq] at hv;exact hv.2.2.2.1.symm
     refine fin x3 _ (enters_of Tryz.func104 (by kernel_rfl) rfl) hx ?_
     intro W A' cc' s own
     refine (add3_ok w.heap.size row.length cc' A' (row.flatMap V.cells) qa 1 to_ dk dn tt aa n ds W s.size (by omega) own).mono ?_
     rintro e w' ⟨A2',c2',he,o,b2⟩
     have ee:rowP ⟨1,tt,aa,n,to_,⟨dk,dn,ds⟩⟩ qa.toNat row = (row ++ [⟨dk,dn,ds⟩],0):=by simp [rowP]
     refine ⟨A2',row.length + 1,c2',0,he,⟨by rw [ee],?_,fresh_own o⟩,b2⟩
     rw [ee]
     refine row_own (l:=row ++ [⟨dk,dn,ds⟩]) (by rw [List.flatMap_append];exact o) (by simp) (by omega) ?_
     intro v hv'
     rcases List.mem_append.1 hv' with h1 | h1
     ·exact r.2 v h1
     ·rw [List.mem_singleton.1 h1];exact hd
    ·have hk:k = 2:=hk
     subst hk
     obtain ⟨i,hi,hil⟩:=nat (by omega)
     have hx:x3 = .func (.func 109) #[] #[]:=by
      have:effV 2 = .agg #[.bool true,fnV 105,fnV 107,fnV 109]:=rfl
      rw [this] at hv;injection hv with hv;simp only [Array.mk.injEq,List.cons.injEq] at hv;exact hv.2.2.2.1.symm
     refine fin x3 _ (enters_of Tryz.func109 (by kernel_rfl) rfl) hx ?_
     intro W A' cc' s own
     obtain ⟨g,cur,rfl,_⟩:=own_blk own (by omega)
     rw [hi]
     refine (drop3_ok w.heap.size g row.length cc' i row 2 to_ dk dn tt aa n ds W s.size (by omega) hil rfl own).mono ?_
     rintro e w' ⟨he,o,b2⟩
     have ee:rowP ⟨2,tt,aa,n,to_,⟨dk,dn,ds⟩⟩ (i:Int).toNat row = (row.eraseIdx i,0):=by simp [rowP]
     refine ⟨_,row.length - 1,cc',0,he,⟨by rw [ee],?_,fresh_own o⟩,b2⟩
     rw [ee]
     exact row_own (l:=row.eraseIdx i) o (by rw [List.length_eraseIdx,if_pos hil]) (by omega) (fun v hv' => r.2 v (List.mem_of_mem_eraseIdx hv'))
    ·have hk:k = 3:=hk
     subst hk
     have hx:x3 = .func (.func 114) #[] #[]:=by
      have:effV 3 = .agg #[.bool true,fnV 111,fnV 112,fnV 114]:=rfl
      rw [this] at hv;injection hv with hv;simp only [Array.mk.injEq,List.cons.injEq] at hv;exact hv.2.2.2.1.symm
     refine fin x3 _ (enters_of Tryz.func114 (by kernel_rfl) rfl) hx ?_
     intro W A' cc' s own
     refine (same_ok ⟨A',row.length,cc'⟩ qa 3 to_ dk dn tt aa n ds W).mono ?_
     rintro e w' ⟨he,s2⟩
     have ee:rowP ⟨3,tt,aa,n,to_,⟨dk,dn,ds⟩⟩ qa.toNat row = (row,0):=by simp [rowP]
     refine ⟨A',row.length,cc',0,he,⟨by rw [ee],?_,fresh_own (own_same s2 own)⟩,Below.mono s2 s.size⟩
     rw [ee]
     exact row_own (l:=row) (own_same s2 own) rfl hrow63 r.2
    ·have hk:k = 4:=hk
     subst hk
     obtain ⟨i,hi,hil⟩:=nat (by omega)
     have hx:x3 = .func (.func 117) #[] #[]:=by
      have:effV 4 = .agg #[.bool true,fnV 115,fnV 116,fnV 117]:=rfl
      rw [this] at hv;injection hv with hv;simp only [Array.mk.injEq,List.cons.injEq] at hv;exact hv.2.2.2.1.symm
     refine fin x3 _ (enters_of Tryz.func117 (by kernel_rfl) rfl) hx ?_
     intro W A' cc' s own
     obtain ⟨g,cur,rfl,_⟩:=own_blk own (by omega)
     rw [hi]
     refine (cast3_ok w.heap.size g row.length cc' i row 4 to_ dk dn tt aa n ds W (l.same s) s.size (by omega) hil rfl own).mono ?_
     rintro e w' ⟨hh,b2⟩
     have eg:row.getD i V.zero = row[i]:=by rw [List.getD_eq_getElem?_getD,List.getElem?_eq_getElem hil];rfl
     have ee:rowP ⟨4,tt,aa,n,to_,⟨dk,dn,ds⟩⟩ (i:Int).toNat row = if (castP row[i] to_).2 = 0 then (row.set i (castP row[i] to_).1,0) else ([],15):=by
      rw [Int.toNat_natCast]
      unfold rowP
      simp only [eg]
      rfl
     rcases hh with ⟨h0,he,o⟩ | ⟨h0,he⟩
     ·rw [if_pos h0] at ee
      refine ⟨_,row.length,cc',0,he,⟨by rw [ee],?_,fresh_own o⟩,b2⟩
      rw [ee]
      refine row_own (l:=row.set i _) o (by simp) hrow63 ?_
      intro v hv'
      rcases List.mem_or_eq_of_mem_set hv' with h1 | h1
      ·exact r.2 v h1
      ·rw [h1]
       have:=cast_fit h0
       simp only [fitB,Bool.and_eq_true] at this
       have:=(V.ok_iff.1 this.1).2.2.1
       show _ ≤ _
       omega
     ·rw [if_neg h0] at ee
      refine ⟨none,0,0,15,he,⟨by rw [ee],?_,fresh_none _⟩,b2⟩
      rw [ee]
      exact row_none _
   ·refine (conv_other x0 x1 x2 x3 o0 o1 o2 o3 A ts.length cc k tt aa n to_ dk dn ds tb RA_ row.length rc 0 q qa w hm HF rfl j hj htb b off hA hbl tn A1 m1 c1 A2 m2 c2 y0 (hcell 1 _ rfl) (hcell 2 _ rfl) (Lib.hid HT) row.length row HCL (by omega)).mono ?_
    rintro e w' ⟨A',c',he,o,s⟩
    have hne:¬ ((ts.map RT.tb)[j]'hjt).name = tt:=by
     intro e2
     have h1:=((valid_iff.1 hva).2 j hjt).2
     rw [e2] at h1
     have h2:findT (ts.map RT.tb) tt = q:=hfi
     rw [h2] at h1
     omega
    rw [htb,hcv,if_neg hne]
    exact ⟨⟨⟨A',row.length,c'⟩,he,row_own o rfl hrow63 r.2,fresh_own o⟩,s⟩
 ·have HF:Hid (∀ W,Same w W → Calls Tryz.prog 37 #[.agg #[.slice A ts.length cc],.agg #[.int .i64 k,.string tt,.string aa,.string n,.int .i64 to_,.int .i64 dk,.int .i64 dn,.string ds]] W fun e w' => (∃ qn qa:Int,e = .returned (.tuple #[.agg #[x0,x1,x2,x3],.int .i64 qn,.int .i64 qa,.int .i64 (errOf (ts.map RT.tb) ⟨k,tt,aa,n,to_,⟨dk,dn,ds⟩⟩)])) ∧ Same W w'):=by
   intro W s
   refine (HFA W s).mono ?_
   rintro e w' ⟨⟨x,y,he,_⟩,s'⟩
   simp only [hv] at he
   exact ⟨⟨x,y,he⟩,s'⟩
  refine (conv_bad x0 x1 x2 x3 o0 o1 o2 o3 A ts.length cc k tt aa n to_ dk dn ds tb RA_ row.length rc _ w hm HF hE).mono ?_
  rintro e w' ⟨he,s⟩
  rw [conv_err hE]
  exact ⟨⟨⟨none,0,0⟩,he,row_none _,fresh_none _⟩,s⟩
end Go.Proofs.YtfifnemnihcijaaGreatDoor

import Derived.Test.YtfifnemnihcijaaGreatDoorKYt
set_option linter.unusedSimpArgs false
set_option linter.unusedVariables false
set_option maxHeartbeats 16000000
set_option maxRecDepth 100000
namespace Go.Proofs.YtfifnemnihcijaaGreatDoor
open Go.RowKit
theorem rtxt_txt {v:V} (h:v.k ≠ 1):mkB (rtxt v) = v.txt:=by
 unfold rtxt V.txt
 split
 ·split
  ·rfl
  ·split
   ·rfl
   ·split
    ·by_cases e:v.n = 1
     ·rw [if_pos e,decide_eq_true e];rfl
     ·rw [if_neg e,decide_eq_false e];rfl
    ·rfl
 ·rfl
theorem rcast_invalid (k0 n0 kk:Int) (s0:ByteArray) (w:World)  (hok:(⟨k0,n0,s0⟩:V).ok = false) (HE:Hid (castP ⟨k0,n0,s0⟩ kk = (⟨0,0,⟨#[]⟩⟩,1))) :
  Calls Tryz.prog 43 #[.agg #[.int .i64 k0,.int .i64 n0,.string s0],.int .i64 kk] w fun e w' => e = .returned (.tuple #[(castP ⟨k0,n0,s0⟩ kk).1.val,.int .i64 (castP ⟨k0,n0,s0⟩ kk).2]) ∧ Same w w':=by
 have HV:Hid (Rs 72 #[.agg #[.int .i64 k0,.int .i64 n0,.string s0]] (.bool false)):=fun W => by have:=rvalid_ok ⟨k0,n0,s0⟩ W;rw [hok] at this;exact this
 clear hok
 go_enter Tryz.func43,Tryz.ntmps43
 go_wp2_with (first
  | (go_at_call 72;refine (HV.out _).mono ?_;rintro e w1 ⟨rfl,sw1⟩;have Kw1:=sw1.cells;have Fw1:=sw1.frees;obtain ⟨Zw1,zw1,yw1,Sw1,BKw1,b0,b1,b2⟩:=two_in sw1;clear sw1))
 all_goals
  obtain ⟨u0,u1,u2⟩:=set3_at (.int .i64 0) (.int .i64 0) (.string ⟨#[]⟩) BKw1.out
  refine bodyPost_ret (v:=.tuple #[.agg #[.int .i64 0,.int .i64 0,.string ⟨#[]⟩],.int .i64 1]) ?_ rfl ⟨by rw [HE.out];rfl,?_⟩
  ·simp [results,Tryz.results43,go_sem,u0,u1,u2]
  ·repeat with_reducible first | refine Same.setCell ?_ (by dsimp only;omega) _ | refine Same.drew ?_ | refine Same.alloc ?_ _
   exact Sw1.out
theorem rcast_low (k0 n0 kk:Int) (s0:ByteArray) (w:World)  (h1:kk < 1) (hok:(⟨k0,n0,s0⟩:V).ok = true) (HE:Hid (castP ⟨k0,n0,s0⟩ kk = (⟨0,0,⟨#[]⟩⟩,1))) :
  Calls Tryz.prog 43 #[.agg #[.int .i64 k0,.int .i64 n0,.string s0],.int .i64 kk] w fun e w' => e = .returned (.tuple #[(castP ⟨k0,n0,s0⟩ kk).1.val,.int .i64 (castP ⟨k0,n0,s0⟩ kk).2]) ∧ Same w w':=by
 have HV:Hid (Rs 72 #[.agg #[.int .i64 k0,.int .i64 n0,.string s0]] (.bool true)):=fun W => by have:=rvalid_ok ⟨k0,n0,s0⟩ W;rw [hok] at this;exact this
 have t1:decide (kk < 1) = true:=decide_eq_true h1
 clear hok
 go_enter Tryz.func43,Tryz.ntmps43
 go_wp2_with (first
  | (go_at_call 72;refine (HV.out _).mono ?_;rintro e w1 ⟨rfl,sw1⟩;have Kw1:=sw1.cells;have Fw1:=sw1.frees;obtain ⟨Zw1,zw1,yw1,Sw1,BKw1,b0,b1,b2⟩:=two_in sw1;clear sw1))
 all_goals
  obtain ⟨u0,u1,u2⟩:=set3_at (.int .i64 0) (.int .i64 0) (.string ⟨#[]⟩) BKw1.out
  refine bodyPost_ret (v:=.tuple #[.agg #[.int .i64 0,.int .i64 0,.string ⟨#[]⟩],.int .i64 1]) ?_ rfl ⟨by rw [HE.out];rfl,?_⟩
  ·simp [results,Tryz.results43,go_sem,u0,u1,u2]
  ·repeat with_reducible first | refine Same.setCell ?_ (by dsimp only;omega) _ | refine Same.drew ?_ | refine Same.alloc ?_ _
   exact Sw1.out
theorem rcast_high (k0 n0 kk:Int) (s0:ByteArray) (w:World)  (h1:4 < kk) (hok:(⟨k0,n0,s0⟩:V).ok = true) (HE:Hid (castP ⟨k0,n0,s0⟩ kk = (⟨0,0,⟨#[]⟩⟩,1))) :
  Calls Tryz.prog 43 #[.agg #[.int .i64 k0,.int .i64 n0,.string s0],.int .i64 kk] w fun e w' => e = .returned (.tuple #[(castP ⟨k0,n0,s0⟩ kk).1.val,.int .i64 (castP ⟨k0,n0,s0⟩ kk).2]) ∧ Same w w':=by
 have HV:Hid (Rs 72 #[.agg #[.int .i64 k0,.int .i64 n0,.string s0]] (.bool true)):=fun W => by have:=rvalid_ok ⟨k0,n0,s0⟩ W;rw [hok] at this;exact this
 have t1:decide (kk < 1) = false:=by simp;omega
 clear hok
 go_enter Tryz.func43,Tryz.ntmps43
 go_wp2_with (first
  | (go_at_call 72;refine (HV.out _).mono ?_;rintro e w1 ⟨rfl,sw1⟩;have Kw1:=sw1.cells;have Fw1:=sw1.frees;obtain ⟨Zw1,zw1,yw1,Sw1,BKw1,b0,b1,b2⟩:=two_in sw1;clear sw1))
 all_goals
  obtain ⟨u0,u1,u2⟩:=set3_at (.int .i64 0) (.int .i64 0) (.string ⟨#[]⟩) BKw1.out
  refine bodyPost_ret (v:=.tuple #[.agg #[.int .i64 0,.int .i64 0,.string ⟨#[]⟩],.int .i64 1]) ?_ rfl ⟨by rw [HE.out];rfl,?_⟩
  ·simp [results,Tryz.results43,go_sem,u0,u1,u2]
  ·repeat with_reducible first | refine Same.setCell ?_ (by dsimp only;omega) _ | refine Same.drew ?_ | refine Same.alloc ?_ _
   exact Sw1.out
theorem rcast_same (k0 n0 kk:Int) (s0:ByteArray) (w:World)  (h1:1 ≤ kk) (h2:kk ≤ 4) (q:k0 = kk) (q0:¬ k0 = 0) (hok:(⟨k0,n0,s0⟩:V).ok = true) (HE:Hid (castP ⟨k0,n0,s0⟩ kk = (⟨k0,n0,s0⟩,0))) :
  Calls Tryz.prog 43 #[.agg #[.int .i64 k0,.int .i64 n0,.string s0],.int .i64 kk] w fun e w' => e = .returned (.tuple #[(castP ⟨k0,n0,s0⟩ kk).1.val,.int .i64 (castP ⟨k0,n0,s0⟩ kk).2]) ∧ Same w w':=by
 have HV:Hid (Rs 72 #[.agg #[.int .i64 k0,.int .i64 n0,.string s0]] (.bool true)):=fun W => by have:=rvalid_ok ⟨k0,n0,s0⟩ W;rw [hok] at this;exact this
 have t0:decide (kk < 1) = false:=by simp;omega
 have t0b:decide (4 < kk) = false:=by simp;omega
 have t1:(k0 == kk) = true:=by simp;exact q
 have t2:(k0 == 0) = false:=by simp;exact q0
 clear hok q q0
 go_enter Tryz.func43,Tryz.ntmps43
 go_wp2_with (first
  | (go_at_call 72;refine (HV.out _).mono ?_;rintro e w1 ⟨rfl,sw1⟩;have Kw1:=sw1.cells;have Fw1:=sw1.frees;obtain ⟨Zw1,zw1,yw1,Sw1,BKw1,b0,b1,b2⟩:=two_in sw1;clear sw1))
 all_goals
  obtain ⟨u0,u1,u2⟩:=set3_at (.int .i64 k0) (.int .i64 n0) (.string s0) BKw1.out
  refine bodyPost_ret (v:=.tuple #[.agg #[.int .i64 k0,.int .i64 n0,.string s0],.int .i64 0]) ?_ rfl ⟨by rw [HE.out];rfl,?_⟩
  ·simp [results,Tryz.results43,go_sem,u0,u1,u2]
  ·repeat with_reducible first | refine Same.setCell ?_ (by dsimp only;omega) _ | refine Same.drew ?_ | refine Same.alloc ?_ _
   exact Sw1.out
theorem rcast_null (n0 kk:Int) (s0:ByteArray) (w:World)  (h1:1 ≤ kk) (h2:kk ≤ 4) (hok:(⟨0,n0,s0⟩:V).ok = true) (HE:Hid (castP ⟨0,n0,s0⟩ kk = (⟨0,n0,s0⟩,0))) :
  Calls Tryz.prog 43 #[.agg #[.int .i64 0,.int .i64 n0,.string s0],.int .i64 kk] w fun e w' => e = .returned (.tuple #[(castP ⟨0,n0,s0⟩ kk).1.val,.int .i64 (castP ⟨0,n0,s0⟩ kk).2]) ∧ Same w w':=by
 have HV:Hid (Rs 72 #[.agg #[.int .i64 0,.int .i64 n0,.string s0]] (.bool true)):=fun W => by have:=rvalid_ok ⟨0,n0,s0⟩ W;rw [hok] at this;exact this
 have t0:decide (kk < 1) = false:=by simp;omega
 have t0b:decide (4 < kk) = false:=by simp;omega
 clear hok
 go_enter Tryz.func43,Tryz.ntmps43
 go_wp2_with (first
  | (go_at_call 72;refine (HV.out _).mono ?_;rintro e w1 ⟨rfl,sw1⟩;have Kw1:=sw1.cells;have Fw1:=sw1.frees;obtain ⟨Zw1,zw1,yw1,Sw1,BKw1,b0,b1,b2⟩:=two_in sw1;clear sw1))
 all_goals
  obtain ⟨u0,u1,u2⟩:=set3_at (.int .i64 0) (.int .i64 n0) (.string s0) BKw1.out
  refine bodyPost_ret (v:=.tuple #[.agg #[.int .i64 0,.int .i64 n0,.string s0],.int .i64 0]) ?_ rfl ⟨by rw [HE.out];rfl,?_⟩
  ·simp [results,Tryz.results43,go_sem,u0,u1,u2]
  ·repeat with_reducible first | refine Same.setCell ?_ (by dsimp only;omega) _ | refine Same.drew ?_ | refine Same.alloc ?_ _
   exact Sw1.out
theorem rcast_text (k0 n0:Int) (s0:ByteArray) (w:World)  (q:¬ k0 = 1) (q0:¬ k0 = 0) (hok:(⟨k0,n0,s0⟩:V).ok = true) (HE:Hid (castP ⟨k0,n0,s0⟩ 1 = (⟨1,0,(⟨k0,n0,s0⟩:V).txt⟩,0))) :
  Calls Tryz.prog 43 #[.agg #[.int .i64 k0,.int .i64 n0,.string s0],.int .i64 1] w fun e w' => e = .returned (.tuple #[(castP ⟨k0,n0,s0⟩ 1).1.val,.int .i64 (castP ⟨k0,n0,s0⟩ 1).2]) ∧ Same w w':=by
 have HV:Hid (Rs 72 #[.agg #[.int .i64 k0,.int .i64 n0,.string s0]] (.bool true)):=fun W => by have:=rvalid_ok ⟨k0,n0,s0⟩ W;rw [hok] at this;exact this
 have t1:(k0 == 1) = false:=by simp;exact q
 have t2:(k0 == 0) = false:=by simp;exact q0
 have HX:Hid (Rt 73 #[.agg #[.int .i64 k0,.int .i64 n0,.string s0]] w (.string (⟨k0,n0,s0⟩:V).txt)):=fun W s => by have:=rtext_ok ⟨k0,n0,s0⟩ W;rw [rtxt_txt (v:=⟨k0,n0,s0⟩) (by exact q)] at this;exact this
 generalize (⟨k0,n0,s0⟩:V).txt = tx at HX HE
 clear hok q q0
 go_enter Tryz.func43,Tryz.ntmps43
 go_wp2_with (first
  | (go_at_call 72;refine (HV.out _).mono ?_;rintro e w1 ⟨rfl,sw1⟩;have Kw1:=sw1.cells;have Fw1:=sw1.frees;obtain ⟨Zw1,zw1,yw1,Sw1,BKw1,b0,b1,b2⟩:=two_in sw1;clear sw1)
  | (go_at_call 73;refine (HX.out _ Sw1.out).mono ?_;rintro e w2 ⟨rfl,s2⟩;have K2:=s2.cells;have F2:=s2.frees;have Z2:w.heap.size + 2 ≤ w2.heap.size:=(by have:=s2.size;omega);have z2:w.heap.size < w2.heap.size:=(by omega);have y2:w.heap.size + 1 < w2.heap.size:=(by omega);have S2:Hid (Same w w2):=Same.trans Sw1.out s2;have BK2:Hid (Blk w2 (w.heap.size + 1) 26 #[.int .i64 0,.int .i64 0,.string ⟨#[]⟩]):=(s2.block _ yw1).trans BKw1.out;clear s2))
 all_goals
  obtain ⟨u0,u1,u2⟩:=set3_at (.int .i64 1) (.int .i64 0) (.string tx) BK2.out
  refine bodyPost_ret (v:=.tuple #[.agg #[.int .i64 1,.int .i64 0,.string tx],.int .i64 0]) ?_ rfl ⟨by rw [HE.out];rfl,?_⟩
  ·simp [results,Tryz.results43,go_sem,u0,u1,u2]
  ·repeat with_reducible first | refine Same.setCell ?_ (by dsimp only;omega) _ | refine Same.drew ?_ | refine Same.alloc ?_ _
   exact S2.out
theorem rcast_parse_bad (k0 n0 kk:Int) (s0:ByteArray) (w:World)  (h1:1 ≤ kk) (h2:kk ≤ 4) (q:¬ k0 = kk) (q0:¬ k0 = 0) (q1:¬ kk = 1) (q4:k0 = 1) (p0 p1:Int) (p2:ByteArray) (hp:parseV (ba s0) = ⟨p0,p1,p2⟩) (hpe:parseE (ba s0) = 4) (hok:(⟨k0,n0,s0⟩:V).ok = true) (HE:Hid (castP ⟨k0,n0,s0⟩ kk = (⟨0,0,⟨#[]⟩⟩,15))) :
  Calls Tryz.prog 43 #[.agg #[.int .i64 k0,.int .i64 n0,.string s0],.int .i64 kk] w fun e w' => e = .returned (.tuple #[(castP ⟨k0,n0,s0⟩ kk).1.val,.int .i64 (castP ⟨k0,n0,s0⟩ kk).2]) ∧ Same w w':=by
 have HV:Hid (Rs 72 #[.agg #[.int .i64 k0,.int .i64 n0,.string s0]] (.bool true)):=fun W => by have:=rvalid_ok ⟨k0,n0,s0⟩ W;rw [hok] at this;exact this
 have hs0:s0.size ≤ 200:=(V.ok_iff.1 hok).2.2.1
 have HP:Hid (Rt 74 #[.string s0] w (.tuple #[.agg #[.int .i64 p0,.int .i64 p1,.string p2],.int .i64 4])):=fun W s => by
  have:=rparse_ok s0 (by omega) W
  rw [hp,hpe] at this
  exact this
 have t0:decide (kk < 1) = false:=by simp;omega
 have t0b:decide (4 < kk) = false:=by simp;omega
 have t1:(k0 == kk) = false:=by simp;exact q
 have t2:(k0 == 0) = false:=by simp;exact q0
 have t3:(kk == 1) = false:=by simp;exact q1
 have t4:(k0 == 1) = true:=by simp;exact q4
 clear hok q q0 q1 q4 hp hpe
 go_enter Tryz.func43,Tryz.ntmps43
 go_wp2_with (first
  | (go_at_call 72;refine (HV.out _).mono ?_;rintro e w1 ⟨rfl,sw1⟩;have Kw1:=sw1.cells;have Fw1:=sw1.frees;obtain ⟨Zw1,zw1,yw1,Sw1,BKw1,b0,b1,b2⟩:=two_in sw1;clear sw1)
  | (go_at_call 74;refine (HP.out _ Sw1.out).mono ?_;rintro e w2 ⟨rfl,s2⟩;have K2:=s2.cells;have F2:=s2.frees;have Z2:w.heap.size + 2 ≤ w2.heap.size:=(by have:=s2.size;omega);have z2:w.heap.size < w2.heap.size:=(by omega);have y2:w.heap.size + 1 < w2.heap.size:=(by omega);have S2:Hid (Same w w2):=Same.trans Sw1.out s2;have BK2:Hid (Blk w2 (w.heap.size + 1) 26 #[.int .i64 0,.int .i64 0,.string ⟨#[]⟩]):=(s2.block _ yw1).trans BKw1.out;clear s2))
 all_goals
  have U:=(set3_same (.int .i64 0) (.int .i64 0) (.string ⟨#[]⟩) BK2.out).alloc (.cells #[.int .i64 p0,.int .i64 p1,.string p2] 26)
  have u0:_ = some (Value.int .i64 0):=U.cell 0
  have u1:_ = some (Value.int .i64 0):=U.cell 1
  have u2:_ = some (Value.string ⟨#[]⟩):=U.cell 2
  refine bodyPost_ret (v:=.tuple #[.agg #[.int .i64 0,.int .i64 0,.string ⟨#[]⟩],.int .i64 15]) ?_ rfl ⟨by rw [HE.out];rfl,?_⟩
  ·simp [results,Tryz.results43,go_sem,u0,u1,u2]
  ·repeat with_reducible first | refine Same.setCell ?_ (by dsimp only;omega) _ | refine Same.drew ?_ | refine Same.alloc ?_ _
   exact S2.out
theorem rcast_parse_other (k0 n0 kk:Int) (s0:ByteArray) (w:World)  (h1:1 ≤ kk) (h2:kk ≤ 4) (q:¬ k0 = kk) (q0:¬ k0 = 0) (q1:¬ kk = 1) (q4:k0 = 1) (p0 p1:Int) (p2:ByteArray) (hp:parseV (ba s0) = ⟨p0,p1,p2⟩) (hpe:parseE (ba s0) = 0) (q5:¬ p0 = kk) (hok:(⟨k0,n0,s0⟩:V).ok = true) (HE:Hid (castP ⟨k0,n0,s0⟩ kk = (⟨0,0,⟨#[]⟩⟩,15))) :
  Calls Tryz.prog 43 #[.agg #[.int .i64 k0,.int .i64 n0,.string s0],.int .i64 kk] w fun e w' => e = .returned (.tuple #[(castP ⟨k0,n0,s0⟩ kk).1.val,.int .i64 (castP ⟨k0,n0,s0⟩ kk).2]) ∧ Same w w':=by
 have HV:Hid (Rs 72 #[.agg #[.int .i64 k0,.int .i64 n0,.string s0]] (.bool true)):=fun W => by have:=rvalid_ok ⟨k0,n0,s0⟩ W;rw [hok] at this;exact this
 have hs0:s0.size ≤ 200:=(V.ok_iff.1 hok).2.2.1
 have HP:Hid (Rt 74 #[.string s0] w (.tuple #[.agg #[.int .i64 p0,.int .i64 p1,.string p2],.int .i64 0])):=fun W s => by
  have:=rparse_ok s0 (by omega) W
  rw [hp,hpe] at this
  exact this
 have t0:decide (kk < 1) = false:=by simp;omega
 have t0b:decide (4 < kk) = false:=by simp;omega
 have t1:(k0 == kk) = false:=by simp;exact q
 have t2:(k0 == 0) = false:=by simp;exact q0
 have t3:(kk == 1) = false:=by simp;exact q1
 have t4:(k0 == 1) = true:=by simp;exact q4
 have t5:(p0 == kk) = false:=by simp;exact q5
 clear hok q q0 q1 q4 hp hpe q5
 go_enter Tryz.func43,Tryz.ntmps43
 go_wp2_with (first
  | (go_at_call 72;refine (HV.out _).mono ?_;rintro e w1 ⟨rfl,sw1⟩;have Kw1:=sw1.cells;have Fw1:=sw1.frees;obtain ⟨Zw1,zw1,yw1,Sw1,BKw1,b0,b1,b2⟩:=two_in sw1;clear sw1)
  | (go_at_call 74;refine (HP.out _ Sw1.out).mono ?_;rintro e w2 ⟨rfl,s2⟩;have K2:=s2.cells;have F2:=s2.frees;have Z2:w.heap.size + 2 ≤ w2.heap.size:=(by have:=s2.size;omega);have z2:w.heap.size < w2.heap.size:=(by omega);have y2:w.heap.size + 1 < w2.heap.size:=(by omega);have S2:Hid (Same w w2):=Same.trans Sw1.out s2;have BK2:Hid (Blk w2 (w.heap.size + 1) 26 #[.int .i64 0,.int .i64 0,.string ⟨#[]⟩]):=(s2.block _ yw1).trans BKw1.out;clear s2))
 all_goals
  have U:=(set3_same (.int .i64 0) (.int .i64 0) (.string ⟨#[]⟩) BK2.out).alloc (.cells #[.int .i64 p0,.int .i64 p1,.string p2] 26)
  have u0:_ = some (Value.int .i64 0):=U.cell 0
  have u1:_ = some (Value.int .i64 0):=U.cell 1
  have u2:_ = some (Value.string ⟨#[]⟩):=U.cell 2
  refine bodyPost_ret (v:=.tuple #[.agg #[.int .i64 0,.int .i64 0,.string ⟨#[]⟩],.int .i64 15]) ?_ rfl ⟨by rw [HE.out];rfl,?_⟩
  ·simp [results,Tryz.results43,go_sem,u0,u1,u2]
  ·repeat with_reducible first | refine Same.setCell ?_ (by dsimp only;omega) _ | refine Same.drew ?_ | refine Same.alloc ?_ _
   exact S2.out
theorem rcast_parse_good (k0 n0 kk:Int) (s0:ByteArray) (w:World)  (h1:1 ≤ kk) (h2:kk ≤ 4) (q:¬ k0 = kk) (q0:¬ k0 = 0) (q1:¬ kk = 1) (q4:k0 = 1) (p0 p1:Int) (p2:ByteArray) (hp:parseV (ba s0) = ⟨p0,p1,p2⟩) (hpe:parseE (ba s0) = 0) (q5:p0 = kk) (hok:(⟨k0,n0,s0⟩:V).ok = true) (HE:Hid (castP ⟨k0,n0,s0⟩ kk = (⟨p0,p1,p2⟩,0))) :
  Calls Tryz.prog 43 #[.agg #[.int .i64 k0,.int .i64 n0,.string s0],.int .i64 kk] w fun e w' => e = .returned (.tuple #[(castP ⟨k0,n0,s0⟩ kk).1.val,.int .i64 (castP ⟨k0,n0,s0⟩ kk).2]) ∧ Same w w':=by
 have HV:Hid (Rs 72 #[.agg #[.int .i64 k0,.int .i64 n0,.string s0]] (.bool true)):=fun W => by have:=rvalid_ok ⟨k0,n0,s0⟩ W;rw [hok] at this;exact this
 have hs0:s0.size ≤ 200:=(V.ok_iff.1 hok).2.2.1
 have HP:Hid (Rt 74 #[.string s0] w (.tuple #[.agg #[.int .i64 p0,.int .i64 p1,.string p2],.int .i64 0])):=fun W s => by
  have:=rparse_ok s0 (by omega) W
  rw [hp,hpe] at this
  exact this
 have t0:decide (kk < 1) = false:=by simp;omega
 have t0b:decide (4 < kk) = false:=by simp;omega
 have t1:(k0 == kk) = false:=by simp;exact q
 have t2:(k0 == 0) = false:=by simp;exact q0
 have t3:(kk == 1) = false:=by simp;exact q1
 have t4:(k0 == 1) = true:=by simp;exact q4
 have t5:(p0 == kk) = true:=by simp;exact q5
 clear hok q q0 q1 q4 hp hpe q5
 go_enter Tryz.func43,Tryz.ntmps43
 go_wp2_with (first
  | (go_at_call 72;refine (HV.out _).mono ?_;rintro e w1 ⟨rfl,sw1⟩;have Kw1:=sw1.cells;have Fw1:=sw1.frees;obtain ⟨Zw1,zw1,yw1,Sw1,BKw1,b0,b1,b2⟩:=two_in sw1;clear sw1)
  | (go_at_call 74;refine (HP.out _ Sw1.out).mono ?_;rintro e w2 ⟨rfl,s2⟩;have K2:=s2.cells;have F2:=s2.frees;have Z2:w.heap.size + 2 ≤ w2.heap.size:=(by have:=s2.size;omega);have z2:w.heap.size < w2.heap.size:=(by omega);have y2:w.heap.size + 1 < w2.heap.size:=(by omega);have S2:Hid (Same w w2):=Same.trans Sw1.out s2;have BK2:Hid (Blk w2 (w.heap.size + 1) 26 #[.int .i64 0,.int .i64 0,.string ⟨#[]⟩]):=(s2.block _ yw1).trans BKw1.out;clear s2))
 all_goals
  have U:=(set3_same (.int .i64 p0) (.int .i64 p1) (.string p2) BK2.out).alloc (.cells #[.int .i64 p0,.int .i64 p1,.string p2] 26)
  have u0:_ = some (Value.int .i64 p0):=U.cell 0
  have u1:_ = some (Value.int .i64 p1):=U.cell 1
  have u2:_ = some (Value.string p2):=U.cell 2
  refine bodyPost_ret (v:=.tuple #[.agg #[.int .i64 p0,.int .i64 p1,.string p2],.int .i64 0]) ?_ rfl ⟨by rw [HE.out];rfl,?_⟩
  ·simp [results,Tryz.results43,go_sem,u0,u1,u2]
  ·repeat with_reducible first | refine Same.setCell ?_ (by dsimp only;omega) _ | refine Same.drew ?_ | refine Same.alloc ?_ _
   exact S2.out
theorem rcast_flag1 (k0 n0 kk:Int) (s0:ByteArray) (w:World)  (h1:1 ≤ kk) (h2:kk ≤ 4) (q:¬ k0 = kk) (q0:¬ k0 = 0) (q1:¬ kk = 1) (q4:¬ k0 = 1) (q5:k0 = 4) (hok:(⟨k0,n0,s0⟩:V).ok = true) (HE:Hid (castP ⟨k0,n0,s0⟩ kk = (⟨0,0,⟨#[]⟩⟩,10))) :
  Calls Tryz.prog 43 #[.agg #[.int .i64 k0,.int .i64 n0,.string s0],.int .i64 kk] w fun e w' => e = .returned (.tuple #[(castP ⟨k0,n0,s0⟩ kk).1.val,.int .i64 (castP ⟨k0,n0,s0⟩ kk).2]) ∧ Same w w':=by
 have HV:Hid (Rs 72 #[.agg #[.int .i64 k0,.int .i64 n0,.string s0]] (.bool true)):=fun W => by have:=rvalid_ok ⟨k0,n0,s0⟩ W;rw [hok] at this;exact this
 have t0:decide (kk < 1) = false:=by simp;omega
 have t0b:decide (4 < kk) = false:=by simp;omega
 have t1:(k0 == kk) = false:=by simp;exact q
 have t2:(k0 == 0) = false:=by simp;exact q0
 have t3:(kk == 1) = false:=by simp;exact q1
 have t4:(k0 == 1) = false:=by simp;exact q4
 have t5:(k0 == 4) = true:=by simp;exact q5
 clear hok q q0 q1 q4 q5
 go_enter Tryz.func43,Tryz.ntmps43
 go_wp2_with (first
  | (go_at_call 72;refine (HV.out _).mono ?_;rintro e w1 ⟨rfl,sw1⟩;have Kw1:=sw1.cells;have Fw1:=sw1.frees;obtain ⟨Zw1,zw1,yw1,Sw1,BKw1,b0,b1,b2⟩:=two_in sw1;clear sw1))
 all_goals
  obtain ⟨u0,u1,u2⟩:=set3_at (.int .i64 0) (.int .i64 0) (.string ⟨#[]⟩) BKw1.out
  refine bodyPost_ret (v:=.tuple #[.agg #[.int .i64 0,.int .i64 0,.string ⟨#[]⟩],.int .i64 10]) ?_ rfl ⟨by rw [HE.out];rfl,?_⟩
  ·simp [results,Tryz.results43,go_sem,u0,u1,u2]
  ·repeat with_reducible first | refine Same.setCell ?_ (by dsimp only;omega) _ | refine Same.drew ?_ | refine Same.alloc ?_ _
   exact Sw1.out
theorem rcast_flag2 (k0 n0 kk:Int) (s0:ByteArray) (w:World)  (h1:1 ≤ kk) (h2:kk ≤ 4) (q:¬ k0 = kk) (q0:¬ k0 = 0) (q1:¬ kk = 1) (q4:¬ k0 = 1) (q5:¬ k0 = 4) (q6:kk = 4) (hok:(⟨k0,n0,s0⟩:V).ok = true) (HE:Hid (castP ⟨k0,n0,s0⟩ kk = (⟨0,0,⟨#[]⟩⟩,10))) :
  Calls Tryz.prog 43 #[.agg #[.int .i64 k0,.int .i64 n0,.string s0],.int .i64 kk] w fun e w' => e = .returned (.tuple #[(castP ⟨k0,n0,s0⟩ kk).1.val,.int .i64 (castP ⟨k0,n0,s0⟩ kk).2]) ∧ Same w w':=by
 have HV:Hid (Rs 72 #[.agg #[.int .i64 k0,.int .i64 n0,.string s0]] (.bool true)):=fun W => by have:=rvalid_ok ⟨k0,n0,s0⟩ W;rw [hok] at this;exact this
 have t0:decide (kk < 1) = false:=by simp;omega
 have t0b:decide (4 < kk) = false:=by simp;omega
 have t1:(k0 == kk) = false:=by simp;exact q
 have t2:(k0 == 0) = false:=by simp;exact q0
 have t3:(kk == 1) = false:=by simp;exact q1
 have t4:(k0 == 1) = false:=by simp;exact q4
 have t5:(k0 == 4) = false:=by simp;exact q5
 have t6:(kk == 4) = true:=by simp;exact q6
 clear hok q q0 q1 q4 q5 q6
 go_enter Tryz.func43,Tryz.ntmps43
 go_wp2_with (first
  | (go_at_call 72;refine (HV.out _).mono ?_;rintro e w1 ⟨rfl,sw1⟩;have Kw1:=sw1.cells;have Fw1:=sw1.frees;obtain ⟨Zw1,zw1,yw1,Sw1,BKw1,b0,b1,b2⟩:=two_in sw1;clear sw1))
 all_goals
  obtain ⟨u0,u1,u2⟩:=set3_at (.int .i64 0) (.int .i64 0) (.string ⟨#[]⟩) BKw1.out
  refine bodyPost_ret (v:=.tuple #[.agg #[.int .i64 0,.int .i64 0,.string ⟨#[]⟩],.int .i64 10]) ?_ rfl ⟨by rw [HE.out];rfl,?_⟩
  ·simp [results,Tryz.results43,go_sem,u0,u1,u2]
  ·repeat with_reducible first | refine Same.setCell ?_ (by dsimp only;omega) _ | refine Same.drew ?_ | refine Same.alloc ?_ _
   exact Sw1.out
theorem rcast_move_bad (k0 n0 kk:Int) (s0:ByteArray) (w:World)  (h1:1 ≤ kk) (h2:kk ≤ 4) (q:¬ k0 = kk) (q0:¬ k0 = 0) (q1:¬ kk = 1) (q4:¬ k0 = 1) (q5:¬ k0 = 4) (q6:¬ kk = 4) (hv2:(⟨kk,n0,⟨#[]⟩⟩:V).ok = false) (hok:(⟨k0,n0,s0⟩:V).ok = true) (HE:Hid (castP ⟨k0,n0,s0⟩ kk = (⟨0,0,⟨#[]⟩⟩,15))) :
  Calls Tryz.prog 43 #[.agg #[.int .i64 k0,.int .i64 n0,.string s0],.int .i64 kk] w fun e w' => e = .returned (.tuple #[(castP ⟨k0,n0,s0⟩ kk).1.val,.int .i64 (castP ⟨k0,n0,s0⟩ kk).2]) ∧ Same w w':=by
 have HV:Hid (Rs 72 #[.agg #[.int .i64 k0,.int .i64 n0,.string s0]] (.bool true)):=fun W => by have:=rvalid_ok ⟨k0,n0,s0⟩ W;rw [hok] at this;exact this
 have HV2:Hid (Rs 72 #[.agg #[.int .i64 kk,.int .i64 n0,.string ⟨#[]⟩]] (.bool false)):=fun W => by have:=rvalid_ok ⟨kk,n0,⟨#[]⟩⟩ W;rw [hv2] at this;exact this
 have t0:decide (kk < 1) = false:=by simp;omega
 have t0b:decide (4 < kk) = false:=by simp;omega
 have t1:(k0 == kk) = false:=by simp;exact q
 have t2:(k0 == 0) = false:=by simp;exact q0
 have t3:(kk == 1) = false:=by simp;exact q1
 have t4:(k0 == 1) = false:=by simp;exact q4
 have t5:(k0 == 4) = false:=by simp;exact q5
 have t6:(kk == 4) = false:=by simp;exact q6
 clear hok q q0 q1 q4 q5 q6 hv2
 go_enter Tryz.func43,Tryz.ntmps43
 go_wp2_with fail
 refine (HV.out _).mono ?_
 rintro e w1 ⟨rfl,s1⟩
 have b0:w1.cell? ⟨w.heap.size,0,none⟩ = some (.int .i64 k0):=(s1.cells _ _ (by simp <;> omega)).trans (by simp)
 have b1:w1.cell? ⟨w.heap.size,1,none⟩ = some (.int .i64 n0):=(s1.cells _ _ (by simp <;> omega)).trans (by simp)
 have Z1:=in2 s1
 have S1:Hid (Same w w1):=Same.trans (((Same.refl w).alloc _).alloc _) s1
 have BK1:Hid (Blk w1 (w.heap.size + 1) 26 #[.int .i64 0,.int .i64 0,.string ⟨#[]⟩]):=(s1.block _ (by simp <;> omega)).trans (by have h:=Blk.new (w.alloc (.cells #[.int .i64 k0,.int .i64 n0,.string s0] 26)) 26 #[.int .i64 0,.int .i64 0,.string ⟨#[]⟩];rw [show (w.alloc (.cells #[.int .i64 k0,.int .i64 n0,.string s0] 26)).heap.size = w.heap.size + 1 by simp] at h;exact h)
 clear s1
 go_wp2_with fail
 refine (HV2.out _).mono ?_
 rintro e w2 ⟨rfl,s2⟩
 have y2:w.heap.size + 1 < w2.heap.size:=Nat.lt_of_lt_of_le (by simp <;> omega) s2.size
 have z2:w.heap.size < w2.heap.size:=by omega
 have Sw2:Hid (Same w w2):=(S1.out.alloc _).trans s2
 have bk2:=(s2.block _ (by simp <;> omega)).trans (BK1.out.alloc _)
 have BKw2:Hid (Blk w2 (w.heap.size + 1) 26 #[.int .i64 0,.int .i64 0,.string ⟨#[]⟩]):=bk2
 have nk2:Blk w2 w1.heap.size 26 #[.int .i64 kk,.int .i64 n0,.string ⟨#[]⟩]:=(s2.block _ (by simp)).trans (Blk.new w1 _ _)
 have d0:=BKw2.out.cell 0
 have d1:=BKw2.out.cell 1
 have d2:=BKw2.out.cell 2
 have e0:=BKw2.out.frozen 0
 have e1:=BKw2.out.frozen 1
 have e2:=BKw2.out.frozen 2
 have g0:=nk2.cell 0
 have g1:=nk2.cell 1
 have g2:=nk2.cell 2
 have ne2:w1.heap.size ≠ w.heap.size + 1:=by omega
 simp only [List.getElem?_toArray,List.getElem?_cons_zero,List.getElem?_cons_succ] at d0 d1 d2 g0 g1 g2
 clear s2 bk2 nk2 b0 b1
 go_wp2_with fail
 all_goals
  obtain ⟨u0,u1,u2⟩:=set3_at (.int .i64 0) (.int .i64 0) (.string ⟨#[]⟩) BKw2.out
  refine bodyPost_ret (v:=.tuple #[.agg #[.int .i64 0,.int .i64 0,.string ⟨#[]⟩],.int .i64 15]) ?_ rfl ⟨by rw [HE.out];rfl,?_⟩
  ·simp [results,Tryz.results43,go_sem,u0,u1,u2]
  ·repeat with_reducible first | refine Same.setCell ?_ (by dsimp only;omega) _ | refine Same.drew ?_ | refine Same.alloc ?_ _
   exact Sw2.out
theorem rcast_move_good (k0 n0 kk:Int) (s0:ByteArray) (w:World)  (h1:1 ≤ kk) (h2:kk ≤ 4) (q:¬ k0 = kk) (q0:¬ k0 = 0) (q1:¬ kk = 1) (q4:¬ k0 = 1) (q5:¬ k0 = 4) (q6:¬ kk = 4) (hv2:(⟨kk,n0,⟨#[]⟩⟩:V).ok = true) (hok:(⟨k0,n0,s0⟩:V).ok = true) (HE:Hid (castP ⟨k0,n0,s0⟩ kk = (⟨kk,n0,⟨#[]⟩⟩,0))) :
  Calls Tryz.prog 43 #[.agg #[.int .i64 k0,.int .i64 n0,.string s0],.int .i64 kk] w fun e w' => e = .returned (.tuple #[(castP ⟨k0,n0,s0⟩ kk).1.val,.int .i64 (castP ⟨k0,n0,s0⟩ kk).2]) ∧ Same w w':=by
 have HV:Hid (Rs 72 #[.agg #[.int .i64 k0,.int .i64 n0,.string s0]] (.bool true)):=fun W => by have:=rvalid_ok ⟨k0,n0,s0⟩ W;rw [hok] at this;exact this
 have HV2:Hid (Rs 72 #[.agg #[.int .i64 kk,.int .i64 n0,.string ⟨#[]⟩]] (.bool true)):=fun W => by have:=rvalid_ok ⟨kk,n0,⟨#[]⟩⟩ W;rw [hv2] at this;exact this
 have t0:decide (kk < 1) = false:=by simp;omega
 have t0b:decide (4 < kk) = false:=by simp;omega
 have t1:(k0 == kk) = false:=by simp;exact q
 have t2:(k0 == 0) = false:=by simp;exact q0
 have t3:(kk == 1) = false:=by simp;exact q1
 have t4:(k0 == 1) = false:=by simp;exact q4
 have t5:(k0 == 4) = false:=by simp;exact q5
 have t6:(kk == 4) = false:=by simp;exact q6
 clear hok q q0 q1 q4 q5 q6 hv2
 go_enter Tryz.func43,Tryz.ntmps43
 go_wp2_with fail
 refine (HV.out _).mono ?_
 rintro e w1 ⟨rfl,s1⟩
 have b0:w1.cell? ⟨w.heap.size,0,none⟩ = some (.int .i64 k0):=(s1.cells _ _ (by simp <;> omega)).trans (by simp)
 have b1:w1.cell? ⟨w.heap.size,1,none⟩ = some (.int .i64 n0):=(s1.cells _ _ (by simp <;> omega)).trans (by simp)
 have Z1:=in2 s1
 have S1:Hid (Same w w1):=Same.trans (((Same.refl w).alloc _).alloc _) s1
 have BK1:Hid (Blk w1 (w.heap.size + 1) 26 #[.int .i64 0,.int .i64 0,.string ⟨#[]⟩]):=(s1.block _ (by simp <;> omega)).trans (by have h:=Blk.new (w.alloc (.cells #[.int .i64 k0,.int .i64 n0,.string s0] 26)) 26 #[.int .i64 0,.int .i64 0,.string ⟨#[]⟩];rw [show (w.alloc (.cells #[.int .i64 k0,.int .i64 n0,.string s0] 26)).heap.size = w.heap.size + 1 by simp] at h;exact h)
 clear s1
 go_wp2_with fail
 refine (HV2.out _).mono ?_
 rintro e w2 ⟨rfl,s2⟩
 have y2:w.heap.size + 1 < w2.heap.size:=Nat.lt_of_lt_of_le (by simp <;> omega) s2.size
 have z2:w.heap.size < w2.heap.size:=by omega
 have Sw2:Hid (Same w w2):=(S1.out.alloc _).trans s2
 have bk2:=(s2.block _ (by simp <;> omega)).trans (BK1.out.alloc _)
 have BKw2:Hid (Blk w2 (w.heap.size + 1) 26 #[.int .i64 0,.int .i64 0,.string ⟨#[]⟩]):=bk2
 have nk2:Blk w2 w1.heap.size 26 #[.int .i64 kk,.int .i64 n0,.string ⟨#[]⟩]:=(s2.block _ (by simp)).trans (Blk.new w1 _ _)
 have d0:=BKw2.out.cell 0
 have d1:=BKw2.out.cell 1
 have d2:=BKw2.out.cell 2
 have e0:=BKw2.out.frozen 0
 have e1:=BKw2.out.frozen 1
 have e2:=BKw2.out.frozen 2
 have g0:=nk2.cell 0
 have g1:=nk2.cell 1
 have g2:=nk2.cell 2
 have ne2:w1.heap.size ≠ w.heap.size + 1:=by omega
 simp only [List.getElem?_toArray,List.getElem?_cons_zero,List.getElem?_cons_succ] at d0 d1 d2 g0 g1 g2
 clear s2 bk2 nk2 b0 b1
 go_wp2_with fail
 all_goals
  obtain ⟨u0,u1,u2⟩:=set3_at (.int .i64 kk) (.int .i64 n0) (.string ⟨#[]⟩) BKw2.out
  refine bodyPost_ret (v:=.tuple #[.agg #[.int .i64 kk,.int .i64 n0,.string ⟨#[]⟩],.int .i64 0]) ?_ rfl ⟨by rw [HE.out];rfl,?_⟩
  ·simp [results,Tryz.results43,go_sem,u0,u1,u2]
  ·repeat with_reducible first | refine Same.setCell ?_ (by dsimp only;omega) _ | refine Same.drew ?_ | refine Same.alloc ?_ _
   exact Sw2.out
theorem rcast_ok (v:V) (kk:Int) (w:World)  :
  Calls Tryz.prog 43 #[v.val,.int .i64 kk] w fun e w' => e = .returned (.tuple #[(castP v kk).1.val,.int .i64 (castP v kk).2]) ∧ Same w w':=by
 obtain ⟨k0,n0,s0⟩:=v
 cases hok:(⟨k0,n0,s0⟩:V).ok with
 | false => exact rcast_invalid k0 n0 kk s0 w hok (by show castP _ _ = _;unfold castP;rw [hok];rfl)
 | true =>
  by_cases h1:kk < 1
  ·exact rcast_low k0 n0 kk s0 w h1 hok (by show castP _ _ = _;unfold castP;rw [hok,show kindB kk = false by simp [kindB];omega];rfl)
  by_cases h2:4 < kk
  ·exact rcast_high k0 n0 kk s0 w h2 hok (by show castP _ _ = _;unfold castP;rw [hok,show kindB kk = false by simp [kindB];omega];rfl)
  have h1':1 ≤ kk:=by omega
  have h2':kk ≤ 4:=by omega
  have hkb:(!((⟨k0,n0,s0⟩:V).ok && kindB kk)) = false:=by rw [hok];simp [kindB];omega
  have hnb:¬ (!((⟨k0,n0,s0⟩:V).ok && kindB kk)) = true:=by rw [hkb];decide
  have base:castP ⟨k0,n0,s0⟩ kk = if k0 = kk ∨ k0 = 0 then (⟨k0,n0,s0⟩,0) else if kk = 1 then (⟨1,0,(⟨k0,n0,s0⟩:V).txt⟩,0) else if k0 = 1 then (if parseE (ba s0) = 0 ∧ (parseV (ba s0)).k = kk then (parseV (ba s0),0) else (V.zero,15)) else if k0 = 4 ∨ kk = 4 then (V.zero,10) else if (⟨kk,n0,s0⟩:V).ok then (⟨kk,n0,s0⟩,0) else (V.zero,15):=by
   conv => lhs;unfold castP
   rw [if_neg hnb]
  by_cases q0:k0 = 0
  ·subst q0
   exact rcast_null n0 kk s0 w h1' h2' hok (by show castP _ _ = _;rw [base,if_pos (.inr rfl)])
  by_cases q:k0 = kk
  ·exact rcast_same k0 n0 kk s0 w h1' h2' q q0 hok (by show castP _ _ = _;rw [base,if_pos (.inl q)])
  have n0':¬ (k0 = kk ∨ k0 = 0):=fun h => h.elim q q0
  by_cases q1:kk = 1
  ·subst q1
   exact rcast_text k0 n0 s0 w q q0 hok (by show castP _ _ = _;rw [base,if_neg n0',if_pos rfl])
  by_cases q4:k0 = 1
  ·obtain ⟨⟨p0,p1,p2⟩,hp⟩:∃ v,parseV (ba s0) = v:=⟨_,rfl⟩
   rcases parseE_or (ba s0) with hpe | hpe
   ·by_cases q5:p0 = kk
    ·exact rcast_parse_good k0 n0 kk s0 w h1' h2' q q0 q1 q4 p0 p1 p2 hp hpe q5 hok (by show castP _ _ = _;rw [base,if_neg n0',if_neg q1,if_pos q4,if_pos ⟨hpe,by rw [hp];exact q5⟩,hp])
    ·exact rcast_parse_other k0 n0 kk s0 w h1' h2' q q0 q1 q4 p0 p1 p2 hp hpe q5 hok (by show castP _ _ = _;rw [base,if_neg n0',if_neg q1,if_pos q4,if_neg (fun h => q5 (by have:=h.2;rw [hp] at this;exact this))];rfl)
   ·exact rcast_parse_bad k0 n0 kk s0 w h1' h2' q q0 q1 q4 p0 p1 p2 hp hpe hok (by show castP _ _ = _;rw [base,if_neg n0',if_neg q1,if_pos q4,if_neg (fun h => by rw [hpe] at h;exact absurd h.1 (by decide))];rfl)
  by_cases q5:k0 = 4
  ·exact rcast_flag1 k0 n0 kk s0 w h1' h2' q q0 q1 q4 q5 hok (by show castP _ _ = _;rw [base,if_neg n0',if_neg q1,if_neg q4,if_pos (.inl q5)];rfl)
  by_cases q6:kk = 4
  ·exact rcast_flag2 k0 n0 kk s0 w h1' h2' q q0 q1 q4 q5 q6 hok (by show castP _ _ = _;rw [base,if_neg n0',if_neg q1,if_neg q4,if_pos (.inr q6)];rfl)
  have nf:¬ (k0 = 4 ∨ kk = 4):=fun h => h.elim q5 q6
  have hs0:s0 = ⟨#[]⟩:=by
   have h4:=(V.ok_iff.1 hok).1
   rcases h4 with h4 | h4
   ·exact absurd h4 q4
   ·exact (empty_iff s0).2 h4
  subst hs0
  cases hv2:(⟨kk,n0,⟨#[]⟩⟩:V).ok with
  | false => exact rcast_move_bad k0 n0 kk ⟨#[]⟩ w h1' h2' q q0 q1 q4 q5 q6 hv2 hok (by show castP _ _ = _;rw [base,if_neg n0',if_neg q1,if_neg q4,if_neg nf,hv2];rfl)
  | true => exact rcast_move_good k0 n0 kk ⟨#[]⟩ w h1' h2' q q0 q1 q4 q5 q6 hv2 hok (by show castP _ _ = _;rw [base,if_neg n0',if_neg q1,if_neg q4,if_neg nf,hv2];rfl)
end Go.Proofs.YtfifnemnihcijaaGreatDoor

import Derived.Test.YtfifnemnihcijaaGreatDoorKVi
set_option linter.unusedSimpArgs false
set_option linter.unusedVariables false
set_option maxHeartbeats 16000000
set_option maxRecDepth 100000
namespace Go.Proofs.YtfifnemnihcijaaGreatDoor
open Go.RowKit
theorem eqS (s:ByteArray) (l:List UInt8):(s.toList == l) = decide (ba s = l):=by
 rw [ByteArray.toList_eq,Bool.eq_iff_iff,beq_iff_eq,decide_eq_true_eq]
 exact Iff.rfl
theorem set3_same {w:World} {b:Nat} {t:TypeId} {x0 x1 x2:Value} (v0 v1 v2:Value) (h:Blk w b t #[x0,x1,x2]) :
  Blk (((w.setCell ⟨b,0,none⟩ v0).setCell ⟨b,1,none⟩ v1).setCell ⟨b,2,none⟩ v2) b t #[v0,v1,v2]:=
 ((h.set_ 0 v0).set_ 1 v1).set_ 2 v2
theorem parse_vals (t:List UInt8) (v:V) (ok:Bool) (h:parse0 t = (v,ok)):parseV t = (if ok && v.ok then v else V.zero) ∧ parseE t = (if ok && v.ok then 0 else 4):=by
 unfold parseV parseE
 rw [h]
 exact ⟨rfl,rfl⟩
theorem prefix_size {s:ByteArray} {c:UInt8} (h:Lib.hasPrefix (ba s) [c] = true):1 ≤ s.size:=by
 rcases Nat.eq_zero_or_pos s.size with h0 | h0
 ·have:ba s = []:=List.eq_nil_of_length_eq_zero (by rw [ba_length];exact h0)
  rw [this] at h
  simp [Lib.hasPrefix] at h
 ·exact h0
theorem ba_tail (s:ByteArray):ba (s.extract 1 s.size) = (ba s).drop 1:=by
 have:=Lib.extract_data s 1 s.size
 show (s.extract 1 s.size).data.toList = _
 rw [this]
 exact List.take_of_length_le (by rw [List.length_drop];have:s.data.toList.length = s.size:=(by simp);omega)
theorem parse_null (s:ByteArray) (w:World) (l:Laid w) (hs:s.size ≤ 1000000) (q1:ba s = [110,117,108,108]) (h0:parse0 (ba s) = (⟨0,0,⟨#[]⟩⟩,true)) (hv:(⟨0,0,⟨#[]⟩⟩:V).ok = true) :
  Calls Tryz.prog 133 #[.string s] w fun e w' => e = .returned (.tuple #[(parseV (ba s)).val,.int .i64 (parseE (ba s))]) ∧ Same w w':=by
 obtain ⟨he1,he2⟩:=parse_vals (ba s) ⟨0,0,⟨#[]⟩⟩ true h0
 have HV:Hid (Rs 83 #[.agg #[.int .i64 0,.int .i64 0,.string ⟨#[]⟩]] (.bool true)):=fun W => by have:=valid_ok (⟨0,0,⟨#[]⟩⟩:V) W;rw [hv] at this;exact this
 rw [hv] at he1 he2
 have HE1:Hid (parseV (ba s) = ⟨0,0,⟨#[]⟩⟩):=he1
 have HE2:Hid (parseE (ba s) = 0):=he2
 have t1:(s.toList == [110,117,108,108]) = true:=by rw [eqS];exact decide_eq_true q1
 clear he1 he2 h0 hv q1
 go_enter Tryz.func133,Tryz.ntmps133
 go_wp2_with (first
  | (go_at_call 83;refine (HV.out _).mono ?_;rintro e w3 ⟨rfl,s3⟩;have K3:=s3.cells;have F3:=s3.frees;have Z3:w.heap.size + 2 ≤ w3.heap.size:=(by have:=s3.size;simp [World.setCell] at this;omega);have z3:w.heap.size < w3.heap.size:=(by omega);have S3:Hid (Same w w3):=Same.trans (((Same.refl w).alloc _).alloc _) s3;have BK3:Hid (Blk w3 w.heap.size 26 #[.int .i64 0,.int .i64 0,.string ⟨#[]⟩]):=(s3.block _ (by simp <;> omega)).trans ((Blk.new w _ _).alloc _);clear s3))
 all_goals
  obtain ⟨u0,u1,u2⟩:=set3_at (.int .i64 0) (.int .i64 0) (.string ⟨#[]⟩) BK3.out
  refine bodyPost_ret (v:=.tuple #[.agg #[.int .i64 0,.int .i64 0,.string ⟨#[]⟩],.int .i64 0]) ?_ rfl ⟨by rw [HE1.out,HE2.out];rfl,?_⟩
  ·simp [results,Tryz.results133,go_sem,u0,u1,u2]
  ·repeat with_reducible first | refine Same.setCell ?_ (by dsimp only;omega) _ | refine Same.drew ?_ | refine Same.alloc ?_ _
   exact S3.out
theorem parse_true (s:ByteArray) (w:World) (l:Laid w) (hs:s.size ≤ 1000000) (q1:¬ ba s = [110,117,108,108]) (q2:ba s = [116,114,117,101]) (h0:parse0 (ba s) = (⟨4,1,⟨#[]⟩⟩,true)) (hv:(⟨4,1,⟨#[]⟩⟩:V).ok = true) :
  Calls Tryz.prog 133 #[.string s] w fun e w' => e = .returned (.tuple #[(parseV (ba s)).val,.int .i64 (parseE (ba s))]) ∧ Same w w':=by
 obtain ⟨he1,he2⟩:=parse_vals (ba s) ⟨4,1,⟨#[]⟩⟩ true h0
 have HV:Hid (Rs 83 #[.agg #[.int .i64 4,.int .i64 1,.string ⟨#[]⟩]] (.bool true)):=fun W => by have:=valid_ok (⟨4,1,⟨#[]⟩⟩:V) W;rw [hv] at this;exact this
 rw [hv] at he1 he2
 have HE1:Hid (parseV (ba s) = ⟨4,1,⟨#[]⟩⟩):=he1
 have HE2:Hid (parseE (ba s) = 0):=he2
 have t1:(s.toList == [110,117,108,108]) = false:=by rw [eqS];exact decide_eq_false q1
 have t2:(s.toList == [116,114,117,101]) = true:=by rw [eqS];exact decide_eq_true q2
 clear he1 he2 h0 hv q1 q2
 go_enter Tryz.func133,Tryz.ntmps133
 go_wp2_with (first
  | (go_at_call 83;refine (HV.out _).mono ?_;rintro e w3 ⟨rfl,s3⟩;have K3:=s3.cells;have F3:=s3.frees;have Z3:w.heap.size + 2 ≤ w3.heap.size:=(by have:=s3.size;simp [World.setCell] at this;omega);have z3:w.heap.size < w3.heap.size:=(by omega);have S3:Hid (Same w w3):=Same.trans (((Same.refl w).alloc _).alloc _) s3;have BK3:Hid (Blk w3 w.heap.size 26 #[.int .i64 0,.int .i64 0,.string ⟨#[]⟩]):=(s3.block _ (by simp <;> omega)).trans ((Blk.new w _ _).alloc _);clear s3))
 all_goals
  obtain ⟨u0,u1,u2⟩:=set3_at (.int .i64 4) (.int .i64 1) (.string ⟨#[]⟩) BK3.out
  refine bodyPost_ret (v:=.tuple #[.agg #[.int .i64 4,.int .i64 1,.string ⟨#[]⟩],.int .i64 0]) ?_ rfl ⟨by rw [HE1.out,HE2.out];rfl,?_⟩
  ·simp [results,Tryz.results133,go_sem,u0,u1,u2]
  ·repeat with_reducible first | refine Same.setCell ?_ (by dsimp only;omega) _ | refine Same.drew ?_ | refine Same.alloc ?_ _
   exact S3.out
theorem parse_false (s:ByteArray) (w:World) (l:Laid w) (hs:s.size ≤ 1000000) (q1:¬ ba s = [110,117,108,108]) (q2:¬ ba s = [116,114,117,101]) (q3:ba s = [102,97,108,115,101]) (h0:parse0 (ba s) = (⟨4,0,⟨#[]⟩⟩,true)) (hv:(⟨4,0,⟨#[]⟩⟩:V).ok = true) :
  Calls Tryz.prog 133 #[.string s] w fun e w' => e = .returned (.tuple #[(parseV (ba s)).val,.int .i64 (parseE (ba s))]) ∧ Same w w':=by
 obtain ⟨he1,he2⟩:=parse_vals (ba s) ⟨4,0,⟨#[]⟩⟩ true h0
 have HV:Hid (Rs 83 #[.agg #[.int .i64 4,.int .i64 0,.string ⟨#[]⟩]] (.bool true)):=fun W => by have:=valid_ok (⟨4,0,⟨#[]⟩⟩:V) W;rw [hv] at this;exact this
 rw [hv] at he1 he2
 have HE1:Hid (parseV (ba s) = ⟨4,0,⟨#[]⟩⟩):=he1
 have HE2:Hid (parseE (ba s) = 0):=he2
 have t1:(s.toList == [110,117,108,108]) = false:=by rw [eqS];exact decide_eq_false q1
 have t2:(s.toList == [116,114,117,101]) = false:=by rw [eqS];exact decide_eq_false q2
 have t3:(s.toList == [102,97,108,115,101]) = true:=by rw [eqS];exact decide_eq_true q3
 clear he1 he2 h0 hv q1 q2 q3
 go_enter Tryz.func133,Tryz.ntmps133
 go_wp2_with (first
  | (go_at_call 83;refine (HV.out _).mono ?_;rintro e w3 ⟨rfl,s3⟩;have K3:=s3.cells;have F3:=s3.frees;have Z3:w.heap.size + 2 ≤ w3.heap.size:=(by have:=s3.size;simp [World.setCell] at this;omega);have z3:w.heap.size < w3.heap.size:=(by omega);have S3:Hid (Same w w3):=Same.trans (((Same.refl w).alloc _).alloc _) s3;have BK3:Hid (Blk w3 w.heap.size 26 #[.int .i64 0,.int .i64 0,.string ⟨#[]⟩]):=(s3.block _ (by simp <;> omega)).trans ((Blk.new w _ _).alloc _);clear s3))
 all_goals
  obtain ⟨u0,u1,u2⟩:=set3_at (.int .i64 4) (.int .i64 0) (.string ⟨#[]⟩) BK3.out
  refine bodyPost_ret (v:=.tuple #[.agg #[.int .i64 4,.int .i64 0,.string ⟨#[]⟩],.int .i64 0]) ?_ rfl ⟨by rw [HE1.out,HE2.out];rfl,?_⟩
  ·simp [results,Tryz.results133,go_sem,u0,u1,u2]
  ·repeat with_reducible first | refine Same.setCell ?_ (by dsimp only;omega) _ | refine Same.drew ?_ | refine Same.alloc ?_ _
   exact S3.out
theorem parse_day_n (s:ByteArray) (w:World) (l:Laid w) (hs:s.size ≤ 1000000) (q1:¬ ba s = [110,117,108,108]) (q2:¬ ba s = [116,114,117,101]) (q3:¬ ba s = [102,97,108,115,101]) (p1:Lib.hasPrefix (ba s) [64] = true) (d:decB ((ba s).drop 1) = false) (h0:parse0 (ba s) = (⟨3,(atoiV ((ba s).drop 1)),⟨#[]⟩⟩,false)) :
  Calls Tryz.prog 133 #[.string s] w fun e w' => e = .returned (.tuple #[(parseV (ba s)).val,.int .i64 (parseE (ba s))]) ∧ Same w w':=by
 obtain ⟨he1,he2⟩:=parse_vals (ba s) ⟨3,(atoiV ((ba s).drop 1)),⟨#[]⟩⟩ false h0
 have HE1:Hid (parseV (ba s) = V.zero):=he1
 have HE2:Hid (parseE (ba s) = 4):=he2
 have t1:(s.toList == [110,117,108,108]) = false:=by rw [eqS];exact decide_eq_false q1
 have t2:(s.toList == [116,114,117,101]) = false:=by rw [eqS];exact decide_eq_false q2
 have t3:(s.toList == [102,97,108,115,101]) = false:=by rw [eqS];exact decide_eq_false q3
 have HP:Hid (∀ (p:ByteArray) (W:World),Calls Tryz.prog 144 #[.string s,.string p] W fun e w' => e = .returned (.bool (Lib.hasPrefix (ba s) (ba p))) ∧ W = w'):=fun p W => (Tryz.strings_HasPrefix s p W).mono fun e w' ⟨h1,h2⟩ => ⟨h1,h2.symm⟩
 have P1:Hid (Lib.hasPrefix (ba s) (ba ⟨#[64]⟩) = true):=p1
 have h1:=prefix_size p1
 have HD:Hid (Rt 145 #[.string (s.extract 1 s.size)] w (.tuple #[.int .i64 (atoiV ((ba s).drop 1)),.bool false])):=fun W t => by
  have:=decimal_ok (s.extract 1 s.size) (by simp;omega) W (l.same t)
  rw [ba_tail,d] at this
  exact this
 generalize atoiV ((ba s).drop 1) = n4 at HD
 clear he1 he2 h0 q1 q2 q3 p1 d
 go_enter Tryz.func133,Tryz.ntmps133
 go_wp2_with (first
  | (go_at_call 144;refine (HP.out _ _).mono ?_;rintro e w1 ⟨he1,rfl⟩;first | (rw [P1.out] at he1;subst he1) | (rw [P2.out] at he1;subst he1))
  | (go_at_call 145;refine (HD.out _ ?_).mono ?_;exact ((Same.refl w).alloc _).alloc _;rintro e w2 ⟨rfl,s2⟩;have K2:=s2.cells;have F2:=s2.frees;have Z2:w.heap.size + 2 ≤ w2.heap.size:=(by have:=s2.size;simp at this;omega);have z2:w.heap.size < w2.heap.size:=(by omega);have z2':w.heap.size + 1 < w2.heap.size:=(by omega);have S2:=Lib.hid ((((Same.refl w).alloc _).alloc _).trans s2);have BK2:Hid (Blk w2 w.heap.size 26 #[.int .i64 0,.int .i64 0,.string ⟨#[]⟩]):=(s2.block _ (by simp <;> omega)).trans ((Blk.new w _ _).alloc _);clear s2))
 all_goals
  have U:=set3_same (.int .i64 0) (.int .i64 0) (.string ⟨#[]⟩) (Blk.far (p:=⟨w.heap.size + 1,1,none⟩) BK2.out (by show w.heap.size ≠ w.heap.size + 1;omega) (.int .i64 n4))
  have u0:_ = some (Value.int .i64 0):=U.cell 0
  have u1:_ = some (Value.int .i64 0):=U.cell 1
  have u2:_ = some (Value.string ⟨#[]⟩):=U.cell 2
  refine bodyPost_ret (v:=.tuple #[.agg #[.int .i64 0,.int .i64 0,.string ⟨#[]⟩],.int .i64 4]) ?_ rfl ⟨by rw [HE1.out,HE2.out];rfl,?_⟩
  ·simp [results,Tryz.results133,go_sem,u0,u1,u2]
  ·repeat with_reducible first | refine Same.setCell ?_ (by dsimp only;omega) _ | refine Same.drew ?_ | refine Same.alloc ?_ _
   exact S2.out
theorem parse_text_n (s:ByteArray) (w:World) (l:Laid w) (hs:s.size ≤ 1000000) (q1:¬ ba s = [110,117,108,108]) (q2:¬ ba s = [116,114,117,101]) (q3:¬ ba s = [102,97,108,115,101]) (p1:Lib.hasPrefix (ba s) [64] = false) (p2:Lib.hasPrefix (ba s) [34] = true) (d:(contentV (ba s)).2 = false) (h0:parse0 (ba s) = (⟨1,0,(mkB (contentV (ba s)).1)⟩,false)) :
  Calls Tryz.prog 133 #[.string s] w fun e w' => e = .returned (.tuple #[(parseV (ba s)).val,.int .i64 (parseE (ba s))]) ∧ Same w w':=by
 obtain ⟨he1,he2⟩:=parse_vals (ba s) ⟨1,0,(mkB (contentV (ba s)).1)⟩ false h0
 have HE1:Hid (parseV (ba s) = V.zero):=he1
 have HE2:Hid (parseE (ba s) = 4):=he2
 have t1:(s.toList == [110,117,108,108]) = false:=by rw [eqS];exact decide_eq_false q1
 have t2:(s.toList == [116,114,117,101]) = false:=by rw [eqS];exact decide_eq_false q2
 have t3:(s.toList == [102,97,108,115,101]) = false:=by rw [eqS];exact decide_eq_false q3
 have HP:Hid (∀ (p:ByteArray) (W:World),Calls Tryz.prog 144 #[.string s,.string p] W fun e w' => e = .returned (.bool (Lib.hasPrefix (ba s) (ba p))) ∧ W = w'):=fun p W => (Tryz.strings_HasPrefix s p W).mono fun e w' ⟨h1,h2⟩ => ⟨h1,h2.symm⟩
 have P1:Hid (Lib.hasPrefix (ba s) (ba ⟨#[64]⟩) = false):=p1
 have P2:Hid (Lib.hasPrefix (ba s) (ba ⟨#[34]⟩) = true):=p2
 have HD:Hid (Rt 146 #[.string s] w (.tuple #[.string (mkB (contentV (ba s)).1),.bool false])):=fun W _ => by
  have:=content_ok s W hs
  rw [d] at this
  exact this
 generalize mkB (contentV (ba s)).1 = n4 at HD
 clear he1 he2 h0 q1 q2 q3 p1 p2 d
 go_enter Tryz.func133,Tryz.ntmps133
 go_wp2_with (first
  | (go_at_call 144;refine (HP.out _ _).mono ?_;rintro e w1 ⟨he1,rfl⟩;first | (rw [P1.out] at he1;subst he1) | (rw [P2.out] at he1;subst he1))
  | (go_at_call 146;refine (HD.out _ ?_).mono ?_;exact ((Same.refl w).alloc _).alloc _;rintro e w2 ⟨rfl,s2⟩;have K2:=s2.cells;have F2:=s2.frees;have Z2:w.heap.size + 2 ≤ w2.heap.size:=(by have:=s2.size;simp at this;omega);have z2:w.heap.size < w2.heap.size:=(by omega);have z2':w.heap.size + 1 < w2.heap.size:=(by omega);have S2:=Lib.hid ((((Same.refl w).alloc _).alloc _).trans s2);have BK2:Hid (Blk w2 w.heap.size 26 #[.int .i64 0,.int .i64 0,.string ⟨#[]⟩]):=(s2.block _ (by simp <;> omega)).trans ((Blk.new w _ _).alloc _);clear s2))
 all_goals
  have U:=set3_same (.int .i64 0) (.int .i64 0) (.string ⟨#[]⟩) (Blk.far (p:=⟨w.heap.size + 1,2,none⟩) BK2.out (by show w.heap.size ≠ w.heap.size + 1;omega) (.string n4))
  have u0:_ = some (Value.int .i64 0):=U.cell 0
  have u1:_ = some (Value.int .i64 0):=U.cell 1
  have u2:_ = some (Value.string ⟨#[]⟩):=U.cell 2
  refine bodyPost_ret (v:=.tuple #[.agg #[.int .i64 0,.int .i64 0,.string ⟨#[]⟩],.int .i64 4]) ?_ rfl ⟨by rw [HE1.out,HE2.out];rfl,?_⟩
  ·simp [results,Tryz.results133,go_sem,u0,u1,u2]
  ·repeat with_reducible first | refine Same.setCell ?_ (by dsimp only;omega) _ | refine Same.drew ?_ | refine Same.alloc ?_ _
   exact S2.out
theorem parse_num_n (s:ByteArray) (w:World) (l:Laid w) (hs:s.size ≤ 1000000) (q1:¬ ba s = [110,117,108,108]) (q2:¬ ba s = [116,114,117,101]) (q3:¬ ba s = [102,97,108,115,101]) (p1:Lib.hasPrefix (ba s) [64] = false) (p2:Lib.hasPrefix (ba s) [34] = false) (d:decB (ba s) = false) (h0:parse0 (ba s) = (⟨2,(atoiV (ba s)),⟨#[]⟩⟩,false)) :
  Calls Tryz.prog 133 #[.string s] w fun e w' => e = .returned (.tuple #[(parseV (ba s)).val,.int .i64 (parseE (ba s))]) ∧ Same w w':=by
 obtain ⟨he1,he2⟩:=parse_vals (ba s) ⟨2,(atoiV (ba s)),⟨#[]⟩⟩ false h0
 have HE1:Hid (parseV (ba s) = V.zero):=he1
 have HE2:Hid (parseE (ba s) = 4):=he2
 have t1:(s.toList == [110,117,108,108]) = false:=by rw [eqS];exact decide_eq_false q1
 have t2:(s.toList == [116,114,117,101]) = false:=by rw [eqS];exact decide_eq_false q2
 have t3:(s.toList == [102,97,108,115,101]) = false:=by rw [eqS];exact decide_eq_false q3
 have HP:Hid (∀ (p:ByteArray) (W:World),Calls Tryz.prog 144 #[.string s,.string p] W fun e w' => e = .returned (.bool (Lib.hasPrefix (ba s) (ba p))) ∧ W = w'):=fun p W => (Tryz.strings_HasPrefix s p W).mono fun e w' ⟨h1,h2⟩ => ⟨h1,h2.symm⟩
 have P1:Hid (Lib.hasPrefix (ba s) (ba ⟨#[64]⟩) = false):=p1
 have P2:Hid (Lib.hasPrefix (ba s) (ba ⟨#[34]⟩) = false):=p2
 have HD:Hid (Rt 145 #[.string s] w (.tuple #[.int .i64 (atoiV (ba s)),.bool false])):=fun W t => by
  have:=decimal_ok s (by omega) W (l.same t)
  rw [d] at this
  exact this
 generalize atoiV (ba s) = n4 at HD
 clear he1 he2 h0 q1 q2 q3 p1 p2 d
 go_enter Tryz.func133,Tryz.ntmps133
 go_wp2_with (first
  | (go_at_call 144;refine (HP.out _ _).mono ?_;rintro e w1 ⟨he1,rfl⟩;first | (rw [P1.out] at he1;subst he1) | (rw [P2.out] at he1;subst he1))
  | (go_at_call 145;refine (HD.out _ ?_).mono ?_;exact ((Same.refl w).alloc _).alloc _;rintro e w2 ⟨rfl,s2⟩;have K2:=s2.cells;have F2:=s2.frees;have Z2:w.heap.size + 2 ≤ w2.heap.size:=(by have:=s2.size;simp at this;omega);have z2:w.heap.size < w2.heap.size:=(by omega);have z2':w.heap.size + 1 < w2.heap.size:=(by omega);have S2:=Lib.hid ((((Same.refl w).alloc _).alloc _).trans s2);have BK2:Hid (Blk w2 w.heap.size 26 #[.int .i64 0,.int .i64 0,.string ⟨#[]⟩]):=(s2.block _ (by simp <;> omega)).trans ((Blk.new w _ _).alloc _);clear s2))
 all_goals
  have U:=set3_same (.int .i64 0) (.int .i64 0) (.string ⟨#[]⟩) (Blk.far (p:=⟨w.heap.size + 1,1,none⟩) BK2.out (by show w.heap.size ≠ w.heap.size + 1;omega) (.int .i64 n4))
  have u0:_ = some (Value.int .i64 0):=U.cell 0
  have u1:_ = some (Value.int .i64 0):=U.cell 1
  have u2:_ = some (Value.string ⟨#[]⟩):=U.cell 2
  refine bodyPost_ret (v:=.tuple #[.agg #[.int .i64 0,.int .i64 0,.string ⟨#[]⟩],.int .i64 4]) ?_ rfl ⟨by rw [HE1.out,HE2.out];rfl,?_⟩
  ·simp [results,Tryz.results133,go_sem,u0,u1,u2]
  ·repeat with_reducible first | refine Same.setCell ?_ (by dsimp only;omega) _ | refine Same.drew ?_ | refine Same.alloc ?_ _
   exact S2.out
theorem parse_day_b (s:ByteArray) (w:World) (l:Laid w) (hs:s.size ≤ 1000000) (q1:¬ ba s = [110,117,108,108]) (q2:¬ ba s = [116,114,117,101]) (q3:¬ ba s = [102,97,108,115,101]) (p1:Lib.hasPrefix (ba s) [64] = true) (d:decB ((ba s).drop 1) = true) (h0:parse0 (ba s) = (⟨3,(atoiV ((ba s).drop 1)),⟨#[]⟩⟩,true)) (hv:(⟨3,(atoiV ((ba s).drop 1)),⟨#[]⟩⟩:V).ok = false) :
  Calls Tryz.prog 133 #[.string s] w fun e w' => e = .returned (.tuple #[(parseV (ba s)).val,.int .i64 (parseE (ba s))]) ∧ Same w w':=by
 obtain ⟨he1,he2⟩:=parse_vals (ba s) ⟨3,(atoiV ((ba s).drop 1)),⟨#[]⟩⟩ true h0
 have HV:Hid (Rs 83 #[.agg #[.int .i64 3,.int .i64 (atoiV ((ba s).drop 1)),.string ⟨#[]⟩]] (.bool false)):=fun W => by have:=valid_ok (⟨3,(atoiV ((ba s).drop 1)),⟨#[]⟩⟩:V) W;rw [hv] at this;exact this
 rw [hv] at he1 he2
 have HE1:Hid (parseV (ba s) = V.zero):=he1
 have HE2:Hid (parseE (ba s) = 4):=he2
 have t1:(s.toList == [110,117,108,108]) = false:=by rw [eqS];exact decide_eq_false q1
 have t2:(s.toList == [116,114,117,101]) = false:=by rw [eqS];exact decide_eq_false q2
 have t3:(s.toList == [102,97,108,115,101]) = false:=by rw [eqS];exact decide_eq_false q3
 have HP:Hid (∀ (p:ByteArray) (W:World),Calls Tryz.prog 144 #[.string s,.string p] W fun e w' => e = .returned (.bool (Lib.hasPrefix (ba s) (ba p))) ∧ W = w'):=fun p W => (Tryz.strings_HasPrefix s p W).mono fun e w' ⟨h1,h2⟩ => ⟨h1,h2.symm⟩
 have P1:Hid (Lib.hasPrefix (ba s) (ba ⟨#[64]⟩) = true):=p1
 have h1:=prefix_size p1
 have HD:Hid (Rt 145 #[.string (s.extract 1 s.size)] w (.tuple #[.int .i64 (atoiV ((ba s).drop 1)),.bool true])):=fun W t => by
  have:=decimal_ok (s.extract 1 s.size) (by simp;omega) W (l.same t)
  rw [ba_tail,d] at this
  exact this
 generalize atoiV ((ba s).drop 1) = n4 at HD HV
 clear he1 he2 h0 hv q1 q2 q3 p1 d
 go_enter Tryz.func133,Tryz.ntmps133
 go_wp2_with (first
  | (go_at_call 144;refine (HP.out _ _).mono ?_;rintro e w1 ⟨he1,rfl⟩;first | (rw [P1.out] at he1;subst he1) | (rw [P2.out] at he1;subst he1))
  | (go_at_call 145;refine (HD.out _ ?_).mono ?_;exact ((Same.refl w).alloc _).alloc _;rintro e w2 ⟨rfl,s2⟩;have K2:=s2.cells;have F2:=s2.frees;have Z2:w.heap.size + 2 ≤ w2.heap.size:=(by have:=s2.size;simp at this;omega);have z2:w.heap.size < w2.heap.size:=(by omega);have z2':w.heap.size + 1 < w2.heap.size:=(by omega);have S2:=Lib.hid ((((Same.refl w).alloc _).alloc _).trans s2);have BK2:Hid (Blk w2 w.heap.size 26 #[.int .i64 0,.int .i64 0,.string ⟨#[]⟩]):=(s2.block _ (by simp <;> omega)).trans ((Blk.new w _ _).alloc _);clear s2)
  | (go_at_call 83;refine (HV.out _).mono ?_;rintro e w3 ⟨rfl,s3⟩;have K3:=s3.cells;have F3:=s3.frees;have Z3:w.heap.size + 2 ≤ w3.heap.size:=(by have:=s3.size;simp [World.setCell] at this;omega);have z3:w.heap.size < w3.heap.size:=(by omega);have S3:Hid (Same w w3):=Same.trans (by refine Same.setCell S2.out ?_ _;exact Nat.le_succ _) s3;have BK3:Hid (Blk w3 w.heap.size 26 #[.int .i64 0,.int .i64 0,.string ⟨#[]⟩]):=(s3.block _ (by simp [World.setCell] <;> omega)).trans (Blk.far BK2.out (by dsimp only;omega) _);clear s3))
 all_goals
  obtain ⟨u0,u1,u2⟩:=set3_at (.int .i64 0) (.int .i64 0) (.string ⟨#[]⟩) BK3.out
  refine bodyPost_ret (v:=.tuple #[.agg #[.int .i64 0,.int .i64 0,.string ⟨#[]⟩],.int .i64 4]) ?_ rfl ⟨by rw [HE1.out,HE2.out];rfl,?_⟩
  ·simp [results,Tryz.results133,go_sem,u0,u1,u2]
  ·repeat with_reducible first | refine Same.setCell ?_ (by dsimp only;omega) _ | refine Same.drew ?_ | refine Same.alloc ?_ _
   exact S3.out
theorem parse_text_b (s:ByteArray) (w:World) (l:Laid w) (hs:s.size ≤ 1000000) (q1:¬ ba s = [110,117,108,108]) (q2:¬ ba s = [116,114,117,101]) (q3:¬ ba s = [102,97,108,115,101]) (p1:Lib.hasPrefix (ba s) [64] = false) (p2:Lib.hasPrefix (ba s) [34] = true) (d:(contentV (ba s)).2 = true) (h0:parse0 (ba s) = (⟨1,0,(mkB (contentV (ba s)).1)⟩,true)) (hv:(⟨1,0,(mkB (contentV (ba s)).1)⟩:V).ok = false) :
  Calls Tryz.prog 133 #[.string s] w fun e w' => e = .returned (.tuple #[(parseV (ba s)).val,.int .i64 (parseE (ba s))]) ∧ Same w w':=by
 obtain ⟨he1,he2⟩:=parse_vals (ba s) ⟨1,0,(mkB (contentV (ba s)).1)⟩ true h0
 have HV:Hid (Rs 83 #[.agg #[.int .i64 1,.int .i64 0,.string (mkB (contentV (ba s)).1)]] (.bool false)):=fun W => by have:=valid_ok (⟨1,0,(mkB (contentV (ba s)).1)⟩:V) W;rw [hv] at this;exact this
 rw [hv] at he1 he2
 have HE1:Hid (parseV (ba s) = V.zero):=he1
 have HE2:Hid (parseE (ba s) = 4):=he2
 have t1:(s.toList == [110,117,108,108]) = false:=by rw [eqS];exact decide_eq_false q1
 have t2:(s.toList == [116,114,117,101]) = false:=by rw [eqS];exact decide_eq_false q2
 have t3:(s.toList == [102,97,108,115,101]) = false:=by rw [eqS];exact decide_eq_false q3
 have HP:Hid (∀ (p:ByteArray) (W:World),Calls Tryz.prog 144 #[.string s,.string p] W fun e w' => e = .returned (.bool (Lib.hasPrefix (ba s) (ba p))) ∧ W = w'):=fun p W => (Tryz.strings_HasPrefix s p W).mono fun e w' ⟨h1,h2⟩ => ⟨h1,h2.symm⟩
 have P1:Hid (Lib.hasPrefix (ba s) (ba ⟨#[64]⟩) = false):=p1
 have P2:Hid (Lib.hasPrefix (ba s) (ba ⟨#[34]⟩) = true):=p2
 have HD:Hid (Rt 146 #[.string s] w (.tuple #[.string (mkB (contentV (ba s)).1),.bool true])):=fun W _ => by
  have:=content_ok s W hs
  rw [d] at this
  exact this
 generalize mkB (contentV (ba s)).1 = n4 at HD HV
 clear he1 he2 h0 hv q1 q2 q3 p1 p2 d
 go_enter Tryz.func133,Tryz.ntmps133
 go_wp2_with (first
  | (go_at_call 144;refine (HP.out _ _).mono ?_;rintro e w1 ⟨he1,rfl⟩;first | (rw [P1.out] at he1;subst he1) | (rw [P2.out] at he1;subst he1))
  | (go_at_call 146;refine (HD.out _ ?_).mono ?_;exact ((Same.refl w).alloc _).alloc _;rintro e w2 ⟨rfl,s2⟩;have K2:=s2.cells;have F2:=s2.frees;have Z2:w.heap.size + 2 ≤ w2.heap.size:=(by have:=s2.size;simp at this;omega);have z2:w.heap.size < w2.heap.size:=(by omega);have z2':w.heap.size + 1 < w2.heap.size:=(by omega);have S2:=Lib.hid ((((Same.refl w).alloc _).alloc _).trans s2);have BK2:Hid (Blk w2 w.heap.size 26 #[.int .i64 0,.int .i64 0,.string ⟨#[]⟩]):=(s2.block _ (by simp <;> omega)).trans ((Blk.new w _ _).alloc _);clear s2)
  | (go_at_call 83;refine (HV.out _).mono ?_;rintro e w3 ⟨rfl,s3⟩;have K3:=s3.cells;have F3:=s3.frees;have Z3:w.heap.size + 2 ≤ w3.heap.size:=(by have:=s3.size;simp [World.setCell] at this;omega);have z3:w.heap.size < w3.heap.size:=(by omega);have S3:Hid (Same w w3):=Same.trans (by refine Same.setCell S2.out ?_ _;exact Nat.le_succ _) s3;have BK3:Hid (Blk w3 w.heap.size 26 #[.int .i64 0,.int .i64 0,.string ⟨#[]⟩]):=(s3.block _ (by simp [World.setCell] <;> omega)).trans (Blk.far BK2.out (by dsimp only;omega) _);clear s3))
 all_goals
  obtain ⟨u0,u1,u2⟩:=set3_at (.int .i64 0) (.int .i64 0) (.string ⟨#[]⟩) BK3.out
  refine bodyPost_ret (v:=.tuple #[.agg #[.int .i64 0,.int .i64 0,.string ⟨#[]⟩],.int .i64 4]) ?_ rfl ⟨by rw [HE1.out,HE2.out];rfl,?_⟩
  ·simp [results,Tryz.results133,go_sem,u0,u1,u2]
  ·repeat with_reducible first | refine Same.setCell ?_ (by dsimp only;omega) _ | refine Same.drew ?_ | refine Same.alloc ?_ _
   exact S3.out
theorem parse_num_b (s:ByteArray) (w:World) (l:Laid w) (hs:s.size ≤ 1000000) (q1:¬ ba s = [110,117,108,108]) (q2:¬ ba s = [116,114,117,101]) (q3:¬ ba s = [102,97,108,115,101]) (p1:Lib.hasPrefix (ba s) [64] = false) (p2:Lib.hasPrefix (ba s) [34] = false) (d:decB (ba s) = true) (h0:parse0 (ba s) = (⟨2,(atoiV (ba s)),⟨#[]⟩⟩,true)) (hv:(⟨2,(atoiV (ba s)),⟨#[]⟩⟩:V).ok = false) :
  Calls Tryz.prog 133 #[.string s] w fun e w' => e = .returned (.tuple #[(parseV (ba s)).val,.int .i64 (parseE (ba s))]) ∧ Same w w':=by
 obtain ⟨he1,he2⟩:=parse_vals (ba s) ⟨2,(atoiV (ba s)),⟨#[]⟩⟩ true h0
 have HV:Hid (Rs 83 #[.agg #[.int .i64 2,.int .i64 (atoiV (ba s)),.string ⟨#[]⟩]] (.bool false)):=fun W => by have:=valid_ok (⟨2,(atoiV (ba s)),⟨#[]⟩⟩:V) W;rw [hv] at this;exact this
 rw [hv] at he1 he2
 have HE1:Hid (parseV (ba s) = V.zero):=he1
 have HE2:Hid (parseE (ba s) = 4):=he2
 have t1:(s.toList == [110,117,108,108]) = false:=by rw [eqS];exact decide_eq_false q1
 have t2:(s.toList == [116,114,117,101]) = false:=by rw [eqS];exact decide_eq_false q2
 have t3:(s.toList == [102,97,108,115,101]) = false:=by rw [eqS];exact decide_eq_false q3
 have HP:Hid (∀ (p:ByteArray) (W:World),Calls Tryz.prog 144 #[.string s,.string p] W fun e w' => e = .returned (.bool (Lib.hasPrefix (ba s) (ba p))) ∧ W = w'):=fun p W => (Tryz.strings_HasPrefix s p W).mono fun e w' ⟨h1,h2⟩ => ⟨h1,h2.symm⟩
 have P1:Hid (Lib.hasPrefix (ba s) (ba ⟨#[64]⟩) = false):=p1
 have P2:Hid (Lib.hasPrefix (ba s) (ba ⟨#[34]⟩) = false):=p2
 have HD:Hid (Rt 145 #[.string s] w (.tuple #[.int .i64 (atoiV (ba s)),.bool true])):=fun W t => by
  have:=decimal_ok s (by omega) W (l.same t)
  rw [d] at this
  exact this
 generalize atoiV (ba s) = n4 at HD HV
 clear he1 he2 h0 hv q1 q2 q3 p1 p2 d
 go_enter Tryz.func133,Tryz.ntmps133
 go_wp2_with (first
  | (go_at_call 144;refine (HP.out _ _).mono ?_;rintro e w1 ⟨he1,rfl⟩;first | (rw [P1.out] at he1;subst he1) | (rw [P2.out] at he1;subst he1))
  | (go_at_call 145;refine (HD.out _ ?_).mono ?_;exact ((Same.refl w).alloc _).alloc _;rintro e w2 ⟨rfl,s2⟩;have K2:=s2.cells;have F2:=s2.frees;have Z2:w.heap.size + 2 ≤ w2.heap.size:=(by have:=s2.size;simp at this;omega);have z2:w.heap.size < w2.heap.size:=(by omega);have z2':w.heap.size + 1 < w2.heap.size:=(by omega);have S2:=Lib.hid ((((Same.refl w).alloc _).alloc _).trans s2);have BK2:Hid (Blk w2 w.heap.size 26 #[.int .i64 0,.int .i64 0,.string ⟨#[]⟩]):=(s2.block _ (by simp <;> omega)).trans ((Blk.new w _ _).alloc _);clear s2)
  | (go_at_call 83;refine (HV.out _).mono ?_;rintro e w3 ⟨rfl,s3⟩;have K3:=s3.cells;have F3:=s3.frees;have Z3:w.heap.size + 2 ≤ w3.heap.size:=(by have:=s3.size;simp [World.setCell] at this;omega);have z3:w.heap.size < w3.heap.size:=(by omega);have S3:Hid (Same w w3):=Same.trans (by refine Same.setCell S2.out ?_ _;exact Nat.le_succ _) s3;have BK3:Hid (Blk w3 w.heap.size 26 #[.int .i64 0,.int .i64 0,.string ⟨#[]⟩]):=(s3.block _ (by simp [World.setCell] <;> omega)).trans (Blk.far BK2.out (by dsimp only;omega) _);clear s3))
 all_goals
  obtain ⟨u0,u1,u2⟩:=set3_at (.int .i64 0) (.int .i64 0) (.string ⟨#[]⟩) BK3.out
  refine bodyPost_ret (v:=.tuple #[.agg #[.int .i64 0,.int .i64 0,.string ⟨#[]⟩],.int .i64 4]) ?_ rfl ⟨by rw [HE1.out,HE2.out];rfl,?_⟩
  ·simp [results,Tryz.results133,go_sem,u0,u1,u2]
  ·repeat with_reducible first | refine Same.setCell ?_ (by dsimp only;omega) _ | refine Same.drew ?_ | refine Same.alloc ?_ _
   exact S3.out
theorem parse_day_g (s:ByteArray) (w:World) (l:Laid w) (hs:s.size ≤ 1000000) (q1:¬ ba s = [110,117,108,108]) (q2:¬ ba s = [116,114,117,101]) (q3:¬ ba s = [102,97,108,115,101]) (p1:Lib.hasPrefix (ba s) [64] = true) (d:decB ((ba s).drop 1) = true) (h0:parse0 (ba s) = (⟨3,(atoiV ((ba s).drop 1)),⟨#[]⟩⟩,true)) (hv:(⟨3,(atoiV ((ba s).drop 1)),⟨#[]⟩⟩:V).ok = true) :
  Calls Tryz.prog 133 #[.string s] w fun e w' => e = .returned (.tuple #[(parseV (ba s)).val,.int .i64 (parseE (ba s))]) ∧ Same w w':=by
 obtain ⟨he1,he2⟩:=parse_vals (ba s) ⟨3,(atoiV ((ba s).drop 1)),⟨#[]⟩⟩ true h0
 have HV:Hid (Rs 83 #[.agg #[.int .i64 3,.int .i64 (atoiV ((ba s).drop 1)),.string ⟨#[]⟩]] (.bool true)):=fun W => by have:=valid_ok (⟨3,(atoiV ((ba s).drop 1)),⟨#[]⟩⟩:V) W;rw [hv] at this;exact this
 rw [hv] at he1 he2
 have HE1:Hid (parseV (ba s) = ⟨3,(atoiV ((ba s).drop 1)),⟨#[]⟩⟩):=he1
 have HE2:Hid (parseE (ba s) = 0):=he2
 have t1:(s.toList == [110,117,108,108]) = false:=by rw [eqS];exact decide_eq_false q1
 have t2:(s.toList == [116,114,117,101]) = false:=by rw [eqS];exact decide_eq_false q2
 have t3:(s.toList == [102,97,108,115,101]) = false:=by rw [eqS];exact decide_eq_false q3
 have HP:Hid (∀ (p:ByteArray) (W:World),Calls Tryz.prog 144 #[.string s,.string p] W fun e w' => e = .returned (.bool (Lib.hasPrefix (ba s) (ba p))) ∧ W = w'):=fun p W => (Tryz.strings_HasPrefix s p W).mono fun e w' ⟨h1,h2⟩ => ⟨h1,h2.symm⟩
 have P1:Hid (Lib.hasPrefix (ba s) (ba ⟨#[64]⟩) = true):=p1
 have h1:=prefix_size p1
 have HD:Hid (Rt 145 #[.string (s.extract 1 s.size)] w (.tuple #[.int .i64 (atoiV ((ba s).drop 1)),.bool true])):=fun W t => by
  have:=decimal_ok (s.extract 1 s.size) (by simp;omega) W (l.same t)
  rw [ba_tail,d] at this
  exact this
 generalize atoiV ((ba s).drop 1) = n4 at HD HV HE1
 clear he1 he2 h0 hv q1 q2 q3 p1 d
 go_enter Tryz.func133,Tryz.ntmps133
 go_wp2_with (first
  | (go_at_call 144;refine (HP.out _ _).mono ?_;rintro e w1 ⟨he1,rfl⟩;first | (rw [P1.out] at he1;subst he1) | (rw [P2.out] at he1;subst he1))
  | (go_at_call 145;refine (HD.out _ ?_).mono ?_;exact ((Same.refl w).alloc _).alloc _;rintro e w2 ⟨rfl,s2⟩;have K2:=s2.cells;have F2:=s2.frees;have Z2:w.heap.size + 2 ≤ w2.heap.size:=(by have:=s2.size;simp at this;omega);have z2:w.heap.size < w2.heap.size:=(by omega);have z2':w.heap.size + 1 < w2.heap.size:=(by omega);have S2:=Lib.hid ((((Same.refl w).alloc _).alloc _).trans s2);have BK2:Hid (Blk w2 w.heap.size 26 #[.int .i64 0,.int .i64 0,.string ⟨#[]⟩]):=(s2.block _ (by simp <;> omega)).trans ((Blk.new w _ _).alloc _);clear s2)
  | (go_at_call 83;refine (HV.out _).mono ?_;rintro e w3 ⟨rfl,s3⟩;have K3:=s3.cells;have F3:=s3.frees;have Z3:w.heap.size + 2 ≤ w3.heap.size:=(by have:=s3.size;simp [World.setCell] at this;omega);have z3:w.heap.size < w3.heap.size:=(by omega);have S3:Hid (Same w w3):=Same.trans (by refine Same.setCell S2.out ?_ _;exact Nat.le_succ _) s3;have BK3:Hid (Blk w3 w.heap.size 26 #[.int .i64 0,.int .i64 0,.string ⟨#[]⟩]):=(s3.block _ (by simp [World.setCell] <;> omega)).trans (Blk.far BK2.out (by dsimp only;omega) _);clear s3))
 all_goals
  obtain ⟨u0,u1,u2⟩:=set3_at (.int .i64 3) (.int .i64 n4) (.string ⟨#[]⟩) BK3.out
  refine bodyPost_ret (v:=.tuple #[.agg #[.int .i64 3,.int .i64 n4,.string ⟨#[]⟩],.int .i64 0]) ?_ rfl ⟨by rw [HE1.out,HE2.out];rfl,?_⟩
  ·simp [results,Tryz.results133,go_sem,u0,u1,u2]
  ·repeat with_reducible first | refine Same.setCell ?_ (by dsimp only;omega) _ | refine Same.drew ?_ | refine Same.alloc ?_ _
   exact S3.out
theorem parse_text_g (s:ByteArray) (w:World) (l:Laid w) (hs:s.size ≤ 1000000) (q1:¬ ba s = [110,117,108,108]) (q2:¬ ba s = [116,114,117,101]) (q3:¬ ba s = [102,97,108,115,101]) (p1:Lib.hasPrefix (ba s) [64] = false) (p2:Lib.hasPrefix (ba s) [34] = true) (d:(contentV (ba s)).2 = true) (h0:parse0 (ba s) = (⟨1,0,(mkB (contentV (ba s)).1)⟩,true)) (hv:(⟨1,0,(mkB (contentV (ba s)).1)⟩:V).ok = true) :
  Calls Tryz.prog 133 #[.string s] w fun e w' => e = .returned (.tuple #[(parseV (ba s)).val,.int .i64 (parseE (ba s))]) ∧ Same w w':=by
 obtain ⟨he1,he2⟩:=parse_vals (ba s) ⟨1,0,(mkB (contentV (ba s)).1)⟩ true h0
 have HV:Hid (Rs 83 #[.agg #[.int .i64 1,.int .i64 0,.string (mkB (contentV (ba s)).1)]] (.bool true)):=fun W => by have:=valid_ok (⟨1,0,(mkB (contentV (ba s)).1)⟩:V) W;rw [hv] at this;exact this
 rw [hv] at he1 he2
 have HE1:Hid (parseV (ba s) = ⟨1,0,(mkB (contentV (ba s)).1)⟩):=he1
 have HE2:Hid (parseE (ba s) = 0):=he2
 have t1:(s.toList == [110,117,108,108]) = false:=by rw [eqS];exact decide_eq_false q1
 have t2:(s.toList == [116,114,117,101]) = false:=by rw [eqS];exact decide_eq_false q2
 have t3:(s.toList == [102,97,108,115,101]) = false:=by rw [eqS];exact decide_eq_false q3
 have HP:Hid (∀ (p:ByteArray) (W:World),Calls Tryz.prog 144 #[.string s,.string p] W fun e w' => e = .returned (.bool (Lib.hasPrefix (ba s) (ba p))) ∧ W = w'):=fun p W => (Tryz.strings_HasPrefix s p W).mono fun e w' ⟨h1,h2⟩ => ⟨h1,h2.symm⟩
 have P1:Hid (Lib.hasPrefix (ba s) (ba ⟨#[64]⟩) = false):=p1
 have P2:Hid (Lib.hasPrefix (ba s) (ba ⟨#[34]⟩) = true):=p2
 have HD:Hid (Rt 146 #[.string s] w (.tuple #[.string (mkB (contentV (ba s)).1),.bool true])):=fun W _ => by
  have:=content_ok s W hs
  rw [d] at this
  exact this
 generalize mkB (contentV (ba s)).1 = n4 at HD HV HE1
 clear he1 he2 h0 hv q1 q2 q3 p1 p2 d
 go_enter Tryz.func133,Tryz.ntmps133
 go_wp2_with (first
  | (go_at_call 144;refine (HP.out _ _).mono ?_;rintro e w1 ⟨he1,rfl⟩;first | (rw [P1.out] at he1;subst he1) | (rw [P2.out] at he1;subst he1))
  | (go_at_call 146;refine (HD.out _ ?_).mono ?_;exact ((Same.refl w).alloc _).alloc _;rintro e w2 ⟨rfl,s2⟩;have K2:=s2.cells;have F2:=s2.frees;have Z2:w.heap.size + 2 ≤ w2.heap.size:=(by have:=s2.size;simp at this;omega);have z2:w.heap.size < w2.heap.size:=(by omega);have z2':w.heap.size + 1 < w2.heap.size:=(by omega);have S2:=Lib.hid ((((Same.refl w).alloc _).alloc _).trans s2);have BK2:Hid (Blk w2 w.heap.size 26 #[.int .i64 0,.int .i64 0,.string ⟨#[]⟩]):=(s2.block _ (by simp <;> omega)).trans ((Blk.new w _ _).alloc _);clear s2)
  | (go_at_call 83;refine (HV.out _).mono ?_;rintro e w3 ⟨rfl,s3⟩;have K3:=s3.cells;have F3:=s3.frees;have Z3:w.heap.size + 2 ≤ w3.heap.size:=(by have:=s3.size;simp [World.setCell] at this;omega);have z3:w.heap.size < w3.heap.size:=(by omega);have S3:Hid (Same w w3):=Same.trans (by refine Same.setCell S2.out ?_ _;exact Nat.le_succ _) s3;have BK3:Hid (Blk w3 w.heap.size 26 #[.int .i64 0,.int .i64 0,.string ⟨#[]⟩]):=(s3.block _ (by simp [World.setCell] <;> omega)).trans (Blk.far BK2.out (by dsimp only;omega) _);clear s3))
 all_goals
  obtain ⟨u0,u1,u2⟩:=set3_at (.int .i64 1) (.int .i64 0) (.string n4) BK3.out
  refine bodyPost_ret (v:=.tuple #[.agg #[.int .i64 1,.int .i64 0,.string n4],.int .i64 0]) ?_ rfl ⟨by rw [HE1.out,HE2.out];rfl,?_⟩
  ·simp [results,Tryz.results133,go_sem,u0,u1,u2]
  ·repeat with_reducible first | refine Same.setCell ?_ (by dsimp only;omega) _ | refine Same.drew ?_ | refine Same.alloc ?_ _
   exact S3.out
theorem parse_num_g (s:ByteArray) (w:World) (l:Laid w) (hs:s.size ≤ 1000000) (q1:¬ ba s = [110,117,108,108]) (q2:¬ ba s = [116,114,117,101]) (q3:¬ ba s = [102,97,108,115,101]) (p1:Lib.hasPrefix (ba s) [64] = false) (p2:Lib.hasPrefix (ba s) [34] = false) (d:decB (ba s) = true) (h0:parse0 (ba s) = (⟨2,(atoiV (ba s)),⟨#[]⟩⟩,true)) (hv:(⟨2,(atoiV (ba s)),⟨#[]⟩⟩:V).ok = true) :
  Calls Tryz.prog 133 #[.string s] w fun e w' => e = .returned (.tuple #[(parseV (ba s)).val,.int .i64 (parseE (ba s))]) ∧ Same w w':=by
 obtain ⟨he1,he2⟩:=parse_vals (ba s) ⟨2,(atoiV (ba s)),⟨#[]⟩⟩ true h0
 have HV:Hid (Rs 83 #[.agg #[.int .i64 2,.int .i64 (atoiV (ba s)),.string ⟨#[]⟩]] (.bool true)):=fun W => by have:=valid_ok (⟨2,(atoiV (ba s)),⟨#[]⟩⟩:V) W;rw [hv] at this;exact this
 rw [hv] at he1 he2
 have HE1:Hid (parseV (ba s) = ⟨2,(atoiV (ba s)),⟨#[]⟩⟩):=he1
 have HE2:Hid (parseE (ba s) = 0):=he2
 have t1:(s.toList == [110,117,108,108]) = false:=by rw [eqS];exact decide_eq_false q1
 have t2:(s.toList == [116,114,117,101]) = false:=by rw [eqS];exact decide_eq_false q2
 have t3:(s.toList == [102,97,108,115,101]) = false:=by rw [eqS];exact decide_eq_false q3
 have HP:Hid (∀ (p:ByteArray) (W:World),Calls Tryz.prog 144 #[.string s,.string p] W fun e w' => e = .returned (.bool (Lib.hasPrefix (ba s) (ba p))) ∧ W = w'):=fun p W => (Tryz.strings_HasPrefix s p W).mono fun e w' ⟨h1,h2⟩ => ⟨h1,h2.symm⟩
 have P1:Hid (Lib.hasPrefix (ba s) (ba ⟨#[64]⟩) = false):=p1
 have P2:Hid (Lib.hasPrefix (ba s) (ba ⟨#[34]⟩) = false):=p2
 have HD:Hid (Rt 145 #[.string s] w (.tuple #[.int .i64 (atoiV (ba s)),.bool true])):=fun W t => by
  have:=decimal_ok s (by omega) W (l.same t)
  rw [d] at this
  exact this
 generalize atoiV (ba s) = n4 at HD HV HE1
 clear he1 he2 h0 hv q1 q2 q3 p1 p2 d
 go_enter Tryz.func133,Tryz.ntmps133
 go_wp2_with (first
  | (go_at_call 144;refine (HP.out _ _).mono ?_;rintro e w1 ⟨he1,rfl⟩;first | (rw [P1.out] at he1;subst he1) | (rw [P2.out] at he1;subst he1))
  | (go_at_call 145;refine (HD.out _ ?_).mono ?_;exact ((Same.refl w).alloc _).alloc _;rintro e w2 ⟨rfl,s2⟩;have K2:=s2.cells;have F2:=s2.frees;have Z2:w.heap.size + 2 ≤ w2.heap.size:=(by have:=s2.size;simp at this;omega);have z2:w.heap.size < w2.heap.size:=(by omega);have z2':w.heap.size + 1 < w2.heap.size:=(by omega);have S2:=Lib.hid ((((Same.refl w).alloc _).alloc _).trans s2);have BK2:Hid (Blk w2 w.heap.size 26 #[.int .i64 0,.int .i64 0,.string ⟨#[]⟩]):=(s2.block _ (by simp <;> omega)).trans ((Blk.new w _ _).alloc _);clear s2)
  | (go_at_call 83;refine (HV.out _).mono ?_;rintro e w3 ⟨rfl,s3⟩;have K3:=s3.cells;have F3:=s3.frees;have Z3:w.heap.size + 2 ≤ w3.heap.size:=(by have:=s3.size;simp [World.setCell] at this;omega);have z3:w.heap.size < w3.heap.size:=(by omega);have S3:Hid (Same w w3):=Same.trans (by refine Same.setCell S2.out ?_ _;exact Nat.le_succ _) s3;have BK3:Hid (Blk w3 w.heap.size 26 #[.int .i64 0,.int .i64 0,.string ⟨#[]⟩]):=(s3.block _ (by simp [World.setCell] <;> omega)).trans (Blk.far BK2.out (by dsimp only;omega) _);clear s3))
 all_goals
  obtain ⟨u0,u1,u2⟩:=set3_at (.int .i64 2) (.int .i64 n4) (.string ⟨#[]⟩) BK3.out
  refine bodyPost_ret (v:=.tuple #[.agg #[.int .i64 2,.int .i64 n4,.string ⟨#[]⟩],.int .i64 0]) ?_ rfl ⟨by rw [HE1.out,HE2.out];rfl,?_⟩
  ·simp [results,Tryz.results133,go_sem,u0,u1,u2]
  ·repeat with_reducible first | refine Same.setCell ?_ (by dsimp only;omega) _ | refine Same.drew ?_ | refine Same.alloc ?_ _
   exact S3.out
theorem parse_ok (s:ByteArray) (w:World) (l:Laid w) (hs:s.size ≤ 1000000) :
  Calls Tryz.prog 133 #[.string s] w fun e w' => e = .returned (.tuple #[(parseV (ba s)).val,.int .i64 (parseE (ba s))]) ∧ Same w w':=by
 by_cases q1:ba s = [110,117,108,108]
 ·exact parse_null s w l hs q1 (by unfold parse0;rw [if_pos q1];rfl) (by decide +kernel)
 by_cases q2:ba s = [116,114,117,101]
 ·exact parse_true s w l hs q1 q2 (by unfold parse0;rw [if_neg q1,if_pos q2];rfl) (by decide +kernel)
 by_cases q3:ba s = [102,97,108,115,101]
 ·exact parse_false s w l hs q1 q2 q3 (by unfold parse0;rw [if_neg q1,if_neg q2,if_pos q3];rfl) (by decide +kernel)
 cases p1:Lib.hasPrefix (ba s) [64] with
 | true =>
  have e:parse0 (ba s) = (⟨3,atoiV ((ba s).drop 1),⟨#[]⟩⟩,decB ((ba s).drop 1)):=by unfold parse0;rw [if_neg q1,if_neg q2,if_neg q3,if_pos p1];rfl
  cases d:decB ((ba s).drop 1) with
  | false => rw [d] at e;exact parse_day_n s w l hs q1 q2 q3 p1 d e
  | true =>
   rw [d] at e
   cases hv:(⟨3,atoiV ((ba s).drop 1),⟨#[]⟩⟩:V).ok with
   | false => exact parse_day_b s w l hs q1 q2 q3 p1 d e hv
   | true => exact parse_day_g s w l hs q1 q2 q3 p1 d e hv
 | false =>
  have p1':¬ Lib.hasPrefix (ba s) [64] = true:=by rw [p1];decide
  cases p2:Lib.hasPrefix (ba s) [34] with
  | true =>
   have e:parse0 (ba s) = (⟨1,0,mkB (contentV (ba s)).1⟩,(contentV (ba s)).2):=by unfold parse0;rw [if_neg q1,if_neg q2,if_neg q3,if_neg p1',if_pos p2]
   cases d:(contentV (ba s)).2 with
   | false => rw [d] at e;exact parse_text_n s w l hs q1 q2 q3 p1 p2 d e
   | true =>
    rw [d] at e
    cases hv:(⟨1,0,mkB (contentV (ba s)).1⟩:V).ok with
    | false => exact parse_text_b s w l hs q1 q2 q3 p1 p2 d e hv
    | true => exact parse_text_g s w l hs q1 q2 q3 p1 p2 d e hv
  | false =>
   have p2':¬ Lib.hasPrefix (ba s) [34] = true:=by rw [p2];decide
   have e:parse0 (ba s) = (⟨2,atoiV (ba s),⟨#[]⟩⟩,decB (ba s)):=by unfold parse0;rw [if_neg q1,if_neg q2,if_neg q3,if_neg p1',if_neg p2'];rfl
   cases d:decB (ba s) with
   | false => rw [d] at e;exact parse_num_n s w l hs q1 q2 q3 p1 p2 d e
   | true =>
    rw [d] at e
    cases hv:(⟨2,atoiV (ba s),⟨#[]⟩⟩:V).ok with
    | false => exact parse_num_b s w l hs q1 q2 q3 p1 p2 d e hv
    | true => exact parse_num_g s w l hs q1 q2 q3 p1 p2 d e hv
end Go.Proofs.YtfifnemnihcijaaGreatDoor

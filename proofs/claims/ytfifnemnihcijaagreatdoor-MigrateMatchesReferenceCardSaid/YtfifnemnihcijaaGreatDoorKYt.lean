import Derived.Test.YtfifnemnihcijaaGreatDoorKYp
set_option linter.unusedSimpArgs false
set_option linter.unusedVariables false
set_option maxHeartbeats 16000000
set_option maxRecDepth 100000
namespace Go.Proofs.YtfifnemnihcijaaGreatDoor
open Go.RowKit
theorem rtext_ok (v:V) (w:World):Calls Tryz.prog 73 #[v.val] w fun e w' => e = .returned (.string (mkB (rtxt v))) ∧ Same w w':=by
 have HV:=Lib.hid (rvalid_ok v)
 have HE:Hid (mkB (rtxt v) = if v.ok then mkB (if v.k = 1 then quoL (ba v.s) else if v.k = 2 then Lib.itoa v.n else if v.k = 3 then 64 :: Lib.itoa v.n else if v.k = 4 then (if v.n = 1 then [116,114,117,101] else [102,97,108,115,101]) else [110,117,108,108]) else mkB []):=by
  show _ = _
  unfold rtxt
  split <;> rfl
 generalize mkB (rtxt v) = tx at HE ⊢
 have HOK:=Lib.hid (@V.ok_iff v)
 obtain ⟨k,n,s⟩:=v
 simp only at HE HOK
 have hv:(⟨k,n,s⟩:V).val = .agg #[.int .i64 k,.int .i64 n,.string s]:=rfl
 rw [hv] at HV
 show Calls Tryz.prog 73 #[.agg #[.int .i64 k,.int .i64 n,.string s]] w _
 generalize (⟨k,n,s⟩:V).ok = b at HV HE HOK
 clear hv
 cases b with
 | false =>
  go_enter Tryz.func73,Tryz.ntmps73
  go_wp2_with (go_at_call 72;refine (HV.out _).mono ?_;rintro e w1 ⟨rfl,s1⟩;have S1:=Lib.hid (((Same.refl w).alloc _).trans s1);clear s1)
  go_ret
  exact ⟨ret_str HE.out.symm,S1.out⟩
 | true =>
  obtain ⟨_,hk,hs2,hlo,hhi⟩:=HOK.out.1 rfl
  have hn:-1000000000 ≤ n ∧ n ≤ 1000000000:=by unfold V.low at hlo;unfold V.high at hhi;split at hlo <;> (try split at hhi) <;> (try split at hhi) <;> (try split at hhi) <;> omega
  rw [if_pos rfl] at HE
  have HD:=Lib.hid (fun W => rdecimal_ok n hn.1 hn.2 W)
  have HQ:Hid (Rq 91 #[.string s] (.string (mkB (quoL (ba s))))):=Lib.hid fun W => rquoted_ok s (by omega) W
  have hl:(mkB (Lib.itoa n)).size ≤ 100:=by rw [size_mkB];have:=itoa_size n hn.1 hn.2;omega
  have a1:∀ W,(Op.stringOp .add ({ data:=#[64] }:ByteArray) (mkB (Lib.itoa n))).run Tryz.prog W = .ok (.string (mkB (64 :: Lib.itoa n))) W:=fun W => by
   have:=run_string_add_sum (P:=Tryz.prog) W (mkB [64]) (mkB (Lib.itoa n)) (by have:(mkB [64]).size = 1:=rfl;omega)
   rw [mkB_app] at this
   exact this
  clear hlo hhi hl HOK
  have hk5:k = 0 ∨ k = 1 ∨ k = 2 ∨ k = 3 ∨ k = 4:=by omega
  rcases hk5 with rfl | rfl | rfl | rfl | rfl
  ·go_enter Tryz.func73,Tryz.ntmps73
   go_wp2_with (first | (go_at_call 72;refine (HV.out _).mono ?_;rintro e w1 ⟨rfl,s1⟩;have S1:=Lib.hid (((Same.refl w).alloc _).trans s1);have K1:=s1.cells;have Z1:=s1.size;clear s1) | (go_at_call 92;refine (HD.out _).mono ?_;rintro e w2 ⟨rfl,s2⟩;have S2:=Lib.hid (S1.out.trans s2);clear s2) | (go_at_call 91;refine (HQ.out _).mono ?_;rintro e w2 ⟨rfl,rfl⟩))
   go_ret
   exact ⟨ret_str (by rw [HE.out];first | rfl | (simp;rfl)),S1.out⟩
  ·go_enter Tryz.func73,Tryz.ntmps73
   go_wp2_with (first | (go_at_call 72;refine (HV.out _).mono ?_;rintro e w1 ⟨rfl,s1⟩;have S1:=Lib.hid (((Same.refl w).alloc _).trans s1);have K1:=s1.cells;have Z1:=s1.size;clear s1) | (go_at_call 92;refine (HD.out _).mono ?_;rintro e w2 ⟨rfl,s2⟩;have S2:=Lib.hid (S1.out.trans s2);clear s2) | (go_at_call 91;refine (HQ.out _).mono ?_;rintro e w2 ⟨rfl,rfl⟩))
   go_ret
   exact ⟨ret_str (by rw [HE.out];first | rfl | (simp;rfl)),S1.out⟩
  ·go_enter Tryz.func73,Tryz.ntmps73
   go_wp2_with (first | (go_at_call 72;refine (HV.out _).mono ?_;rintro e w1 ⟨rfl,s1⟩;have S1:=Lib.hid (((Same.refl w).alloc _).trans s1);have K1:=s1.cells;have Z1:=s1.size;clear s1) | (go_at_call 92;refine (HD.out _).mono ?_;rintro e w2 ⟨rfl,s2⟩;have S2:=Lib.hid (S1.out.trans s2);clear s2) | (go_at_call 91;refine (HQ.out _).mono ?_;rintro e w2 ⟨rfl,rfl⟩))
   go_ret
   exact ⟨ret_str (by rw [HE.out];first | rfl | (simp;rfl)),S2.out⟩
  ·go_enter Tryz.func73,Tryz.ntmps73
   go_wp2_with (first | (go_at_call 72;refine (HV.out _).mono ?_;rintro e w1 ⟨rfl,s1⟩;have S1:=Lib.hid (((Same.refl w).alloc _).trans s1);have K1:=s1.cells;have Z1:=s1.size;clear s1) | (go_at_call 92;refine (HD.out _).mono ?_;rintro e w2 ⟨rfl,s2⟩;have S2:=Lib.hid (S1.out.trans s2);clear s2) | (go_at_call 91;refine (HQ.out _).mono ?_;rintro e w2 ⟨rfl,rfl⟩))
   go_ret
   exact ⟨ret_str (by rw [HE.out];first | rfl | (simp;rfl)),S2.out⟩
  ·by_cases h1:n = 1
   ·have t1:(n == 1) = true:=by simp;exact h1
    have H1:=Lib.hid h1
    clear h1
    go_enter Tryz.func73,Tryz.ntmps73
    go_wp2_with (first | (go_at_call 72;refine (HV.out _).mono ?_;rintro e w1 ⟨rfl,s1⟩;have S1:=Lib.hid (((Same.refl w).alloc _).trans s1);have K1:=s1.cells;have Z1:=s1.size;clear s1))
    go_ret
    exact ⟨ret_str (by rw [HE.out];simp [H1.out];rfl),S1.out⟩
   ·have t1:(n == 1) = false:=by simp;exact h1
    have H1:=Lib.hid h1
    clear h1
    go_enter Tryz.func73,Tryz.ntmps73
    go_wp2_with (first | (go_at_call 72;refine (HV.out _).mono ?_;rintro e w1 ⟨rfl,s1⟩;have S1:=Lib.hid (((Same.refl w).alloc _).trans s1);have K1:=s1.cells;have Z1:=s1.size;clear s1))
    go_ret
    exact ⟨ret_str (by rw [HE.out];simp [H1.out];rfl),S1.out⟩
theorem rparse_val {t:List UInt8} {v:V} (h0:t ≠ []) (hc:candV t = v):rparse t = if rtxt v = t then (v,0) else (V.zero,4):=by
 unfold rparse
 rw [if_neg h0,hc]
theorem mk_eq {l:List UInt8} {s:ByteArray}:mkB l = s ↔ l = ba s:=by
 constructor
 ·rintro rfl;rw [ba_mkB]
 ·rintro rfl;exact mkB_ba s
theorem rparse_n_y (s:ByteArray) (w:World) (hs:s.size ≤ 1000) (h0:0 < s.size) (q0:s[0] = 110) (hc:candV (ba s) = ⟨0,0,⟨#[]⟩⟩) (hq:rtxt ⟨0,0,⟨#[]⟩⟩ = ba s) :
  Calls Tryz.prog 74 #[.string s] w fun e w' => e = .returned (.tuple #[(rparse (ba s)).1.val,.int .i64 (rparse (ba s)).2]) ∧ Same w w':=by
 have hne:ba s ≠ []:=fun e => by have:=congrArg List.length e;rw [ba_length] at this;simp only [List.length_nil] at this;omega
 have HE:=Lib.hid (rparse_val hne hc)
 rw [if_pos hq] at HE
 have HN:=Lib.hid (fun W => rnumber_ok s hs W)
 have HT:=Lib.hid (fun W => rtext_ok ⟨0,0,⟨#[]⟩⟩ W)
 obtain ⟨TX,hTX⟩:∃ TX,TX = mkB (rtxt ⟨0,0,⟨#[]⟩⟩):=⟨_,rfl⟩
 have HT':Hid (Rs 73 #[.agg #[.int .i64 0,.int .i64 0,.string ⟨#[]⟩]] (.string TX)):=by rw [hTX];exact HT
 have tt:(TX.toList == s.toList) = true:=by rw [beqB,hTX];exact decide_eq_true (mk_eq.2 hq)
 have t0:s.toList.isEmpty = false:=by rw [isE];exact decide_eq_false (by omega)
 have t0':¬ s.toList = []:=fun h => by have:=(isE_nil s).1 h;omega
 have c0:((s[0].toNat:Int) == 110) = true:=by rw [q0];rfl
 obtain ⟨nN,hnN⟩:∃ nN,nN = numR (ba s):=⟨_,rfl⟩
 rw [← hnN] at HN
 clear hTX HT hne hc hq q0 hnN
 go_enter Tryz.func74,Tryz.ntmps74
 go_wp2_with (first
  | (go_at_call 93;(with_reducible refine (HN.out _).mono ?_);rintro e w2 ⟨rfl,rfl⟩)
  | (go_at_call 73;refine (HT'.out _).mono ?_;rintro e w3 ⟨rfl,s3⟩;have K3:=s3.cells;have F3:=s3.frees;have Z3:w.heap.size + 2 ≤ w3.heap.size:=(by have:=s3.size;simp [World.setCell] at this;omega);have z3:w.heap.size < w3.heap.size:=(by omega);have z3':w.heap.size + 1 < w3.heap.size:=(by omega);have S3:Hid (Same w w3):=Same.trans (by (repeat (first | (with_reducible refine Same.setCell ?_ (by dsimp only;omega) _) | (with_reducible refine Same.alloc ?_ _)));exact Same.refl _) s3;have BK3:Hid (Blk w3 w.heap.size 26 #[.int .i64 0,.int .i64 0,.string ⟨#[]⟩]):=(s3.block _ (by simp [World.setCell] <;> omega)).trans (by (repeat (refine Blk.far (p:=⟨w.heap.size + 1,_,none⟩) ?_ (by show w.heap.size ≠ w.heap.size + 1;omega) _));exact (Blk.new w _ _).alloc _);clear s3))
 all_goals
  obtain ⟨u0,u1,u2⟩:=set3_at (.int .i64 0) (.int .i64 0) (.string ⟨#[]⟩) BK3.out
  refine bodyPost_ret (v:=.tuple #[.agg #[.int .i64 0,.int .i64 0,.string ⟨#[]⟩],.int .i64 0]) ?_ rfl ⟨by rw [HE.out];rfl,?_⟩
  ·simp [results,Tryz.results74,go_sem,u0,u1,u2]
  ·repeat with_reducible first | refine Same.setCell ?_ (by dsimp only;omega) _ | refine Same.drew ?_ | refine Same.alloc ?_ _
   exact S3.out
theorem rparse_n_n (s:ByteArray) (w:World) (hs:s.size ≤ 1000) (h0:0 < s.size) (q0:s[0] = 110) (hc:candV (ba s) = ⟨0,0,⟨#[]⟩⟩) (hq:¬ rtxt ⟨0,0,⟨#[]⟩⟩ = ba s) :
  Calls Tryz.prog 74 #[.string s] w fun e w' => e = .returned (.tuple #[(rparse (ba s)).1.val,.int .i64 (rparse (ba s)).2]) ∧ Same w w':=by
 have hne:ba s ≠ []:=fun e => by have:=congrArg List.length e;rw [ba_length] at this;simp only [List.length_nil] at this;omega
 have HE:=Lib.hid (rparse_val hne hc)
 rw [if_neg hq] at HE
 have HN:=Lib.hid (fun W => rnumber_ok s hs W)
 have HT:=Lib.hid (fun W => rtext_ok ⟨0,0,⟨#[]⟩⟩ W)
 obtain ⟨TX,hTX⟩:∃ TX,TX = mkB (rtxt ⟨0,0,⟨#[]⟩⟩):=⟨_,rfl⟩
 have HT':Hid (Rs 73 #[.agg #[.int .i64 0,.int .i64 0,.string ⟨#[]⟩]] (.string TX)):=by rw [hTX];exact HT
 have tt:(TX.toList == s.toList) = false:=by rw [beqB,hTX];exact decide_eq_false (fun e => hq (mk_eq.1 e))
 have t0:s.toList.isEmpty = false:=by rw [isE];exact decide_eq_false (by omega)
 have t0':¬ s.toList = []:=fun h => by have:=(isE_nil s).1 h;omega
 have c0:((s[0].toNat:Int) == 110) = true:=by rw [q0];rfl
 obtain ⟨nN,hnN⟩:∃ nN,nN = numR (ba s):=⟨_,rfl⟩
 rw [← hnN] at HN
 clear hTX HT hne hc hq q0 hnN
 go_enter Tryz.func74,Tryz.ntmps74
 go_wp2_with (first
  | (go_at_call 93;(with_reducible refine (HN.out _).mono ?_);rintro e w2 ⟨rfl,rfl⟩)
  | (go_at_call 73;refine (HT'.out _).mono ?_;rintro e w3 ⟨rfl,s3⟩;have K3:=s3.cells;have F3:=s3.frees;have Z3:w.heap.size + 2 ≤ w3.heap.size:=(by have:=s3.size;simp [World.setCell] at this;omega);have z3:w.heap.size < w3.heap.size:=(by omega);have z3':w.heap.size + 1 < w3.heap.size:=(by omega);have S3:Hid (Same w w3):=Same.trans (by (repeat (first | (with_reducible refine Same.setCell ?_ (by dsimp only;omega) _) | (with_reducible refine Same.alloc ?_ _)));exact Same.refl _) s3;have BK3:Hid (Blk w3 w.heap.size 26 #[.int .i64 0,.int .i64 0,.string ⟨#[]⟩]):=(s3.block _ (by simp [World.setCell] <;> omega)).trans (by (repeat (refine Blk.far (p:=⟨w.heap.size + 1,_,none⟩) ?_ (by show w.heap.size ≠ w.heap.size + 1;omega) _));exact (Blk.new w _ _).alloc _);clear s3))
 all_goals
  obtain ⟨u0,u1,u2⟩:=set3_at (.int .i64 0) (.int .i64 0) (.string ⟨#[]⟩) BK3.out
  refine bodyPost_ret (v:=.tuple #[.agg #[.int .i64 0,.int .i64 0,.string ⟨#[]⟩],.int .i64 4]) ?_ rfl ⟨by rw [HE.out];rfl,?_⟩
  ·simp [results,Tryz.results74,go_sem,u0,u1,u2]
  ·repeat with_reducible first | refine Same.setCell ?_ (by dsimp only;omega) _ | refine Same.drew ?_ | refine Same.alloc ?_ _
   exact S3.out
theorem rparse_t_y (s:ByteArray) (w:World) (hs:s.size ≤ 1000) (h0:0 < s.size) (q0:¬ s[0] = 110) (q1:s[0] = 116) (hc:candV (ba s) = ⟨4,1,⟨#[]⟩⟩) (hq:rtxt ⟨4,1,⟨#[]⟩⟩ = ba s) :
  Calls Tryz.prog 74 #[.string s] w fun e w' => e = .returned (.tuple #[(rparse (ba s)).1.val,.int .i64 (rparse (ba s)).2]) ∧ Same w w':=by
 have hne:ba s ≠ []:=fun e => by have:=congrArg List.length e;rw [ba_length] at this;simp only [List.length_nil] at this;omega
 have HE:=Lib.hid (rparse_val hne hc)
 rw [if_pos hq] at HE
 have HN:=Lib.hid (fun W => rnumber_ok s hs W)
 have HT:=Lib.hid (fun W => rtext_ok ⟨4,1,⟨#[]⟩⟩ W)
 obtain ⟨TX,hTX⟩:∃ TX,TX = mkB (rtxt ⟨4,1,⟨#[]⟩⟩):=⟨_,rfl⟩
 have HT':Hid (Rs 73 #[.agg #[.int .i64 4,.int .i64 1,.string ⟨#[]⟩]] (.string TX)):=by rw [hTX];exact HT
 have tt:(TX.toList == s.toList) = true:=by rw [beqB,hTX];exact decide_eq_true (mk_eq.2 hq)
 have t0:s.toList.isEmpty = false:=by rw [isE];exact decide_eq_false (by omega)
 have t0':¬ s.toList = []:=fun h => by have:=(isE_nil s).1 h;omega
 have c0:((s[0].toNat:Int) == 110) = false:=by rw [beq_eq_false_iff_ne];intro e;exact q0 (UInt8.toNat_inj.1 (show s[0].toNat = 110 by omega))
 have c1:((s[0].toNat:Int) == 116) = true:=by rw [q1];rfl
 obtain ⟨nN,hnN⟩:∃ nN,nN = numR (ba s):=⟨_,rfl⟩
 rw [← hnN] at HN
 clear hTX HT hne hc hq q0 q1 hnN
 go_enter Tryz.func74,Tryz.ntmps74
 go_wp2_with (first
  | (go_at_call 93;(with_reducible refine (HN.out _).mono ?_);rintro e w2 ⟨rfl,rfl⟩)
  | (go_at_call 73;refine (HT'.out _).mono ?_;rintro e w3 ⟨rfl,s3⟩;have K3:=s3.cells;have F3:=s3.frees;have Z3:w.heap.size + 2 ≤ w3.heap.size:=(by have:=s3.size;simp [World.setCell] at this;omega);have z3:w.heap.size < w3.heap.size:=(by omega);have z3':w.heap.size + 1 < w3.heap.size:=(by omega);have S3:Hid (Same w w3):=Same.trans (by (repeat (first | (with_reducible refine Same.setCell ?_ (by dsimp only;omega) _) | (with_reducible refine Same.alloc ?_ _)));exact Same.refl _) s3;have BK3:Hid (Blk w3 w.heap.size 26 #[.int .i64 0,.int .i64 0,.string ⟨#[]⟩]):=(s3.block _ (by simp [World.setCell] <;> omega)).trans (by (repeat (refine Blk.far (p:=⟨w.heap.size + 1,_,none⟩) ?_ (by show w.heap.size ≠ w.heap.size + 1;omega) _));exact (Blk.new w _ _).alloc _);clear s3))
 all_goals
  obtain ⟨u0,u1,u2⟩:=set3_at (.int .i64 4) (.int .i64 1) (.string ⟨#[]⟩) BK3.out
  refine bodyPost_ret (v:=.tuple #[.agg #[.int .i64 4,.int .i64 1,.string ⟨#[]⟩],.int .i64 0]) ?_ rfl ⟨by rw [HE.out];rfl,?_⟩
  ·simp [results,Tryz.results74,go_sem,u0,u1,u2]
  ·repeat with_reducible first | refine Same.setCell ?_ (by dsimp only;omega) _ | refine Same.drew ?_ | refine Same.alloc ?_ _
   exact S3.out
theorem rparse_t_n (s:ByteArray) (w:World) (hs:s.size ≤ 1000) (h0:0 < s.size) (q0:¬ s[0] = 110) (q1:s[0] = 116) (hc:candV (ba s) = ⟨4,1,⟨#[]⟩⟩) (hq:¬ rtxt ⟨4,1,⟨#[]⟩⟩ = ba s) :
  Calls Tryz.prog 74 #[.string s] w fun e w' => e = .returned (.tuple #[(rparse (ba s)).1.val,.int .i64 (rparse (ba s)).2]) ∧ Same w w':=by
 have hne:ba s ≠ []:=fun e => by have:=congrArg List.length e;rw [ba_length] at this;simp only [List.length_nil] at this;omega
 have HE:=Lib.hid (rparse_val hne hc)
 rw [if_neg hq] at HE
 have HN:=Lib.hid (fun W => rnumber_ok s hs W)
 have HT:=Lib.hid (fun W => rtext_ok ⟨4,1,⟨#[]⟩⟩ W)
 obtain ⟨TX,hTX⟩:∃ TX,TX = mkB (rtxt ⟨4,1,⟨#[]⟩⟩):=⟨_,rfl⟩
 have HT':Hid (Rs 73 #[.agg #[.int .i64 4,.int .i64 1,.string ⟨#[]⟩]] (.string TX)):=by rw [hTX];exact HT
 have tt:(TX.toList == s.toList) = false:=by rw [beqB,hTX];exact decide_eq_false (fun e => hq (mk_eq.1 e))
 have t0:s.toList.isEmpty = false:=by rw [isE];exact decide_eq_false (by omega)
 have t0':¬ s.toList = []:=fun h => by have:=(isE_nil s).1 h;omega
 have c0:((s[0].toNat:Int) == 110) = false:=by rw [beq_eq_false_iff_ne];intro e;exact q0 (UInt8.toNat_inj.1 (show s[0].toNat = 110 by omega))
 have c1:((s[0].toNat:Int) == 116) = true:=by rw [q1];rfl
 obtain ⟨nN,hnN⟩:∃ nN,nN = numR (ba s):=⟨_,rfl⟩
 rw [← hnN] at HN
 clear hTX HT hne hc hq q0 q1 hnN
 go_enter Tryz.func74,Tryz.ntmps74
 go_wp2_with (first
  | (go_at_call 93;(with_reducible refine (HN.out _).mono ?_);rintro e w2 ⟨rfl,rfl⟩)
  | (go_at_call 73;refine (HT'.out _).mono ?_;rintro e w3 ⟨rfl,s3⟩;have K3:=s3.cells;have F3:=s3.frees;have Z3:w.heap.size + 2 ≤ w3.heap.size:=(by have:=s3.size;simp [World.setCell] at this;omega);have z3:w.heap.size < w3.heap.size:=(by omega);have z3':w.heap.size + 1 < w3.heap.size:=(by omega);have S3:Hid (Same w w3):=Same.trans (by (repeat (first | (with_reducible refine Same.setCell ?_ (by dsimp only;omega) _) | (with_reducible refine Same.alloc ?_ _)));exact Same.refl _) s3;have BK3:Hid (Blk w3 w.heap.size 26 #[.int .i64 0,.int .i64 0,.string ⟨#[]⟩]):=(s3.block _ (by simp [World.setCell] <;> omega)).trans (by (repeat (refine Blk.far (p:=⟨w.heap.size + 1,_,none⟩) ?_ (by show w.heap.size ≠ w.heap.size + 1;omega) _));exact (Blk.new w _ _).alloc _);clear s3))
 all_goals
  obtain ⟨u0,u1,u2⟩:=set3_at (.int .i64 0) (.int .i64 0) (.string ⟨#[]⟩) BK3.out
  refine bodyPost_ret (v:=.tuple #[.agg #[.int .i64 0,.int .i64 0,.string ⟨#[]⟩],.int .i64 4]) ?_ rfl ⟨by rw [HE.out];rfl,?_⟩
  ·simp [results,Tryz.results74,go_sem,u0,u1,u2]
  ·repeat with_reducible first | refine Same.setCell ?_ (by dsimp only;omega) _ | refine Same.drew ?_ | refine Same.alloc ?_ _
   exact S3.out
theorem rparse_f_y (s:ByteArray) (w:World) (hs:s.size ≤ 1000) (h0:0 < s.size) (q0:¬ s[0] = 110) (q1:¬ s[0] = 116) (q2:s[0] = 102) (hc:candV (ba s) = ⟨4,0,⟨#[]⟩⟩) (hq:rtxt ⟨4,0,⟨#[]⟩⟩ = ba s) :
  Calls Tryz.prog 74 #[.string s] w fun e w' => e = .returned (.tuple #[(rparse (ba s)).1.val,.int .i64 (rparse (ba s)).2]) ∧ Same w w':=by
 have hne:ba s ≠ []:=fun e => by have:=congrArg List.length e;rw [ba_length] at this;simp only [List.length_nil] at this;omega
 have HE:=Lib.hid (rparse_val hne hc)
 rw [if_pos hq] at HE
 have HN:=Lib.hid (fun W => rnumber_ok s hs W)
 have HT:=Lib.hid (fun W => rtext_ok ⟨4,0,⟨#[]⟩⟩ W)
 obtain ⟨TX,hTX⟩:∃ TX,TX = mkB (rtxt ⟨4,0,⟨#[]⟩⟩):=⟨_,rfl⟩
 have HT':Hid (Rs 73 #[.agg #[.int .i64 4,.int .i64 0,.string ⟨#[]⟩]] (.string TX)):=by rw [hTX];exact HT
 have tt:(TX.toList == s.toList) = true:=by rw [beqB,hTX];exact decide_eq_true (mk_eq.2 hq)
 have t0:s.toList.isEmpty = false:=by rw [isE];exact decide_eq_false (by omega)
 have t0':¬ s.toList = []:=fun h => by have:=(isE_nil s).1 h;omega
 have c0:((s[0].toNat:Int) == 110) = false:=by rw [beq_eq_false_iff_ne];intro e;exact q0 (UInt8.toNat_inj.1 (show s[0].toNat = 110 by omega))
 have c1:((s[0].toNat:Int) == 116) = false:=by rw [beq_eq_false_iff_ne];intro e;exact q1 (UInt8.toNat_inj.1 (show s[0].toNat = 116 by omega))
 have c2:((s[0].toNat:Int) == 102) = true:=by rw [q2];rfl
 obtain ⟨nN,hnN⟩:∃ nN,nN = numR (ba s):=⟨_,rfl⟩
 rw [← hnN] at HN
 clear hTX HT hne hc hq q0 q1 q2 hnN
 go_enter Tryz.func74,Tryz.ntmps74
 go_wp2_with (first
  | (go_at_call 93;(with_reducible refine (HN.out _).mono ?_);rintro e w2 ⟨rfl,rfl⟩)
  | (go_at_call 73;refine (HT'.out _).mono ?_;rintro e w3 ⟨rfl,s3⟩;have K3:=s3.cells;have F3:=s3.frees;have Z3:w.heap.size + 2 ≤ w3.heap.size:=(by have:=s3.size;simp [World.setCell] at this;omega);have z3:w.heap.size < w3.heap.size:=(by omega);have z3':w.heap.size + 1 < w3.heap.size:=(by omega);have S3:Hid (Same w w3):=Same.trans (by (repeat (first | (with_reducible refine Same.setCell ?_ (by dsimp only;omega) _) | (with_reducible refine Same.alloc ?_ _)));exact Same.refl _) s3;have BK3:Hid (Blk w3 w.heap.size 26 #[.int .i64 0,.int .i64 0,.string ⟨#[]⟩]):=(s3.block _ (by simp [World.setCell] <;> omega)).trans (by (repeat (refine Blk.far (p:=⟨w.heap.size + 1,_,none⟩) ?_ (by show w.heap.size ≠ w.heap.size + 1;omega) _));exact (Blk.new w _ _).alloc _);clear s3))
 all_goals
  obtain ⟨u0,u1,u2⟩:=set3_at (.int .i64 4) (.int .i64 0) (.string ⟨#[]⟩) BK3.out
  refine bodyPost_ret (v:=.tuple #[.agg #[.int .i64 4,.int .i64 0,.string ⟨#[]⟩],.int .i64 0]) ?_ rfl ⟨by rw [HE.out];rfl,?_⟩
  ·simp [results,Tryz.results74,go_sem,u0,u1,u2]
  ·repeat with_reducible first | refine Same.setCell ?_ (by dsimp only;omega) _ | refine Same.drew ?_ | refine Same.alloc ?_ _
   exact S3.out
theorem rparse_f_n (s:ByteArray) (w:World) (hs:s.size ≤ 1000) (h0:0 < s.size) (q0:¬ s[0] = 110) (q1:¬ s[0] = 116) (q2:s[0] = 102) (hc:candV (ba s) = ⟨4,0,⟨#[]⟩⟩) (hq:¬ rtxt ⟨4,0,⟨#[]⟩⟩ = ba s) :
  Calls Tryz.prog 74 #[.string s] w fun e w' => e = .returned (.tuple #[(rparse (ba s)).1.val,.int .i64 (rparse (ba s)).2]) ∧ Same w w':=by
 have hne:ba s ≠ []:=fun e => by have:=congrArg List.length e;rw [ba_length] at this;simp only [List.length_nil] at this;omega
 have HE:=Lib.hid (rparse_val hne hc)
 rw [if_neg hq] at HE
 have HN:=Lib.hid (fun W => rnumber_ok s hs W)
 have HT:=Lib.hid (fun W => rtext_ok ⟨4,0,⟨#[]⟩⟩ W)
 obtain ⟨TX,hTX⟩:∃ TX,TX = mkB (rtxt ⟨4,0,⟨#[]⟩⟩):=⟨_,rfl⟩
 have HT':Hid (Rs 73 #[.agg #[.int .i64 4,.int .i64 0,.string ⟨#[]⟩]] (.string TX)):=by rw [hTX];exact HT
 have tt:(TX.toList == s.toList) = false:=by rw [beqB,hTX];exact decide_eq_false (fun e => hq (mk_eq.1 e))
 have t0:s.toList.isEmpty = false:=by rw [isE];exact decide_eq_false (by omega)
 have t0':¬ s.toList = []:=fun h => by have:=(isE_nil s).1 h;omega
 have c0:((s[0].toNat:Int) == 110) = false:=by rw [beq_eq_false_iff_ne];intro e;exact q0 (UInt8.toNat_inj.1 (show s[0].toNat = 110 by omega))
 have c1:((s[0].toNat:Int) == 116) = false:=by rw [beq_eq_false_iff_ne];intro e;exact q1 (UInt8.toNat_inj.1 (show s[0].toNat = 116 by omega))
 have c2:((s[0].toNat:Int) == 102) = true:=by rw [q2];rfl
 obtain ⟨nN,hnN⟩:∃ nN,nN = numR (ba s):=⟨_,rfl⟩
 rw [← hnN] at HN
 clear hTX HT hne hc hq q0 q1 q2 hnN
 go_enter Tryz.func74,Tryz.ntmps74
 go_wp2_with (first
  | (go_at_call 93;(with_reducible refine (HN.out _).mono ?_);rintro e w2 ⟨rfl,rfl⟩)
  | (go_at_call 73;refine (HT'.out _).mono ?_;rintro e w3 ⟨rfl,s3⟩;have K3:=s3.cells;have F3:=s3.frees;have Z3:w.heap.size + 2 ≤ w3.heap.size:=(by have:=s3.size;simp [World.setCell] at this;omega);have z3:w.heap.size < w3.heap.size:=(by omega);have z3':w.heap.size + 1 < w3.heap.size:=(by omega);have S3:Hid (Same w w3):=Same.trans (by (repeat (first | (with_reducible refine Same.setCell ?_ (by dsimp only;omega) _) | (with_reducible refine Same.alloc ?_ _)));exact Same.refl _) s3;have BK3:Hid (Blk w3 w.heap.size 26 #[.int .i64 0,.int .i64 0,.string ⟨#[]⟩]):=(s3.block _ (by simp [World.setCell] <;> omega)).trans (by (repeat (refine Blk.far (p:=⟨w.heap.size + 1,_,none⟩) ?_ (by show w.heap.size ≠ w.heap.size + 1;omega) _));exact (Blk.new w _ _).alloc _);clear s3))
 all_goals
  obtain ⟨u0,u1,u2⟩:=set3_at (.int .i64 0) (.int .i64 0) (.string ⟨#[]⟩) BK3.out
  refine bodyPost_ret (v:=.tuple #[.agg #[.int .i64 0,.int .i64 0,.string ⟨#[]⟩],.int .i64 4]) ?_ rfl ⟨by rw [HE.out];rfl,?_⟩
  ·simp [results,Tryz.results74,go_sem,u0,u1,u2]
  ·repeat with_reducible first | refine Same.setCell ?_ (by dsimp only;omega) _ | refine Same.drew ?_ | refine Same.alloc ?_ _
   exact S3.out
theorem rparse_day_y (s:ByteArray) (w:World) (hs:s.size ≤ 1000) (h0:0 < s.size) (q0:¬ s[0] = 110) (q1:¬ s[0] = 116) (q2:¬ s[0] = 102) (q3:s[0] = 64) (nM:Int) (hnM:nM = numR ((ba s).drop 1)) (hc:candV (ba s) = ⟨3,nM,⟨#[]⟩⟩) (hq:rtxt ⟨3,nM,⟨#[]⟩⟩ = ba s) :
  Calls Tryz.prog 74 #[.string s] w fun e w' => e = .returned (.tuple #[(rparse (ba s)).1.val,.int .i64 (rparse (ba s)).2]) ∧ Same w w':=by
 have hne:ba s ≠ []:=fun e => by have:=congrArg List.length e;rw [ba_length] at this;simp only [List.length_nil] at this;omega
 have HE:=Lib.hid (rparse_val hne hc)
 rw [if_pos hq] at HE
 have HN:=Lib.hid (fun W => rnumber_ok s hs W)
 have HT:=Lib.hid (fun W => rtext_ok ⟨3,nM,⟨#[]⟩⟩ W)
 obtain ⟨TX,hTX⟩:∃ TX,TX = mkB (rtxt ⟨3,nM,⟨#[]⟩⟩):=⟨_,rfl⟩
 have HT':Hid (Rs 73 #[.agg #[.int .i64 3,.int .i64 nM,.string ⟨#[]⟩]] (.string TX)):=by rw [hTX];exact HT
 have tt:(TX.toList == s.toList) = true:=by rw [beqB,hTX];exact decide_eq_true (mk_eq.2 hq)
 have t0:s.toList.isEmpty = false:=by rw [isE];exact decide_eq_false (by omega)
 have t0':¬ s.toList = []:=fun h => by have:=(isE_nil s).1 h;omega
 have c0:((s[0].toNat:Int) == 110) = false:=by rw [beq_eq_false_iff_ne];intro e;exact q0 (UInt8.toNat_inj.1 (show s[0].toNat = 110 by omega))
 have c1:((s[0].toNat:Int) == 116) = false:=by rw [beq_eq_false_iff_ne];intro e;exact q1 (UInt8.toNat_inj.1 (show s[0].toNat = 116 by omega))
 have c2:((s[0].toNat:Int) == 102) = false:=by rw [beq_eq_false_iff_ne];intro e;exact q2 (UInt8.toNat_inj.1 (show s[0].toNat = 102 by omega))
 have c3:((s[0].toNat:Int) == 64) = true:=by rw [q3];rfl
 have HN2:=Lib.hid (fun W => rnumber_ok (s.extract 1 s.size) (by simp;omega) W)
 rw [ba_tail] at HN2
 rw [← hnM] at HN2
 obtain ⟨nN,hnN⟩:∃ nN,nN = numR (ba s):=⟨_,rfl⟩
 rw [← hnN] at HN
 clear hTX HT hne hc hq q0 q1 q2 q3 hnN
 clear hnM
 go_enter Tryz.func74,Tryz.ntmps74
 go_wp2_with (first
  | (go_at_call 93;(with_reducible refine (HN.out _).mono ?_);rintro e w2 ⟨rfl,rfl⟩)
  | (go_at_call 93;(with_reducible refine (HN2.out _).mono ?_);rintro e w2 ⟨rfl,rfl⟩)
  | (go_at_call 73;refine (HT'.out _).mono ?_;rintro e w3 ⟨rfl,s3⟩;have K3:=s3.cells;have F3:=s3.frees;have Z3:w.heap.size + 2 ≤ w3.heap.size:=(by have:=s3.size;simp [World.setCell] at this;omega);have z3:w.heap.size < w3.heap.size:=(by omega);have z3':w.heap.size + 1 < w3.heap.size:=(by omega);have S3:Hid (Same w w3):=Same.trans (by (repeat (first | (with_reducible refine Same.setCell ?_ (by dsimp only;omega) _) | (with_reducible refine Same.alloc ?_ _)));exact Same.refl _) s3;have BK3:Hid (Blk w3 w.heap.size 26 #[.int .i64 0,.int .i64 0,.string ⟨#[]⟩]):=(s3.block _ (by simp [World.setCell] <;> omega)).trans (by (repeat (refine Blk.far (p:=⟨w.heap.size + 1,_,none⟩) ?_ (by show w.heap.size ≠ w.heap.size + 1;omega) _));exact (Blk.new w _ _).alloc _);clear s3))
 all_goals
  obtain ⟨u0,u1,u2⟩:=set3_at (.int .i64 3) (.int .i64 nM) (.string ⟨#[]⟩) BK3.out
  refine bodyPost_ret (v:=.tuple #[.agg #[.int .i64 3,.int .i64 nM,.string ⟨#[]⟩],.int .i64 0]) ?_ rfl ⟨by rw [HE.out];rfl,?_⟩
  ·simp [results,Tryz.results74,go_sem,u0,u1,u2]
  ·repeat with_reducible first | refine Same.setCell ?_ (by dsimp only;omega) _ | refine Same.drew ?_ | refine Same.alloc ?_ _
   exact S3.out
theorem rparse_day_n (s:ByteArray) (w:World) (hs:s.size ≤ 1000) (h0:0 < s.size) (q0:¬ s[0] = 110) (q1:¬ s[0] = 116) (q2:¬ s[0] = 102) (q3:s[0] = 64) (nM:Int) (hnM:nM = numR ((ba s).drop 1)) (hc:candV (ba s) = ⟨3,nM,⟨#[]⟩⟩) (hq:¬ rtxt ⟨3,nM,⟨#[]⟩⟩ = ba s) :
  Calls Tryz.prog 74 #[.string s] w fun e w' => e = .returned (.tuple #[(rparse (ba s)).1.val,.int .i64 (rparse (ba s)).2]) ∧ Same w w':=by
 have hne:ba s ≠ []:=fun e => by have:=congrArg List.length e;rw [ba_length] at this;simp only [List.length_nil] at this;omega
 have HE:=Lib.hid (rparse_val hne hc)
 rw [if_neg hq] at HE
 have HN:=Lib.hid (fun W => rnumber_ok s hs W)
 have HT:=Lib.hid (fun W => rtext_ok ⟨3,nM,⟨#[]⟩⟩ W)
 obtain ⟨TX,hTX⟩:∃ TX,TX = mkB (rtxt ⟨3,nM,⟨#[]⟩⟩):=⟨_,rfl⟩
 have HT':Hid (Rs 73 #[.agg #[.int .i64 3,.int .i64 nM,.string ⟨#[]⟩]] (.string TX)):=by rw [hTX];exact HT
 have tt:(TX.toList == s.toList) = false:=by rw [beqB,hTX];exact decide_eq_false (fun e => hq (mk_eq.1 e))
 have t0:s.toList.isEmpty = false:=by rw [isE];exact decide_eq_false (by omega)
 have t0':¬ s.toList = []:=fun h => by have:=(isE_nil s).1 h;omega
 have c0:((s[0].toNat:Int) == 110) = false:=by rw [beq_eq_false_iff_ne];intro e;exact q0 (UInt8.toNat_inj.1 (show s[0].toNat = 110 by omega))
 have c1:((s[0].toNat:Int) == 116) = false:=by rw [beq_eq_false_iff_ne];intro e;exact q1 (UInt8.toNat_inj.1 (show s[0].toNat = 116 by omega))
 have c2:((s[0].toNat:Int) == 102) = false:=by rw [beq_eq_false_iff_ne];intro e;exact q2 (UInt8.toNat_inj.1 (show s[0].toNat = 102 by omega))
 have c3:((s[0].toNat:Int) == 64) = true:=by rw [q3];rfl
 have HN2:=Lib.hid (fun W => rnumber_ok (s.extract 1 s.size) (by simp;omega) W)
 rw [ba_tail] at HN2
 rw [← hnM] at HN2
 obtain ⟨nN,hnN⟩:∃ nN,nN = numR (ba s):=⟨_,rfl⟩
 rw [← hnN] at HN
 clear hTX HT hne hc hq q0 q1 q2 q3 hnN
 clear hnM
 go_enter Tryz.func74,Tryz.ntmps74
 go_wp2_with (first
  | (go_at_call 93;(with_reducible refine (HN.out _).mono ?_);rintro e w2 ⟨rfl,rfl⟩)
  | (go_at_call 93;(with_reducible refine (HN2.out _).mono ?_);rintro e w2 ⟨rfl,rfl⟩)
  | (go_at_call 73;refine (HT'.out _).mono ?_;rintro e w3 ⟨rfl,s3⟩;have K3:=s3.cells;have F3:=s3.frees;have Z3:w.heap.size + 2 ≤ w3.heap.size:=(by have:=s3.size;simp [World.setCell] at this;omega);have z3:w.heap.size < w3.heap.size:=(by omega);have z3':w.heap.size + 1 < w3.heap.size:=(by omega);have S3:Hid (Same w w3):=Same.trans (by (repeat (first | (with_reducible refine Same.setCell ?_ (by dsimp only;omega) _) | (with_reducible refine Same.alloc ?_ _)));exact Same.refl _) s3;have BK3:Hid (Blk w3 w.heap.size 26 #[.int .i64 0,.int .i64 0,.string ⟨#[]⟩]):=(s3.block _ (by simp [World.setCell] <;> omega)).trans (by (repeat (refine Blk.far (p:=⟨w.heap.size + 1,_,none⟩) ?_ (by show w.heap.size ≠ w.heap.size + 1;omega) _));exact (Blk.new w _ _).alloc _);clear s3))
 all_goals
  obtain ⟨u0,u1,u2⟩:=set3_at (.int .i64 0) (.int .i64 0) (.string ⟨#[]⟩) BK3.out
  refine bodyPost_ret (v:=.tuple #[.agg #[.int .i64 0,.int .i64 0,.string ⟨#[]⟩],.int .i64 4]) ?_ rfl ⟨by rw [HE.out];rfl,?_⟩
  ·simp [results,Tryz.results74,go_sem,u0,u1,u2]
  ·repeat with_reducible first | refine Same.setCell ?_ (by dsimp only;omega) _ | refine Same.drew ?_ | refine Same.alloc ?_ _
   exact S3.out
theorem rparse_txt_y (s:ByteArray) (w:World) (hs:s.size ≤ 1000) (h0:0 < s.size) (q0:¬ s[0] = 110) (q1:¬ s[0] = 116) (q2:¬ s[0] = 102) (q3:¬ s[0] = 64) (q4:s[0] = 34) (hz:s.size ≤ 402) (nS:ByteArray) (hnS:nS = mkB (unqL ((ba s).drop 1))) (hc:candV (ba s) = ⟨1,0,nS⟩) (hq:rtxt ⟨1,0,nS⟩ = ba s) :
  Calls Tryz.prog 74 #[.string s] w fun e w' => e = .returned (.tuple #[(rparse (ba s)).1.val,.int .i64 (rparse (ba s)).2]) ∧ Same w w':=by
 have hne:ba s ≠ []:=fun e => by have:=congrArg List.length e;rw [ba_length] at this;simp only [List.length_nil] at this;omega
 have HE:=Lib.hid (rparse_val hne hc)
 rw [if_pos hq] at HE
 have HN:=Lib.hid (fun W => rnumber_ok s hs W)
 have HT:=Lib.hid (fun W => rtext_ok ⟨1,0,nS⟩ W)
 obtain ⟨TX,hTX⟩:∃ TX,TX = mkB (rtxt ⟨1,0,nS⟩):=⟨_,rfl⟩
 have HT':Hid (Rs 73 #[.agg #[.int .i64 1,.int .i64 0,.string nS]] (.string TX)):=by rw [hTX];exact HT
 have tt:(TX.toList == s.toList) = true:=by rw [beqB,hTX];exact decide_eq_true (mk_eq.2 hq)
 have t0:s.toList.isEmpty = false:=by rw [isE];exact decide_eq_false (by omega)
 have t0':¬ s.toList = []:=fun h => by have:=(isE_nil s).1 h;omega
 have c0:((s[0].toNat:Int) == 110) = false:=by rw [beq_eq_false_iff_ne];intro e;exact q0 (UInt8.toNat_inj.1 (show s[0].toNat = 110 by omega))
 have c1:((s[0].toNat:Int) == 116) = false:=by rw [beq_eq_false_iff_ne];intro e;exact q1 (UInt8.toNat_inj.1 (show s[0].toNat = 116 by omega))
 have c2:((s[0].toNat:Int) == 102) = false:=by rw [beq_eq_false_iff_ne];intro e;exact q2 (UInt8.toNat_inj.1 (show s[0].toNat = 102 by omega))
 have c3:((s[0].toNat:Int) == 64) = false:=by rw [beq_eq_false_iff_ne];intro e;exact q3 (UInt8.toNat_inj.1 (show s[0].toNat = 64 by omega))
 have c4:((s[0].toNat:Int) == 34) = true:=by rw [q4];rfl
 have HUQ:=Lib.hid (fun W => runquoted_ok s hs W)
 rw [← hnS] at HUQ
 obtain ⟨nN,hnN⟩:∃ nN,nN = numR (ba s):=⟨_,rfl⟩
 rw [← hnN] at HN
 clear hTX HT hne hc hq q0 q1 q2 q3 q4 hnN
 clear hnS
 go_enter Tryz.func74,Tryz.ntmps74
 go_wp2_with (first
  | (go_at_call 93;(with_reducible refine (HN.out _).mono ?_);rintro e w2 ⟨rfl,rfl⟩)
  | (go_at_call 94;refine (HUQ.out _).mono ?_;rintro e w2 ⟨rfl,rfl⟩)
  | (go_at_call 73;refine (HT'.out _).mono ?_;rintro e w3 ⟨rfl,s3⟩;have K3:=s3.cells;have F3:=s3.frees;have Z3:w.heap.size + 2 ≤ w3.heap.size:=(by have:=s3.size;simp [World.setCell] at this;omega);have z3:w.heap.size < w3.heap.size:=(by omega);have z3':w.heap.size + 1 < w3.heap.size:=(by omega);have S3:Hid (Same w w3):=Same.trans (by (repeat (first | (with_reducible refine Same.setCell ?_ (by dsimp only;omega) _) | (with_reducible refine Same.alloc ?_ _)));exact Same.refl _) s3;have BK3:Hid (Blk w3 w.heap.size 26 #[.int .i64 0,.int .i64 0,.string ⟨#[]⟩]):=(s3.block _ (by simp [World.setCell] <;> omega)).trans (by (repeat (refine Blk.far (p:=⟨w.heap.size + 1,_,none⟩) ?_ (by show w.heap.size ≠ w.heap.size + 1;omega) _));exact (Blk.new w _ _).alloc _);clear s3))
 all_goals
  obtain ⟨u0,u1,u2⟩:=set3_at (.int .i64 1) (.int .i64 0) (.string nS) BK3.out
  refine bodyPost_ret (v:=.tuple #[.agg #[.int .i64 1,.int .i64 0,.string nS],.int .i64 0]) ?_ rfl ⟨by rw [HE.out];rfl,?_⟩
  ·simp [results,Tryz.results74,go_sem,u0,u1,u2]
  ·repeat with_reducible first | refine Same.setCell ?_ (by dsimp only;omega) _ | refine Same.drew ?_ | refine Same.alloc ?_ _
   exact S3.out
theorem rparse_txt_n (s:ByteArray) (w:World) (hs:s.size ≤ 1000) (h0:0 < s.size) (q0:¬ s[0] = 110) (q1:¬ s[0] = 116) (q2:¬ s[0] = 102) (q3:¬ s[0] = 64) (q4:s[0] = 34) (hz:s.size ≤ 402) (nS:ByteArray) (hnS:nS = mkB (unqL ((ba s).drop 1))) (hc:candV (ba s) = ⟨1,0,nS⟩) (hq:¬ rtxt ⟨1,0,nS⟩ = ba s) :
  Calls Tryz.prog 74 #[.string s] w fun e w' => e = .returned (.tuple #[(rparse (ba s)).1.val,.int .i64 (rparse (ba s)).2]) ∧ Same w w':=by
 have hne:ba s ≠ []:=fun e => by have:=congrArg List.length e;rw [ba_length] at this;simp only [List.length_nil] at this;omega
 have HE:=Lib.hid (rparse_val hne hc)
 rw [if_neg hq] at HE
 have HN:=Lib.hid (fun W => rnumber_ok s hs W)
 have HT:=Lib.hid (fun W => rtext_ok ⟨1,0,nS⟩ W)
 obtain ⟨TX,hTX⟩:∃ TX,TX = mkB (rtxt ⟨1,0,nS⟩):=⟨_,rfl⟩
 have HT':Hid (Rs 73 #[.agg #[.int .i64 1,.int .i64 0,.string nS]] (.string TX)):=by rw [hTX];exact HT
 have tt:(TX.toList == s.toList) = false:=by rw [beqB,hTX];exact decide_eq_false (fun e => hq (mk_eq.1 e))
 have t0:s.toList.isEmpty = false:=by rw [isE];exact decide_eq_false (by omega)
 have t0':¬ s.toList = []:=fun h => by have:=(isE_nil s).1 h;omega
 have c0:((s[0].toNat:Int) == 110) = false:=by rw [beq_eq_false_iff_ne];intro e;exact q0 (UInt8.toNat_inj.1 (show s[0].toNat = 110 by omega))
 have c1:((s[0].toNat:Int) == 116) = false:=by rw [beq_eq_false_iff_ne];intro e;exact q1 (UInt8.toNat_inj.1 (show s[0].toNat = 116 by omega))
 have c2:((s[0].toNat:Int) == 102) = false:=by rw [beq_eq_false_iff_ne];intro e;exact q2 (UInt8.toNat_inj.1 (show s[0].toNat = 102 by omega))
 have c3:((s[0].toNat:Int) == 64) = false:=by rw [beq_eq_false_iff_ne];intro e;exact q3 (UInt8.toNat_inj.1 (show s[0].toNat = 64 by omega))
 have c4:((s[0].toNat:Int) == 34) = true:=by rw [q4];rfl
 have HUQ:=Lib.hid (fun W => runquoted_ok s hs W)
 rw [← hnS] at HUQ
 obtain ⟨nN,hnN⟩:∃ nN,nN = numR (ba s):=⟨_,rfl⟩
 rw [← hnN] at HN
 clear hTX HT hne hc hq q0 q1 q2 q3 q4 hnN
 clear hnS
 go_enter Tryz.func74,Tryz.ntmps74
 go_wp2_with (first
  | (go_at_call 93;(with_reducible refine (HN.out _).mono ?_);rintro e w2 ⟨rfl,rfl⟩)
  | (go_at_call 94;refine (HUQ.out _).mono ?_;rintro e w2 ⟨rfl,rfl⟩)
  | (go_at_call 73;refine (HT'.out _).mono ?_;rintro e w3 ⟨rfl,s3⟩;have K3:=s3.cells;have F3:=s3.frees;have Z3:w.heap.size + 2 ≤ w3.heap.size:=(by have:=s3.size;simp [World.setCell] at this;omega);have z3:w.heap.size < w3.heap.size:=(by omega);have z3':w.heap.size + 1 < w3.heap.size:=(by omega);have S3:Hid (Same w w3):=Same.trans (by (repeat (first | (with_reducible refine Same.setCell ?_ (by dsimp only;omega) _) | (with_reducible refine Same.alloc ?_ _)));exact Same.refl _) s3;have BK3:Hid (Blk w3 w.heap.size 26 #[.int .i64 0,.int .i64 0,.string ⟨#[]⟩]):=(s3.block _ (by simp [World.setCell] <;> omega)).trans (by (repeat (refine Blk.far (p:=⟨w.heap.size + 1,_,none⟩) ?_ (by show w.heap.size ≠ w.heap.size + 1;omega) _));exact (Blk.new w _ _).alloc _);clear s3))
 all_goals
  obtain ⟨u0,u1,u2⟩:=set3_at (.int .i64 0) (.int .i64 0) (.string ⟨#[]⟩) BK3.out
  refine bodyPost_ret (v:=.tuple #[.agg #[.int .i64 0,.int .i64 0,.string ⟨#[]⟩],.int .i64 4]) ?_ rfl ⟨by rw [HE.out];rfl,?_⟩
  ·simp [results,Tryz.results74,go_sem,u0,u1,u2]
  ·repeat with_reducible first | refine Same.setCell ?_ (by dsimp only;omega) _ | refine Same.drew ?_ | refine Same.alloc ?_ _
   exact S3.out
theorem rparse_big_y (s:ByteArray) (w:World) (hs:s.size ≤ 1000) (h0:0 < s.size) (q0:¬ s[0] = 110) (q1:¬ s[0] = 116) (q2:¬ s[0] = 102) (q3:¬ s[0] = 64) (q4:s[0] = 34) (hz:402 < s.size) (hc:candV (ba s) = ⟨1,0,⟨#[]⟩⟩) (hq:rtxt ⟨1,0,⟨#[]⟩⟩ = ba s) :
  Calls Tryz.prog 74 #[.string s] w fun e w' => e = .returned (.tuple #[(rparse (ba s)).1.val,.int .i64 (rparse (ba s)).2]) ∧ Same w w':=by
 have hne:ba s ≠ []:=fun e => by have:=congrArg List.length e;rw [ba_length] at this;simp only [List.length_nil] at this;omega
 have HE:=Lib.hid (rparse_val hne hc)
 rw [if_pos hq] at HE
 have HN:=Lib.hid (fun W => rnumber_ok s hs W)
 have HT:=Lib.hid (fun W => rtext_ok ⟨1,0,⟨#[]⟩⟩ W)
 obtain ⟨TX,hTX⟩:∃ TX,TX = mkB (rtxt ⟨1,0,⟨#[]⟩⟩):=⟨_,rfl⟩
 have HT':Hid (Rs 73 #[.agg #[.int .i64 1,.int .i64 0,.string ⟨#[]⟩]] (.string TX)):=by rw [hTX];exact HT
 have tt:(TX.toList == s.toList) = true:=by rw [beqB,hTX];exact decide_eq_true (mk_eq.2 hq)
 have t0:s.toList.isEmpty = false:=by rw [isE];exact decide_eq_false (by omega)
 have t0':¬ s.toList = []:=fun h => by have:=(isE_nil s).1 h;omega
 have c0:((s[0].toNat:Int) == 110) = false:=by rw [beq_eq_false_iff_ne];intro e;exact q0 (UInt8.toNat_inj.1 (show s[0].toNat = 110 by omega))
 have c1:((s[0].toNat:Int) == 116) = false:=by rw [beq_eq_false_iff_ne];intro e;exact q1 (UInt8.toNat_inj.1 (show s[0].toNat = 116 by omega))
 have c2:((s[0].toNat:Int) == 102) = false:=by rw [beq_eq_false_iff_ne];intro e;exact q2 (UInt8.toNat_inj.1 (show s[0].toNat = 102 by omega))
 have c3:((s[0].toNat:Int) == 64) = false:=by rw [beq_eq_false_iff_ne];intro e;exact q3 (UInt8.toNat_inj.1 (show s[0].toNat = 64 by omega))
 have c4:((s[0].toNat:Int) == 34) = true:=by rw [q4];rfl
 obtain ⟨nN,hnN⟩:∃ nN,nN = numR (ba s):=⟨_,rfl⟩
 rw [← hnN] at HN
 clear hTX HT hne hc hq q0 q1 q2 q3 q4 hnN
 go_enter Tryz.func74,Tryz.ntmps74
 go_wp2_with (first
  | (go_at_call 93;(with_reducible refine (HN.out _).mono ?_);rintro e w2 ⟨rfl,rfl⟩)
  | (go_at_call 73;refine (HT'.out _).mono ?_;rintro e w3 ⟨rfl,s3⟩;have K3:=s3.cells;have F3:=s3.frees;have Z3:w.heap.size + 2 ≤ w3.heap.size:=(by have:=s3.size;simp [World.setCell] at this;omega);have z3:w.heap.size < w3.heap.size:=(by omega);have z3':w.heap.size + 1 < w3.heap.size:=(by omega);have S3:Hid (Same w w3):=Same.trans (by (repeat (first | (with_reducible refine Same.setCell ?_ (by dsimp only;omega) _) | (with_reducible refine Same.alloc ?_ _)));exact Same.refl _) s3;have BK3:Hid (Blk w3 w.heap.size 26 #[.int .i64 0,.int .i64 0,.string ⟨#[]⟩]):=(s3.block _ (by simp [World.setCell] <;> omega)).trans (by (repeat (refine Blk.far (p:=⟨w.heap.size + 1,_,none⟩) ?_ (by show w.heap.size ≠ w.heap.size + 1;omega) _));exact (Blk.new w _ _).alloc _);clear s3))
 all_goals
  obtain ⟨u0,u1,u2⟩:=set3_at (.int .i64 1) (.int .i64 0) (.string ⟨#[]⟩) BK3.out
  refine bodyPost_ret (v:=.tuple #[.agg #[.int .i64 1,.int .i64 0,.string ⟨#[]⟩],.int .i64 0]) ?_ rfl ⟨by rw [HE.out];rfl,?_⟩
  ·simp [results,Tryz.results74,go_sem,u0,u1,u2]
  ·repeat with_reducible first | refine Same.setCell ?_ (by dsimp only;omega) _ | refine Same.drew ?_ | refine Same.alloc ?_ _
   exact S3.out
theorem rparse_big_n (s:ByteArray) (w:World) (hs:s.size ≤ 1000) (h0:0 < s.size) (q0:¬ s[0] = 110) (q1:¬ s[0] = 116) (q2:¬ s[0] = 102) (q3:¬ s[0] = 64) (q4:s[0] = 34) (hz:402 < s.size) (hc:candV (ba s) = ⟨1,0,⟨#[]⟩⟩) (hq:¬ rtxt ⟨1,0,⟨#[]⟩⟩ = ba s) :
  Calls Tryz.prog 74 #[.string s] w fun e w' => e = .returned (.tuple #[(rparse (ba s)).1.val,.int .i64 (rparse (ba s)).2]) ∧ Same w w':=by
 have hne:ba s ≠ []:=fun e => by have:=congrArg List.length e;rw [ba_length] at this;simp only [List.length_nil] at this;omega
 have HE:=Lib.hid (rparse_val hne hc)
 rw [if_neg hq] at HE
 have HN:=Lib.hid (fun W => rnumber_ok s hs W)
 have HT:=Lib.hid (fun W => rtext_ok ⟨1,0,⟨#[]⟩⟩ W)
 obtain ⟨TX,hTX⟩:∃ TX,TX = mkB (rtxt ⟨1,0,⟨#[]⟩⟩):=⟨_,rfl⟩
 have HT':Hid (Rs 73 #[.agg #[.int .i64 1,.int .i64 0,.string ⟨#[]⟩]] (.string TX)):=by rw [hTX];exact HT
 have tt:(TX.toList == s.toList) = false:=by rw [beqB,hTX];exact decide_eq_false (fun e => hq (mk_eq.1 e))
 have t0:s.toList.isEmpty = false:=by rw [isE];exact decide_eq_false (by omega)
 have t0':¬ s.toList = []:=fun h => by have:=(isE_nil s).1 h;omega
 have c0:((s[0].toNat:Int) == 110) = false:=by rw [beq_eq_false_iff_ne];intro e;exact q0 (UInt8.toNat_inj.1 (show s[0].toNat = 110 by omega))
 have c1:((s[0].toNat:Int) == 116) = false:=by rw [beq_eq_false_iff_ne];intro e;exact q1 (UInt8.toNat_inj.1 (show s[0].toNat = 116 by omega))
 have c2:((s[0].toNat:Int) == 102) = false:=by rw [beq_eq_false_iff_ne];intro e;exact q2 (UInt8.toNat_inj.1 (show s[0].toNat = 102 by omega))
 have c3:((s[0].toNat:Int) == 64) = false:=by rw [beq_eq_false_iff_ne];intro e;exact q3 (UInt8.toNat_inj.1 (show s[0].toNat = 64 by omega))
 have c4:((s[0].toNat:Int) == 34) = true:=by rw [q4];rfl
 obtain ⟨nN,hnN⟩:∃ nN,nN = numR (ba s):=⟨_,rfl⟩
 rw [← hnN] at HN
 clear hTX HT hne hc hq q0 q1 q2 q3 q4 hnN
 go_enter Tryz.func74,Tryz.ntmps74
 go_wp2_with (first
  | (go_at_call 93;(with_reducible refine (HN.out _).mono ?_);rintro e w2 ⟨rfl,rfl⟩)
  | (go_at_call 73;refine (HT'.out _).mono ?_;rintro e w3 ⟨rfl,s3⟩;have K3:=s3.cells;have F3:=s3.frees;have Z3:w.heap.size + 2 ≤ w3.heap.size:=(by have:=s3.size;simp [World.setCell] at this;omega);have z3:w.heap.size < w3.heap.size:=(by omega);have z3':w.heap.size + 1 < w3.heap.size:=(by omega);have S3:Hid (Same w w3):=Same.trans (by (repeat (first | (with_reducible refine Same.setCell ?_ (by dsimp only;omega) _) | (with_reducible refine Same.alloc ?_ _)));exact Same.refl _) s3;have BK3:Hid (Blk w3 w.heap.size 26 #[.int .i64 0,.int .i64 0,.string ⟨#[]⟩]):=(s3.block _ (by simp [World.setCell] <;> omega)).trans (by (repeat (refine Blk.far (p:=⟨w.heap.size + 1,_,none⟩) ?_ (by show w.heap.size ≠ w.heap.size + 1;omega) _));exact (Blk.new w _ _).alloc _);clear s3))
 all_goals
  obtain ⟨u0,u1,u2⟩:=set3_at (.int .i64 0) (.int .i64 0) (.string ⟨#[]⟩) BK3.out
  refine bodyPost_ret (v:=.tuple #[.agg #[.int .i64 0,.int .i64 0,.string ⟨#[]⟩],.int .i64 4]) ?_ rfl ⟨by rw [HE.out];rfl,?_⟩
  ·simp [results,Tryz.results74,go_sem,u0,u1,u2]
  ·repeat with_reducible first | refine Same.setCell ?_ (by dsimp only;omega) _ | refine Same.drew ?_ | refine Same.alloc ?_ _
   exact S3.out
theorem rparse_num_y (s:ByteArray) (w:World) (hs:s.size ≤ 1000) (h0:0 < s.size) (q0:¬ s[0] = 110) (q1:¬ s[0] = 116) (q2:¬ s[0] = 102) (q3:¬ s[0] = 64) (q4:¬ s[0] = 34) (nN:Int) (hnN:nN = numR (ba s)) (hc:candV (ba s) = ⟨2,nN,⟨#[]⟩⟩) (hq:rtxt ⟨2,nN,⟨#[]⟩⟩ = ba s) :
  Calls Tryz.prog 74 #[.string s] w fun e w' => e = .returned (.tuple #[(rparse (ba s)).1.val,.int .i64 (rparse (ba s)).2]) ∧ Same w w':=by
 have hne:ba s ≠ []:=fun e => by have:=congrArg List.length e;rw [ba_length] at this;simp only [List.length_nil] at this;omega
 have HE:=Lib.hid (rparse_val hne hc)
 rw [if_pos hq] at HE
 have HN:=Lib.hid (fun W => rnumber_ok s hs W)
 have HT:=Lib.hid (fun W => rtext_ok ⟨2,nN,⟨#[]⟩⟩ W)
 obtain ⟨TX,hTX⟩:∃ TX,TX = mkB (rtxt ⟨2,nN,⟨#[]⟩⟩):=⟨_,rfl⟩
 have HT':Hid (Rs 73 #[.agg #[.int .i64 2,.int .i64 nN,.string ⟨#[]⟩]] (.string TX)):=by rw [hTX];exact HT
 have tt:(TX.toList == s.toList) = true:=by rw [beqB,hTX];exact decide_eq_true (mk_eq.2 hq)
 have t0:s.toList.isEmpty = false:=by rw [isE];exact decide_eq_false (by omega)
 have t0':¬ s.toList = []:=fun h => by have:=(isE_nil s).1 h;omega
 have c0:((s[0].toNat:Int) == 110) = false:=by rw [beq_eq_false_iff_ne];intro e;exact q0 (UInt8.toNat_inj.1 (show s[0].toNat = 110 by omega))
 have c1:((s[0].toNat:Int) == 116) = false:=by rw [beq_eq_false_iff_ne];intro e;exact q1 (UInt8.toNat_inj.1 (show s[0].toNat = 116 by omega))
 have c2:((s[0].toNat:Int) == 102) = false:=by rw [beq_eq_false_iff_ne];intro e;exact q2 (UInt8.toNat_inj.1 (show s[0].toNat = 102 by omega))
 have c3:((s[0].toNat:Int) == 64) = false:=by rw [beq_eq_false_iff_ne];intro e;exact q3 (UInt8.toNat_inj.1 (show s[0].toNat = 64 by omega))
 have c4:((s[0].toNat:Int) == 34) = false:=by rw [beq_eq_false_iff_ne];intro e;exact q4 (UInt8.toNat_inj.1 (show s[0].toNat = 34 by omega))
 rw [← hnN] at HN
 clear hTX HT hne hc hq q0 q1 q2 q3 q4 hnN
 go_enter Tryz.func74,Tryz.ntmps74
 go_wp2_with (first
  | (go_at_call 93;(with_reducible refine (HN.out _).mono ?_);rintro e w2 ⟨rfl,rfl⟩)
  | (go_at_call 73;refine (HT'.out _).mono ?_;rintro e w3 ⟨rfl,s3⟩;have K3:=s3.cells;have F3:=s3.frees;have Z3:w.heap.size + 2 ≤ w3.heap.size:=(by have:=s3.size;simp [World.setCell] at this;omega);have z3:w.heap.size < w3.heap.size:=(by omega);have z3':w.heap.size + 1 < w3.heap.size:=(by omega);have S3:Hid (Same w w3):=Same.trans (by (repeat (first | (with_reducible refine Same.setCell ?_ (by dsimp only;omega) _) | (with_reducible refine Same.alloc ?_ _)));exact Same.refl _) s3;have BK3:Hid (Blk w3 w.heap.size 26 #[.int .i64 0,.int .i64 0,.string ⟨#[]⟩]):=(s3.block _ (by simp [World.setCell] <;> omega)).trans (by (repeat (refine Blk.far (p:=⟨w.heap.size + 1,_,none⟩) ?_ (by show w.heap.size ≠ w.heap.size + 1;omega) _));exact (Blk.new w _ _).alloc _);clear s3))
 all_goals
  obtain ⟨u0,u1,u2⟩:=set3_at (.int .i64 2) (.int .i64 nN) (.string ⟨#[]⟩) BK3.out
  refine bodyPost_ret (v:=.tuple #[.agg #[.int .i64 2,.int .i64 nN,.string ⟨#[]⟩],.int .i64 0]) ?_ rfl ⟨by rw [HE.out];rfl,?_⟩
  ·simp [results,Tryz.results74,go_sem,u0,u1,u2]
  ·repeat with_reducible first | refine Same.setCell ?_ (by dsimp only;omega) _ | refine Same.drew ?_ | refine Same.alloc ?_ _
   exact S3.out
theorem rparse_num_n (s:ByteArray) (w:World) (hs:s.size ≤ 1000) (h0:0 < s.size) (q0:¬ s[0] = 110) (q1:¬ s[0] = 116) (q2:¬ s[0] = 102) (q3:¬ s[0] = 64) (q4:¬ s[0] = 34) (nN:Int) (hnN:nN = numR (ba s)) (hc:candV (ba s) = ⟨2,nN,⟨#[]⟩⟩) (hq:¬ rtxt ⟨2,nN,⟨#[]⟩⟩ = ba s) :
  Calls Tryz.prog 74 #[.string s] w fun e w' => e = .returned (.tuple #[(rparse (ba s)).1.val,.int .i64 (rparse (ba s)).2]) ∧ Same w w':=by
 have hne:ba s ≠ []:=fun e => by have:=congrArg List.length e;rw [ba_length] at this;simp only [List.length_nil] at this;omega
 have HE:=Lib.hid (rparse_val hne hc)
 rw [if_neg hq] at HE
 have HN:=Lib.hid (fun W => rnumber_ok s hs W)
 have HT:=Lib.hid (fun W => rtext_ok ⟨2,nN,⟨#[]⟩⟩ W)
 obtain ⟨TX,hTX⟩:∃ TX,TX = mkB (rtxt ⟨2,nN,⟨#[]⟩⟩):=⟨_,rfl⟩
 have HT':Hid (Rs 73 #[.agg #[.int .i64 2,.int .i64 nN,.string ⟨#[]⟩]] (.string TX)):=by rw [hTX];exact HT
 have tt:(TX.toList == s.toList) = false:=by rw [beqB,hTX];exact decide_eq_false (fun e => hq (mk_eq.1 e))
 have t0:s.toList.isEmpty = false:=by rw [isE];exact decide_eq_false (by omega)
 have t0':¬ s.toList = []:=fun h => by have:=(isE_nil s).1 h;omega
 have c0:((s[0].toNat:Int) == 110) = false:=by rw [beq_eq_false_iff_ne];intro e;exact q0 (UInt8.toNat_inj.1 (show s[0].toNat = 110 by omega))
 have c1:((s[0].toNat:Int) == 116) = false:=by rw [beq_eq_false_iff_ne];intro e;exact q1 (UInt8.toNat_inj.1 (show s[0].toNat = 116 by omega))
 have c2:((s[0].toNat:Int) == 102) = false:=by rw [beq_eq_false_iff_ne];intro e;exact q2 (UInt8.toNat_inj.1 (show s[0].toNat = 102 by omega))
 have c3:((s[0].toNat:Int) == 64) = false:=by rw [beq_eq_false_iff_ne];intro e;exact q3 (UInt8.toNat_inj.1 (show s[0].toNat = 64 by omega))
 have c4:((s[0].toNat:Int) == 34) = false:=by rw [beq_eq_false_iff_ne];intro e;exact q4 (UInt8.toNat_inj.1 (show s[0].toNat = 34 by omega))
 rw [← hnN] at HN
 clear hTX HT hne hc hq q0 q1 q2 q3 q4 hnN
 go_enter Tryz.func74,Tryz.ntmps74
 go_wp2_with (first
  | (go_at_call 93;(with_reducible refine (HN.out _).mono ?_);rintro e w2 ⟨rfl,rfl⟩)
  | (go_at_call 73;refine (HT'.out _).mono ?_;rintro e w3 ⟨rfl,s3⟩;have K3:=s3.cells;have F3:=s3.frees;have Z3:w.heap.size + 2 ≤ w3.heap.size:=(by have:=s3.size;simp [World.setCell] at this;omega);have z3:w.heap.size < w3.heap.size:=(by omega);have z3':w.heap.size + 1 < w3.heap.size:=(by omega);have S3:Hid (Same w w3):=Same.trans (by (repeat (first | (with_reducible refine Same.setCell ?_ (by dsimp only;omega) _) | (with_reducible refine Same.alloc ?_ _)));exact Same.refl _) s3;have BK3:Hid (Blk w3 w.heap.size 26 #[.int .i64 0,.int .i64 0,.string ⟨#[]⟩]):=(s3.block _ (by simp [World.setCell] <;> omega)).trans (by (repeat (refine Blk.far (p:=⟨w.heap.size + 1,_,none⟩) ?_ (by show w.heap.size ≠ w.heap.size + 1;omega) _));exact (Blk.new w _ _).alloc _);clear s3))
 all_goals
  obtain ⟨u0,u1,u2⟩:=set3_at (.int .i64 0) (.int .i64 0) (.string ⟨#[]⟩) BK3.out
  refine bodyPost_ret (v:=.tuple #[.agg #[.int .i64 0,.int .i64 0,.string ⟨#[]⟩],.int .i64 4]) ?_ rfl ⟨by rw [HE.out];rfl,?_⟩
  ·simp [results,Tryz.results74,go_sem,u0,u1,u2]
  ·repeat with_reducible first | refine Same.setCell ?_ (by dsimp only;omega) _ | refine Same.drew ?_ | refine Same.alloc ?_ _
   exact S3.out
theorem rparse_none (s:ByteArray) (w:World) (h0:s.size = 0) :
  Calls Tryz.prog 74 #[.string s] w fun e w' => e = .returned (.tuple #[(rparse (ba s)).1.val,.int .i64 (rparse (ba s)).2]) ∧ Same w w':=by
 have hne:ba s = []:=by apply List.length_eq_zero_iff.1;rw [ba_length];exact h0
 have HE:Hid (rparse (ba s) = (V.zero,4)):=by show _ = _;rw [hne];rfl
 have t0:s.toList.isEmpty = true:=by rw [isE];exact decide_eq_true h0
 have t0':s.toList = []:=(isE_nil s).2 h0
 clear hne h0
 go_enter Tryz.func74,Tryz.ntmps74
 go_wp2
 have U:=set3_same (.int .i64 0) (.int .i64 0) (.string ⟨#[]⟩) (Blk.new w 26 #[.int .i64 0,.int .i64 0,.string ⟨#[]⟩])
 have u0:_ = some (Value.int .i64 0):=U.cell 0
 have u1:_ = some (Value.int .i64 0):=U.cell 1
 have u2:_ = some (Value.string ⟨#[]⟩):=U.cell 2
 refine bodyPost_ret (v:=.tuple #[.agg #[.int .i64 0,.int .i64 0,.string ⟨#[]⟩],.int .i64 4]) ?_ rfl ⟨by rw [HE.out];rfl,?_⟩
 ·simp [results,Tryz.results74,go_sem,u0,u1,u2]
 ·repeat with_reducible first | refine Same.setCell ?_ (by dsimp only;omega) _ | refine Same.drew ?_ | refine Same.alloc ?_ _
  exact Same.refl _
theorem rparse_ok (s:ByteArray) (hs:s.size ≤ 1000) (w:World) :
  Calls Tryz.prog 74 #[.string s] w fun e w' => e = .returned (.tuple #[(parseV (ba s)).val,.int .i64 (parseE (ba s))]) ∧ Same w w':=by
 have e1:parseV (ba s) = (rparse (ba s)).1:=by rw [rparse_eq]
 have e2:parseE (ba s) = (rparse (ba s)).2:=by rw [rparse_eq]
 rw [e1,e2]
 by_cases h0:s.size = 0
 ·exact rparse_none s w h0
 have hp:0 < s.size:=by omega
 have hg:(ba s).getD 0 0 = s[0]:=by
  rw [List.getD_eq_getElem?_getD,List.getElem?_eq_getElem (by rw [ba_length];exact hp)]
  rfl
 obtain ⟨nM,hnM⟩:∃ nM,nM = numR ((ba s).drop 1):=⟨_,rfl⟩
 obtain ⟨nN,hnN⟩:∃ nN,nN = numR (ba s):=⟨_,rfl⟩
 obtain ⟨nS,hnS⟩:∃ nS,nS = mkB (unqL ((ba s).drop 1)):=⟨_,rfl⟩
 have hC:candV (ba s) = if s[0] = 110 then V.zero else if s[0] = 116 then ⟨4,1,ByteArray.empty⟩ else if s[0] = 102 then ⟨4,0,ByteArray.empty⟩ else if s[0] = 64 then ⟨3,nM,ByteArray.empty⟩ else if s[0] = 34 then ⟨1,0,if (ba s).length ≤ 402 then nS else ByteArray.empty⟩ else ⟨2,nN,ByteArray.empty⟩:=by
  unfold candV
  rw [hg,hnM,hnN,hnS]
 by_cases q0:s[0] = 110
 ·have hc:candV (ba s) = ⟨0,0,⟨#[]⟩⟩:=by rw [hC];rw [if_pos q0];rfl
  by_cases hq:rtxt ⟨0,0,⟨#[]⟩⟩ = ba s
  ·exact rparse_n_y s w hs hp q0 hc hq
  ·exact rparse_n_n s w hs hp q0 hc hq
 by_cases q1:s[0] = 116
 ·have hc:candV (ba s) = ⟨4,1,⟨#[]⟩⟩:=by rw [hC];rw [if_neg q0,if_pos q1];rfl
  by_cases hq:rtxt ⟨4,1,⟨#[]⟩⟩ = ba s
  ·exact rparse_t_y s w hs hp q0 q1 hc hq
  ·exact rparse_t_n s w hs hp q0 q1 hc hq
 by_cases q2:s[0] = 102
 ·have hc:candV (ba s) = ⟨4,0,⟨#[]⟩⟩:=by rw [hC];rw [if_neg q0,if_neg q1,if_pos q2];rfl
  by_cases hq:rtxt ⟨4,0,⟨#[]⟩⟩ = ba s
  ·exact rparse_f_y s w hs hp q0 q1 q2 hc hq
  ·exact rparse_f_n s w hs hp q0 q1 q2 hc hq
 by_cases q3:s[0] = 64
 ·have hc:candV (ba s) = ⟨3,nM,⟨#[]⟩⟩:=by rw [hC];rw [if_neg q0,if_neg q1,if_neg q2,if_pos q3];rfl
  by_cases hq:rtxt ⟨3,nM,⟨#[]⟩⟩ = ba s
  ·exact rparse_day_y s w hs hp q0 q1 q2 q3 nM hnM hc hq
  ·exact rparse_day_n s w hs hp q0 q1 q2 q3 nM hnM hc hq
 by_cases q4:s[0] = 34
 ·by_cases hz:s.size ≤ 402
  ·have hc:candV (ba s) = ⟨1,0,nS⟩:=by rw [hC];rw [if_neg q0,if_neg q1,if_neg q2,if_neg q3,if_pos q4,if_pos (by rw [ba_length];exact hz)]
   by_cases hq:rtxt ⟨1,0,nS⟩ = ba s
   ·exact rparse_txt_y s w hs hp q0 q1 q2 q3 q4 hz nS hnS hc hq
   ·exact rparse_txt_n s w hs hp q0 q1 q2 q3 q4 hz nS hnS hc hq
  ·have hz':402 < s.size:=by omega
   have hc:candV (ba s) = ⟨1,0,⟨#[]⟩⟩:=by rw [hC];rw [if_neg q0,if_neg q1,if_neg q2,if_neg q3,if_pos q4,if_neg (by rw [ba_length];exact hz)];rfl
   by_cases hq:rtxt ⟨1,0,⟨#[]⟩⟩ = ba s
   ·exact rparse_big_y s w hs hp q0 q1 q2 q3 q4 hz' hc hq
   ·exact rparse_big_n s w hs hp q0 q1 q2 q3 q4 hz' hc hq
 have hc:candV (ba s) = ⟨2,nN,⟨#[]⟩⟩:=by rw [hC];rw [if_neg q0,if_neg q1,if_neg q2,if_neg q3,if_neg q4];rfl
 by_cases hq:rtxt ⟨2,nN,⟨#[]⟩⟩ = ba s
 ·exact rparse_num_y s w hs hp q0 q1 q2 q3 q4 nN hnN hc hq
 ·exact rparse_num_n s w hs hp q0 q1 q2 q3 q4 nN hnN hc hq
end Go.Proofs.YtfifnemnihcijaaGreatDoor

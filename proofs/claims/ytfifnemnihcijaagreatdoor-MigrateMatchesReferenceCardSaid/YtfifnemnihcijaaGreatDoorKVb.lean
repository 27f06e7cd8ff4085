import Derived.Test.YtfifnemnihcijaaGreatDoorKWd
import Derived.Test.YtfifnemnihcijaaGreatDoorKShelf
import Derived.Deep.DeepCutAuto
import Derived.Deep.QuietTactic
import Derived.BigQuiet
import Derived.Outline
import Derived.Lib.AtoiAll
import Derived.Lib.AtoiErrMem
import Derived.Lib.ItoaLen
import Derived.Deep.RegionHeld3
set_option linter.unusedSimpArgs false
set_option linter.unusedVariables false
set_option maxHeartbeats 16000000
set_option maxRecDepth 100000
namespace Go.Proofs.YtfifnemnihcijaaGreatDoor
open Go.RowKit
theorem valid_ok (v:V) (w:World):Calls Tryz.prog 83 #[v.val] w fun e w' => e = .returned (.bool v.ok) ∧ Same w w':=by
 obtain ⟨k,n,s⟩:=v
 show Calls Tryz.prog 83 #[.agg #[.int .i64 k,.int .i64 n,.string s]] w _
 by_cases h1:k = 1
 ·subst h1
  go_enter Tryz.func83,Tryz.ntmps83
  go_wp2
  all_goals
   go_ret
   refine ⟨ret_bool ?_,(Same.refl _).alloc _⟩
   rw [Bool.eq_iff_iff,V.ok_iff]
   simp only [V.low,V.high,decide_eq_true_eq,isE] at *
   first | (simp at *;omega) | omega
 ·go_enter Tryz.func83,Tryz.ntmps83
  go_wp2
  all_goals
   go_ret
   refine ⟨ret_bool ?_,(Same.refl _).alloc _⟩
   rw [Bool.eq_iff_iff,V.ok_iff]
   simp only [V.low,V.high,decide_eq_true_eq,isE] at *
   first | (simp at *;omega) | (simp_all;done) | (simp_all;omega)
theorem name_ok (s:ByteArray) (w:World) (hs:s.size ≤ 9223372036854775807):Calls Tryz.prog 77 #[.string s] w fun e w' => e = .returned (.bool (nameB s)) ∧ w = w':=by
 go_enter Tryz.func77,Tryz.ntmps77
 go_wp2
 go_loop [7] (fun i => ∃ k:Nat,k ≤ s.size ∧ i = .int .i64 k ∧ nameL ((ba s).take k) = true) (fun i => s.size - (intOf i).toNat)
 case atStart => exact ⟨0,Nat.zero_le _,rfl,by simp [nameL]⟩
 case round =>
  obtain ⟨k,hk,rfl,hn⟩:=hrel
  by_cases hlt:k < s.size
  ·have hst:=nameL_step s k hlt
   have hbad:=nameL_bad s (k + 1)
   rw [hn,Bool.true_and] at hst
   have HS:=Lib.hid hst
   have HB:=Lib.hid hbad
   have HN:=Lib.hid hn
   clear hst hbad hn
   go_wp2
   all_goals
    first
     | (go_round
        case rel => exact ⟨k + 1,by omega,by go_num,HS.out.trans (chr_iff.2 (by (try simp only [beq_iff_eq] at *);omega))⟩
        case measure => simp [intOf];omega)
     | (go_ret
        refine ⟨ret_bool ?_,rfl⟩
        rw [nameB,HB.out (HS.out.trans (Bool.eq_false_iff.2 (fun h => by have:=chr_iff.1 h;(try simp only [beq_eq_false_iff_ne] at *);omega)))]
        rfl)
  ·obtain rfl:k = s.size:=by omega
   rw [← ba_length,List.take_length] at hn
   have HN:=Lib.hid hn
   clear hn
   have HE:nameB s = (decide (s.size ≠ 0) && decide (s.size ≤ 24)):=by rw [nameB,HN.out,Bool.true_and]
   have HF:=Lib.hid HE
   clear HE
   by_cases hz:s.size = 0
   ·have h1:=(isE_nil s).2 hz
    have h2:(!s.toList.isEmpty) = false:=by rw [h1];rfl
    have HZ:=Lib.hid hz
    clear hz
    go_wp2
    go_ret
    exact ⟨ret_bool (by rw [HF.out,HZ.out];rfl),rfl⟩
   ·have h1:¬ s.toList = []:=fun h => hz ((isE_nil s).1 h)
    have h2:(!s.toList.isEmpty) = true:=by rw [isE];simpa using hz
    have HZ:=Lib.hid hz
    clear hz
    go_wp2
    go_ret
    exact ⟨ret_bool (by rw [HF.out,decide_eq_true HZ.out,Bool.true_and];exact decide_eq_decide.2 (by omega)),rfl⟩
open Go.RowKit Go.Sort
structure Laid (w:World):Prop where
 tab:Lib.TabIs Tryz.prog w "internal/strconv.uint64pow10" .u64 Lib.pow10Tab
 syn:∃ t p,w.cell? ⟨1,0,none⟩ = some (.iface t p)
 rng:∃ t p,w.cell? ⟨2,0,none⟩ = some (.iface t p)
theorem Laid.same {w w':World} (l:Laid w) (s:Same w w'):Laid w':=by
 refine ⟨?_,?_,?_⟩
 ·have h:=l.tab
  unfold Lib.TabIs World.var? at h ⊢
  cases hg:Tryz.prog.globalNamed "internal/strconv.uint64pow10" with
  | none => rw [hg] at h;cases h
  | some g =>
   rw [hg] at h
   simp only [Option.bind_some] at h ⊢
   cases hh:w.heap[g]? with
   | none => rw [hh] at h;cases h
   | some o =>
    rw [hh] at h
    rw [s.block g (Array.getElem?_eq_some_iff.1 hh).1,hh]
    exact h
 ·obtain ⟨t,p,h⟩:=l.syn
  exact ⟨t,p,(s.cells _ _ (World.block_lt_of_cell? _ _ h)).trans h⟩
 ·obtain ⟨t,p,h⟩:=l.rng
  exact ⟨t,p,(s.cells _ _ (World.block_lt_of_cell? _ _ h)).trans h⟩
theorem same_grow (w:World) (k:Nat) (os:Array Obj):Same w (grow (w.drewN k) os):=
 ⟨rfl,rfl,rfl,by simp [grow,World.drewN],fun j hj => heap_grow_old (w.drewN k) os hj⟩
theorem itoa_ok (n:Int) (h0:-9223372036854775808 ≤ n) (h1:n ≤ 9223372036854775807) (w:World) (l:Laid w) :
  Calls Tryz.prog 142 #[.int .i64 n] w fun e w' => e = .returned (.string (mkB (Lib.itoa n))) ∧ Same w w':=by
 refine (Tryz.strconv_Itoa n h0 h1 w l.tab).mono ?_
 rintro e w' ⟨he,k,os,rfl⟩
 exact ⟨he,same_grow w k os⟩
def atoiV (l:List UInt8):Int:=match Lib.atoiAll l with | .ok v => v | .range => Lib.atoiSat l | _ => 0
def atoiB (l:List UInt8):Bool:=match Lib.atoiAll l with | .ok _ => true | _ => false
theorem atoi_ok (s:ByteArray) (hs:s.size ≤ 281474976710656) (w:World) (l:Laid w) :
  Calls Tryz.prog 153 #[.string s] w fun e w' => ∃ ev,e = .returned (.tuple #[.int .i64 (atoiV (ba s)),ev]) ∧ ((atoiB (ba s) = true ∧ ev = .nilIface) ∨ (atoiB (ba s) = false ∧ ∃ t p,ev = .iface t p)) ∧ Same w w':=by
 unfold atoiV atoiB
 cases h:Lib.atoiAll (ba s) with
 | ok v =>
  refine (Tryz.strconv_Atoi_ok s (by omega) v h w).mono ?_
  rintro e w' ⟨he,hw⟩
  refine ⟨_,he,.inl ⟨rfl,rfl⟩,?_⟩
  rcases hw with rfl | ⟨t,rfl⟩
  ·exact Same.refl _
  ·exact Lib.bytesWorld_below w _ t
 | range =>
  obtain ⟨t,p,hv⟩:=l.rng
  refine (Tryz.strconv_Atoi_range s hs h _ w hv (.inr ⟨t,p,rfl⟩)).mono ?_
  rintro e w' ⟨N,he,_,_,hb⟩
  exact ⟨_,he,.inr ⟨rfl,_,_,rfl⟩,hb⟩
 | _ =>
  obtain ⟨t,p,hv⟩:=l.syn
  refine (Tryz.strconv_Atoi_syntax s hs h _ w hv (.inr ⟨t,p,rfl⟩)).mono ?_
  rintro e w' ⟨N,he,_,_,hb⟩
  exact ⟨_,he,.inr ⟨rfl,_,_,rfl⟩,hb⟩
theorem beqB' (s t:ByteArray):(s.toList == t.toList) = decide (s = t):=by
 rw [ByteArray.toList_eq,ByteArray.toList_eq,Bool.eq_iff_iff,beq_iff_eq,decide_eq_true_eq]
 exact ⟨fun h => ba_inj h,fun h => by rw [h]⟩
def decB (l:List UInt8):Bool:=atoiB l && decide (Lib.itoa (atoiV l) = l)
theorem atoiV_range (l:List UInt8) (h:atoiB l = true):-9223372036854775808 ≤ atoiV l ∧ atoiV l ≤ 9223372036854775807:=by
 unfold atoiV atoiB at *
 unfold Lib.atoiAll at *
 cases l with
 | nil => simp at h
 | cons c r =>
  simp only at h ⊢
  cases hm:Lib.parseMag (if c.toNat = 43 ∨ c.toNat = 45 then r else c :: r) with
  | range => rw [hm] at h;simp at h
  | ok u =>
   rw [hm] at h
   simp only at h ⊢
   by_cases h1:¬ c.toNat = 45 ∧ 9223372036854775808 ≤ u
   ·rw [if_pos h1] at h;simp at h
   ·rw [if_neg h1]
    by_cases h2:c.toNat = 45 ∧ 9223372036854775808 < u
    ·rw [if_neg h1,if_pos h2] at h;simp at h
    ·rw [if_neg h2]
     simp only
     split <;> omega
  | _ => rw [hm] at h;simp at h
theorem decimal_ok (s:ByteArray) (hs:s.size ≤ 281474976710656) (w:World) (l:Laid w) :
  Calls Tryz.prog 145 #[.string s] w fun e w' => e = .returned (.tuple #[.int .i64 (atoiV (ba s)),.bool (decB (ba s))]) ∧ Same w w':=by
 have HA:=Lib.hid (atoi_ok s hs w l)
 have HR:=Lib.hid (atoiV_range (ba s))
 have HI:=Lib.hid (fun (W:World) (t:Same w W) (h:atoiB (ba s) = true) => itoa_ok (atoiV (ba s)) (atoiV_range _ h).1 (atoiV_range _ h).2 W (l.same t))
 have HD:Hid (decB (ba s) = (atoiB (ba s) && decide (Lib.itoa (atoiV (ba s)) = ba s))):=rfl
 have HB:((mkB (Lib.itoa (atoiV (ba s)))).toList == s.toList) = decide (Lib.itoa (atoiV (ba s)) = ba s):=by
  rw [beqB']
  exact decide_eq_decide.2 ⟨fun h => by have:=congrArg ba h;rwa [ba_mkB] at this,fun h => by rw [h,mkB_ba]⟩
 generalize atoiV (ba s) = v at HA HR HI HD HB ⊢
 generalize atoiB (ba s) = b at HA HR HI HD
 generalize decB (ba s) = q at HD ⊢
 have HBB:=Lib.hid HB
 clear HB
 go_enter Tryz.func145,Tryz.ntmps145
 go_wp2_with fail
 refine HA.out.mono ?_
 rintro e w1 ⟨ev,rfl,hev,s1⟩
 have S1:=Lib.hid s1
 clear s1
 rcases hev with ⟨hb,rfl⟩ | ⟨hb,t,p,rfl⟩
 ·subst hb
  have HI1:=Lib.hid (HI.out _ S1.out rfl)
  cases hd:decide (Lib.itoa v = ba s) with
  | true =>
   have t1:((mkB (Lib.itoa v)).toList == s.toList) = true:=by rw [HBB.out,hd]
   have HQ:Hid (q = true):=by show q = true;rw [HD.out,hd];rfl
   clear hd
   go_wp2_with (go_at_call 142;refine HI1.out.mono ?_;rintro e w2 ⟨rfl,s2⟩;have S2:=Lib.hid s2;clear s2)
   go_ret2
   exact ⟨by rw [HQ.out];rfl,S1.out.trans S2.out⟩
  | false =>
   have t1:((mkB (Lib.itoa v)).toList == s.toList) = false:=by rw [HBB.out,hd]
   have HQ:Hid (q = false):=by show q = false;rw [HD.out,hd];rfl
   clear hd
   go_wp2_with (go_at_call 142;refine HI1.out.mono ?_;rintro e w2 ⟨rfl,s2⟩;have S2:=Lib.hid s2;clear s2)
   go_ret2
   exact ⟨by rw [HQ.out];rfl,S1.out.trans S2.out⟩
 ·subst hb
  have HQ:Hid (q = false):=by show q = false;rw [HD.out];rfl
  go_wp2_with fail
  go_ret2
  exact ⟨by rw [HQ.out];rfl,S1.out⟩
def V.txt (v:V):ByteArray:=
 if v.ok then
  if v.k = 2 then mkB (Lib.itoa v.n) else if v.k = 3 then mkB (64 :: Lib.itoa v.n) else if v.k = 4 then mkB (Lib.formatBool (decide (v.n = 1))) else mkB [110,117,108,108]
 else ByteArray.empty
theorem ret_str {a b:ByteArray} (h:a = b):Ending.returned (.string a) = .returned (.string b):=by rw [h]
theorem text_ok (v:V) (w:World) (l:Laid w) (h1:v.k ≠ 1) :
  Calls Tryz.prog 132 #[v.val] w fun e w' => e = .returned (.string v.txt) ∧ Same w w':=by
 have HV:=Lib.hid (valid_ok v)
 have HE:Hid (v.txt = if v.ok then
  if v.k = 2 then mkB (Lib.itoa v.n) else if v.k = 3 then mkB (64 :: Lib.itoa v.n) else if v.k = 4 then mkB (Lib.formatBool (decide (v.n = 1))) else mkB [110,117,108,108]
 else ByteArray.empty):=rfl
 generalize v.txt = tx at HE ⊢
 have HOK:=Lib.hid (@V.ok_iff v)
 obtain ⟨k,n,s⟩:=v
 simp only at h1 HE HOK
 have hv:(⟨k,n,s⟩:V).val = .agg #[.int .i64 k,.int .i64 n,.string s]:=rfl
 rw [hv] at HV
 show Calls Tryz.prog 132 #[.agg #[.int .i64 k,.int .i64 n,.string s]] w _
 generalize (⟨k,n,s⟩:V).ok = b at HV HE HOK
 clear hv
 cases b with
 | false =>
  go_enter Tryz.func132,Tryz.ntmps132
  go_wp2_with (go_at_call 83;refine (HV.out _).mono ?_;rintro e w1 ⟨rfl,s1⟩;have S1:=Lib.hid (((Same.refl w).alloc _).trans s1);clear s1)
  go_ret
  exact ⟨ret_str HE.out.symm,S1.out⟩
 | true =>
  obtain ⟨_,hk,_,hlo,hhi⟩:=HOK.out.1 rfl
  have t1:(k == 1) = false:=by simp;exact h1
  have hn:-1000000000 ≤ n ∧ n ≤ 1000000000:=by unfold V.low at hlo;unfold V.high at hhi;split at hlo <;> (try split at hhi) <;> (try split at hhi) <;> (try split at hhi) <;> omega
  have HI:=Lib.hid (fun (W:World) (t:Same w W) => itoa_ok n (by omega) (by omega) W (l.same t))
  have hlen:=Lib.itoa_length_le n (by omega) (by omega)
  have HFB:=Lib.hid (fun W => Tryz.strconv_FormatBool (decide (n = 1)) W)
  clear h1 hlo hhi hn HOK
  by_cases e2:k = 2
  ·subst e2
   clear t1
   go_enter Tryz.func132,Tryz.ntmps132
   go_wp2_with (first
    | (go_at_call 83;refine (HV.out _).mono ?_;rintro e w1 ⟨rfl,s1⟩;have K1:=s1.cells;have S1:=Lib.hid (((Same.refl w).alloc _).trans s1);clear s1)
    | (go_at_call 142;refine (HI.out _ S1.out).mono ?_;rintro e w2 ⟨rfl,s2⟩;have S2:=Lib.hid (S1.out.trans s2);clear s2))
   go_ret
   exact ⟨ret_str (by rw [HE.out];rfl),S2.out⟩
  by_cases e3:k = 3
  ·subst e3
   clear t1 e2
   have sz:(mkB (Lib.itoa n)).size ≤ 21:=by rw [size_mkB];exact hlen
   go_enter Tryz.func132,Tryz.ntmps132
   go_wp2_with (first
    | (go_at_call 83;refine (HV.out _).mono ?_;rintro e w1 ⟨rfl,s1⟩;have K1:=s1.cells;have S1:=Lib.hid (((Same.refl w).alloc _).trans s1);clear s1)
    | (go_at_call 142;refine (HI.out _ S1.out).mono ?_;rintro e w2 ⟨rfl,s2⟩;have S2:=Lib.hid (S1.out.trans s2);clear s2))
   go_ret
   exact ⟨ret_str (by rw [HE.out];apply ba_inj;simp [ba,mkB]),S2.out⟩
  by_cases e4:k = 4
  ·subst e4
   clear t1 e2 e3
   have HD:Hid ((n == 1) = decide (n = 1)):=by show _ = _;rw [Bool.eq_iff_iff];simp
   generalize hdd:decide (n = 1) = d at HFB HE HD
   have t4:(n == 1) = d:=HD.out
   clear hdd
   go_enter Tryz.func132,Tryz.ntmps132
   go_wp2_with (first
    | (go_at_call 83;refine (HV.out _).mono ?_;rintro e w1 ⟨rfl,s1⟩;have K1:=s1.cells;have S1:=Lib.hid (((Same.refl w).alloc _).trans s1);clear s1)
    | (go_at_call 143;refine (HFB.out _).mono ?_;rintro e w2 ⟨rfl,rfl⟩))
   go_ret
   exact ⟨ret_str (by rw [HE.out];rfl),S1.out⟩
  ·have t2:(k == 2) = false:=by simp;exact e2
   have t3:(k == 3) = false:=by simp;exact e3
   have t4:(k == 4) = false:=by simp;exact e4
   have HX:=Lib.hid e2
   have HY:=Lib.hid e3
   have HZ:=Lib.hid e4
   clear e2 e3 e4
   go_enter Tryz.func132,Tryz.ntmps132
   go_wp2_with (go_at_call 83;refine (HV.out _).mono ?_;rintro e w1 ⟨rfl,s1⟩;have K1:=s1.cells;have S1:=Lib.hid (((Same.refl w).alloc _).trans s1);clear s1)
   go_ret
   exact ⟨ret_str (by rw [HE.out,if_pos (by trivial),if_neg HX.out,if_neg HY.out,if_neg HZ.out];rfl),S1.out⟩
def unesc:List UInt8 → Bool → List UInt8 → Option (List UInt8 × Bool)
 | [],esc,out => some (out,esc)
 | c :: l,true,out => if c = 110 then unesc l false (out ++ [10]) else if c = 34 ∨ c = 92 then unesc l false (out ++ [c]) else none
 | c :: l,false,out => if c = 92 then unesc l true out else if c = 34 ∨ c = 10 then none else unesc l false (out ++ [c])
def contentV (t:List UInt8):List UInt8 × Bool:=
 if decide (t.length < 2) || !decide (t.getD 0 0 = 34) || !decide (t.getD (t.length - 1) 0 = 34) then ([],false)
 else match unesc ((t.drop 1).take (t.length - 2)) false [] with
  | none => ([],false)
  | some (out,esc) => (out,!esc)
def parse0 (t:List UInt8):V × Bool:=
 if t = [110,117,108,108] then (⟨0,0,ByteArray.empty⟩,true)
 else if t = [116,114,117,101] then (⟨4,1,ByteArray.empty⟩,true)
 else if t = [102,97,108,115,101] then (⟨4,0,ByteArray.empty⟩,true)
 else if Lib.hasPrefix t [64] then (⟨3,atoiV (t.drop 1),ByteArray.empty⟩,decB (t.drop 1))
 else if Lib.hasPrefix t [34] then (⟨1,0,mkB (contentV t).1⟩,(contentV t).2)
 else (⟨2,atoiV t,ByteArray.empty⟩,decB t)
def parseV (t:List UInt8):V:=if (parse0 t).2 && (parse0 t).1.ok then (parse0 t).1 else V.zero
def parseE (t:List UInt8):Int:=if (parse0 t).2 && (parse0 t).1.ok then 0 else 4
def castP (v:V) (k:Int):V × Int:=
 if !(v.ok && kindB k) then (V.zero,1)
 else if v.k = k ∨ v.k = 0 then (v,0)
 else if k = 1 then (⟨1,0,v.txt⟩,0)
 else if v.k = 1 then (if parseE (ba v.s) = 0 ∧ (parseV (ba v.s)).k = k then (parseV (ba v.s),0) else (V.zero,15))
 else if v.k = 4 ∨ k = 4 then (V.zero,10)
 else if (⟨k,v.n,v.s⟩:V).ok then (⟨k,v.n,v.s⟩,0) else (V.zero,15)
theorem parse_fit {t:List UInt8} (_h:parseE t = 0):(parseV t).ok = true:=by
 unfold parseV
 split
 ·rename_i h
  simp at h
  exact h.2
 ·exact V.zero_ok
theorem txt_size (v:V):v.txt.size ≤ 23:=by
 unfold V.txt
 split
 ·rename_i hok
  obtain ⟨_,_,_,hlo,hhi⟩:=V.ok_iff.1 hok
  have hn:-1000000000 ≤ v.n ∧ v.n ≤ 1000000000:=by unfold V.low at hlo;unfold V.high at hhi;split at hlo <;> (try split at hhi) <;> (try split at hhi) <;> (try split at hhi) <;> omega
  have hl:=Lib.itoa_length_le v.n (by omega) (by omega)
  split
  ·rw [size_mkB];omega
  ·split
   ·rw [size_mkB];simp;omega
   ·split
    ·rw [size_mkB];cases decide (v.n = 1) <;> decide
    ·decide
 ·decide
theorem cast_fit {v:V} {k:Int} (h:(castP v k).2 = 0):fitB k (castP v k).1 = true:=by
 unfold castP at h ⊢
 split
 ·rename_i h1;rw [if_pos h1] at h;cases h
 rename_i h1
 rw [if_neg h1] at h
 have hok:v.ok = true ∧ kindB k = true:=by simpa using h1
 split
 ·rename_i h2
  simp only [fitB,hok.1,Bool.true_and,Bool.or_eq_true,decide_eq_true_eq]
  exact h2.elim .inr .inl
 rename_i h2
 rw [if_neg h2] at h
 split
 ·rename_i h3
  subst h3
  have hs:=txt_size v
  have:(⟨1,0,v.txt⟩:V).ok = true:=V.ok_iff.2 ⟨.inl rfl,⟨by simp only;omega,by simp only;omega⟩,by simp only;omega,by simp [V.low],by simp [V.high]⟩
  simp [fitB,this]
 rename_i h3
 rw [if_neg h3] at h
 split
 ·rename_i h4
  rw [if_pos h4] at h
  split
  ·rename_i h5
   simp [fitB,parse_fit h5.1,h5.2]
  ·rename_i h5;rw [if_neg h5] at h;cases h
 rename_i h4
 rw [if_neg h4] at h
 split
 ·rename_i h5;rw [if_pos h5] at h;cases h
 rename_i h5
 rw [if_neg h5] at h
 split
 ·rename_i h6;simp [fitB,h6]
 ·rename_i h6;rw [if_neg h6] at h;cases h
theorem fit_ok (q:Int) (v:V) (w:World):Calls Tryz.prog 49 #[.int .i64 q,v.val] w fun e w' => e = .returned (.bool (fitB q v)) ∧ Same w w':=by
 have HV:=Lib.hid (valid_ok v)
 obtain ⟨k,n,s⟩:=v
 have hv:(⟨k,n,s⟩:V).val = .agg #[.int .i64 k,.int .i64 n,.string s]:=rfl
 rw [hv] at HV
 show Calls Tryz.prog 49 #[.int .i64 q,.agg #[.int .i64 k,.int .i64 n,.string s]] w _
 have HF:Hid (fitB q ⟨k,n,s⟩ = ((⟨k,n,s⟩:V).ok && (decide (k = 0) || decide (k = q)))):=Lib.hid rfl
 generalize (⟨k,n,s⟩:V).ok = b at HV HF
 clear hv
 go_enter Tryz.func49,Tryz.ntmps49
 go_wp2_with (first | (go_at_call 83;refine (HV.out _).mono ?_;rintro e w1 ⟨rfl,c1⟩;have C1:=Lib.hid c1;have K1:=c1.cells;have Z1:=c1.size;clear c1))
 all_goals
  go_ret
  exact ⟨ret_bool (by rw [HF.out];by_cases e:k = 0 <;> by_cases e2:k = q <;> simp_all),((Same.refl w).alloc _).trans C1.out⟩
def Tells {α:Type} (g:Nat) (caps:Array Value) (w:World) (enc:α → Value) (p:α → Bool) (xs:List α):Prop:=
 ∀ x ∈ xs,∀ W,Same w W → Calls Tryz.prog g (#[enc x] ++ caps) W fun e W' => e = .returned (.bool (p x)) ∧ Same W W'
theorem not_step {α:Type} {p:α → Bool} {xs:List α} {k:Nat} (hk:k < xs.length) (hq:p xs[k] = false) (h:∀ j (hj:j < xs.length),j < k → p xs[j] = false):∀ j (hj:j < xs.length),j < k + 1 → p xs[j] = false:=by
 intro j hj h2
 by_cases e:j = k
 ·subst e;exact hq
 ·exact h j hj (by omega)
theorem indexT_ok {α:Type} (g:Nat) (caps:Array Value) (eg:∀ args w,(callFunc g args).run Tryz.prog w = .ok (.enter g args) w) (h:Hd) (enc:α → List Value) (h3:∀ x,∃ a b c,enc x = [a,b,c]) (p:α → Bool) (xs:List α) (w:World)
  (l:Lies w 3 h enc xs) (t:Tells g caps w (fun x => .agg (enc x).toArray) p xs) :
  Calls Tryz.prog 47 #[h.val,.func (.func g) #[] caps] w fun e w' => e = .returned (.int .i64 (idxB p xs)) ∧ Same w w':=by
 obtain ⟨A,n,c⟩:=h
 show Calls Tryz.prog 47 #[.slice A n c,.func (.func g) #[] caps] w _
 have hn:xs.length = n:=l.1
 have hb:n ≤ 9223372036854775807:=l.2.1
 subst hn
 have HL:=Lib.hid l
 have HT:=Lib.hid t
 have H3:=Lib.hid h3
 clear l t h3
 go_enter Tryz.func47,Tryz.ntmps47
 go_wp2
 go_loopw [8] (fun i wr => ∃ k:Nat,k ≤ xs.length ∧ i = .int .i64 k ∧ Hid (Same w wr) ∧ Hid (∀ j (hj:j < xs.length),j < k → p xs[j] = false)) (fun i _ => xs.length - (intOf i).toNat)
 case atStart => exact ⟨0,Nat.zero_le _,rfl,Same.refl w,fun j _ hj => absurd hj (Nat.not_lt_zero _)⟩
 case round =>
  obtain ⟨k,hk,rfl,S,N⟩:=hrel
  by_cases hlt:k < xs.length
  ·obtain ⟨b,off,hA,blt,hc⟩:=(HL.out.same S.out).2.2 k hlt
   have hA':A = some ⟨b,off,none⟩:=hA
   obtain ⟨va,vb,vc,he⟩:=H3.out xs[k]
   have hcall:Calls Tryz.prog g (#[Value.agg (enc xs[k]).toArray] ++ caps) wr fun e W' => e = .returned (.bool (p xs[k])) ∧ Same wr W':=HT.out xs[k] (List.getElem_mem hlt) wr S.out
   rw [he] at hc hcall
   have c0:=hc 0 _ rfl
   have c1:=hc 1 _ rfl
   have c2:=hc 2 _ rfl
   simp only [Nat.add_zero] at c0
   have HC:=Lib.hid hcall
   clear hcall hc he hA
   subst hA'
   cases hq:p xs[k] with
   | true =>
    rw [hq] at HC
    have HQ:=Lib.hid hq
    clear hq
    go_wp2_with fail
    refine HC.out.mono ?_
    rintro e w' ⟨rfl,s1⟩
    have S1:=Lib.hid s1
    clear s1 c0 c1 c2
    go_wp2
    go_ret
    exact ⟨ret_int (idxB_hit k hlt HQ.out (fun j hj => N.out j (by omega) hj)).symm,S.out.trans S1.out⟩
   | false =>
    rw [hq] at HC
    have HQ:=Lib.hid hq
    clear hq
    go_wp2_with fail
    refine HC.out.mono ?_
    rintro e w' ⟨rfl,s1⟩
    have S1:=Lib.hid s1
    clear s1 c0 c1 c2
    go_wp2
    go_roundw
    case rel => exact ⟨k + 1,by omega,by go_num,S.out.trans S1.out,not_step hlt HQ.out N.out⟩
    case measure => simp [intOf];omega
  ·go_wp2
   go_ret
   exact ⟨ret_int (idxB_miss (fun j hj => N.out j hj (by omega))).symm,S.out⟩
theorem indexA_ok {α:Type} (g:Nat) (caps:Array Value) (eg:∀ args w,(callFunc g args).run Tryz.prog w = .ok (.enter g args) w) (h:Hd) (enc:α → List Value) (h3:∀ x,∃ a b c d e f,enc x = [a,b,c,d,e,f]) (p:α → Bool) (xs:List α) (w:World)
  (l:Lies w 6 h enc xs) (t:Tells g caps w (fun x => .agg (enc x).toArray) p xs) :
  Calls Tryz.prog 51 #[h.val,.func (.func g) #[] caps] w fun e w' => e = .returned (.int .i64 (idxB p xs)) ∧ Same w w':=by
 obtain ⟨A,n,c⟩:=h
 show Calls Tryz.prog 51 #[.slice A n c,.func (.func g) #[] caps] w _
 have hn:xs.length = n:=l.1
 have hb:n ≤ 9223372036854775807:=l.2.1
 subst hn
 have HL:=Lib.hid l
 have HT:=Lib.hid t
 have H3:=Lib.hid h3
 clear l t h3
 go_enter Tryz.func51,Tryz.ntmps51
 go_wp2
 go_loopw [8] (fun i wr => ∃ k:Nat,k ≤ xs.length ∧ i = .int .i64 k ∧ Hid (Same w wr) ∧ Hid (∀ j (hj:j < xs.length),j < k → p xs[j] = false)) (fun i _ => xs.length - (intOf i).toNat)
 case atStart => exact ⟨0,Nat.zero_le _,rfl,Same.refl w,fun j _ hj => absurd hj (Nat.not_lt_zero _)⟩
 case round =>
  obtain ⟨k,hk,rfl,S,N⟩:=hrel
  by_cases hlt:k < xs.length
  ·obtain ⟨b,off,hA,blt,hc⟩:=(HL.out.same S.out).2.2 k hlt
   have hA':A = some ⟨b,off,none⟩:=hA
   obtain ⟨va,vb,vc,vd,ve,vf,he⟩:=H3.out xs[k]
   have hcall:Calls Tryz.prog g (#[Value.agg (enc xs[k]).toArray] ++ caps) wr fun e W' => e = .returned (.bool (p xs[k])) ∧ Same wr W':=HT.out xs[k] (List.getElem_mem hlt) wr S.out
   rw [he] at hc hcall
   have c0:=hc 0 _ rfl
   have c1:=hc 1 _ rfl
   have c2:=hc 2 _ rfl
   have c3:=hc 3 _ rfl
   have c4:=hc 4 _ rfl
   have c5:=hc 5 _ rfl
   simp only [Nat.add_zero] at c0
   have HC:=Lib.hid hcall
   clear hcall hc he hA
   subst hA'
   cases hq:p xs[k] with
   | true =>
    rw [hq] at HC
    have HQ:=Lib.hid hq
    clear hq
    go_wp2_with fail
    refine HC.out.mono ?_
    rintro e w' ⟨rfl,s1⟩
    have S1:=Lib.hid s1
    clear s1 c0 c1 c2 c3 c4 c5
    go_wp2
    go_ret
    exact ⟨ret_int (idxB_hit k hlt HQ.out (fun j hj => N.out j (by omega) hj)).symm,S.out.trans S1.out⟩
   | false =>
    rw [hq] at HC
    have HQ:=Lib.hid hq
    clear hq
    go_wp2_with fail
    refine HC.out.mono ?_
    rintro e w' ⟨rfl,s1⟩
    have S1:=Lib.hid s1
    clear s1 c0 c1 c2 c3 c4 c5
    go_wp2
    go_roundw
    case rel => exact ⟨k + 1,by omega,by go_num,S.out.trans S1.out,not_step hlt HQ.out N.out⟩
    case measure => simp [intOf];omega
  ·go_wp2
   go_ret
   exact ⟨ret_int (idxB_miss (fun j hj => N.out j hj (by omega))).symm,S.out⟩
end Go.Proofs.YtfifnemnihcijaaGreatDoor

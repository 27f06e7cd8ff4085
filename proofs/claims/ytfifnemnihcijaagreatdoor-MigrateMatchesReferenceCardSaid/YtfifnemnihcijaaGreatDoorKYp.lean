import Derived.Test.YtfifnemnihcijaaGreatDoorKRa
import Derived.Test.YtfifnemnihcijaaGreatDoorKYa
import Derived.IntWalk
import Derived.Laws.Concat
set_option linter.unusedSimpArgs false
set_option linter.unusedVariables false
set_option maxHeartbeats 16000000
set_option maxRecDepth 100000
namespace Go.Proofs.YtfifnemnihcijaaGreatDoor
open Go.RowKit
theorem digit_toNat {d:Nat} (h:d < 10):(UInt8.ofNat (48 + d)).toNat = 48 + d:=by
 rw [UInt8.toNat_ofNat']
 omega
theorem dec_small {u:Nat} (h:u < 10):Lib.decDigits u = [UInt8.ofNat (48 + u)]:=by rw [Lib.decDigits,dif_pos h]
theorem dec_big {u:Nat} (h:¬ u < 10):Lib.decDigits u = Lib.decDigits (u / 10) ++ [UInt8.ofNat (48 + u % 10)]:=by rw [Lib.decDigits,dif_neg h]
theorem dec_head:∀ (u:Nat),∃ c r,Lib.decDigits u = c :: r ∧ 48 ≤ c.toNat ∧ c.toNat ≤ 57:=by
 intro u
 induction u using Nat.strongRecOn with
 | _ u ih =>
  by_cases h:u < 10
  ·exact ⟨_,[],dec_small h,by rw [digit_toNat h];omega,by rw [digit_toNat h];omega⟩
  ·obtain ⟨c,r,e,h1,h2⟩:=ih (u / 10) (by omega)
   exact ⟨c,r ++ [UInt8.ofNat (48 + u % 10)],by rw [dec_big h,e];rfl,h1,h2⟩
theorem parse_dec:∀ (u:Nat) (r:List UInt8),u < 18446744073709551616 → Lib.parseUint10 0 (Lib.decDigits u ++ r) = Lib.parseUint10 u r:=by
 intro u
 induction u using Nat.strongRecOn with
 | _ u ih =>
  intro r hu
  by_cases h:u < 10
  ·rw [dec_small h]
   have e:=digit_toNat h
   show Lib.parseUint10 0 (UInt8.ofNat (48 + u) :: r) = _
   rw [Lib.parseUint10,e,if_pos ⟨by omega,by omega⟩,if_neg (by omega),if_neg (by omega)]
   congr 1
   omega
  ·rw [dec_big h,List.append_assoc,ih (u / 10) (by omega) _ (by omega)]
   have e:=digit_toNat (d:=u % 10) (by omega)
   show Lib.parseUint10 (u / 10) (UInt8.ofNat (48 + u % 10) :: r) = _
   rw [Lib.parseUint10,e,if_pos ⟨by omega,by omega⟩,if_neg (by omega),if_neg (by omega)]
   congr 1
   omega
theorem mag_dec (u:Nat) (hu:u < 18446744073709551616):Lib.parseMag (Lib.decDigits u) = .ok u:=by
 obtain ⟨c,r,e,_⟩:=dec_head u
 unfold Lib.parseMag
 rw [if_neg (by rw [e];simp)]
 have:=parse_dec u [] hu
 rw [List.append_nil] at this
 rw [this];rfl
theorem atoi_itoa (n:Int) (h1:-1000000000 ≤ n) (h2:n ≤ 1000000000):Lib.atoiAll (Lib.itoa n) = .ok n:=by
 unfold Lib.itoa
 by_cases h0:n < 0
 ·rw [if_pos h0]
  unfold Lib.atoiAll
  have hm:=mag_dec n.natAbs (by omega)
  simp only [show (45:UInt8).toNat = 45 from rfl]
  rw [if_pos (by right;trivial),hm]
  simp only
  rw [if_neg (by omega),if_neg (by omega)]
  congr 1
  simp only [if_true]
  omega
 ·rw [if_neg h0]
  obtain ⟨c,r,e,h3,h4⟩:=dec_head n.toNat
  have hm:=mag_dec n.toNat (by omega)
  rw [e] at hm ⊢
  unfold Lib.atoiAll
  simp only
  rw [if_neg (by omega),hm]
  simp only
  rw [if_neg (by omega),if_neg (by omega)]
  congr 1
  rw [if_neg (by omega)]
  omega
theorem dec_itoa (n:Int) (h1:-1000000000 ≤ n) (h2:n ≤ 1000000000):atoiV (Lib.itoa n) = n ∧ decB (Lib.itoa n) = true:=by
 have h:=atoi_itoa n h1 h2
 have e:atoiV (Lib.itoa n) = n:=by unfold atoiV;rw [h]
 refine ⟨e,?_⟩
 unfold decB atoiB
 rw [e,h]
 simp
def numStep (a:Nat) (c:UInt8):Nat:=if 48 ≤ c.toNat ∧ c.toNat ≤ 57 then (a * 10 + (c.toNat - 48)) % 18446744073709551616 else a
def numU (t:List UInt8):Nat:=(t.take 20).foldl numStep 0
def toI64 (n:Nat):Int:=if n < 9223372036854775808 then n else (n:Int) - 18446744073709551616
def numR (t:List UInt8):Int:=if t.head? = some 45 then toI64 ((18446744073709551616 - numU t) % 18446744073709551616) else toI64 (numU t)
theorem fold_dec:∀ (u:Nat),u < 18446744073709551616 → (Lib.decDigits u).foldl numStep 0 = u:=by
 intro u
 induction u using Nat.strongRecOn with
 | _ u ih =>
  intro hu
  by_cases h:u < 10
  ·rw [dec_small h]
   have e:=digit_toNat h
   simp only [List.foldl_cons,List.foldl_nil,numStep,e]
   rw [if_pos ⟨by omega,by omega⟩]
   omega
  ·rw [dec_big h,List.foldl_append,ih (u / 10) (by omega) (by omega)]
   have e:=digit_toNat (d:=u % 10) (by omega)
   simp only [List.foldl_cons,List.foldl_nil,numStep,e]
   rw [if_pos ⟨by omega,by omega⟩]
   omega
theorem nDigits_le:∀ (k u:Nat),u < 10 ^ (k + 1) → Lib.nDigits u ≤ k + 1
 | 0,u,h => by rw [Lib.nDigits_small (by simpa using h)];omega
 | k + 1,u,h => by
  by_cases h10:u < 10
  ·rw [Lib.nDigits_small h10];omega
  ·have:=nDigits_le k (u / 10) (by rw [Nat.pow_succ] at h;omega)
   rw [Lib.nDigits_big h10];omega
theorem dec_short (u:Nat) (h:u ≤ 1000000000):(Lib.decDigits u).length ≤ 10:=by
 rw [Lib.decDigits_length]
 exact nDigits_le 9 u (by omega)
theorem num_itoa (n:Int) (h1:-1000000000 ≤ n) (h2:n ≤ 1000000000):numR (Lib.itoa n) = n:=by
 unfold numR numU Lib.itoa
 by_cases h0:n < 0
 ·rw [if_pos h0]
  have hs:=dec_short n.natAbs (by omega)
  rw [if_pos (show (45 :: Lib.decDigits n.natAbs).head? = some 45 from rfl),List.take_of_length_le (by simp;omega)]
  have e:(45 :: Lib.decDigits n.natAbs).foldl numStep 0 = n.natAbs:=by
   show (Lib.decDigits n.natAbs).foldl numStep (numStep 0 45) = _
   exact fold_dec _ (by omega)
  rw [e]
  unfold toI64
  split <;> omega
 ·rw [if_neg h0]
  have hs:=dec_short n.toNat (by omega)
  obtain ⟨c,r,e,h3,h4⟩:=dec_head n.toNat
  rw [if_neg (by rw [e];simp only [List.head?_cons,Option.some.injEq];rintro rfl;simp at h3),List.take_of_length_le (by omega),fold_dec _ (by omega)]
  unfold toI64
  split <;> omega
def escB (c:UInt8):List UInt8:=if c = 34 then [92,34] else if c = 92 then [92,92] else if c = 10 then [92,110] else [c]
def quoL (s:List UInt8):List UInt8:=34 :: (s.flatMap escB ++ [34])
def unqL:List UInt8 → List UInt8
 | [] => []
 | [_] => []
 | c :: d :: r => if c = 92 then (if d = 110 then 10 else d) :: unqL r else c :: unqL (d :: r)
theorem unesc_esc:∀ (s out:List UInt8),unesc (s.flatMap escB) false out = some (out ++ s,false)
 | [],out => by simp [unesc]
 | c :: s,out => by
  have ih:=fun o => unesc_esc s o
  rw [List.flatMap_cons]
  unfold escB
  by_cases h1:c = 34
  ·subst h1
   simp only [if_true,List.cons_append,List.nil_append]
   rw [unesc,if_pos rfl,unesc,if_neg (by decide),if_pos (by left;rfl)]
   have:=ih (out ++ [34])
   rw [show (escB) = (fun c => if c = 34 then [92,34] else if c = 92 then [92,92] else if c = 10 then [92,110] else [c]) from rfl] at this
   rw [this];simp
  ·by_cases h2:c = 92
   ·subst h2
    rw [if_neg h1,if_pos rfl]
    simp only [List.cons_append,List.nil_append]
    rw [unesc,if_pos rfl,unesc,if_neg (by decide),if_pos (by right;rfl)]
    have:=ih (out ++ [92])
    rw [show (escB) = (fun c => if c = 34 then [92,34] else if c = 92 then [92,92] else if c = 10 then [92,110] else [c]) from rfl] at this
    rw [this];simp
   ·by_cases h3:c = 10
    ·subst h3
     rw [if_neg h1,if_neg h2,if_pos rfl]
     simp only [List.cons_append,List.nil_append]
     rw [unesc,if_pos rfl,unesc,if_pos rfl]
     have:=ih (out ++ [10])
     rw [show (escB) = (fun c => if c = 34 then [92,34] else if c = 92 then [92,92] else if c = 10 then [92,110] else [c]) from rfl] at this
     rw [this];simp
    ·rw [if_neg h1,if_neg h2,if_neg h3]
     simp only [List.cons_append,List.nil_append]
     rw [unesc,if_neg h2,if_neg (by simp [h1,h3])]
     have:=ih (out ++ [c])
     rw [show (escB) = (fun c => if c = 34 then [92,34] else if c = 92 then [92,92] else if c = 10 then [92,110] else [c]) from rfl] at this
     rw [this];simp
theorem unesc_inv:∀ (n:Nat) (l out o:List UInt8),l.length ≤ n → unesc l false out = some (o,false) → ∃ s,l = s.flatMap escB ∧ o = out ++ s:=by
 intro n
 induction n with
 | zero =>
  intro l out o hl h
  have:l = []:=List.length_eq_zero_iff.1 (by omega)
  subst this
  simp only [unesc,Option.some.injEq,Prod.mk.injEq] at h
  exact ⟨[],rfl,by simp [h.1]⟩
 | succ n ih =>
  intro l out o hl h
  match l with
  | [] =>
   simp only [unesc,Option.some.injEq,Prod.mk.injEq] at h
   exact ⟨[],rfl,by simp [h.1]⟩
  | c :: l =>
   rw [unesc] at h
   by_cases h2:c = 92
   ·subst h2
    rw [if_pos rfl] at h
    match l with
    | [] =>
     simp [unesc] at h
    | d :: l =>
     rw [unesc] at h
     simp only [List.length_cons] at hl
     by_cases hd:d = 110
     ·subst hd
      rw [if_pos rfl] at h
      obtain ⟨s,e1,e2⟩:=ih l _ _ (by omega) h
      exact ⟨10 :: s,by rw [List.flatMap_cons,← e1];rfl,by rw [e2];simp⟩
     ·rw [if_neg hd] at h
      by_cases hq:d = 34 ∨ d = 92
      ·rw [if_pos hq] at h
       obtain ⟨s,e1,e2⟩:=ih l _ _ (by omega) h
       refine ⟨d :: s,?_,by rw [e2];simp⟩
       rw [List.flatMap_cons,← e1]
       rcases hq with rfl | rfl <;> rfl
      ·rw [if_neg hq] at h;cases h
   ·rw [if_neg h2] at h
    by_cases hq:c = 34 ∨ c = 10
    ·rw [if_pos hq] at h;cases h
    ·rw [if_neg hq] at h
     simp only [List.length_cons] at hl
     obtain ⟨s,e1,e2⟩:=ih l _ _ (by omega) h
     simp only [not_or] at hq
     exact ⟨c :: s,by rw [List.flatMap_cons,← e1];unfold escB;rw [if_neg hq.1,if_neg h2,if_neg hq.2];rfl,by rw [e2];simp⟩
theorem content_quo (s:List UInt8):contentV (quoL s) = (s,true):=by
 have hl:(quoL s).length = (s.flatMap escB).length + 2:=by simp [quoL]
 have h0:(quoL s).getD 0 0 = 34:=rfl
 have h1:(quoL s).getD ((quoL s).length - 1) 0 = 34:=by
  rw [hl]
  show (34 :: (s.flatMap escB ++ [34])).getD ((s.flatMap escB).length + 1) 0 = 34
  simp [List.getD_eq_getElem?_getD]
 have h2:((quoL s).drop 1).take ((quoL s).length - 2) = s.flatMap escB:=by
  rw [hl]
  show ((s.flatMap escB) ++ [34]).take ((s.flatMap escB).length + 2 - 2) = _
  simp
 unfold contentV
 rw [h0,h1,h2,unesc_esc]
 have h3:decide ((quoL s).length < 2) = false:=decide_eq_false (by omega)
 rw [h3]
 rfl
theorem quo_content {t s:List UInt8} (h:contentV t = (s,true)):t = quoL s:=by
 unfold contentV at h
 split at h
 ·cases h
 ·rename_i hc
  simp only [Bool.or_eq_true,decide_eq_true_eq,Bool.not_eq_true',decide_eq_false_iff_not,not_or,Decidable.not_not] at hc
  obtain ⟨⟨hl,h0⟩,h1⟩:=hc
  cases hu:unesc ((t.drop 1).take (t.length - 2)) false [] with
  | none => rw [hu] at h;cases h
  | some p =>
   obtain ⟨o,esc⟩:=p
   rw [hu] at h
   simp only [Prod.mk.injEq,Bool.not_eq_true'] at h
   obtain ⟨rfl,rfl⟩:=h
   obtain ⟨s,e1,e2⟩:=unesc_inv _ _ _ _ (Nat.le_refl _) hu
   rw [List.nil_append] at e2
   subst e2
   unfold quoL
   rw [← e1]
   match t,hl,h0,h1 with
   | c :: l,hl,h0,h1 =>
    simp only [List.length_cons] at hl
    have hc:c = 34:=h0
    subst hc
    have hlen:(34 :: l).length - 2 = l.length - 1:=by simp only [List.length_cons];omega
    rw [hlen]
    show 34 :: l = 34 :: (l.take (l.length - 1) ++ [34])
    congr 1
    have hne:l ≠ []:=by intro e;rw [e] at hl;simp at hl
    have hlast:l.getLast hne = 34:=by
     rw [List.getLast_eq_getElem]
     have:(34 :: l).getD ((34 :: l).length - 1) 0 = 34:=h1
     rw [List.getD_eq_getElem?_getD] at this
     have e3:(34 :: l).length - 1 = (l.length - 1) + 1:=by simp only [List.length_cons];omega
     rw [e3,List.getElem?_cons_succ,List.getElem?_eq_getElem (by omega)] at this
     exact this
    rw [← hlast,← List.dropLast_eq_take]
    exact (List.dropLast_concat_getLast hne).symm
theorem unq_quo:∀ (s:List UInt8),unqL (s.flatMap escB ++ [34]) = s
 | [] => rfl
 | c :: s => by
  have ih:=unq_quo s
  rw [List.flatMap_cons,List.append_assoc]
  obtain ⟨d,r,hr⟩:∃ d r,s.flatMap escB ++ [34] = d :: r:=by
   cases hh:s.flatMap escB ++ [34] with
   | nil => simp at hh
   | cons d r => exact ⟨d,r,rfl⟩
  rw [hr] at ih ⊢
  have hs:∀ l:List UInt8,unqL (92 :: l.head! :: l.tail) = unqL (92 :: l.head! :: l.tail):=fun _ => rfl
  by_cases h1:c = 34
  ·subst h1
   show unqL (92 :: 34 :: d :: r) = _
   rw [unqL,if_pos rfl,if_neg (by decide),ih]
  ·by_cases h2:c = 92
   ·subst h2
    show unqL (92 :: 92 :: d :: r) = _
    rw [unqL,if_pos rfl,if_neg (by decide),ih]
   ·by_cases h3:c = 10
    ·subst h3
     show unqL (92 :: 110 :: d :: r) = _
     rw [unqL,if_pos rfl,if_pos rfl,ih]
    ·have e:escB c = [c]:=by unfold escB;rw [if_neg h1,if_neg h2,if_neg h3]
     rw [e]
     show unqL (c :: d :: r) = _
     rw [unqL,if_neg h2,ih]
theorem quo_len (s:List UInt8):(quoL s).length ≤ 2 * s.length + 2:=by
 have:(s.flatMap escB).length ≤ 2 * s.length:=by
  induction s with
  | nil => simp
  | cons c s ih =>
   rw [List.flatMap_cons,List.length_append,List.length_cons]
   have:(escB c).length ≤ 2:=by unfold escB;split <;> (try split) <;> (try split) <;> simp
   omega
 show (34 :: (s.flatMap escB ++ [34])).length ≤ _
 simp only [List.length_cons,List.length_append,List.length_nil]
 omega
def rtxt (v:V):List UInt8:=
 if v.ok then
  if v.k = 1 then quoL (ba v.s) else if v.k = 2 then Lib.itoa v.n else if v.k = 3 then 64 :: Lib.itoa v.n else if v.k = 4 then (if v.n = 1 then [116,114,117,101] else [102,97,108,115,101]) else [110,117,108,108]
 else []
def candV (t:List UInt8):V:=
 if t.getD 0 0 = 110 then V.zero
 else if t.getD 0 0 = 116 then ⟨4,1,ByteArray.empty⟩
 else if t.getD 0 0 = 102 then ⟨4,0,ByteArray.empty⟩
 else if t.getD 0 0 = 64 then ⟨3,numR (t.drop 1),ByteArray.empty⟩
 else if t.getD 0 0 = 34 then ⟨1,0,if t.length ≤ 402 then mkB (unqL (t.drop 1)) else ByteArray.empty⟩
 else ⟨2,numR t,ByteArray.empty⟩
def rparse (t:List UInt8):V × Int:=if t = [] then (V.zero,4) else if rtxt (candV t) = t then (candV t,0) else (V.zero,4)
theorem itoa_head (n:Int):∃ c r,Lib.itoa n = c :: r ∧ (c = 45 ∨ (48 ≤ c.toNat ∧ c.toNat ≤ 57)):=by
 unfold Lib.itoa
 split
 ·exact ⟨45,_,rfl,.inl rfl⟩
 ·obtain ⟨c,r,e,h⟩:=dec_head n.toNat
  exact ⟨c,r,e,.inr h⟩
theorem parse0_pair {t:List UInt8} {v:V} {b:Bool} (h:parse0 t = (v,b)):(parseV t,parseE t) = if b && v.ok then (v,0) else (V.zero,4):=by
 unfold parseV parseE
 rw [h]
 simp only
 split <;> rfl
theorem rparse_eq (t:List UInt8):rparse t = (parseV t,parseE t):=by
 unfold rparse
 cases t with
 | nil => decide +kernel
 | cons c r =>
  rw [if_neg (by simp)]
  have hg:(c :: r).getD 0 0 = c:=rfl
  have hp1:∀ x:UInt8,Lib.hasPrefix (c :: r) [x] = decide (c = x):=by
   intro x
   rw [Bool.eq_iff_iff,decide_eq_true_eq]
   have hn:List.isPrefixOf ([]:List UInt8) r = true:=by cases r <;> rfl
   show (x == c && List.isPrefixOf [] r) = true ↔ c = x
   rw [hn,Bool.and_true,beq_iff_eq]
   exact eq_comm
  by_cases q1:c :: r = [110,117,108,108]
  ·rw [q1];decide +kernel
  by_cases q2:c :: r = [116,114,117,101]
  ·rw [q2];decide +kernel
  by_cases q3:c :: r = [102,97,108,115,101]
  ·rw [q3];decide +kernel
  have hp:parse0 (c :: r) = if decide (c = 64) = true then (⟨3,atoiV r,ByteArray.empty⟩,decB r) else if decide (c = 34) = true then (⟨1,0,mkB (contentV (c :: r)).1⟩,(contentV (c :: r)).2) else (⟨2,atoiV (c :: r),ByteArray.empty⟩,decB (c :: r)):=by
   unfold parse0
   rw [if_neg q1,if_neg q2,if_neg q3,hp1,hp1]
   rfl
  by_cases c1:c = 110
  ·subst c1
   have e1:candV (110 :: r) = V.zero:=by unfold candV;rw [hg,if_pos rfl]
   have e2:rtxt V.zero = [110,117,108,108]:=by decide +kernel
   rw [e1,e2,if_neg (fun e => q1 e.symm)]
   have hb:parse0 (110 :: r) = (⟨2,atoiV (110 :: r),ByteArray.empty⟩,decB (110 :: r)):=by rw [hp];rfl
   rw [parse0_pair hb]
   have:(decB (110 :: r) && (⟨2,atoiV (110 :: r),ByteArray.empty⟩:V).ok) = false:=by
    have:decB (110 :: r) = false:=by
     unfold decB
     rw [Bool.and_eq_false_iff]
     right
     apply decide_eq_false
     intro e
     obtain ⟨d,r',e',hd⟩:=itoa_head (atoiV (110 :: r))
     rw [e'] at e
     injection e with e _
     subst e
     rcases hd with hd | hd
     ·cases hd
     ·simp at hd
    rw [this];rfl
   rw [this];rfl
  by_cases c2:c = 116
  ·subst c2
   have e1:candV (116 :: r) = ⟨4,1,ByteArray.empty⟩:=by unfold candV;rw [hg,if_neg (by decide),if_pos rfl]
   have e2:rtxt ⟨4,1,ByteArray.empty⟩ = [116,114,117,101]:=by decide +kernel
   rw [e1,e2,if_neg (fun e => q2 e.symm)]
   have hb:parse0 (116 :: r) = (⟨2,atoiV (116 :: r),ByteArray.empty⟩,decB (116 :: r)):=by rw [hp];rfl
   rw [parse0_pair hb]
   have:(decB (116 :: r) && (⟨2,atoiV (116 :: r),ByteArray.empty⟩:V).ok) = false:=by
    have:decB (116 :: r) = false:=by
     unfold decB
     rw [Bool.and_eq_false_iff]
     right
     apply decide_eq_false
     intro e
     obtain ⟨d,r',e',hd⟩:=itoa_head (atoiV (116 :: r))
     rw [e'] at e
     injection e with e _
     subst e
     rcases hd with hd | hd
     ·cases hd
     ·simp at hd
    rw [this];rfl
   rw [this];rfl
  by_cases c3:c = 102
  ·subst c3
   have e1:candV (102 :: r) = ⟨4,0,ByteArray.empty⟩:=by unfold candV;rw [hg,if_neg (by decide),if_neg (by decide),if_pos rfl]
   have e2:rtxt ⟨4,0,ByteArray.empty⟩ = [102,97,108,115,101]:=by decide +kernel
   rw [e1,e2,if_neg (fun e => q3 e.symm)]
   have hb:parse0 (102 :: r) = (⟨2,atoiV (102 :: r),ByteArray.empty⟩,decB (102 :: r)):=by rw [hp];rfl
   rw [parse0_pair hb]
   have:(decB (102 :: r) && (⟨2,atoiV (102 :: r),ByteArray.empty⟩:V).ok) = false:=by
    have:decB (102 :: r) = false:=by
     unfold decB
     rw [Bool.and_eq_false_iff]
     right
     apply decide_eq_false
     intro e
     obtain ⟨d,r',e',hd⟩:=itoa_head (atoiV (102 :: r))
     rw [e'] at e
     injection e with e _
     subst e
     rcases hd with hd | hd
     ·cases hd
     ·simp at hd
    rw [this];rfl
   rw [this];rfl
  by_cases c4:c = 64
  ·subst c4
   have e1:candV (64 :: r) = ⟨3,numR r,ByteArray.empty⟩:=by unfold candV;rw [hg,if_neg (by decide),if_neg (by decide),if_neg (by decide),if_pos rfl];rfl
   have hb:parse0 (64 :: r) = (⟨3,atoiV r,ByteArray.empty⟩,decB r):=by rw [hp];rfl
   rw [parse0_pair hb,e1]
   cases hd:(decB r && (⟨3,atoiV r,ByteArray.empty⟩:V).ok) with
   | true =>
    rw [Bool.and_eq_true] at hd
    have hr:Lib.itoa (atoiV r) = r:=by
     have:=hd.1
     unfold decB at this
     rw [Bool.and_eq_true,decide_eq_true_eq] at this
     exact this.2
    obtain ⟨_,_,_,h5,h6⟩:=V.ok_iff.1 hd.2
    have h5':(0:Int) ≤ atoiV r:=by simpa [V.low] using h5
    have h6':atoiV r ≤ 73048:=by simpa [V.high] using h6
    have hnum:numR r = atoiV r:=by
     have:=num_itoa (atoiV r) (by omega) (by omega)
     rwa [hr] at this
    rw [hnum]
    have ht:rtxt ⟨3,atoiV r,ByteArray.empty⟩ = 64 :: r:=by
     unfold rtxt
     rw [if_pos hd.2,if_neg (show ¬ (3:Int) = 1 by decide),if_neg (show ¬ (3:Int) = 2 by decide),if_pos rfl]
     show 64 :: Lib.itoa (atoiV r) = _
     rw [hr]
    rw [if_pos ht];rfl
   | false =>
    show _ = (V.zero,(4:Int))
    rw [if_neg]
    intro e
    unfold rtxt at e
    split at e
    ·rename_i hok
     rw [if_neg (show ¬ (3:Int) = 1 by decide),if_neg (show ¬ (3:Int) = 2 by decide),if_pos rfl] at e
     have e':Lib.itoa (numR r) = r:=by injection e
     obtain ⟨_,_,_,h5,h6⟩:=V.ok_iff.1 hok
     have h5':(0:Int) ≤ numR r:=by simpa [V.low] using h5
     have h6':numR r ≤ 73048:=by simpa [V.high] using h6
     obtain ⟨d1,d2⟩:=dec_itoa (numR r) (by omega) (by omega)
     rw [e'] at d1 d2
     rw [d2,d1,hok] at hd
     cases hd
    ·cases e
  by_cases c5:c = 34
  ·subst c5
   have e1:candV (34 :: r) = ⟨1,0,if (34 :: r).length ≤ 402 then mkB (unqL r) else ByteArray.empty⟩:=by unfold candV;rw [hg,if_neg (by decide),if_neg (by decide),if_neg (by decide),if_neg (by decide),if_pos rfl];rfl
   have hb:parse0 (34 :: r) = (⟨1,0,mkB (contentV (34 :: r)).1⟩,(contentV (34 :: r)).2):=by rw [hp];rfl
   rw [parse0_pair hb,e1]
   have hrt:∀ s:ByteArray,rtxt ⟨1,0,s⟩ = 34 :: r → contentV (34 :: r) = (ba s,true) ∧ (⟨1,0,s⟩:V).ok = true:=by
    intro s e
    unfold rtxt at e
    split at e
    ·rename_i hok
     rw [if_pos rfl] at e
     have e':quoL (ba s) = 34 :: r:=e
     rw [← e']
     exact ⟨content_quo _,hok⟩
    ·cases e
   cases hd:((contentV (34 :: r)).2 && (⟨1,0,mkB (contentV (34 :: r)).1⟩:V).ok) with
   | true =>
    rw [Bool.and_eq_true] at hd
    obtain ⟨s,hs⟩:∃ s,s = (contentV (34 :: r)).1:=⟨_,rfl⟩
    have hc:contentV (34 :: r) = (s,true):=by rw [hs,← hd.1]
    rw [hc] at hd ⊢
    have hq:=quo_content hc
    have hr:r = s.flatMap escB ++ [34]:=by
     unfold quoL at hq
     injection hq
    obtain ⟨_,_,h4,_⟩:=V.ok_iff.1 hd.2
    have h4':s.length ≤ 200:=by
     have:(mkB s).size ≤ 200:=h4
     rwa [size_mkB] at this
    have hlen:(34 :: r).length ≤ 402:=by
     rw [hq]
     have:=quo_len s
     omega
    have hu:unqL r = s:=by rw [hr];exact unq_quo s
    rw [if_pos hlen,hu]
    have ht:rtxt ⟨1,0,mkB s⟩ = 34 :: r:=by
     unfold rtxt
     rw [if_pos hd.2,if_pos rfl]
     show quoL (ba (mkB s)) = _
     rw [ba_mkB,← hq]
    rw [if_pos ht];rfl
   | false =>
    show _ = (V.zero,(4:Int))
    rw [if_neg]
    intro e
    obtain ⟨h1,h2⟩:=hrt _ e
    rw [h1] at hd
    simp only [Bool.true_and] at hd
    rw [mkB_ba,h2] at hd
    cases hd
  have e1:candV (c :: r) = ⟨2,numR (c :: r),ByteArray.empty⟩:=by unfold candV;rw [hg,if_neg c1,if_neg c2,if_neg c3,if_neg c4,if_neg c5]
  have hb:parse0 (c :: r) = (⟨2,atoiV (c :: r),ByteArray.empty⟩,decB (c :: r)):=by rw [hp,decide_eq_false c4,decide_eq_false c5];rfl
  rw [parse0_pair hb,e1]
  obtain ⟨t,ht⟩:∃ t,t = c :: r:=⟨_,rfl⟩
  rw [← ht]
  cases hd:(decB t && (⟨2,atoiV t,ByteArray.empty⟩:V).ok) with
  | true =>
   rw [Bool.and_eq_true] at hd
   have hr:Lib.itoa (atoiV t) = t:=by
    have:=hd.1
    unfold decB at this
    rw [Bool.and_eq_true,decide_eq_true_eq] at this
    exact this.2
   obtain ⟨_,_,_,h5,h6⟩:=V.ok_iff.1 hd.2
   have h5':(-1000000000:Int) ≤ atoiV t:=by simpa [V.low] using h5
   have h6':atoiV t ≤ 1000000000:=by simpa [V.high] using h6
   have hnum:numR t = atoiV t:=by
    have:=num_itoa (atoiV t) (by omega) (by omega)
    rwa [hr] at this
   rw [hnum]
   have ht2:rtxt ⟨2,atoiV t,ByteArray.empty⟩ = t:=by
    unfold rtxt
    rw [if_pos hd.2,if_neg (show ¬ (2:Int) = 1 by decide),if_pos rfl]
    exact hr
   rw [if_pos ht2];rfl
  | false =>
   show _ = (V.zero,(4:Int))
   rw [if_neg]
   intro e
   unfold rtxt at e
   split at e
   ·rename_i hok
    rw [if_neg (show ¬ (2:Int) = 1 by decide),if_pos rfl] at e
    have e':Lib.itoa (numR t) = t:=e
    obtain ⟨_,_,_,h5,h6⟩:=V.ok_iff.1 hok
    have h5':(-1000000000:Int) ≤ numR t:=by simpa [V.low] using h5
    have h6':numR t ≤ 1000000000:=by simpa [V.high] using h6
    obtain ⟨d1,d2⟩:=dec_itoa (numR t) (by omega) (by omega)
    rw [e'] at d1 d2
    rw [d2,d1,hok] at hd
    cases hd
   ·rw [ht] at e;cases e
theorem ba_ext (s:ByteArray) (k:Nat) (h:k < s.size):s.extract k (k + 1) = mkB [s[k]]:=by
 apply ba_inj
 rw [ba_mkB]
 have e:=Lib.extract_data s k (k + 1)
 show (s.extract k (k + 1)).data.toList = _
 rw [e]
 have hk:k < (ba s).length:=by rw [ba_length];exact h
 show ((ba s).drop k).take (k + 1 - k) = _
 rw [Nat.add_sub_cancel_left,List.drop_eq_getElem_cons hk]
 rfl
theorem run_cut (s:ByteArray) (q:IntKind) (k:Nat) (h:k < s.size) (W:World):(Instr.slice 9 (.string s) (some (.int q (k:Int))) (some (.int q ((k:Int) + 1))) none).run Tryz.prog W = .ok (.string (mkB [s[k]])) W:=by
 rw [run_slice_string_if W 9 s q q k ((k:Int) + 1) Tryz.underlying9,if_pos ⟨by omega,by omega⟩,if_pos ⟨by omega,by omega⟩]
 have e1:((k:Int)).toNat = k:=by omega
 have e2:((k:Int) + 1).toNat = k + 1:=by omega
 rw [e1,e2,ba_ext s k h]
def tenB:ByteArray:={ data:=#[48,49,50,51,52,53,54,55,56,57] }
theorem ten_at:∀ (k:Fin 10),tenB[k.1]'(by exact k.2) = UInt8.ofNat (48 + k.1):=by decide +kernel
theorem run_dig (q:IntKind) (k:Nat) (h:k < 10) (W:World):(Instr.slice 9 (.string { data:=#[48,49,50,51,52,53,54,55,56,57] }) (some (.int q (k:Int))) (some (.int q ((k:Int) + 1))) none).run Tryz.prog W = .ok (.string (mkB [UInt8.ofNat (48 + k)])) W:=by
 have:=run_cut tenB q k h W
 rw [ten_at ⟨k,h⟩] at this
 exact this
theorem mkB_app (a b:List UInt8):mkB a ++ mkB b = mkB (a ++ b):=by
 apply ba_inj
 rw [ba_mkB]
 simp [ba,mkB]
theorem rdigits_ok:∀ (u:Nat),u < 18446744073709551616 → ∀ w:World,Calls Tryz.prog 119 #[.int .u64 (u:Int)] w fun e w' => e = .returned (.string (mkB (Lib.decDigits u))) ∧ Same w w':=by
 intro u
 induction u using Nat.strongRecOn with
 | _ u ih =>
  intro hu w
  by_cases h:u < 10
  ·have HE:Hid (mkB [UInt8.ofNat (48 + u)] = mkB (Lib.decDigits u)):=by show _ = _;rw [dec_small h]
   have hr:=run_dig .u64 u h
   obtain ⟨d,hd⟩:∃ d,d = UInt8.ofNat (48 + u):=⟨_,rfl⟩
   rw [← hd] at HE hr
   clear hd
   go_enter Tryz.func119,Tryz.ntmps119
   go_wp2
   go_ret
   exact ⟨ret_str HE.out,Same.refl _⟩
  ·have hx:tenB.extract (u % 10) (u % 10 + 1) = mkB [UInt8.ofNat (48 + u % 10)]:=by
    rw [ba_ext tenB (u % 10) (by show u % 10 < 10;omega)]
    exact congrArg (fun b => mkB [b]) (ten_at ⟨u % 10,by omega⟩)
   have hl:(mkB (Lib.decDigits (u / 10))).size ≤ 100:=by
    rw [size_mkB,Lib.decDigits_length]
    have:=Lib.nDigits_le20 (u / 10) (by omega)
    omega
   have hcat:∀ W,(Op.stringOp .add (mkB (Lib.decDigits (u / 10))) (({ data:=#[48,49,50,51,52,53,54,55,56,57] }:ByteArray).extract (u % 10) (u % 10 + 1))).run Tryz.prog W = .ok (.string (mkB (Lib.decDigits u))) W:=by
    intro W
    have hx':({ data:=#[48,49,50,51,52,53,54,55,56,57] }:ByteArray).extract (u % 10) (u % 10 + 1) = mkB [UInt8.ofNat (48 + u % 10)]:=hx
    rw [hx',run_string_add_sum W _ _ (by have:(mkB [UInt8.ofNat (48 + u % 10)]).size = 1:=(by rw [size_mkB];rfl);omega),mkB_app,← dec_big h]
   have HI:=regr (w:=w) (fun W _ => ih (u / 10) (by omega) (by omega) W)
   clear ih hx hl
   have hw:IntKind.u64.wrap (((u % 10:Nat):Int) + 1) = ((u % 10:Nat):Int) + 1:=by simp [IntKind.wrap,IntKind.bits,IntKind.signed];omega
   clear hw
   go_enter Tryz.func119,Tryz.ntmps119
   go_wp2_with fail
   refine wp_region_quiet_below (by kernel_rfl) (by kernel_rfl) ?_
   repeat (go_big_quiet_step (first | (go_at_call 119;exact HI _ _)))
   refine wpQuiet_nil ?_
   intro _ hw'
   obtain ⟨⟨dq,osq⟩,hw''⟩:=hw'
   subst hw''
   have S1:=Lib.hid (Same.reg w dq osq)
   generalize Sort.grow (redrawn w dq) osq = w1 at S1 ⊢
   clear hcat HI
   go_wp2
   go_ret
   exact ⟨rfl,S1.out⟩
theorem itoa_size (n:Int) (h1:-1000000000 ≤ n) (h2:n ≤ 1000000000):(Lib.itoa n).length ≤ 21:=Lib.itoa_length_le n (by omega) (by omega)
theorem rdecimal_ok (n:Int) (h1:-1000000000 ≤ n) (h2:n ≤ 1000000000) (w:World):Calls Tryz.prog 92 #[.int .i64 n] w fun e w' => e = .returned (.string (mkB (Lib.itoa n))) ∧ Same w w':=by
 have HD:=Lib.hid (rdigits_ok n.natAbs (by omega))
 obtain ⟨u,hu⟩:∃ u,u = n.natAbs:=⟨_,rfl⟩
 rw [← hu] at HD
 by_cases h0:n < 0
 ·have hl:(mkB (Lib.decDigits u)).size ≤ 100:=by
   rw [size_mkB,Lib.decDigits_length]
   have:=Lib.nDigits_le20 u (by omega)
   omega
  have HE:Hid (mkB (Lib.itoa n) = mkB [45] ++ mkB (Lib.decDigits u)):=by
   show _ = _
   unfold Lib.itoa
   rw [if_pos h0,mkB_app,hu];rfl
  have hcat:∀ W,(Op.stringOp .add ({ data:=#[45] }:ByteArray) (mkB (Lib.decDigits u))).run Tryz.prog W = .ok (.string (mkB [45] ++ mkB (Lib.decDigits u))) W:=fun W =>
   run_string_add_sum W (mkB [45]) _ (by have:(mkB [45]).size = 1:=rfl;omega)
  obtain ⟨X,hX⟩:∃ X,X = mkB [45] ++ mkB (Lib.decDigits u):=⟨_,rfl⟩
  rw [← hX] at HE
  simp only [← hX] at hcat
  have e1:IntKind.u64.wrap n = n + 18446744073709551616:=by simp [IntKind.wrap,IntKind.bits,IntKind.signed];omega
  have e2:IntKind.u64.wrap (-(n + 18446744073709551616)) = (u:Int):=by simp [IntKind.wrap,IntKind.bits,IntKind.signed];omega
  clear hX hl hu
  go_enter Tryz.func92,Tryz.ntmps92
  go_wp2_with fail
  refine (HD.out _).mono ?_
  rintro e w1 ⟨rfl,s1⟩
  have S1:=Lib.hid s1
  clear s1 e1 e2
  go_wp2
  go_ret
  exact ⟨ret_str HE.out.symm,S1.out⟩
 ·have HE:Hid (mkB (Lib.itoa n) = mkB (Lib.decDigits u)):=by
   show _ = _
   unfold Lib.itoa
   rw [if_neg h0,hu]
   congr 2
   omega
  have e1:IntKind.u64.wrap n = (u:Int):=by simp [IntKind.wrap,IntKind.bits,IntKind.signed];omega
  clear hu
  go_enter Tryz.func92,Tryz.ntmps92
  go_wp2_with fail
  refine (HD.out _).mono ?_
  rintro e w1 ⟨rfl,s1⟩
  have S1:=Lib.hid s1
  clear s1 e1
  go_wp2
  go_ret
  exact ⟨ret_str HE.out.symm,S1.out⟩
def quoTo (s:ByteArray) (k:Nat):ByteArray:=mkB (((ba s).take k).flatMap escB)
theorem quoTo_succ (s:ByteArray) (k:Nat) (h:k < s.size):quoTo s (k + 1) = quoTo s k ++ mkB (escB s[k]):=by
 unfold quoTo
 rw [take_snocB s k h,List.flatMap_append,mkB_app]
 simp
theorem quoTo_size (s:ByteArray) (k:Nat) (hs:s.size ≤ 1000):(quoTo s k).size ≤ 2000:=by
 unfold quoTo
 rw [size_mkB]
 have h:=quo_len ((ba s).take k)
 have h2:(quoL ((ba s).take k)).length = (((ba s).take k).flatMap escB).length + 2:=by simp only [quoL,List.length_cons,List.length_append,List.length_nil]
 have h3:((ba s).take k).length ≤ 1000:=by rw [List.length_take,ba_length];omega
 omega
theorem rquoted_ok (s:ByteArray) (hs:s.size ≤ 1000) (w:World):Calls Tryz.prog 91 #[.string s] w fun e w' => e = .returned (.string (mkB (quoL (ba s)))) ∧ w = w':=by
 have hcat:∀ (k:Nat) (l:List UInt8) (W:World),l.length ≤ 2 → (Op.stringOp .add (quoTo s k) (mkB l)).run Tryz.prog W = .ok (.string (quoTo s k ++ mkB l)) W:=fun k l W hl =>
  run_string_add_sum W _ _ (by have:=quoTo_size s k hs;rw [size_mkB];omega)
 have HC:=Lib.hid hcat
 clear hcat
 go_enter Tryz.func91,Tryz.ntmps91
 go_wp2
 go_loop [3,4] (fun o i => ∃ k:Nat,k ≤ s.size ∧ i = .int .i64 k ∧ o = .string (quoTo s k)) (fun _ i => s.size - (intOf i).toNat)
 case atStart => exact ⟨0,Nat.zero_le _,rfl,rfl⟩
 case round =>
  obtain ⟨k,hk,rfl,rfl⟩:=hrel
  by_cases hlt:k < s.size
  ·have HQ:=Lib.hid (quoTo_succ s k hlt)
   have HX:=Lib.hid (ba_ext s k hlt)
   obtain ⟨B,hB⟩:∃ B,B = quoTo s (k + 1):=⟨_,rfl⟩
   have HB:=Lib.hid hB
   rw [← hB] at HQ
   have HCK:=Lib.hid (fun (l:List UInt8) (h:l.length ≤ 2) (W:World) => HC.out k l W h)
   obtain ⟨A,hA⟩:∃ A,A = quoTo s k:=⟨_,rfl⟩
   rw [← hA] at HQ HCK ⊢
   obtain ⟨y,hy⟩:∃ y,y = s[k]:=⟨_,rfl⟩
   have HY:Hid (s[k] = y):=hy.symm
   rw [← hy] at HQ HX
   clear hA hB
   by_cases q1:y = 34
   ·have a1:∀ W,(Op.stringOp .add A { data:=#[92,34] }).run Tryz.prog W = .ok (.string B) W:=fun W => by rw [HQ.out,q1];exact HCK.out [92,34] (by decide) W
    have t1:((s[k].toNat:Int) == 34) = true:=by rw [← hy,q1];rfl
    clear hy q1
    go_wp2
    go_round
    case rel => exact ⟨k + 1,by omega,by go_num,by rw [HB.out]⟩
    case measure => simp [intOf];omega
   have t1:((s[k].toNat:Int) == 34) = false:=by
    rw [← hy,beq_eq_false_iff_ne]
    intro e
    exact q1 (UInt8.toNat_inj.1 (by have:y.toNat = 34:=(by omega);exact this))
   by_cases q2:y = 92
   ·have a1:∀ W,(Op.stringOp .add A { data:=#[92,92] }).run Tryz.prog W = .ok (.string B) W:=fun W => by rw [HQ.out,q2];exact HCK.out [92,92] (by decide) W
    have t2:((s[k].toNat:Int) == 92) = true:=by rw [← hy,q2];rfl
    clear hy q1 q2
    go_wp2
    go_round
    case rel => exact ⟨k + 1,by omega,by go_num,by rw [HB.out]⟩
    case measure => simp [intOf];omega
   have t2:((s[k].toNat:Int) == 92) = false:=by
    rw [← hy,beq_eq_false_iff_ne]
    intro e
    exact q2 (UInt8.toNat_inj.1 (by have:y.toNat = 92:=(by omega);exact this))
   by_cases q3:y = 10
   ·have a1:∀ W,(Op.stringOp .add A { data:=#[92,110] }).run Tryz.prog W = .ok (.string B) W:=fun W => by rw [HQ.out,q3];exact HCK.out [92,110] (by decide) W
    have t3:((s[k].toNat:Int) == 10) = true:=by rw [← hy,q3];rfl
    clear hy q1 q2 q3
    go_wp2
    go_round
    case rel => exact ⟨k + 1,by omega,by go_num,by rw [HB.out]⟩
    case measure => simp [intOf];omega
   have t3:((s[k].toNat:Int) == 10) = false:=by
    rw [← hy,beq_eq_false_iff_ne]
    intro e
    exact q3 (UInt8.toNat_inj.1 (by have:y.toNat = 10:=(by omega);exact this))
   have e1:escB y = [y]:=by unfold escB;rw [if_neg q1,if_neg q2,if_neg q3]
   have a1:∀ W,(Op.stringOp .add A (s.extract k (k + 1))).run Tryz.prog W = .ok (.string B) W:=fun W => by rw [HQ.out,e1,HX.out];exact HCK.out [y] (by simp) W
   clear hy q1 q2 q3 e1
   go_wp2
   go_round
   case rel => exact ⟨k + 1,by omega,by go_num,by rw [HB.out]⟩
   case measure => simp [intOf];omega
  ·have ek:k = s.size:=by omega
   subst ek
   have h0:(quoTo s s.size).size ≤ 2000:=quoTo_size s s.size hs
   have a1:∀ W,(Op.stringOp .add ({ data:=#[34] }:ByteArray) (quoTo s s.size)).run Tryz.prog W = .ok (.string (mkB [34] ++ quoTo s s.size)) W:=fun W => run_string_add_sum W (mkB [34]) _ (by have:(mkB [34]).size = 1:=rfl;omega)
   have a2:∀ W,(Op.stringOp .add (mkB [34] ++ quoTo s s.size) ({ data:=#[34] }:ByteArray)).run Tryz.prog W = .ok (.string (mkB (quoL (ba s)))) W:=fun W => by
    have e:mkB (quoL (ba s)) = (mkB [34] ++ quoTo s s.size) ++ mkB [34]:=by
     unfold quoTo quoL
     rw [show (ba s).take s.size = ba s by rw [← ba_length,List.take_length],mkB_app,mkB_app]
     rfl
    rw [e]
    exact run_string_add_sum W _ (mkB [34]) (by
     have h1:(mkB [34]).size = 1:=rfl
     have h2:(mkB [34] ++ quoTo s s.size).size = (mkB [34]).size + (quoTo s s.size).size:=by rw [ByteArray.size_append]
     omega)
   obtain ⟨X,hX⟩:∃ X,X = mkB [34] ++ quoTo s s.size:=⟨_,rfl⟩
   rw [← hX] at a1 a2
   obtain ⟨Y,hY⟩:∃ Y,Y = mkB (quoL (ba s)):=⟨_,rfl⟩
   rw [← hY] at a2
   have HY:=Lib.hid hY
   clear hX h0 hY
   go_wp2
   go_ret
   exact ⟨ret_str HY.out,rfl⟩
def numTo (s:ByteArray) (k:Nat):Nat:=((ba s).take k).foldl numStep 0
theorem numTo_succ (s:ByteArray) (k:Nat) (h:k < s.size):numTo s (k + 1) = numStep (numTo s k) s[k]:=by
 unfold numTo
 rw [take_snocB s k h,List.foldl_append]
 rfl
theorem numStep_lt (a:Nat) (c:UInt8) (h:a < 18446744073709551616):numStep a c < 18446744073709551616:=by
 unfold numStep
 split
 ·exact Nat.mod_lt _ (by decide)
 ·exact h
theorem numTo_lt (s:ByteArray):∀ k,numTo s k < 18446744073709551616:=by
 intro k
 have:∀ (l:List UInt8) (a:Nat),a < 18446744073709551616 → l.foldl numStep a < 18446744073709551616:=by
  intro l
  induction l with
  | nil => intro a h;exact h
  | cons c l ih => intro a h;exact ih _ (numStep_lt a c h)
 exact this _ 0 (by decide)
theorem rnumber_ok (s:ByteArray) (hs:s.size ≤ 1000) (w:World):Calls Tryz.prog 93 #[.string s] w fun e w' => e = .returned (.int .i64 (numR (ba s))) ∧ w = w':=by
 go_enter Tryz.func93,Tryz.ntmps93
 go_wp2
 go_loop [3,4] (fun o i => ∃ (k N:Nat),k ≤ s.size ∧ k ≤ 20 ∧ i = .int .i64 k ∧ o = .int .u64 (N:Int) ∧ N < 18446744073709551616 ∧ Hid (N = numTo s k)) (fun _ i => s.size - (intOf i).toNat)
 case atStart => exact ⟨0,0,Nat.zero_le _,Nat.zero_le _,rfl,rfl,by decide,rfl⟩
 case round =>
  obtain ⟨k,N,hk,hk2,rfl,rfl,hN,HN⟩:=hrel
  by_cases hin:k < s.size ∧ k < 20
  ·obtain ⟨hlt,hlt2⟩:=hin
   ·have HQ:=Lib.hid (numTo_succ s k hlt)
    obtain ⟨B,hB⟩:∃ B,B = numTo s (k + 1):=⟨_,rfl⟩
    have hBl:B < 18446744073709551616:=by rw [hB];exact numTo_lt s _
    rw [← hB,← HN.out] at HQ
    have HB:=Lib.hid hB
    obtain ⟨y,hy⟩:∃ y,y = s[k].toNat:=⟨_,rfl⟩
    have HQ2:Hid (B = if 48 ≤ y ∧ y ≤ 57 then (N * 10 + (y - 48)) % 18446744073709551616 else N):=by rw [hy];exact HQ
    have hy256:y < 256:=by rw [hy];exact s[k].toNat_lt
    have HY:Hid (s[k].toNat = y):=hy.symm
    clear hB HQ
    by_cases d1:48 ≤ y
    ·have t1:decide ((48:Int) ≤ (s[k].toNat:Int)) = true:=by rw [← hy];exact decide_eq_true (by omega)
     by_cases d2:y ≤ 57
     ·have t2:decide ((s[k].toNat:Int) ≤ 57) = true:=by rw [← hy];exact decide_eq_true (by omega)
      have e0:IntKind.u64.wrap ((N:Int) * 10) = ((N * 10 % 18446744073709551616:Nat):Int):=by simp [IntKind.wrap,IntKind.bits,IntKind.signed]
      have e1:IntKind.u8.wrap ((s[k].toNat:Int) - 48) = ((y - 48:Nat):Int):=by rw [← hy];simp [IntKind.wrap,IntKind.bits,IntKind.signed];omega
      have e2:IntKind.u64.wrap (((y - 48:Nat):Int)) = ((y - 48:Nat):Int):=by simp [IntKind.wrap,IntKind.bits,IntKind.signed];omega
      have e3:IntKind.u64.wrap ((N:Int) * 10 % 18446744073709551616 + ((y - 48:Nat):Int)) = (B:Int):=by
       have:=HQ2.out
       rw [if_pos ⟨d1,d2⟩] at this
       simp [IntKind.wrap,IntKind.bits,IntKind.signed]
       omega
      have E3:=Lib.hid e3
      clear hy e3
      go_wp2
      go_round
      case rel => exact ⟨k + 1,B,by omega,by omega,by go_num,by rw [E3.out],hBl,HB⟩
      case measure => simp [intOf];omega
     ·have t2:decide ((s[k].toNat:Int) ≤ 57) = false:=by rw [← hy];exact decide_eq_false (by omega)
      have e4:Hid (B = N):=by
       show _ = _
       rw [HQ2.out,if_neg (fun h => d2 h.2)]
      clear hy
      go_wp2
      go_round
      case rel => exact ⟨k + 1,N,by omega,by omega,by go_num,rfl,hN,by show _ = _;rw [← e4.out,HB.out]⟩
      case measure => simp [intOf];omega
    ·have t1:decide ((48:Int) ≤ (s[k].toNat:Int)) = false:=by rw [← hy];exact decide_eq_false (by omega)
     have e4:Hid (B = N):=by
      show _ = _
      rw [HQ2.out,if_neg (fun h => d1 h.1)]
     clear hy
     go_wp2
     go_round
     case rel => exact ⟨k + 1,N,by omega,by omega,by go_num,rfl,hN,by show _ = _;rw [← e4.out,HB.out]⟩
     case measure => simp [intOf];omega
  ·have HU:Hid (N = numU (ba s)):=by
    show _ = _
    rw [HN.out]
    unfold numTo numU
    by_cases h20:k = 20
    ·rw [h20]
    ·have hl:k = s.size:=by omega
     rw [List.take_of_length_le (by rw [ba_length];omega),List.take_of_length_le (by rw [ba_length];omega)]
   have w1:IntKind.i64.wrap (N:Int) = toI64 N:=by
    unfold toI64
    simp [IntKind.wrap,IntKind.bits,IntKind.signed]
    split <;> split <;> omega
   obtain ⟨M,hM⟩:∃ M:Nat,M = (18446744073709551616 - N) % 18446744073709551616:=⟨_,rfl⟩
   have w2:IntKind.u64.wrap (-(N:Int)) = (M:Int):=by
    simp [IntKind.wrap,IntKind.bits,IntKind.signed]
    omega
   have w3:IntKind.i64.wrap (M:Int) = toI64 M:=by
    unfold toI64
    simp [IntKind.wrap,IntKind.bits,IntKind.signed]
    split <;> split <;> omega
   have HM:=Lib.hid hM
   clear hM
   have hg:¬ ((k:Int) < (s.size:Int) ∧ (k:Int) < 20):=by omega
   by_cases h0:s.size = 0
   ·have HR:Hid (toI64 N = numR (ba s)):=by
     show _ = _
     have:ba s = []:=by apply List.length_eq_zero_iff.1;rw [ba_length];exact h0
     unfold numR
     rw [← HU.out,this];rfl
    have h1:=(isE_nil s).2 h0
    have h2:(!s.toList.isEmpty) = false:=by rw [h1];rfl
    have hk0:k = 0:=by omega
    subst hk0
    clear hg hin
    go_wp2
    go_ret
    exact ⟨ret_int HR.out,rfl⟩
   ·have h1:¬ s.toList = []:=fun h => h0 ((isE_nil s).1 h)
    have h2:(!s.toList.isEmpty) = true:=by rw [isE];simpa using h0
    have hp:0 < s.size:=by omega
    have hh:(ba s).head? = some s[0]:=by
     rw [List.head?_eq_getElem?,List.getElem?_eq_getElem (by rw [ba_length];exact hp)]
     rfl
    by_cases hc:s[0] = 45
    ·have HR:Hid (toI64 M = numR (ba s)):=by
      show _ = _
      unfold numR
      rw [← HU.out,hh,hc,if_pos rfl,HM.out]
     have t1:((s[0].toNat:Int) == 45) = true:=by rw [hc];rfl
     clear hh hc h0
     by_cases hk3:k < s.size
     ·have hk4:¬ (k:Int) < 20:=by omega
      clear hg hin
      go_wp2
      go_ret
      exact ⟨ret_int HR.out,rfl⟩
     ·clear hg hin
      go_wp2
      go_ret
      exact ⟨ret_int HR.out,rfl⟩
    ·have HR:Hid (toI64 N = numR (ba s)):=by
      show _ = _
      unfold numR
      rw [← HU.out,hh,if_neg (by simpa using hc)]
     have t1:((s[0].toNat:Int) == 45) = false:=by
      rw [beq_eq_false_iff_ne]
      intro e
      exact hc (UInt8.toNat_inj.1 (by have:s[0].toNat = 45:=(by omega);exact this))
     clear hh hc h0
     by_cases hk3:k < s.size
     ·have hk4:¬ (k:Int) < 20:=by omega
      clear hg hin
      go_wp2
      go_ret
      exact ⟨ret_int HR.out,rfl⟩
     ·clear hg hin
      go_wp2
      go_ret
      exact ⟨ret_int HR.out,rfl⟩
theorem drop_two (s:ByteArray) (k:Nat) (h:k + 1 < s.size):(ba s).drop k = s[k] :: s[k + 1] :: (ba s).drop (k + 2):=by
 have h1:k < (ba s).length:=by rw [ba_length];omega
 have h2:k + 1 < (ba s).length:=by rw [ba_length];omega
 rw [List.drop_eq_getElem_cons h1,List.drop_eq_getElem_cons h2]
 rfl
theorem drop_one (s:ByteArray) (k:Nat) (h:k < s.size):(ba s).drop k = s[k] :: (ba s).drop (k + 1):=by
 have h1:k < (ba s).length:=by rw [ba_length];omega
 rw [List.drop_eq_getElem_cons h1]
 rfl
theorem unq_short {l:List UInt8} (h:l.length ≤ 1):unqL l = []:=by
 match l,h with
 | [],_ => rfl
 | [_],_ => rfl
theorem cut_eq (s:ByteArray) (k:Nat) (h:k < s.size) (x:UInt8):((s.extract k (k + 1)).toList == [x]) = decide (s[k] = x):=by
 rw [ba_ext s k h,ByteArray.toList_eq,Bool.eq_iff_iff,beq_iff_eq,decide_eq_true_eq]
 show (mkB [s[k]]).data.toList = [x] ↔ _
 simp [mkB]
theorem runquoted_ok (s:ByteArray) (hs:s.size ≤ 1000) (w:World):Calls Tryz.prog 94 #[.string s] w fun e w' => e = .returned (.string (mkB (unqL ((ba s).drop 1)))) ∧ w = w':=by
 obtain ⟨R,hR⟩:∃ R,R = unqL ((ba s).drop 1):=⟨_,rfl⟩
 rw [← hR]
 have HR:=Lib.hid hR
 clear hR
 go_enter Tryz.func94,Tryz.ntmps94
 go_wp2
 go_loop [3,4] (fun o i => ∃ (k:Nat) (acc:List UInt8),1 ≤ k ∧ k ≤ 1000 + 1 ∧ i = .int .i64 k ∧ o = .string (mkB acc) ∧ acc.length ≤ k ∧ Hid (acc ++ unqL ((ba s).drop k) = R)) (fun _ i => 1002 - (intOf i).toNat)
 case atStart => exact ⟨1,[],Nat.le_refl _,by omega,rfl,rfl,Nat.zero_le _,by show _ = _;rw [HR.out];rfl⟩
 case round =>
  obtain ⟨k,acc,hk1,hk2,rfl,rfl,hacc,HI⟩:=hrel
  by_cases hlt:k + 1 < s.size
  ·have HAD:=Lib.hid (fun (x:UInt8) (W:World) => (run_string_add_sum W (mkB acc) (mkB [x]) (by rw [size_mkB,size_mkB];simp;omega):(Op.stringOp .add (mkB acc) (mkB [x])).run Tryz.prog W = _))
   have HX:=Lib.hid (ba_ext s k (by omega))
   have HX2:=Lib.hid (ba_ext s (k + 1) (by omega))
   have HE:=cut_eq s k (by omega) 92
   have HD:=Lib.hid (drop_two s k hlt)
   obtain ⟨y,hy⟩:∃ y,y = s[k]:=⟨_,rfl⟩
   rw [← hy] at HX HE HD
   by_cases q1:y = 92
   ·rw [decide_eq_true q1] at HE
    have HE2:=cut_eq s (k + 1) (by omega) 110
    obtain ⟨z,hz⟩:∃ z,z = s[k + 1]:=⟨_,rfl⟩
    rw [← hz] at HX2 HE2 HD
    have hk3:(k:Int) + 1 + 1 ≤ (s.size:Int):=by omega
    by_cases q2:z = 110
    ·rw [decide_eq_true q2] at HE2
     have a1:∀ W,(Op.stringOp .add (mkB acc) ({ data:=#[10] }:ByteArray)).run Tryz.prog W = .ok (.string (mkB (acc ++ [10]))) W:=fun W => by rw [← mkB_app];exact HAD.out 10 W
     have HN:Hid ((acc ++ [10]) ++ unqL ((ba s).drop (k + 2)) = R):=by
      show _ = _
      have:=HI.out
      rw [HD.out,q1,q2,unqL,if_pos rfl,if_pos rfl] at this
      rw [← this];simp
     clear hy hz q1 q2
     go_wp2
     go_round
     case rel => exact ⟨k + 2,acc ++ [10],by omega,by omega,by go_num,rfl,by simp;omega,HN⟩
     case measure => simp [intOf];omega
    ·rw [decide_eq_false q2] at HE2
     have a1:∀ W,(Op.stringOp .add (mkB acc) (s.extract (k + 1) (k + 1 + 1))).run Tryz.prog W = .ok (.string (mkB (acc ++ [z]))) W:=fun W => by rw [HX2.out,← mkB_app];exact HAD.out z W
     have HN:Hid ((acc ++ [z]) ++ unqL ((ba s).drop (k + 2)) = R):=by
      show _ = _
      have:=HI.out
      rw [HD.out,q1,unqL,if_pos rfl,if_neg q2] at this
      rw [← this];simp
     clear hy hz q1 q2
     go_wp2
     go_round
     case rel => exact ⟨k + 2,acc ++ [z],by omega,by omega,by go_num,rfl,by simp;omega,HN⟩
     case measure => simp [intOf];omega
   ·rw [decide_eq_false q1] at HE
    have a1:∀ W,(Op.stringOp .add (mkB acc) (s.extract k (k + 1))).run Tryz.prog W = .ok (.string (mkB (acc ++ [y]))) W:=fun W => by rw [HX.out,← mkB_app];exact HAD.out y W
    have HN:Hid ((acc ++ [y]) ++ unqL ((ba s).drop (k + 1)) = R):=by
     show _ = _
     have:=HI.out
     rw [HD.out,unqL,if_neg q1] at this
     rw [← this,drop_one s (k + 1) hlt];simp
    clear hy q1
    go_wp2
    go_round
    case rel => exact ⟨k + 1,acc ++ [y],by omega,by omega,by go_num,rfl,by simp;omega,HN⟩
    case measure => simp [intOf];omega
  ·have HN:Hid (mkB acc = mkB R):=by
    show _ = _
    have:=HI.out
    rw [unq_short (by rw [List.length_drop,ba_length];omega),List.append_nil] at this
    rw [this]
   go_wp2
   go_ret
   exact ⟨ret_str HN.out,rfl⟩
end Go.Proofs.YtfifnemnihcijaaGreatDoor

import Derived.Test.YtfifnemnihcijaaGreatDoorKTl
set_option linter.unusedSimpArgs false
set_option linter.unusedVariables false
set_option maxHeartbeats 16000000
set_option maxRecDepth 100000
namespace Go.Proofs.YtfifnemnihcijaaGreatDoor
open Go.RowKit
instance decV:DecidableEq V:=fun a b => decidable_of_iff (a.k = b.k ∧ a.n = b.n ∧ a.s = b.s) ⟨fun h => V.ext' h.1 h.2.1 h.2.2,by rintro rfl;exact ⟨rfl,rfl,rfl⟩⟩
instance decAt:DecidableEq At:=fun a b => decidable_of_iff (a.name = b.name ∧ a.kind = b.kind ∧ a.was = b.was ∧ a.dflt = b.dflt) ⟨fun h => by cases a;cases b;simp_all,by rintro rfl;exact ⟨rfl,rfl,rfl,rfl⟩⟩
instance decTb:DecidableEq Tb:=fun a b => decidable_of_iff (a.name = b.name ∧ a.attrs = b.attrs ∧ a.key = b.key) ⟨fun h => by cases a;cases b;simp_all,by rintro rfl;exact ⟨rfl,rfl,rfl⟩⟩
section
variable {α:Type}
def Alike (l m:List α) (k:Nat):Prop:=∀ j,j < k → l[j]? = m[j]?
theorem alike_zero (l m:List α):Alike l m 0:=fun j hj => absurd hj (Nat.not_lt_zero _)
theorem alike_step {l m:List α} {k:Nat} (h1:k < l.length) (h2:k < m.length) (h:Alike l m k) (e:l[k] = m[k]):Alike l m (k + 1):=fun j hj => by
 by_cases ej:j = k
 ·subst ej;rw [List.getElem?_eq_getElem h1,List.getElem?_eq_getElem h2,e]
 ·exact h j (by omega)
theorem alike_end [DecidableEq α] {l m:List α} (hl:l.length = m.length) (h:Alike l m l.length):decide (l = m) = true:=by
 apply decide_eq_true
 apply List.ext_getElem?
 intro j
 by_cases hj:j < l.length
 ·exact h j hj
 ·rw [List.getElem?_eq_none (by omega),List.getElem?_eq_none (by omega)]
theorem unlike_at [DecidableEq α] {l m:List α} {k:Nat} (h1:k < l.length) (h2:k < m.length) (e:l[k] ≠ m[k]):decide (l = m) = false:=by
 apply decide_eq_false
 rintro rfl
 exact e rfl
theorem unlike_len [DecidableEq α] {l m:List α} (h:l.length ≠ m.length):decide (l = m) = false:=by
 apply decide_eq_false
 rintro rfl
 exact h rfl
end
theorem ints_ok (h1 h2:Hd) (l1 l2:List Int) (w:World) (a1:IntsAt w h1 l1) (a2:IntsAt w h2 l2) :
  Calls Tryz.prog 75 #[h1.val,h2.val] w fun e w' => e = .returned (.bool (decide (l1 = l2))) ∧ Same w w':=by
 have L1:Lies w 1 h1 intCell l1:=a1
 have L2:Lies w 1 h2 intCell l2:=a2
 clear a1 a2
 obtain ⟨A,n,c⟩:=h1
 obtain ⟨B,p,d⟩:=h2
 show Calls Tryz.prog 75 #[.slice A n c,.slice B p d] w _
 have hn:l1.length = n:=L1.1
 have hp:l2.length = p:=L2.1
 have hb:n ≤ 9223372036854775807:=L1.2.1
 have hb2:p ≤ 9223372036854775807:=L2.2.1
 subst hn hp
 have H1:=Lib.hid L1
 have H2:=Lib.hid L2
 clear L1 L2
 by_cases hlen:l1.length = l2.length
 case neg =>
  have t1:((l1.length:Int) != (l2.length:Int)) = true:=by simp;omega
  have HL:=Lib.hid hlen
  clear hlen
  go_enter Tryz.func75,Tryz.ntmps75
  go_wp2
  go_ret
  exact ⟨ret_bool (unlike_len HL.out).symm,Same.refl _⟩
 have t1:((l1.length:Int) != (l2.length:Int)) = false:=by simp;omega
 have HL:=Lib.hid hlen
 clear hlen
 go_enter Tryz.func75,Tryz.ntmps75
 go_wp2
 go_loopw [5] (fun i wr => ∃ k:Nat,k ≤ l1.length ∧ i = .int .i64 k ∧ Hid (Same w wr) ∧ Hid (Alike l1 l2 k)) (fun i _ => l1.length - (intOf i).toNat)
 case atStart => exact ⟨0,Nat.zero_le _,rfl,Same.refl w,alike_zero _ _⟩
 case round =>
  obtain ⟨k,hk,rfl,S,N⟩:=hrel
  by_cases hlt:k < l1.length
  ·have hlt2:k < l2.length:=by have:=HL.out;omega
   obtain ⟨b,off,hA,blt,hc⟩:=(H1.out.same S.out).2.2 k hlt
   obtain ⟨b2,off2,hB,blt2,hc2⟩:=(H2.out.same S.out).2.2 k hlt2
   have hA':A = some ⟨b,off,none⟩:=hA
   have hB':B = some ⟨b2,off2,none⟩:=hB
   obtain ⟨x,hx⟩:∃ x,x = l1[k]:=⟨_,rfl⟩
   obtain ⟨y,hy⟩:∃ y,y = l2[k]:=⟨_,rfl⟩
   rw [← hx] at hc
   rw [← hy] at hc2
   have HX:=Lib.hid hx
   have HY:=Lib.hid hy
   have c0:=hc 0 (.int .i64 x) rfl
   have c1:=hc2 0 (.int .i64 y) rfl
   simp only [Nat.mul_one,Nat.add_zero] at c0 c1
   clear hc hc2 hA hB hx hy
   subst hA' hB'
   have hki:(k:Int) < (l1.length:Int):=by omega
   have hki2:(k:Int) < (l2.length:Int):=by omega
   by_cases hq:x = y
   ·have t2:(x != y) = false:=by simp;exact hq
    have HQ:=Lib.hid hq
    clear hq
    go_wp2_with fail
    go_quiet (fail)
    go_wp2
    go_roundw
    case rel => exact ⟨k + 1,by omega,by go_num,(S.out.drewN _),alike_step hlt hlt2 N.out (by rw [← HX.out,← HY.out];exact HQ.out)⟩
    case measure => simp [intOf];omega
   ·have t2:(x != y) = true:=by simp;exact hq
    have HQ:=Lib.hid hq
    clear hq
    go_wp2_with fail
    go_quiet (fail)
    go_wp2
    go_ret
    exact ⟨ret_bool (unlike_at hlt hlt2 (by rw [← HX.out,← HY.out];exact HQ.out)).symm,S.out.drewN _⟩
  ·have ek:k = l1.length:=by omega
   have HE:Hid (Alike l1 l2 l1.length):=by rw [← ek];exact N.out
   clear ek
   go_wp2
   go_ret
   exact ⟨ret_bool (alike_end HL.out HE.out).symm,S.out⟩
theorem texts_ok (h1 h2:Hd) (l1 l2:List ByteArray) (w:World) (a1:StrsAt w h1 l1) (a2:StrsAt w h2 l2) :
  Calls Tryz.prog 95 #[h1.val,h2.val] w fun e w' => e = .returned (.bool (decide (l1 = l2))) ∧ Same w w':=by
 have L1:Lies w 1 h1 strCell l1:=a1.1
 have L2:Lies w 1 h2 strCell l2:=a2.1
 clear a1 a2
 obtain ⟨A,n,c⟩:=h1
 obtain ⟨B,p,d⟩:=h2
 show Calls Tryz.prog 95 #[.slice A n c,.slice B p d] w _
 have hn:l1.length = n:=L1.1
 have hp:l2.length = p:=L2.1
 have hb:n ≤ 9223372036854775807:=L1.2.1
 have hb2:p ≤ 9223372036854775807:=L2.2.1
 subst hn hp
 have H1:=Lib.hid L1
 have H2:=Lib.hid L2
 clear L1 L2
 by_cases hlen:l1.length = l2.length
 case neg =>
  have t1:((l1.length:Int) != (l2.length:Int)) = true:=by simp;omega
  have HL:=Lib.hid hlen
  clear hlen
  go_enter Tryz.func95,Tryz.ntmps95
  go_wp2
  go_ret
  exact ⟨ret_bool (unlike_len HL.out).symm,Same.refl _⟩
 have t1:((l1.length:Int) != (l2.length:Int)) = false:=by simp;omega
 have HL:=Lib.hid hlen
 clear hlen
 go_enter Tryz.func95,Tryz.ntmps95
 go_wp2
 go_loopw [5] (fun i wr => ∃ k:Nat,k ≤ l1.length ∧ i = .int .i64 k ∧ Hid (Same w wr) ∧ Hid (Alike l1 l2 k)) (fun i _ => l1.length - (intOf i).toNat)
 case atStart => exact ⟨0,Nat.zero_le _,rfl,Same.refl w,alike_zero _ _⟩
 case round =>
  obtain ⟨k,hk,rfl,S,N⟩:=hrel
  by_cases hlt:k < l1.length
  ·have hlt2:k < l2.length:=by have:=HL.out;omega
   obtain ⟨b,off,hA,blt,hc⟩:=(H1.out.same S.out).2.2 k hlt
   obtain ⟨b2,off2,hB,blt2,hc2⟩:=(H2.out.same S.out).2.2 k hlt2
   have hA':A = some ⟨b,off,none⟩:=hA
   have hB':B = some ⟨b2,off2,none⟩:=hB
   obtain ⟨x,hx⟩:∃ x,x = l1[k]:=⟨_,rfl⟩
   obtain ⟨y,hy⟩:∃ y,y = l2[k]:=⟨_,rfl⟩
   rw [← hx] at hc
   rw [← hy] at hc2
   have HX:=Lib.hid hx
   have HY:=Lib.hid hy
   have c0:=hc 0 (.string x) rfl
   have c1:=hc2 0 (.string y) rfl
   simp only [Nat.mul_one,Nat.add_zero] at c0 c1
   clear hc hc2 hA hB hx hy
   subst hA' hB'
   have hki:(k:Int) < (l1.length:Int):=by omega
   have hki2:(k:Int) < (l2.length:Int):=by omega
   by_cases hq:x = y
   ·have t2:(x.toList == y.toList) = true:=by rw [beqB];simp [hq]
    have HQ:=Lib.hid hq
    clear hq
    go_wp2_with fail
    go_quiet (fail)
    go_wp2
    go_roundw
    case rel => exact ⟨k + 1,by omega,by go_num,(S.out.drewN _),alike_step hlt hlt2 N.out (by rw [← HX.out,← HY.out];exact HQ.out)⟩
    case measure => simp [intOf];omega
   ·have t2:(x.toList == y.toList) = false:=by rw [beqB];simp [hq]
    have HQ:=Lib.hid hq
    clear hq
    go_wp2_with fail
    go_quiet (fail)
    go_wp2
    go_ret
    exact ⟨ret_bool (unlike_at hlt hlt2 (by rw [← HX.out,← HY.out];exact HQ.out)).symm,S.out.drewN _⟩
  ·have ek:k = l1.length:=by omega
   have HE:Hid (Alike l1 l2 l1.length):=by rw [← ek];exact N.out
   clear ek
   go_wp2
   go_ret
   exact ⟨ret_bool (alike_end HL.out HE.out).symm,S.out⟩
theorem rows_ok (h1 h2:Hd) (l1 l2:List V) (w:World) (a1:RowAt w h1 l1) (a2:RowAt w h2 l2) :
  Calls Tryz.prog 12 #[h1.val,h2.val] w fun e w' => e = .returned (.bool (decide (l1 = l2))) ∧ Same w w':=by
 have L1:Lies w 3 h1 V.cells l1:=a1.1
 have L2:Lies w 3 h2 V.cells l2:=a2.1
 clear a1 a2
 obtain ⟨A,n,c⟩:=h1
 obtain ⟨B,p,d⟩:=h2
 show Calls Tryz.prog 12 #[.slice A n c,.slice B p d] w _
 have hn:l1.length = n:=L1.1
 have hp:l2.length = p:=L2.1
 have hb:n ≤ 9223372036854775807:=L1.2.1
 have hb2:p ≤ 9223372036854775807:=L2.2.1
 subst hn hp
 have H1:=Lib.hid L1
 have H2:=Lib.hid L2
 clear L1 L2
 by_cases hlen:l1.length = l2.length
 case neg =>
  have t1:((l1.length:Int) != (l2.length:Int)) = true:=by simp;omega
  have HL:=Lib.hid hlen
  clear hlen
  go_enter Tryz.func12,Tryz.ntmps12
  go_wp2
  go_ret
  exact ⟨ret_bool (unlike_len HL.out).symm,Same.refl _⟩
 have t1:((l1.length:Int) != (l2.length:Int)) = false:=by simp;omega
 have HL:=Lib.hid hlen
 clear hlen
 go_enter Tryz.func12,Tryz.ntmps12
 go_wp2
 go_loopw [5] (fun i wr => ∃ k:Nat,k ≤ l1.length ∧ i = .int .i64 k ∧ Hid (Same w wr) ∧ Hid (Alike l1 l2 k)) (fun i _ => l1.length - (intOf i).toNat)
 case atStart => exact ⟨0,Nat.zero_le _,rfl,Same.refl w,alike_zero _ _⟩
 case round =>
  obtain ⟨k,hk,rfl,S,N⟩:=hrel
  by_cases hlt:k < l1.length
  ·have hlt2:k < l2.length:=by have:=HL.out;omega
   obtain ⟨b,off,hA,blt,hc⟩:=(H1.out.same S.out).2.2 k hlt
   obtain ⟨b2,off2,hB,blt2,hc2⟩:=(H2.out.same S.out).2.2 k hlt2
   have hA':A = some ⟨b,off,none⟩:=hA
   have hB':B = some ⟨b2,off2,none⟩:=hB
   obtain ⟨x,hx⟩:∃ x,x = l1[k]:=⟨_,rfl⟩
   obtain ⟨y,hy⟩:∃ y,y = l2[k]:=⟨_,rfl⟩
   rw [← hx] at hc
   rw [← hy] at hc2
   have HX:=Lib.hid hx
   have HY:=Lib.hid hy
   obtain ⟨xk,xn,xs⟩:=x
   obtain ⟨yk,yn,ys⟩:=y
   have c0:=hc 0 (.int .i64 xk) rfl
   have c1:=hc 1 (.int .i64 xn) rfl
   have c2:=hc 2 (.string xs) rfl
   have d0:=hc2 0 (.int .i64 yk) rfl
   have d1:=hc2 1 (.int .i64 yn) rfl
   have d2:=hc2 2 (.string ys) rfl
   simp only [Nat.add_zero] at c0 d0
   clear hc hc2 hA hB hx hy
   subst hA' hB'
   have hki:(k:Int) < (l1.length:Int):=by omega
   have hki2:(k:Int) < (l2.length:Int):=by omega
   by_cases q1:xk = yk
   case neg =>
    have t2:(xk == yk) = false:=by simp;exact q1
    have HQ:Hid (¬ (⟨xk,xn,xs⟩:V) = ⟨yk,yn,ys⟩):=fun h => q1 (by injection h)
    clear q1
    go_wp2_with fail
    go_quiet (fail)
    go_wp2
    go_ret
    exact ⟨ret_bool (unlike_at hlt hlt2 (by rw [← HX.out,← HY.out];exact HQ.out)).symm,S.out.drewN _⟩
   have t2:(xk == yk) = true:=by simp;exact q1
   by_cases q2:xn = yn
   case neg =>
    have t3:(xn == yn) = false:=by simp;exact q2
    have HQ:Hid (¬ (⟨xk,xn,xs⟩:V) = ⟨yk,yn,ys⟩):=fun h => q2 (by injection h)
    clear q1 q2
    go_wp2_with fail
    go_quiet (fail)
    go_wp2
    go_ret
    exact ⟨ret_bool (unlike_at hlt hlt2 (by rw [← HX.out,← HY.out];exact HQ.out)).symm,S.out.drewN _⟩
   have t3:(xn == yn) = true:=by simp;exact q2
   by_cases q3:xs = ys
   case neg =>
    have t4:(xs.toList == ys.toList) = false:=by rw [beqB];simp;exact q3
    have HQ:Hid (¬ (⟨xk,xn,xs⟩:V) = ⟨yk,yn,ys⟩):=fun h => q3 (by injection h)
    clear q1 q2 q3
    go_wp2_with fail
    go_quiet (fail)
    go_wp2
    go_ret
    exact ⟨ret_bool (unlike_at hlt hlt2 (by rw [← HX.out,← HY.out];exact HQ.out)).symm,S.out.drewN _⟩
   have t4:(xs.toList == ys.toList) = true:=by rw [beqB];simp;exact q3
   have HQ:Hid ((⟨xk,xn,xs⟩:V) = ⟨yk,yn,ys⟩):=V.ext' q1 q2 q3
   clear q1 q2 q3
   go_wp2_with fail
   go_quiet (fail)
   go_wp2
   go_roundw
   case rel => exact ⟨k + 1,by omega,by go_num,(S.out.drewN _),alike_step hlt hlt2 N.out (by rw [← HX.out,← HY.out];exact HQ.out)⟩
   case measure => simp [intOf];omega
  ·have ek:k = l1.length:=by omega
   have HE:Hid (Alike l1 l2 l1.length):=by rw [← ek];exact N.out
   clear ek
   go_wp2
   go_ret
   exact ⟨ret_bool (alike_end HL.out HE.out).symm,S.out⟩
theorem At.ext' {a b:At} (h1:a.name = b.name) (h2:a.kind = b.kind) (h3:a.was = b.was) (h4:a.dflt = b.dflt):a = b:=by cases a;cases b;simp_all
theorem attrs_ok (h1 h2:Hd) (l1 l2:List RA) (w:World) (a1:AttrsAt w h1 l1) (a2:AttrsAt w h2 l2) :
  Calls Tryz.prog 76 #[h1.val,h2.val] w fun e w' => e = .returned (.bool (decide (l1.map RA.at_ = l2.map RA.at_))) ∧ Same w w':=by
 have H1:=Lib.hid a1
 have H2:=Lib.hid a2
 have hn:l1.length = h1.n:=a1.1.1
 have hp:l2.length = h2.n:=a2.1.1
 have hb:h1.n ≤ 9223372036854775807:=a1.1.2.1
 have hb2:h2.n ≤ 9223372036854775807:=a2.1.2.1
 clear a1 a2
 obtain ⟨A,n,c⟩:=h1
 obtain ⟨B,p,d⟩:=h2
 simp only at hn hp hb hb2
 show Calls Tryz.prog 76 #[.slice A n c,.slice B p d] w _
 subst hn hp
 have M1:Hid ((l1.map RA.at_).length = l1.length):=List.length_map _
 have M2:Hid ((l2.map RA.at_).length = l2.length):=List.length_map _
 by_cases hlen:l1.length = l2.length
 case neg =>
  have t1:((l1.length:Int) != (l2.length:Int)) = true:=by simp;omega
  have HL:=Lib.hid hlen
  clear hlen
  go_enter Tryz.func76,Tryz.ntmps76
  go_wp2
  go_ret
  exact ⟨ret_bool (unlike_len (by rw [M1.out,M2.out];exact HL.out)).symm,Same.refl _⟩
 have t1:((l1.length:Int) != (l2.length:Int)) = false:=by simp;omega
 have HL:=Lib.hid hlen
 clear hlen
 go_enter Tryz.func76,Tryz.ntmps76
 go_wp2
 go_loopw [5] (fun i wr => ∃ k:Nat,k ≤ l1.length ∧ i = .int .i64 k ∧ Hid (Same w wr) ∧ Hid (Alike (l1.map RA.at_) (l2.map RA.at_) k)) (fun i _ => l1.length - (intOf i).toNat)
 case atStart => exact ⟨0,Nat.zero_le _,rfl,Same.refl w,alike_zero _ _⟩
 case round =>
  obtain ⟨k,hk,rfl,S,N⟩:=hrel
  by_cases hlt:k < l1.length
  ·have hlt2:k < l2.length:=by have:=HL.out;omega
   obtain ⟨b,off,hA,blt,hc⟩:=(H1.out.1.same S.out).2.2 k hlt
   obtain ⟨b2,off2,hB,blt2,hc2⟩:=(H2.out.1.same S.out).2.2 k hlt2
   have hA':A = some ⟨b,off,none⟩:=hA
   have hB':B = some ⟨b2,off2,none⟩:=hB
   have hw1:=(H1.out.2 _ (List.getElem_mem hlt)).1
   have hw2:=(H2.out.2 _ (List.getElem_mem hlt2)).1
   obtain ⟨x,hx⟩:∃ x,x = l1[k]:=⟨_,rfl⟩
   obtain ⟨y,hy⟩:∃ y,y = l2[k]:=⟨_,rfl⟩
   rw [← hx] at hc hw1
   rw [← hy] at hc2 hw2
   have HX:Hid ((l1.map RA.at_)[k]'(by rw [M1.out];exact hlt) = x.at_):=by show _ = _;rw [List.getElem_map,hx]
   have HY:Hid ((l2.map RA.at_)[k]'(by rw [M2.out];exact hlt2) = y.at_):=by show _ = _;rw [List.getElem_map,hy]
   obtain ⟨⟨n1,kd1,was1,⟨dk1,dn1,ds1⟩⟩,⟨A3,m3,c3⟩⟩:=x
   obtain ⟨⟨n2,kd2,was2,⟨dk2,dn2,ds2⟩⟩,⟨A4,m4,c4⟩⟩:=y
   have kx0:=cellr (hc 0 (.string n1) rfl)
   have kx1:=cellr (hc 1 (.int .i64 kd1) rfl)
   have kx2:=cellr (hc 2 (.slice A3 m3 c3) rfl)
   have kx3:=cellr (hc 3 (.int .i64 dk1) rfl)
   have kx4:=cellr (hc 4 (.int .i64 dn1) rfl)
   have kx5:=cellr (hc 5 (.string ds1) rfl)
   have ky0:=cellr (hc2 0 (.string n2) rfl)
   have ky1:=cellr (hc2 1 (.int .i64 kd2) rfl)
   have ky2:=cellr (hc2 2 (.slice A4 m4 c4) rfl)
   have ky3:=cellr (hc2 3 (.int .i64 dk2) rfl)
   have ky4:=cellr (hc2 4 (.int .i64 dn2) rfl)
   have ky5:=cellr (hc2 5 (.string ds2) rfl)
   simp only [Nat.add_zero] at kx0 ky0
   have HT:Hid (Rt 95 #[.slice A3 m3 c3,.slice A4 m4 c4] w (.bool (decide (was1 = was2)))):=fun W s => texts_ok ⟨A3,m3,c3⟩ ⟨A4,m4,c4⟩ was1 was2 W (hw1.same s) (hw2.same s)
   have cT:=regr (w:=wr) (fun W s => HT.out W (S.out.trans s))
   clear hc hc2 hA hB hx hy hw1 hw2 HT
   subst hA' hB'
   have hki:(k:Int) < (l1.length:Int):=by omega
   have hki2:(k:Int) < (l2.length:Int):=by omega
   have hk0:(0:Int) ≤ (k:Int):=by omega
   by_cases q1:n1 = n2
   case neg =>
    have HQ:Hid (¬ (⟨n1,kd1,was1,⟨dk1,dn1,ds1⟩⟩:At) = ⟨n2,kd2,was2,⟨dk2,dn2,ds2⟩⟩):=fun h => q1 (by injection h)
    have t2:(n1.toList == n2.toList) = false:=by rw [beqB];simp;exact q1
    clear q1
    go_wp2_with fail
    refine wp_region_quiet_below (by kernel_rfl) (by kernel_rfl) ?_
    repeat (go_big_quiet_step (first | (go_at_call 95;exact cT _ _)))
    refine wpQuiet_nil ?_
    intro _ hw'
    obtain ⟨⟨dq,osq⟩,hw''⟩:=hw'
    subst hw''
    have S1:=Lib.hid (S.out.trans (Same.reg wr dq osq))
    generalize Sort.grow (redrawn wr dq) osq = w1 at S1 ⊢
    go_wp2
    go_ret
    exact ⟨ret_bool (unlike_at (by rw [M1.out];exact hlt) (by rw [M2.out];exact hlt2) (by rw [HX.out,HY.out];exact HQ.out)).symm,S1.out⟩
   have t2:(n1.toList == n2.toList) = true:=by rw [beqB];simp;exact q1
   by_cases q2:kd1 = kd2
   case neg =>
    have HQ:Hid (¬ (⟨n1,kd1,was1,⟨dk1,dn1,ds1⟩⟩:At) = ⟨n2,kd2,was2,⟨dk2,dn2,ds2⟩⟩):=fun h => q2 (by injection h)
    have t3:(kd1 != kd2) = true:=by simp;exact q2
    clear q1 q2
    go_wp2_with fail
    refine wp_region_quiet_below (by kernel_rfl) (by kernel_rfl) ?_
    repeat (go_big_quiet_step (first | (go_at_call 95;exact cT _ _)))
    refine wpQuiet_nil ?_
    intro _ hw'
    obtain ⟨⟨dq,osq⟩,hw''⟩:=hw'
    subst hw''
    have S1:=Lib.hid (S.out.trans (Same.reg wr dq osq))
    generalize Sort.grow (redrawn wr dq) osq = w1 at S1 ⊢
    go_wp2
    go_ret
    exact ⟨ret_bool (unlike_at (by rw [M1.out];exact hlt) (by rw [M2.out];exact hlt2) (by rw [HX.out,HY.out];exact HQ.out)).symm,S1.out⟩
   have t3:(kd1 != kd2) = false:=by simp;exact q2
   by_cases q3:dk1 = dk2
   case neg =>
    have HQ:Hid (¬ (⟨n1,kd1,was1,⟨dk1,dn1,ds1⟩⟩:At) = ⟨n2,kd2,was2,⟨dk2,dn2,ds2⟩⟩):=fun h => q3 (by injection h with _ _ _ h;injection h)
    have t4:(dk1 == dk2) = false:=by simp;exact q3
    clear q1 q2 q3
    go_wp2_with fail
    refine wp_region_quiet_below (by kernel_rfl) (by kernel_rfl) ?_
    repeat (go_big_quiet_step (first | (go_at_call 95;exact cT _ _)))
    refine wpQuiet_nil ?_
    intro _ hw'
    obtain ⟨⟨dq,osq⟩,hw''⟩:=hw'
    subst hw''
    have S1:=Lib.hid (S.out.trans (Same.reg wr dq osq))
    generalize Sort.grow (redrawn wr dq) osq = w1 at S1 ⊢
    go_wp2
    go_ret
    exact ⟨ret_bool (unlike_at (by rw [M1.out];exact hlt) (by rw [M2.out];exact hlt2) (by rw [HX.out,HY.out];exact HQ.out)).symm,S1.out⟩
   have t4:(dk1 == dk2) = true:=by simp;exact q3
   by_cases q4:dn1 = dn2
   case neg =>
    have HQ:Hid (¬ (⟨n1,kd1,was1,⟨dk1,dn1,ds1⟩⟩:At) = ⟨n2,kd2,was2,⟨dk2,dn2,ds2⟩⟩):=fun h => q4 (by injection h with _ _ _ h;injection h)
    have t5:(dn1 == dn2) = false:=by simp;exact q4
    clear q1 q2 q3 q4
    go_wp2_with fail
    refine wp_region_quiet_below (by kernel_rfl) (by kernel_rfl) ?_
    repeat (go_big_quiet_step (first | (go_at_call 95;exact cT _ _)))
    refine wpQuiet_nil ?_
    intro _ hw'
    obtain ⟨⟨dq,osq⟩,hw''⟩:=hw'
    subst hw''
    have S1:=Lib.hid (S.out.trans (Same.reg wr dq osq))
    generalize Sort.grow (redrawn wr dq) osq = w1 at S1 ⊢
    go_wp2
    go_ret
    exact ⟨ret_bool (unlike_at (by rw [M1.out];exact hlt) (by rw [M2.out];exact hlt2) (by rw [HX.out,HY.out];exact HQ.out)).symm,S1.out⟩
   have t5:(dn1 == dn2) = true:=by simp;exact q4
   by_cases q5:ds1 = ds2
   case neg =>
    have HQ:Hid (¬ (⟨n1,kd1,was1,⟨dk1,dn1,ds1⟩⟩:At) = ⟨n2,kd2,was2,⟨dk2,dn2,ds2⟩⟩):=fun h => q5 (by injection h with _ _ _ h;injection h)
    have t6:(ds1.toList == ds2.toList) = false:=by rw [beqB];simp;exact q5
    clear q1 q2 q3 q4 q5
    go_wp2_with fail
    refine wp_region_quiet_below (by kernel_rfl) (by kernel_rfl) ?_
    repeat (go_big_quiet_step (first | (go_at_call 95;exact cT _ _)))
    refine wpQuiet_nil ?_
    intro _ hw'
    obtain ⟨⟨dq,osq⟩,hw''⟩:=hw'
    subst hw''
    have S1:=Lib.hid (S.out.trans (Same.reg wr dq osq))
    generalize Sort.grow (redrawn wr dq) osq = w1 at S1 ⊢
    go_wp2
    go_ret
    exact ⟨ret_bool (unlike_at (by rw [M1.out];exact hlt) (by rw [M2.out];exact hlt2) (by rw [HX.out,HY.out];exact HQ.out)).symm,S1.out⟩
   have t6:(ds1.toList == ds2.toList) = true:=by rw [beqB];simp;exact q5
   by_cases q6:was1 = was2
   case neg =>
    have HQ:Hid (¬ (⟨n1,kd1,was1,⟨dk1,dn1,ds1⟩⟩:At) = ⟨n2,kd2,was2,⟨dk2,dn2,ds2⟩⟩):=fun h => q6 (by injection h)
    rw [decide_eq_false q6] at cT
    clear q1 q2 q3 q4 q5 q6
    go_wp2_with fail
    refine wp_region_quiet_below (by kernel_rfl) (by kernel_rfl) ?_
    repeat (go_big_quiet_step (first | (go_at_call 95;exact cT _ _)))
    refine wpQuiet_nil ?_
    intro _ hw'
    obtain ⟨⟨dq,osq⟩,hw''⟩:=hw'
    subst hw''
    have S1:=Lib.hid (S.out.trans (Same.reg wr dq osq))
    generalize Sort.grow (redrawn wr dq) osq = w1 at S1 ⊢
    go_wp2
    go_ret
    exact ⟨ret_bool (unlike_at (by rw [M1.out];exact hlt) (by rw [M2.out];exact hlt2) (by rw [HX.out,HY.out];exact HQ.out)).symm,S1.out⟩
   have HQ:Hid ((⟨n1,kd1,was1,⟨dk1,dn1,ds1⟩⟩:At) = ⟨n2,kd2,was2,⟨dk2,dn2,ds2⟩⟩):=At.ext' q1 q2 q6 (V.ext' q3 q4 q5)
   rw [decide_eq_true q6] at cT
   clear q1 q2 q3 q4 q5 q6
   go_wp2_with fail
   refine wp_region_quiet_below (by kernel_rfl) (by kernel_rfl) ?_
   repeat (go_big_quiet_step (first | (go_at_call 95;exact cT _ _)))
   refine wpQuiet_nil ?_
   intro _ hw'
   obtain ⟨⟨dq,osq⟩,hw''⟩:=hw'
   subst hw''
   have S1:=Lib.hid (S.out.trans (Same.reg wr dq osq))
   generalize Sort.grow (redrawn wr dq) osq = w1 at S1 ⊢
   go_wp2
   go_roundw
   case rel => exact ⟨k + 1,by omega,by go_num,S1.out,alike_step (by rw [M1.out];exact hlt) (by rw [M2.out];exact hlt2) N.out (by rw [HX.out,HY.out];exact HQ.out)⟩
   case measure => simp [intOf];omega
  ·have ek:k = l1.length:=by omega
   have HE:Hid (Alike (l1.map RA.at_) (l2.map RA.at_) (l1.map RA.at_).length):=by show Alike _ _ _;rw [M1.out,← ek];exact N.out
   clear ek
   go_wp2
   go_ret
   exact ⟨ret_bool (alike_end (by rw [M1.out,M2.out];exact HL.out) HE.out).symm,S.out⟩
theorem sameTable_ok (t u:RT) (w:World) (a1:TbAt w t) (a2:TbAt w u) :
  Calls Tryz.prog 44 #[t.val,u.val] w fun e w' => e = .returned (.bool (decide (t.tb = u.tb))) ∧ Same w w':=by
 have HI:=Lib.hid (fun W (s:Same w W) => ints_ok t.hk u.hk t.key u.key W (a1.2.1.same s) (a2.2.1.same s))
 have HA:=Lib.hid (fun W (s:Same w W) => attrs_ok t.ha u.ha t.ra u.ra W (a1.1.same s) (a2.1.same s))
 clear a1 a2
 obtain ⟨n1,⟨A1,m1,c1⟩,ra1,⟨B1,p1,d1⟩,key1⟩:=t
 obtain ⟨n2,⟨A2,m2,c2⟩,ra2,⟨B2,p2,d2⟩,key2⟩:=u
 simp only at HI HA
 have HI':Hid (Rt 75 #[.slice B1 p1 d1,.slice B2 p2 d2] w (.bool (decide (key1 = key2)))):=HI
 have HA':Hid (Rt 76 #[.slice A1 m1 c1,.slice A2 m2 c2] w (.bool (decide (ra1.map RA.at_ = ra2.map RA.at_)))):=HA
 clear HI HA
 show Calls Tryz.prog 44 #[.agg #[.string n1,.slice A1 m1 c1,.slice B1 p1 d1],.agg #[.string n2,.slice A2 m2 c2,.slice B2 p2 d2]] w fun e w' => e = .returned (.bool (decide ((⟨n1,ra1.map RA.at_,key1⟩:Tb) = ⟨n2,ra2.map RA.at_,key2⟩))) ∧ Same w w'
 generalize ra1.map RA.at_ = l1 at HA' ⊢
 generalize ra2.map RA.at_ = l2 at HA' ⊢
 by_cases q1:n1 = n2
 case neg =>
  have t1:(n1.toList == n2.toList) = false:=by rw [beqB];simp;exact q1
  have HQ:Hid (decide ((⟨n1,l1,key1⟩:Tb) = ⟨n2,l2,key2⟩) = false):=decide_eq_false (fun h => q1 (by injection h))
  clear q1
  go_enter Tryz.func44,Tryz.ntmps44
  go_wp2_with fail
  go_ret
  exact ⟨ret_bool HQ.out.symm,((Same.refl w).alloc _).alloc _⟩
 have t1:(n1.toList == n2.toList) = true:=by rw [beqB];simp;exact q1
 by_cases q2:key1 = key2
 case neg =>
  have HQ:Hid (decide ((⟨n1,l1,key1⟩:Tb) = ⟨n2,l2,key2⟩) = false):=decide_eq_false (fun h => q2 (by injection h))
  rw [decide_eq_false q2] at HI'
  clear q1 q2
  go_enter Tryz.func44,Tryz.ntmps44
  go_wp2_with (first | (go_at_call 75;refine (HI'.out _ ?_).mono ?_;exact ((Same.refl w).alloc _).alloc _;rintro e w1 ⟨rfl,s1⟩;have S1:=Lib.hid ((((Same.refl w).alloc _).alloc _).trans s1);clear s1))
  go_ret
  exact ⟨ret_bool HQ.out.symm,S1.out⟩
 rw [decide_eq_true q2] at HI'
 have HQ:Hid (decide ((⟨n1,l1,key1⟩:Tb) = ⟨n2,l2,key2⟩) = decide (l1 = l2)):=decide_eq_decide.2 ⟨fun h => by injection h,fun h => by rw [q1,q2,h]⟩
 clear q1 q2
 generalize decide (l1 = l2) = r at HA' HQ
 go_enter Tryz.func44,Tryz.ntmps44
 go_wp2_with (first
  | (go_at_call 75;refine (HI'.out _ ?_).mono ?_;exact ((Same.refl w).alloc _).alloc _;rintro e w1 ⟨rfl,s1⟩;have K1:=s1.cells;have Z1:=s1.size;have y1:w.heap.size + 1 < w1.heap.size:=(by have:=s1.size;simp at this;omega);have z1:w.heap.size < w1.heap.size:=(by omega);have S1:=Lib.hid ((((Same.refl w).alloc _).alloc _).trans s1);clear s1)
  | (go_at_call 76;refine (HA'.out _ S1.out).mono ?_;rintro e w2 ⟨rfl,s2⟩;have S2:=Lib.hid (S1.out.trans s2);clear s2))
 go_ret
 exact ⟨ret_bool HQ.out.symm,S2.out⟩
theorem same_s_ok (h1 h2:Hd) (ts us:List RT) (w:World) (a1:TabsAt w h1 ts) (a2:TabsAt w h2 us) :
  Calls Tryz.prog 11 #[.agg #[h1.val],.agg #[h2.val]] w fun e w' => e = .returned (.bool (decide (ts.map RT.tb = us.map RT.tb))) ∧ Same w w':=by
 have hn:ts.length = h1.n:=a1.1.1
 have hp:us.length = h2.n:=a2.1.1
 have hb:h1.n ≤ 9223372036854775807:=a1.1.2.1
 have hb2:h2.n ≤ 9223372036854775807:=a2.1.2.1
 have H1:=Lib.hid a1
 have H2:=Lib.hid a2
 clear a1 a2
 obtain ⟨A,n,c⟩:=h1
 obtain ⟨B,p,d⟩:=h2
 simp only at hn hp hb hb2
 subst hn hp
 show Calls Tryz.prog 11 #[.agg #[.slice A ts.length c],.agg #[.slice B us.length d]] w _
 have M1:Hid ((ts.map RT.tb).length = ts.length):=List.length_map _
 have M2:Hid ((us.map RT.tb).length = us.length):=List.length_map _
 by_cases hlen:ts.length = us.length
 case neg =>
  have t1:((ts.length:Int) != (us.length:Int)) = true:=by simp;omega
  have HL:=Lib.hid hlen
  clear hlen
  go_enter Tryz.func11,Tryz.ntmps11
  go_wp2
  go_ret
  exact ⟨ret_bool (unlike_len (by rw [M1.out,M2.out];exact HL.out)).symm,((Same.refl _).alloc _).alloc _⟩
 have t1:((ts.length:Int) != (us.length:Int)) = false:=by simp;omega
 have HL:=Lib.hid hlen
 clear hlen
 go_enter Tryz.func11,Tryz.ntmps11
 go_wp2
 obtain ⟨W0,hW0⟩:∃ W0,W0 = (w.alloc (.cells #[.slice A ts.length c] 24)).alloc (.cells #[.slice B us.length d] 24):=⟨_,rfl⟩
 have S0:Hid (Same w W0):=by show Same w W0;rw [hW0];exact ((Same.refl w).alloc _).alloc _
 have z0:w.heap.size + 2 ≤ W0.heap.size:=by rw [hW0];simp
 have q0:Hid (W0.cell? ⟨w.heap.size,0,none⟩ = some (.slice A ts.length c)):=by show _ = _;rw [hW0];simp
 have q1:Hid (W0.cell? ⟨w.heap.size + 1,0,none⟩ = some (.slice B us.length d)):=by show _ = _;rw [hW0];simp
 rw [← hW0]
 clear hW0
 go_loopw [5] (fun i wr => ∃ k:Nat,k ≤ ts.length ∧ i = .int .i64 k ∧ Hid (Same W0 wr) ∧ Hid (Alike (ts.map RT.tb) (us.map RT.tb) k)) (fun i _ => ts.length - (intOf i).toNat)
 case atStart => exact ⟨0,Nat.zero_le _,rfl,Same.refl W0,alike_zero _ _⟩
 case round =>
  obtain ⟨k,hk,rfl,S,N⟩:=hrel
  have b0:=(S.out.cells _ _ (by omega)).trans q0.out
  have b1:=(S.out.cells _ _ (by omega)).trans q1.out
  have zr:w.heap.size + 2 ≤ wr.heap.size:=Nat.le_trans z0 S.out.size
  by_cases hlt:k < ts.length
  ·have hlt2:k < us.length:=by have:=HL.out;omega
   have sw:=S0.out.trans S.out
   obtain ⟨b,off,hA,blt,hc⟩:=(H1.out.1.same sw).2.2 k hlt
   obtain ⟨b2,off2,hB,blt2,hc2⟩:=(H2.out.1.same sw).2.2 k hlt2
   have hA':A = some ⟨b,off,none⟩:=hA
   have hB':B = some ⟨b2,off2,none⟩:=hB
   have HS:=Lib.hid (fun W (s:Same w W) => sameTable_ok ts[k] us[k] W ((H1.out.2 _ (List.getElem_mem hlt)).same s) ((H2.out.2 _ (List.getElem_mem hlt2)).same s))
   have HX:Hid ((ts.map RT.tb)[k]'(by rw [M1.out];exact hlt) = ts[k].tb):=List.getElem_map ..
   have HY:Hid ((us.map RT.tb)[k]'(by rw [M2.out];exact hlt2) = us[k].tb):=List.getElem_map ..
   obtain ⟨x,hx⟩:∃ x,x = ts[k]:=⟨_,rfl⟩
   obtain ⟨y,hy⟩:∃ y,y = us[k]:=⟨_,rfl⟩
   rw [← hx] at hc HS HX
   rw [← hy] at hc2 HS HY
   obtain ⟨bb,hbb⟩:∃ bb,bb = decide (x.tb = y.tb):=⟨_,rfl⟩
   rw [← hbb] at HS
   have HBB:=Lib.hid hbb
   have sww:=Lib.hid sw
   clear hx hy hbb sw hA hB
   obtain ⟨n1,⟨A1,m1,c1⟩,ra1,⟨B1,p1,d1⟩,key1⟩:=x
   obtain ⟨n2,⟨A2,m2,c2⟩,ra2,⟨B2,p2,d2⟩,key2⟩:=y
   have HS':Hid (Rt 44 #[.agg #[.string n1,.slice A1 m1 c1,.slice B1 p1 d1],.agg #[.string n2,.slice A2 m2 c2,.slice B2 p2 d2]] w (.bool bb)):=HS
   have cS:=regr (w:=wr) (fun W s => HS'.out W (sww.out.trans s))
   have kx0:=cellr (hc 0 (.string n1) rfl)
   have kx1:=cellr (hc 1 (.slice A1 m1 c1) rfl)
   have kx2:=cellr (hc 2 (.slice B1 p1 d1) rfl)
   have ky0:=cellr (hc2 0 (.string n2) rfl)
   have ky1:=cellr (hc2 1 (.slice A2 m2 c2) rfl)
   have ky2:=cellr (hc2 2 (.slice B2 p2 d2) rfl)
   simp only [Nat.add_zero] at kx0 ky0
   subst hA' hB'
   have kb0:=cellr b0
   have kb1:=cellr b1
   clear hc hc2 HS HS'
   go_wp2_with fail
   refine wp_region_quiet_below (by kernel_rfl) (by kernel_rfl) ?_
   repeat (go_big_quiet_step (first | (go_at_call 44;exact cS _ _)))
   refine wpQuiet_nil ?_
   intro _ hw'
   obtain ⟨⟨dq,osq⟩,hw''⟩:=hw'
   subst hw''
   have S1:=Lib.hid (S.out.trans (Same.reg wr dq osq))
   generalize Sort.grow (redrawn wr dq) osq = w1 at S1 ⊢
   clear kx0 kx1 kx2 ky0 ky1 ky2 kb0 kb1 cS b0 b1
   cases bb with
   | true =>
    have HQ:Hid ((ts.map RT.tb)[k]'(by rw [M1.out];exact hlt) = (us.map RT.tb)[k]'(by rw [M2.out];exact hlt2)):=by
     show _ = _
     rw [HX.out,HY.out]
     exact of_decide_eq_true HBB.out.symm
    go_wp2
    go_roundw
    case rel => exact ⟨k + 1,by omega,by go_num,S1.out,alike_step (by rw [M1.out];exact hlt) (by rw [M2.out];exact hlt2) N.out HQ.out⟩
    case measure => simp [intOf];omega
   | false =>
    have HQ:Hid (¬ (ts.map RT.tb)[k]'(by rw [M1.out];exact hlt) = (us.map RT.tb)[k]'(by rw [M2.out];exact hlt2)):=by
     show ¬ _ = _
     rw [HX.out,HY.out]
     exact of_decide_eq_false HBB.out.symm
    go_wp2
    go_ret
    exact ⟨ret_bool (unlike_at (by rw [M1.out];exact hlt) (by rw [M2.out];exact hlt2) HQ.out).symm,S0.out.trans S1.out⟩
  ·have ek:k = ts.length:=by omega
   have HE:Hid (Alike (ts.map RT.tb) (us.map RT.tb) (ts.map RT.tb).length):=by show Alike _ _ _;rw [M1.out,← ek];exact N.out
   clear ek
   go_wp2
   go_ret
   exact ⟨ret_bool (alike_end (by rw [M1.out,M2.out];exact HL.out) HE.out).symm,S0.out.trans S.out⟩
def smallA (a:At):Bool:=decide (a.was.length ≤ 10) && decide (a.dflt.s.size ≤ 300)
def smallT (t:Tb):Bool:=(decide (t.attrs.length ≤ 20) && decide (t.key.length ≤ 20) && decide (t.name.size ≤ 100)) && t.attrs.all smallA
def smallS (s:List Tb):Bool:=decide (s.length ≤ 24) && s.all smallT
theorem smallT_bad {t:Tb} (h:¬ (t.attrs.length ≤ 20 ∧ t.key.length ≤ 20 ∧ t.name.size ≤ 100)):smallT t = false:=by
 cases hh:smallT t with
 | false => rfl
 | true =>
  simp only [smallT,Bool.and_eq_true,decide_eq_true_eq] at hh
  exact absurd ⟨hh.1.1.1,hh.1.1.2,hh.1.2⟩ h
theorem smallT_attr {t:Tb} {j:Nat} (hj:j < t.attrs.length) (h:smallA t.attrs[j] = false):smallT t = false:=by
 unfold smallT
 rw [show t.attrs.all smallA = false from List.all_eq_false.2 ⟨_,List.getElem_mem hj,by simp [h]⟩,Bool.and_false]
theorem smallT_good {t:Tb} (h1:t.attrs.length ≤ 20) (h2:t.key.length ≤ 20) (h3:t.name.size ≤ 100) (h:∀ j (hj:j < t.attrs.length),smallA t.attrs[j] = true):smallT t = true:=by
 unfold smallT
 rw [decide_eq_true h1,decide_eq_true h2,decide_eq_true h3]
 simp only [Bool.and_self,Bool.true_and,List.all_eq_true]
 intro a ha
 obtain ⟨j,hj,rfl⟩:=List.mem_iff_getElem.1 ha
 exact h j hj
theorem smallS_bad {s:List Tb} {k:Nat} (hk:k < s.length) (h:smallT s[k] = false):smallS s = false:=by
 unfold smallS
 rw [show s.all smallT = false from List.all_eq_false.2 ⟨_,List.getElem_mem hk,by simp [h]⟩,Bool.and_false]
theorem smallS_good {s:List Tb} (h1:s.length ≤ 24) (h:∀ j (hj:j < s.length),smallT s[j] = true):smallS s = true:=by
 unfold smallS
 rw [decide_eq_true h1,Bool.true_and,List.all_eq_true]
 intro a ha
 obtain ⟨j,hj,rfl⟩:=List.mem_iff_getElem.1 ha
 exact h j hj
theorem smallS_ok (h:Hd) (ts:List RT) (w:World) (a:TabsAt w h ts) :
  Calls Tryz.prog 36 #[.agg #[h.val]] w fun e w' => e = .returned (.bool (smallS (ts.map RT.tb))) ∧ Same w w':=by
 have hn:ts.length = h.n:=a.1.1
 have hb:h.n ≤ 9223372036854775807:=a.1.2.1
 have H1:=Lib.hid a
 clear a
 obtain ⟨A,n,c⟩:=h
 simp only at hn hb
 subst hn
 have M1:Hid ((ts.map RT.tb).length = ts.length):=List.length_map _
 have MG:Hid (∀ k (hk:k < ts.length),(ts.map RT.tb)[k]'(by rw [M1.out];exact hk) = ts[k].tb):=fun k hk => List.getElem_map ..
 show Calls Tryz.prog 36 #[.agg #[.slice A ts.length c]] w _
 by_cases h24:24 < ts.length
 ·go_enter Tryz.func36,Tryz.ntmps36
  go_wp2
  go_ret
  exact ⟨ret_bool (by unfold smallS;rw [M1.out,decide_eq_false (by omega)];rfl),(Same.refl w).alloc _⟩
 go_enter Tryz.func36,Tryz.ntmps36
 go_wp2
 obtain ⟨W0,hW0⟩:∃ W0,W0 = w.alloc (.cells #[.slice A ts.length c] 24):=⟨_,rfl⟩
 have S0:Hid (Same w W0):=by show Same w W0;rw [hW0];exact (Same.refl w).alloc _
 have z0:w.heap.size + 1 ≤ W0.heap.size:=by rw [hW0];simp
 have q0:Hid (W0.cell? ⟨w.heap.size,0,none⟩ = some (.slice A ts.length c)):=by show _ = _;rw [hW0];simp
 rw [← hW0]
 clear hW0
 go_loopw [3] (fun i wr => ∃ k:Nat,k ≤ ts.length ∧ i = .int .i64 k ∧ Hid (Same W0 wr) ∧ Hid (∀ j (hj:j < ts.length),j < k → smallT ts[j].tb = true)) (fun i _ => ts.length - (intOf i).toNat)
 case atStart => exact ⟨0,Nat.zero_le _,rfl,Same.refl W0,fun j _ hj => absurd hj (Nat.not_lt_zero _)⟩
 case round =>
  obtain ⟨k,hk,rfl,S,N⟩:=hrel
  have b0:=(S.out.cells _ _ (by omega)).trans q0.out
  have zr:w.heap.size + 1 ≤ wr.heap.size:=Nat.le_trans z0 S.out.size
  have hne:w.heap.size ≠ wr.heap.size:=by omega
  have hlz:w.heap.size < wr.heap.size:=by omega
  by_cases hlt:k < ts.length
  ·have sw:=S0.out.trans S.out
   obtain ⟨b,off,hA,blt,hc⟩:=(H1.out.1.same sw).2.2 k hlt
   have hA':A = some ⟨b,off,none⟩:=hA
   have ha:=(H1.out.2 _ (List.getElem_mem hlt)).same sw
   have HB:Hid (smallT ts[k].tb = false → smallS (ts.map RT.tb) = false):=fun h => smallS_bad (by rw [M1.out];exact hlt) (by rw [MG.out k hlt];exact h)
   have HN:Hid (smallT ts[k].tb = true → ∀ j (hj:j < ts.length),j < k + 1 → smallT ts[j].tb = true):=fun h j hj h2 => by
    by_cases e:j = k
    ·subst e;exact h
    ·exact N.out j hj (by omega)
   obtain ⟨x,hx⟩:∃ x,x = ts[k]:=⟨_,rfl⟩
   rw [← hx] at hc ha HB HN
   obtain ⟨n1,⟨A1,m1,c1⟩,ra,⟨B1,p1,d1⟩,key⟩:=x
   have x0:=hc 0 (.string n1) rfl
   have x1:=hc 1 (.slice A1 m1 c1) rfl
   have x2:=hc 2 (.slice B1 p1 d1) rfl
   simp only [Nat.add_zero] at x0
   have hm1:ra.length = m1:=ha.1.1.1
   have hp1:key.length = p1:=ha.2.1.1
   have hm1b:m1 ≤ 9223372036854775807:=ha.1.1.2.1
   have hp1b:p1 ≤ 9223372036854775807:=ha.2.1.2.1
   have HLA:=Lib.hid ha.1.1
   have HWAS:=Lib.hid ha.1.2
   have hk63:p1 ≤ 9223372036854775807:=hp1b
   subst hm1 hp1
   obtain ⟨T,hT⟩:∃ T,T = (⟨n1,⟨A1,ra.length,c1⟩,ra,⟨B1,key.length,d1⟩,key⟩:RT).tb:=⟨_,rfl⟩
   rw [← hT] at HB HN
   have TA:Hid (T.attrs = ra.map RA.at_):=by show _ = _;rw [hT];rfl
   have TK:Hid (T.key = key):=by show _ = _;rw [hT];rfl
   have TN:Hid (T.name = n1):=by show _ = _;rw [hT];rfl
   have hki:(k:Int) < (ts.length:Int):=by omega
   have hbne:b ≠ wr.heap.size:=by omega
   have HSW:=Lib.hid sw
   have hsz:Hid (n1.size ≤ 9223372036854775807):=ha.2.2
   have hszn:=hsz.out
   subst hA'
   clear hc hA hx ha hT sw hsz
   by_cases g1:20 < ra.length
   ·have HF:Hid (smallS (ts.map RT.tb) = false):=HB.out (smallT_bad (by rw [TA.out,List.length_map];omega))
    go_wp2_with fail
    go_ret
    exact ⟨ret_bool HF.out.symm,(HSW.out).alloc _⟩
   by_cases g2:20 < key.length
   ·have HF:Hid (smallS (ts.map RT.tb) = false):=HB.out (smallT_bad (by rw [TK.out];omega))
    go_wp2_with fail
    go_ret
    exact ⟨ret_bool HF.out.symm,(HSW.out).alloc _⟩
   by_cases g3:100 < n1.size
   ·have HF:Hid (smallS (ts.map RT.tb) = false):=HB.out (smallT_bad (by rw [TN.out];omega))
    go_wp2_with fail
    go_ret
    exact ⟨ret_bool HF.out.symm,(HSW.out).alloc _⟩
   have G1:Hid (T.attrs.length ≤ 20 ∧ T.key.length ≤ 20 ∧ T.name.size ≤ 100):=⟨by rw [TA.out,List.length_map];omega,by rw [TK.out];omega,by rw [TN.out];omega⟩
   have hm20:ra.length ≤ 20:=by omega
   go_wp2_with fail
   obtain ⟨wo,hwo⟩:∃ wo:World,wo = wr.alloc (.cells #[.string n1,.slice A1 ra.length c1,.slice B1 key.length d1] 44):=⟨_,rfl⟩
   have so:Same wr wo:=by rw [hwo];exact (Same.refl wr).alloc _
   have SO:Hid (Same W0 wo):=S.out.trans so
   have v1:wo.cell? ⟨wr.heap.size,1,none⟩ = some (.slice A1 ra.length c1):=by rw [hwo];simp
   have HLO:Hid (Lies wo 6 ⟨A1,ra.length,c1⟩ RA.cells ra):=HLA.out.same so
   have HWO:Hid (∀ r ∈ ra,StrsAt wo r.h r.at_.was ∧ okS r.at_.name ∧ okS r.at_.dflt.s):=fun r hr => ⟨(HWAS.out r hr).1.same so,(HWAS.out r hr).2⟩
   have c0o:=(so.cells _ _ hlz).trans b0
   rw [← hwo]
   clear hwo so x0 x1 x2 b0 HLA HWAS
   go_loop [5] (fun q => ∃ i:Nat,i ≤ ra.length ∧ q = .int .i64 i ∧ Hid (∀ j (hj:j < ra.length),j < i → smallA ra[j].at_ = true)) (fun q => ra.length - (intOf q).toNat)
   case atStart => exact ⟨0,Nat.zero_le _,rfl,fun j _ hj => absurd hj (Nat.not_lt_zero _)⟩
   case round =>
    obtain ⟨i,hi,rfl,M⟩:=hrel
    by_cases hil:i < ra.length
    ·obtain ⟨b2,off2,hA2,blt2,hc2⟩:=HLO.out.2.2 i hil
     have hA2':A1 = some ⟨b2,off2,none⟩:=hA2
     have hw2:=HWO.out _ (List.getElem_mem hil)
     have HSA:Hid (smallA ra[i].at_ = false → smallS (ts.map RT.tb) = false):=fun h => HB.out (smallT_attr (j:=i) (by rw [TA.out,List.length_map];exact hil) (by simp only [TA.out,List.getElem_map];exact h))
     have HNA:Hid (smallA ra[i].at_ = true → ∀ j (hj:j < ra.length),j < i + 1 → smallA ra[j].at_ = true):=fun h j hj h2 => by
      by_cases e:j = i
      ·subst e;exact h
      ·exact M.out j hj (by omega)
     obtain ⟨y,hy⟩:∃ y,y = ra[i]:=⟨_,rfl⟩
     rw [← hy] at hc2 HSA HNA hw2
     obtain ⟨⟨n2,kd,was,⟨dk,dn,ds⟩⟩,⟨A3,m3,c3⟩⟩:=y
     have y2:=hc2 2 (.slice A3 m3 c3) rfl
     have y5:=hc2 5 (.string ds) rfl
     have hm3:was.length = m3:=hw2.1.1.1
     have hm3b:m3 ≤ 9223372036854775807:=hw2.1.1.2.1
     have hds:ds.size ≤ 9223372036854775807:=hw2.2.2
     subst hm3 hA2'
     have hii:(i:Int) < (ra.length:Int):=by omega
     clear hc2 hA2 hy hw2
     by_cases e1:10 < was.length
     ·have HF:Hid (smallS (ts.map RT.tb) = false):=HSA.out (by unfold smallA;rw [decide_eq_false (by show ¬ was.length ≤ 10;omega)];rfl)
      go_wp2_with fail
      go_ret
      exact ⟨ret_bool HF.out.symm,S0.out.trans SO.out⟩
     by_cases e2:300 < ds.size
     ·have HF:Hid (smallS (ts.map RT.tb) = false):=HSA.out (by unfold smallA;rw [decide_eq_false (show ¬ ds.size ≤ 300 by omega),Bool.and_false])
      go_wp2_with fail
      go_ret
      exact ⟨ret_bool HF.out.symm,S0.out.trans SO.out⟩
     have HG:Hid (∀ j (hj:j < ra.length),j < i + 1 → smallA ra[j].at_ = true):=HNA.out (by unfold smallA;rw [decide_eq_true (show was.length ≤ 10 by omega),decide_eq_true (show ds.size ≤ 300 by omega)];rfl)
     go_wp2_with fail
     go_round
     case rel => exact ⟨i + 1,by omega,by go_num,HG.out⟩
     case measure => simp [intOf];omega
    ·have ei:i = ra.length:=by omega
     have HG:Hid (∀ j (hj:j < ts.length),j < k + 1 → smallT ts[j].tb = true):=HN.out (smallT_good G1.out.1 G1.out.2.1 G1.out.2.2 (fun j hj => by
      have hj':j < ra.length:=by rw [TA.out,List.length_map] at hj;exact hj
      simp only [TA.out,List.getElem_map]
      exact M.out j hj' (by omega)))
     clear ei
     go_wp2_with fail
     go_roundw
     case rel => exact ⟨k + 1,by omega,by go_num,SO.out,HG.out⟩
     case measure => simp [intOf];omega
  ·have ek:k = ts.length:=by omega
   have HF:Hid (smallS (ts.map RT.tb) = true):=smallS_good (by rw [M1.out];omega) (fun j hj => by
    have hj':j < ts.length:=by rw [M1.out] at hj;exact hj
    rw [MG.out j hj']
    exact N.out j hj' (by omega))
   clear ek
   go_wp2_with fail
   go_ret
   exact ⟨ret_bool HF.out.symm,S0.out.trans S.out⟩
end Go.Proofs.YtfifnemnihcijaaGreatDoor

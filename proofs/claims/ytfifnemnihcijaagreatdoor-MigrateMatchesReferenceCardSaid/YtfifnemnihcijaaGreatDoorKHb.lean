import Derived.Test.YtfifnemnihcijaaGreatDoorKGa
import Derived.Test.YtfifnemnihcijaaGreatDoorKRa
import Derived.Test.YtfifnemnihcijaaGreatDoorCards
import Derived.Test.YtfifnemnihcijaaGreatDoorTie
import Derived.Deep.Slices
import Derived.Deep.Fields
import Derived.ChangeSame
import Derived.ProofKit
import Derived.OpenShut
import Derived.ChangeOld
import Derived.Lib.SmallJoins
import Derived.LaidMore
import Derived.Stop.Joined
import Derived.Stop.LaidErr
set_option linter.unusedSimpArgs false
set_option linter.unusedVariables false
set_option maxHeartbeats 16000000
set_option maxRecDepth 100000
namespace Go.Proofs.YtfifnemnihcijaaGreatDoor
open Go.RowKit
def shortV (v:V):Bool:=decide (v.s.size ≤ 300)
def shortB (row:Row):Bool:=row.all shortV && decide (row.length ≤ 20)
def fewRows (rows:List Row):Bool:=decide (rows.length ≤ 20) && rows.all shortB
def fewB (tabs:List (List Row)):Bool:=decide (tabs.length ≤ 6) && tabs.all fewRows
theorem all_bad {α:Type} {p:α → Bool} {l:List α} (k:Nat) (hk:k < l.length) (h:p l[k] = false):l.all p = false:=by
 cases ha:l.all p with
 | false => rfl
 | true =>
  rw [List.all_eq_true] at ha
  rw [ha _ (List.getElem_mem hk)] at h;cases h
theorem all_good {α:Type} {p:α → Bool} {l:List α} (h:∀ j (hj:j < l.length),p l[j] = true):l.all p = true:=by
 rw [List.all_eq_true]
 intro x hx
 obtain ⟨j,hj,rfl⟩:=List.mem_iff_getElem.1 hx
 exact h j hj
theorem all_step {α:Type} {p:α → Bool} {l:List α} {k:Nat} (hk:k < l.length) (hq:p l[k] = true) (h:∀ j (hj:j < l.length),j < k → p l[j] = true):∀ j (hj:j < l.length),j < k + 1 → p l[j] = true:=by
 intro j hj h2
 by_cases e:j = k
 ·subst e;exact hq
 ·exact h j hj (by omega)
theorem short_ok (h:Hd) (row:Row) (w:World) (a:RowAt w h row) :
  Calls Tryz.prog 58 #[h.val] w fun e w' => e = .returned (.bool (shortB row)) ∧ w = w':=by
 have hl:row.length = h.n:=a.1.1
 have hb:h.n ≤ 9223372036854775807:=a.1.2.1
 obtain ⟨A,n,c⟩:=h
 simp only at hl hb
 subst hl
 have HL:=Lib.hid a
 clear a
 show Calls Tryz.prog 58 #[.slice A row.length c] w _
 go_enter Tryz.func58,Tryz.ntmps58
 go_wp2
 go_loop [3] (fun i => ∃ k:Nat,k ≤ row.length ∧ i = .int .i64 k ∧ Hid (∀ j (hj:j < row.length),j < k → shortV row[j] = true)) (fun i => row.length - (intOf i).toNat)
 case atStart => exact ⟨0,Nat.zero_le _,rfl,fun j _ hj => absurd hj (Nat.not_lt_zero _)⟩
 case round =>
  obtain ⟨k,hk,rfl,N⟩:=hrel
  by_cases hlt:k < row.length
  ·obtain ⟨b,off,hA,blt,hc⟩:=HL.out.1.2.2 k hlt
   have hA':A = some ⟨b,off,none⟩:=hA
   have hsz:okS row[k].s:=HL.out.2 _ (List.getElem_mem hlt)
   obtain ⟨v,hv⟩:∃ v,v = row[k]:=⟨_,rfl⟩
   rw [← hv] at hc hsz
   have HV:=Lib.hid hv
   clear hv hA
   obtain ⟨v0,v1,v2⟩:=v
   have c2:=hc 2 (.string v2) rfl
   have hsz':v2.size ≤ 9223372036854775807:=hsz
   clear hc hsz
   subst hA'
   by_cases hq:v2.size ≤ 300
   ·have hq2:decide (300 < v2.size) = false:=decide_eq_false (by omega)
    have hq3:decide ((300:Int) < (v2.size:Int)) = false:=decide_eq_false (by omega)
    have HQ:Hid (shortV row[k] = true):=by rw [← HV.out];exact Lib.hid (decide_eq_true hq)
    clear hq
    go_wp2
    go_round
    case rel => exact ⟨k + 1,by omega,by go_num,all_step hlt HQ.out N.out⟩
    case measure => simp [intOf];omega
   ·have hq2:decide (300 < v2.size) = true:=decide_eq_true (by omega)
    have hq3:decide ((300:Int) < (v2.size:Int)) = true:=decide_eq_true (by omega)
    have HQ:Hid (shortV row[k] = false):=by rw [← HV.out];exact Lib.hid (decide_eq_false hq)
    clear hq
    go_wp2
    go_ret
    refine ⟨ret_bool ?_,rfl⟩
    unfold shortB
    rw [all_bad k hlt HQ.out];rfl
  ·have HQ:Hid (row.all shortV = true):=Lib.hid (all_good fun j hj => N.out j hj (by omega))
   by_cases h20:row.length ≤ 20
   ·have t1:decide (row.length ≤ 20) = true:=decide_eq_true h20
    have t2:decide ((row.length:Int) ≤ 20) = true:=decide_eq_true (by omega)
    have HE:Hid (shortB row = true):=by show _ = _;unfold shortB;rw [HQ.out,t1];rfl
    clear h20
    go_wp2
    go_ret
    exact ⟨ret_bool HE.out.symm,rfl⟩
   ·have t1:decide (row.length ≤ 20) = false:=decide_eq_false h20
    have t2:decide ((row.length:Int) ≤ 20) = false:=decide_eq_false (by omega)
    have HE:Hid (shortB row = false):=by show _ = _;unfold shortB;rw [HQ.out,t1];rfl
    clear h20
    go_wp2
    go_ret
    exact ⟨ret_bool HE.out.symm,rfl⟩
theorem few_ok {K:Nat → Prop} (h:Hd) (ts:List Tbl) (w:World) (a:TablesAt w K h ts) :
  Calls Tryz.prog 57 #[h.val] w fun e w' => e = .returned (.bool (fewB (rowsOf ts))) ∧ w = w':=by
 have hl:ts.length = h.n:=a.1.1
 have hb:h.n ≤ 9223372036854775807:=a.1.2.1
 obtain ⟨A,n,c⟩:=h
 simp only at hl hb
 subst hl
 have HL:=Lib.hid a
 have hm:(rowsOf ts).length = ts.length:=by simp [rowsOf]
 have HM:=Lib.hid hm
 clear a hm
 show Calls Tryz.prog 57 #[.slice A ts.length c] w _
 by_cases h6:ts.length ≤ 6
 case neg =>
  have t1:decide (6 < ts.length) = true:=decide_eq_true (by omega)
  have t2:decide ((6:Int) < (ts.length:Int)) = true:=decide_eq_true (by omega)
  have HE:Hid (fewB (rowsOf ts) = false):=by show _ = _;unfold fewB;rw [HM.out,decide_eq_false h6];rfl
  clear h6
  go_enter Tryz.func57,Tryz.ntmps57
  go_wp2
  go_ret
  exact ⟨ret_bool HE.out.symm,rfl⟩
 have t1:decide (6 < ts.length) = false:=decide_eq_false (by omega)
 have t2:decide ((6:Int) < (ts.length:Int)) = false:=decide_eq_false (by omega)
 have H6:Hid (decide ((rowsOf ts).length ≤ 6) = true):=by rw [HM.out];exact Lib.hid (decide_eq_true h6)
 clear h6
 go_enter Tryz.func57,Tryz.ntmps57
 go_wp2
 clear t1 t2
 go_loop [3] (fun i => ∃ k:Nat,k ≤ ts.length ∧ i = .int .i64 k ∧ Hid (∀ j (hj:j < (rowsOf ts).length),j < k → fewRows (rowsOf ts)[j] = true)) (fun i => ts.length - (intOf i).toNat)
 case atStart => exact ⟨0,Nat.zero_le _,rfl,fun j _ hj => absurd hj (Nat.not_lt_zero _)⟩
 case round =>
  obtain ⟨k,hk,rfl,N⟩:=hrel
  by_cases hlt:k < ts.length
  ·obtain ⟨b,off,hA,blt,c0⟩:=HL.out.1.one k hlt (v:=ts[k].h.val) rfl
   have hA':A = some ⟨b,off,none⟩:=hA
   have HR:Hid (RowsAt w K ts[k]):=HL.out.2.2 _ (List.getElem_mem hlt)
   have hkm:k < (rowsOf ts).length:=by rw [HM.out];exact hlt
   have HE2:Hid ((rowsOf ts)[k] = ts[k].rows):=by show _ = _;simp [rowsOf]
   obtain ⟨t,ht⟩:∃ t,t = ts[k]:=⟨_,rfl⟩
   rw [← ht] at c0 HR HE2
   clear ht hA
   obtain ⟨⟨B,p,d⟩,rs⟩:=t
   have hp:rs.length = p:=HR.out.1.1
   have hpb:p ≤ 9223372036854775807:=HR.out.1.2.1
   subst hp
   have c0':w.cell? ⟨b,off + k,none⟩ = some (.slice B rs.length d):=c0
   have hrl:(Tbl.rows ⟨⟨B,rs.length,d⟩,rs⟩).length = rs.length:=by simp [Tbl.rows]
   have HRL:=Lib.hid hrl
   clear c0 hrl
   subst hA'
   by_cases h20:rs.length ≤ 20
   case neg =>
    have t1:decide (20 < rs.length) = true:=decide_eq_true (by omega)
    have t2:decide ((20:Int) < (rs.length:Int)) = true:=decide_eq_true (by omega)
    have HE:Hid (fewB (rowsOf ts) = false):=by
     show _ = _
     unfold fewB
     rw [all_bad (p:=fewRows) k hkm (by rw [HE2.out];unfold fewRows;rw [HRL.out,decide_eq_false h20];rfl),Bool.and_false]
    clear h20
    go_wp2
    go_ret
    exact ⟨ret_bool HE.out.symm,rfl⟩
   have t1:decide (20 < rs.length) = false:=decide_eq_false (by omega)
   have t2:decide ((20:Int) < (rs.length:Int)) = false:=decide_eq_false (by omega)
   have H20:Hid (decide ((Tbl.rows ⟨⟨B,rs.length,d⟩,rs⟩).length ≤ 20) = true):=by rw [HRL.out];exact Lib.hid (decide_eq_true h20)
   clear h20
   go_wp2
   clear t1 t2
   go_loop [4] (fun i => ∃ q:Nat,q ≤ rs.length ∧ i = .int .i64 q ∧ Hid (∀ j (hj:j < rs.length),j < q → shortB rs[j].v = true)) (fun i => rs.length - (intOf i).toNat)
   case atStart => exact ⟨0,Nat.zero_le _,rfl,fun j _ hj => absurd hj (Nat.not_lt_zero _)⟩
   case round =>
    obtain ⟨q,hq,rfl,N2⟩:=hrel
    by_cases hlq:q < rs.length
    ·obtain ⟨b2,off2,hB,blt2,c1⟩:=HR.out.1.one q hlq (v:=rs[q].h.val) rfl
     have hB':B = some ⟨b2,off2,none⟩:=hB
     have HS:=Lib.hid (short_ok rs[q].h rs[q].v w (HR.out.2.2 _ (List.getElem_mem hlq)).1)
     obtain ⟨sb,hsb⟩:∃ sb,sb = shortB rs[q].v:=⟨_,rfl⟩
     rw [← hsb] at HS
     have HSB:=Lib.hid hsb
     obtain ⟨rh,hrh⟩:∃ rh,rh = rs[q].h:=⟨_,rfl⟩
     rw [← hrh] at HS c1
     clear hsb hrh hB
     obtain ⟨A3,n3,c3⟩:=rh
     have HS':Hid (Calls Tryz.prog 58 #[.slice A3 n3 c3] w fun e w' => e = .returned (.bool sb) ∧ w = w'):=HS
     have c1':w.cell? ⟨b2,off2 + q,none⟩ = some (.slice A3 n3 c3):=c1
     clear HS c1
     subst hB'
     cases sb with
     | true =>
      go_wp2_with fail
      refine HS'.out.mono ?_
      rintro e w' ⟨rfl,rfl⟩
      go_wp2_with fail
      go_round
      case rel => exact ⟨q + 1,by omega,by go_num,fun j hj h2 => (by
       by_cases e:j = q
       ·subst e;exact HSB.out.symm
       ·exact N2.out j hj (by omega))⟩
      case measure => simp [intOf];omega
     | false =>
      have HE:Hid (fewB (rowsOf ts) = false):=by
       show _ = _
       unfold fewB
       have hbad:(Tbl.rows ⟨⟨some ⟨b2,off2,none⟩,rs.length,d⟩,rs⟩).all shortB = false:=by
        refine all_bad q (by simp [Tbl.rows];exact hlq) ?_
        simp only [Tbl.rows,List.getElem_map]
        exact HSB.out.symm
       rw [all_bad (p:=fewRows) k hkm (by rw [HE2.out];unfold fewRows;rw [hbad,Bool.and_false]),Bool.and_false]
      go_wp2_with fail
      refine HS'.out.mono ?_
      rintro e w' ⟨rfl,rfl⟩
      go_wp2_with fail
      go_ret
      exact ⟨ret_bool HE.out.symm,rfl⟩
    ·have HGK:Hid (fewRows (rowsOf ts)[k] = true):=by
      rw [HE2.out]
      show fewRows _ = true
      unfold fewRows
      rw [H20.out,Bool.true_and]
      refine all_good fun j hj => ?_
      have hj':j < rs.length:=by simpa [Tbl.rows] using hj
      simp only [Tbl.rows,List.getElem_map]
      exact N2.out j hj' (by omega)
     go_wp2
     go_round
     case rel => exact ⟨k + 1,by omega,by go_num,fun j hj h2 => (by
      by_cases e:j = k
      ·subst e;exact HGK.out
      ·exact N.out j hj (by omega))⟩
     case measure => simp [intOf];omega
  ·have HE:Hid (fewB (rowsOf ts) = true):=by
    show _ = _
    unfold fewB
    rw [H6.out,Bool.true_and]
    exact all_good fun j hj => N.out j hj (by rw [HM.out] at hj;omega)
   go_wp2
   go_ret
   exact ⟨ret_bool HE.out.symm,rfl⟩
structure Opn where
 k:Nat
 n:Int
 r:Rw
def Opn.cells (o:Opn):List Value:=[.int .u8 o.k,.int .i64 o.n,o.r.h.val]
structure Opn.Fine (o:Opn):Prop where
 k:o.k < 256
 n1:-9223372036854775808 ≤ o.n
 n2:o.n ≤ 9223372036854775807
def OpsAt (w:World) (K:Nat → Prop) (h:Hd) (ops:List Opn):Prop:=Lies w 3 h Opn.cells ops ∧ ∀ o ∈ ops,RowIn w K o.r ∧ o.Fine
theorem OpsAt.same {w w':World} {K:Nat → Prop} {h:Hd} {ops:List Opn} (l:OpsAt w K h ops) (s:Same w w'):OpsAt w' K h ops:=⟨l.1.same s,fun o ho => ⟨(l.2 o ho).1.same s,(l.2 o ho).2⟩⟩
def shortO (o:Opn):Bool:=shortB o.r.v
def smallM (s:List Tb) (tabs:List (List Row)) (ops:List Opn):Bool:=smallS s && (fewB tabs && (decide (ops.length ≤ 20) && ops.all shortO))
theorem smallM_ok {K K':Nat → Prop} (h ht ho:Hd) (ts:List RT) (tbs:List Tbl) (ops:List Opn) (w:World) (a:TabsAt w h ts) (t:TablesAt w K ht tbs) (o:OpsAt w K' ho ops) :
  Calls Tryz.prog 22 #[.agg #[h.val],ht.val,ho.val] w fun e w' => e = .returned (.bool (smallM (ts.map RT.tb) (rowsOf tbs) ops)) ∧ Same w w':=by
 have hS:=fun W (s:Same w W) => smallS_ok h ts W (a.same s)
 have hF:=fun W (s:Same w W) => few_ok ht tbs W (t.same s)
 have hl:ops.length = ho.n:=o.1.1
 have hb:ho.n ≤ 9223372036854775807:=o.1.2.1
 obtain ⟨A,n,c⟩:=h
 obtain ⟨At_,tm,tc⟩:=ht
 obtain ⟨Ao,on,oc⟩:=ho
 simp only at hl hb
 subst hl
 have HL:=Lib.hid o
 obtain ⟨sb,hsb⟩:∃ sb,sb = smallS (ts.map RT.tb):=⟨_,rfl⟩
 obtain ⟨fb,hfb⟩:∃ fb,fb = fewB (rowsOf tbs):=⟨_,rfl⟩
 rw [← hsb] at hS
 rw [← hfb] at hF
 have HE:Hid (smallM (ts.map RT.tb) (rowsOf tbs) ops = (sb && (fb && (decide (ops.length ≤ 20) && ops.all shortO)))):=by show _ = _;unfold smallM;rw [hsb,hfb]
 obtain ⟨r,hr⟩:∃ r,r = smallM (ts.map RT.tb) (rowsOf tbs) ops:=⟨_,rfl⟩
 rw [← hr] at HE ⊢
 clear hr hsb hfb a t o
 have HS:Hid (Rt 36 #[.agg #[.slice A n c]] w (.bool sb)):=Lib.hid hS
 have HF:Hid (Re 57 #[.slice At_ tm tc] w (.bool fb)):=Lib.hid hF
 clear hS hF
 show Calls Tryz.prog 22 #[.agg #[.slice A n c],.slice At_ tm tc,.slice Ao ops.length oc] w _
 go_enter Tryz.func22,Tryz.ntmps22
 go_wp2_with fail
 refine (HS.out _ ((Same.refl w).alloc _)).mono ?_
 rintro e w1 ⟨rfl,s1⟩
 have S1:Hid (Same w w1):=((Same.refl w).alloc _).trans s1
 clear s1
 cases sb with
 | false =>
  go_wp2_with fail
  go_ret
  exact ⟨ret_bool HE.out.symm,S1.out⟩
 | true =>
 go_wp2_with fail
 refine (HF.out _ S1.out).mono ?_
 rintro e w' ⟨rfl,rfl⟩
 cases fb with
 | false =>
  go_wp2_with fail
  go_ret
  exact ⟨ret_bool HE.out.symm,S1.out⟩
 | true =>
 by_cases h20:ops.length ≤ 20
 case neg =>
  have t1:decide (20 < ops.length) = true:=decide_eq_true (by omega)
  have t2:decide ((20:Int) < (ops.length:Int)) = true:=decide_eq_true (by omega)
  have HE2:Hid (r = false):=by show _ = _;rw [HE.out,decide_eq_false h20];rfl
  clear h20
  go_wp2_with fail
  go_ret
  exact ⟨ret_bool HE2.out.symm,S1.out⟩
 have t1:decide (20 < ops.length) = false:=decide_eq_false (by omega)
 have t2:decide ((20:Int) < (ops.length:Int)) = false:=decide_eq_false (by omega)
 have HE2:Hid (r = ops.all shortO):=by show _ = _;rw [HE.out,decide_eq_true h20];rfl
 clear h20
 go_wp2_with fail
 clear t1 t2
 go_loop [7] (fun i => ∃ q:Nat,q ≤ ops.length ∧ i = .int .i64 q ∧ Hid (∀ j (hj:j < ops.length),j < q → shortO ops[j] = true)) (fun i => ops.length - (intOf i).toNat)
 case atStart => exact ⟨0,Nat.zero_le _,rfl,fun j _ hj => absurd hj (Nat.not_lt_zero _)⟩
 case round =>
  obtain ⟨q,hq,rfl,N2⟩:=hrel
  by_cases hlq:q < ops.length
  ·obtain ⟨b2,off2,hB,blt2,hc⟩:=(HL.out.1.same S1.out).2.2 q hlq
   have hB':Ao = some ⟨b2,off2,none⟩:=hB
   have HSh:=Lib.hid (short_ok ops[q].r.h ops[q].r.v w1 ((HL.out.2 _ (List.getElem_mem hlq)).1.1.same S1.out))
   obtain ⟨sb,hsb⟩:∃ sb,sb = shortB ops[q].r.v:=⟨_,rfl⟩
   rw [← hsb] at HSh
   have HSB:Hid (sb = shortO ops[q]):=hsb
   obtain ⟨x,hx⟩:∃ x,x = ops[q]:=⟨_,rfl⟩
   rw [← hx] at HSh hc HSB
   have HX:=Lib.hid hx
   clear hsb hx hB
   obtain ⟨xk,xn,⟨⟨A3,n3,c3⟩,rv⟩⟩:=x
   have HS':Hid (Calls Tryz.prog 58 #[.slice A3 n3 c3] w1 fun e w' => e = .returned (.bool sb) ∧ w1 = w'):=HSh
   have c1:=hc 2 (.slice A3 n3 c3) rfl
   clear HSh hc
   subst hB'
   cases sb with
   | true =>
    go_wp2_with fail
    refine HS'.out.mono ?_
    rintro e w' ⟨rfl,rfl⟩
    go_wp2_with fail
    go_round
    case rel => exact ⟨q + 1,by omega,by go_num,all_step hlq (by rw [← HX.out];exact HSB.out.symm) N2.out⟩
    case measure => simp [intOf];omega
   | false =>
    have HE3:Hid (r = false):=by
     show _ = _
     rw [HE2.out]
     exact all_bad q hlq (by rw [← HX.out];exact HSB.out.symm)
    go_wp2_with fail
    refine HS'.out.mono ?_
    rintro e w' ⟨rfl,rfl⟩
    go_wp2_with fail
    go_ret
    exact ⟨ret_bool HE3.out.symm,S1.out⟩
  ·have HE3:Hid (r = true):=by
    show _ = _
    rw [HE2.out]
    exact all_good fun j hj => N2.out j hj (by omega)
   go_wp2_with fail
   go_ret
   exact ⟨ret_bool HE3.out.symm,S1.out⟩
open Go.ChangeShapes Go.WideShapes Go.Deep Go.RowKit
theorem list_of {α:Type} {P:Nat → α → Prop}:∀ n:Nat,(∀ i,i < n → ∃ a,P i a) → ∃ l:List α,l.length = n ∧ ∀ i (hi:i < l.length),P i l[i]
 | 0,_ => ⟨[],rfl,fun i hi => by simp at hi⟩
 | n + 1,h => by
  obtain ⟨l,hl,hp⟩:=list_of n (fun i hi => h i (by omega))
  obtain ⟨a,ha⟩:=h n (by omega)
  refine ⟨l ++ [a],by simp [hl],fun i hi => ?_⟩
  by_cases hin:i < l.length
  ·rw [List.getElem_append_left hin];exact hp i hin
  ·have:i = n:=by simp at hi;omega
   subst this
   rw [List.getElem_append_right (by omega)]
   simpa [hl] using ha
theorem wf_i64 {n:Int} (h:(Lit.int .i64 n).wf = true):-9223372036854775808 ≤ n ∧ n ≤ 9223372036854775807:=by
 simp [Lit.wf,IntKind.min,IntKind.max,IntKind.bits,IntKind.signed] at h
 omega
theorem wf_u8 {n:Int} (h:(Lit.int .u8 n).wf = true):0 ≤ n ∧ n ≤ 255:=by
 simp [Lit.wf,IntKind.min,IntKind.max,IntKind.bits,IntKind.signed] at h
 omega
section
variable {H:Type} {ec:TypeId × Value → H} {w:World} {base:Nat} {spare:Nat → Bool} {held:Bool} {fuel:Nat}
theorem open_lies {α:Type} {enc:α → List Value} {Q:α → Prop} {t e:TypeId} {m:Nat} (ht:Tryz.prog.underlying t = some (.slice e)) (hC:Tryz.prog.cellsOf e = m) (hm:0 < m) (hlen:∀ y:α,(enc y).length = m)
  (one:∀ fuel cs x,DataW.trod ec Tryz.prog w base spare held fuel e cs = some x → ∃ y:α,cs = enc y ∧ Q y)
  {cs:List Value} {x:DataW H × List MemPlace} (h:DataW.trod ec Tryz.prog w base spare held fuel t cs = some x) :
  ∃ (h:Hd) (l:List α),cs = [h.val] ∧ Lies w m h enc l ∧ (∀ y ∈ l,Q y) ∧ h.n ≤ maxLen ∧ (h.a = none → h.n = 0):=by
 rcases open_slice ht h with ⟨hcs,_⟩ | ⟨a,len,cap,m',n,D,Pl,hcs,hb,hl,hcm,hm',_,hi⟩
 ·exact ⟨⟨none,0,0⟩,[],hcs,⟨rfl,by decide,fun k hk => by simp at hk⟩,fun y hy => by simp at hy,by decide,fun _ => rfl⟩
 ·have hle:len ≤ m':=by rw [hm'];split <;> omega
  rw [hC] at hi
  have:∀ i,i < len → ∃ y:α,(∀ j v,(enc y)[j]? = some v → w.cell? (a.add (i * m + j)) = some v) ∧ Q y:=by
   intro i hil
   obtain ⟨cs',hc,ht'⟩:=hi i (by omega)
   obtain ⟨y,rfl,hq⟩:=one _ _ _ ht'
   obtain ⟨_,hcl,hat⟩:=World.cells?_some hc
   refine ⟨y,fun j v hv => ?_,hq⟩
   have hj:j < m:=by rw [← hlen y];exact (List.getElem?_eq_some_iff.1 hv).1
   have:=hat j hj
   rw [add_of_add] at this
   rw [this,hv]
  obtain ⟨l,hll,hp⟩:=list_of len this
  refine ⟨⟨some a,len,cap⟩,l,hcs,⟨hll,show len ≤ _ by unfold maxLen at hcm;omega,?_⟩,?_,show len ≤ _ by omega,fun h => by cases h⟩
  ·intro k hk
   obtain ⟨b,off,spot⟩:=a
   have h0l:0 < l.length:=by omega
   have hpos:0 < (enc l[0]).length:=by rw [hlen];exact hm
   have h0:=(hp 0 h0l).1 0 _ (List.getElem?_eq_getElem hpos)
   have hs:spot = none:=by
    have e:(⟨b,off,spot⟩:Addr).add (0 * m + 0) = ⟨b,off,spot⟩:=by simp [Addr.add]
    rw [e] at h0
    cases spot with
    | none => rfl
    | some s =>
     unfold World.cell? at h0
     split at h0
     ·simp at h0
     ·cases h0
   subst hs
   have hbl:b < w.heap.size:=by
    have:=World.block_lt_of_cell? _ _ h0
    rwa [block_of_add] at this
   refine ⟨b,off,rfl,hbl,fun j u hu => ?_⟩
   have:=(hp k hk).1 j u hu
   have e:(⟨b,off,none⟩:Addr).add (k * m + j) = ⟨b,off + k * m + j,none⟩:=by
    unfold Addr.add
    split <;> simp_all [Nat.add_assoc]
   rw [e] at this
   exact this
  ·intro y hy
   obtain ⟨i,hi',rfl⟩:=List.mem_iff_getElem.1 hy
   exact (hp i hi').2
theorem cells_int:Tryz.prog.cellsOf 3 = 1:=by kernel_rfl
theorem cells_string:Tryz.prog.cellsOf 9 = 1:=by kernel_rfl
theorem cells_strs:Tryz.prog.cellsOf 80 = 1:=by kernel_rfl
theorem cells_ints:Tryz.prog.cellsOf 42 = 1:=by kernel_rfl
theorem cells_Value:Tryz.prog.cellsOf 26 = 3:=by kernel_rfl
theorem cells_Attr:Tryz.prog.cellsOf 82 = 6:=by kernel_rfl
theorem cells_attrs:Tryz.prog.cellsOf 41 = 1:=by kernel_rfl
theorem cells_Table:Tryz.prog.cellsOf 44 = 3:=by kernel_rfl
theorem cells_tables:Tryz.prog.cellsOf 22 = 1:=by kernel_rfl
theorem cells_Schema:Tryz.prog.cellsOf 24 = 1:=by kernel_rfl
theorem cells_Change:Tryz.prog.cellsOf 28 = 8:=by kernel_rfl
theorem okS_len {s:ByteArray} (h:s.size ≤ maxLen):okS s:=by unfold okS;unfold maxLen at h;omega
def In64 (n:Int):Prop:=-9223372036854775808 ≤ n ∧ n ≤ 9223372036854775807
theorem read_str {cs:List Value} {x:DataW H × List MemPlace} (h:DataW.trod ec Tryz.prog w base spare held fuel 9 cs = some x):∃ s:ByteArray,cs = strCell s ∧ okS s:=by
 obtain ⟨s,e,_,hw⟩:=DataW.trod_string Tryz.underlying9 h
 exact ⟨s,e,okS_len (by simpa [maxLen] using hw)⟩
theorem read_int {cs:List Value} {x:DataW H × List MemPlace} (h:DataW.trod ec Tryz.prog w base spare held fuel 3 cs = some x):∃ n:Int,cs = intCell n ∧ In64 n:=by
 obtain ⟨n,e,_,hw⟩:=DataW.trod_int Tryz.underlying3 h
 exact ⟨n,e,wf_i64 hw⟩
theorem read_strs {cs:List Value} {x:DataW H × List MemPlace} (h:DataW.trod ec Tryz.prog w base spare held fuel 80 cs = some x):∃ (h:Hd) (l:List ByteArray),cs = [h.val] ∧ StrsAt w h l:=by
 obtain ⟨h,l,e,L,hq,_⟩:=open_lies (enc:=strCell) (Q:=okS) Tryz.underlying80 cells_string (by decide) (fun _ => rfl) (fun _ _ _ h => read_str h) h
 exact ⟨h,l,e,L,hq⟩
theorem read_ints {cs:List Value} {x:DataW H × List MemPlace} (h:DataW.trod ec Tryz.prog w base spare held fuel 42 cs = some x):∃ (h:Hd) (l:List Int),cs = [h.val] ∧ IntsAt w h l:=by
 obtain ⟨h,l,e,L,hq,_⟩:=open_lies (enc:=intCell) (Q:=In64) Tryz.underlying42 cells_int (by decide) (fun _ => rfl) (fun _ _ _ h => read_int h) h
 exact ⟨h,l,e,L⟩
theorem read_V {cs:List Value} {x:DataW H × List MemPlace} (h:DataW.trod ec Tryz.prog w base spare held fuel 26 cs = some x):∃ v:V,cs = v.cells ∧ okS v.s ∧ In64 v.k ∧ In64 v.n:=by
 obtain ⟨ys,n,_,_,hl,hlen,hg⟩:=DataW.trod_struct Tryz.underlying26 h
 rw [cells_Value] at hl
 have y:∀ j,j < 3 → ∃ z,ys[j]? = some z:=fun j hj => ⟨_,List.getElem?_eq_getElem (by rw [hlen];exact hj)⟩
 obtain ⟨y0,e0⟩:=y 0 (by omega);obtain ⟨y1,e1⟩:=y 1 (by omega);obtain ⟨y2,e2⟩:=y 2 (by omega)
 have t0:DataW.trod ec Tryz.prog w base spare held n 3 ((cs.drop 0).take (Tryz.prog.cellsOf 3)) = ys[0]?:=hg 0 _ rfl
 have t1:DataW.trod ec Tryz.prog w base spare held n 3 ((cs.drop 1).take (Tryz.prog.cellsOf 3)) = ys[1]?:=hg 1 _ rfl
 have t2:DataW.trod ec Tryz.prog w base spare held n 9 ((cs.drop 2).take (Tryz.prog.cellsOf 9)) = ys[2]?:=hg 2 _ rfl
 rw [cells_int] at t0 t1
 rw [cells_string] at t2
 obtain ⟨n0,h0,r0⟩:=read_int (t0.trans e0)
 obtain ⟨n1,h1,r1⟩:=read_int (t1.trans e1)
 obtain ⟨s2,h2,r2⟩:=read_str (t2.trans e2)
 match cs,hl with
 | [c0,c1,c2],_ =>
  simp [intCell,strCell] at h0 h1 h2
  exact ⟨⟨n0,n1,s2⟩,by simp [V.cells,h0,h1,h2],r2,r0,r1⟩
theorem read_row {cs:List Value} {x:DataW H × List MemPlace} (h:DataW.trod ec Tryz.prog w base spare held fuel 29 cs = some x):∃ (h:Hd) (l:List V),cs = [h.val] ∧ RowAt w h l:=by
 obtain ⟨h,l,e,L,hq,_⟩:=open_lies (enc:=V.cells) (Q:=fun v => okS v.s ∧ In64 v.k ∧ In64 v.n) Tryz.underlying29 cells_Value (by decide) (fun _ => rfl) (fun _ _ _ h => read_V h) h
 exact ⟨h,l,e,L,fun v hv => (hq v hv).1⟩
theorem read_RA {cs:List Value} {x:DataW H × List MemPlace} (h:DataW.trod ec Tryz.prog w base spare held fuel 82 cs = some x):∃ r:RA,cs = r.cells ∧ StrsAt w r.h r.at_.was ∧ okS r.at_.name ∧ okS r.at_.dflt.s:=by
 obtain ⟨ys,n,_,_,hl,hlen,hg⟩:=DataW.trod_struct Tryz.underlying82 h
 rw [cells_Attr] at hl
 have y:∀ j,j < 4 → ∃ z,ys[j]? = some z:=fun j hj => ⟨_,List.getElem?_eq_getElem (by rw [hlen];exact hj)⟩
 obtain ⟨y0,e0⟩:=y 0 (by omega);obtain ⟨y1,e1⟩:=y 1 (by omega);obtain ⟨y2,e2⟩:=y 2 (by omega);obtain ⟨y3,e3⟩:=y 3 (by omega)
 have t0:DataW.trod ec Tryz.prog w base spare held n 9 ((cs.drop 0).take (Tryz.prog.cellsOf 9)) = ys[0]?:=hg 0 _ rfl
 have t1:DataW.trod ec Tryz.prog w base spare held n 3 ((cs.drop 1).take (Tryz.prog.cellsOf 3)) = ys[1]?:=hg 1 _ rfl
 have t2:DataW.trod ec Tryz.prog w base spare held n 80 ((cs.drop 2).take (Tryz.prog.cellsOf 80)) = ys[2]?:=hg 2 _ rfl
 have t3:DataW.trod ec Tryz.prog w base spare held n 26 ((cs.drop 3).take (Tryz.prog.cellsOf 26)) = ys[3]?:=hg 3 _ rfl
 rw [cells_string] at t0
 rw [cells_int] at t1
 rw [cells_strs] at t2
 rw [cells_Value] at t3
 obtain ⟨s0,h0,r0⟩:=read_str (t0.trans e0)
 obtain ⟨n1,h1,r1⟩:=read_int (t1.trans e1)
 obtain ⟨g2,l2,h2,r2⟩:=read_strs (t2.trans e2)
 obtain ⟨v3,h3,r3,-⟩:=read_V (t3.trans e3)
 match cs,hl with
 | [c0,c1,c2,c3,c4,c5],_ =>
  simp [intCell,strCell,V.cells] at h0 h1 h2 h3
  exact ⟨⟨⟨s0,n1,l2,v3⟩,g2⟩,by simp [RA.cells,h0,h1,h2,h3],r2,r0,r3⟩
theorem read_attrs {cs:List Value} {x:DataW H × List MemPlace} (h:DataW.trod ec Tryz.prog w base spare held fuel 41 cs = some x):∃ (h:Hd) (l:List RA),cs = [h.val] ∧ AttrsAt w h l:=by
 obtain ⟨h,l,e,L,hq,_⟩:=open_lies (enc:=RA.cells) (Q:=fun r => StrsAt w r.h r.at_.was ∧ okS r.at_.name ∧ okS r.at_.dflt.s) Tryz.underlying41 cells_Attr (by decide) (fun _ => rfl) (fun _ _ _ h => read_RA h) h
 exact ⟨h,l,e,L,hq⟩
theorem read_RT {cs:List Value} {x:DataW H × List MemPlace} (h:DataW.trod ec Tryz.prog w base spare held fuel 44 cs = some x):∃ t:RT,cs = t.cells ∧ TbAt w t:=by
 obtain ⟨ys,n,_,_,hl,hlen,hg⟩:=DataW.trod_struct Tryz.underlying44 h
 rw [cells_Table] at hl
 have y:∀ j,j < 3 → ∃ z,ys[j]? = some z:=fun j hj => ⟨_,List.getElem?_eq_getElem (by rw [hlen];exact hj)⟩
 obtain ⟨y0,e0⟩:=y 0 (by omega);obtain ⟨y1,e1⟩:=y 1 (by omega);obtain ⟨y2,e2⟩:=y 2 (by omega)
 have t0:DataW.trod ec Tryz.prog w base spare held n 9 ((cs.drop 0).take (Tryz.prog.cellsOf 9)) = ys[0]?:=hg 0 _ rfl
 have t1:DataW.trod ec Tryz.prog w base spare held n 41 ((cs.drop 1).take (Tryz.prog.cellsOf 41)) = ys[1]?:=hg 1 _ rfl
 have t2:DataW.trod ec Tryz.prog w base spare held n 42 ((cs.drop 2).take (Tryz.prog.cellsOf 42)) = ys[2]?:=hg 2 _ rfl
 rw [cells_string] at t0
 rw [cells_attrs] at t1
 rw [cells_ints] at t2
 obtain ⟨s0,h0,r0⟩:=read_str (t0.trans e0)
 obtain ⟨g1,l1,h1,r1⟩:=read_attrs (t1.trans e1)
 obtain ⟨g2,l2,h2,r2⟩:=read_ints (t2.trans e2)
 match cs,hl with
 | [c0,c1,c2],_ =>
  simp [strCell] at h0 h1 h2
  exact ⟨⟨s0,g1,l1,g2,l2⟩,by simp [RT.cells,h0,h1,h2],r1,r2,r0⟩
theorem read_tables {cs:List Value} {x:DataW H × List MemPlace} (h:DataW.trod ec Tryz.prog w base spare held fuel 22 cs = some x):∃ (h:Hd) (l:List RT),cs = [h.val] ∧ TabsAt w h l:=by
 obtain ⟨h,l,e,L,hq,_⟩:=open_lies (enc:=RT.cells) (Q:=TbAt w) Tryz.underlying22 cells_Table (by decide) (fun _ => rfl) (fun _ _ _ h => read_RT h) h
 exact ⟨h,l,e,L,hq⟩
end
section
variable {H:Type} {ec:TypeId × Value → H} {w:World} {base:Nat} {spare:Nat → Bool} {held:Bool} {r:Reach} {b0:Nat} {v:Value} {d:DataW H} {ps:List MemPlace}
theorem open_schema (hv:Value.okWide Tryz.prog w r b0 24 v) (h:DataW.Trod ec Tryz.prog w base spare held 24 v d ps) :
  ∃ (h:Hd) (ts:List RT),v = .agg #[h.val] ∧ TabsAt w h ts:=by
 obtain ⟨cs,rfl,hsz⟩:=okWide_struct Tryz.underlying24 hv
 rw [cells_Schema] at hsz
 obtain ⟨fuel,hf⟩:=h
 obtain ⟨ys,n,_,_,hl,hlen,hg⟩:=DataW.trod_struct Tryz.underlying24 hf
 obtain ⟨y0,e0⟩:∃ z,ys[0]? = some z:=⟨_,List.getElem?_eq_getElem (by rw [hlen];decide)⟩
 have t0:DataW.trod ec Tryz.prog w base spare held n 22 (((Value.agg cs).cells.toList.drop 0).take (Tryz.prog.cellsOf 22)) = ys[0]?:=hg 0 _ rfl
 rw [cells_tables] at t0
 obtain ⟨g,l,h0,r0⟩:=read_tables (t0.trans e0)
 obtain ⟨l'⟩:=cs
 match l',hsz with
 | [c0],_ =>
  simp [Value.cells] at h0
  exact ⟨g,l,by rw [h0],r0⟩
theorem open_change (hv:Value.okWide Tryz.prog w r b0 28 v) (h:DataW.Trod ec Tryz.prog w base spare held 28 v d ps) :
  ∃ c:Cg,v = c.val ∧ okS c.table ∧ okS c.attr ∧ okS c.name ∧ okS c.dflt.s ∧ In64 c.kind ∧ In64 c.to_:=by
 obtain ⟨cs,rfl,hsz⟩:=okWide_struct Tryz.underlying28 hv
 rw [cells_Change] at hsz
 obtain ⟨fuel,hf⟩:=h
 obtain ⟨ys,n,_,_,hl,hlen,hg⟩:=DataW.trod_struct Tryz.underlying28 hf
 have y:∀ j,j < 6 → ∃ z,ys[j]? = some z:=fun j hj => ⟨_,List.getElem?_eq_getElem (by rw [hlen];exact hj)⟩
 obtain ⟨y0,e0⟩:=y 0 (by omega);obtain ⟨y1,e1⟩:=y 1 (by omega);obtain ⟨y2,e2⟩:=y 2 (by omega)
 obtain ⟨y3,e3⟩:=y 3 (by omega);obtain ⟨y4,e4⟩:=y 4 (by omega);obtain ⟨y5,e5⟩:=y 5 (by omega)
 have t0:DataW.trod ec Tryz.prog w base spare held n 3 (((Value.agg cs).cells.toList.drop 0).take (Tryz.prog.cellsOf 3)) = ys[0]?:=hg 0 _ rfl
 have t1:DataW.trod ec Tryz.prog w base spare held n 9 (((Value.agg cs).cells.toList.drop 1).take (Tryz.prog.cellsOf 9)) = ys[1]?:=hg 1 _ rfl
 have t2:DataW.trod ec Tryz.prog w base spare held n 9 (((Value.agg cs).cells.toList.drop 2).take (Tryz.prog.cellsOf 9)) = ys[2]?:=hg 2 _ rfl
 have t3:DataW.trod ec Tryz.prog w base spare held n 9 (((Value.agg cs).cells.toList.drop 3).take (Tryz.prog.cellsOf 9)) = ys[3]?:=hg 3 _ rfl
 have t4:DataW.trod ec Tryz.prog w base spare held n 3 (((Value.agg cs).cells.toList.drop 4).take (Tryz.prog.cellsOf 3)) = ys[4]?:=hg 4 _ rfl
 have t5:DataW.trod ec Tryz.prog w base spare held n 26 (((Value.agg cs).cells.toList.drop 5).take (Tryz.prog.cellsOf 26)) = ys[5]?:=hg 5 _ rfl
 rw [cells_int] at t0 t4
 rw [cells_string] at t1 t2 t3
 rw [cells_Value] at t5
 obtain ⟨n0,h0,r0⟩:=read_int (t0.trans e0)
 obtain ⟨s1,h1,r1⟩:=read_str (t1.trans e1)
 obtain ⟨s2,h2,r2⟩:=read_str (t2.trans e2)
 obtain ⟨s3,h3,r3⟩:=read_str (t3.trans e3)
 obtain ⟨n4,h4,r4⟩:=read_int (t4.trans e4)
 obtain ⟨v5,h5,r5,-⟩:=read_V (t5.trans e5)
 obtain ⟨l'⟩:=cs
 match l',hsz with
 | [c0,c1,c2,c3,c4,c5,c6,c7],_ =>
  simp [intCell,strCell,V.cells,Value.cells] at h0 h1 h2 h3 h4 h5
  refine ⟨⟨n0,s1,s2,s3,n4,v5⟩,?_,r1,r2,r3,r5,r0,r4⟩
  obtain ⟨h5a,h5b,h5c⟩:=h5
  subst h0 h1 h2 h3 h4 h5a h5b h5c
  rfl
end
theorem cells_rows:Tryz.prog.cellsOf 29 = 1:=by kernel_rfl
theorem cells_tbls:Tryz.prog.cellsOf 99 = 1:=by kernel_rfl
theorem cells_Op:Tryz.prog.cellsOf 58 = 3:=by kernel_rfl
theorem cells_u8:Tryz.prog.cellsOf 5 = 1:=by kernel_rfl
section
variable {H:Type} {ec:TypeId × Value → H} {w:World} {base:Nat} {spare:Nat → Bool} {held:Bool} {fuel:Nat}
theorem read_Rw {cs:List Value} {x:DataW H × List MemPlace} (h:DataW.trod ec Tryz.prog w base spare held fuel 29 cs = some x):∃ r:Rw,cs = r.cell ∧ RowIn w (fun k => k < w.heap.size) r:=by
 obtain ⟨h,l,e,r⟩:=read_row h
 exact ⟨⟨h,l⟩,e,r,r.in_⟩
theorem read_Tbl {cs:List Value} {x:DataW H × List MemPlace} (h:DataW.trod ec Tryz.prog w base spare held fuel 99 cs = some x):∃ t:Tbl,cs = t.cell ∧ RowsAt w (fun k => k < w.heap.size) t:=by
 obtain ⟨h,l,e,L,hq,_⟩:=open_lies (enc:=Rw.cell) (Q:=RowIn w (fun k => k < w.heap.size)) Tryz.underlying99 cells_rows (by decide) (fun _ => rfl) (fun _ _ _ h => read_Rw h) h
 exact ⟨⟨h,l⟩,e,L,L.in_,hq⟩
theorem read_Tbls {cs:List Value} {x:DataW H × List MemPlace} (h:DataW.trod ec Tryz.prog w base spare held fuel 48 cs = some x):∃ (h:Hd) (ts:List Tbl),cs = [h.val] ∧ TablesAt w (fun k => k < w.heap.size) h ts:=by
 obtain ⟨h,l,e,L,hq,_⟩:=open_lies (enc:=Tbl.cell) (Q:=RowsAt w (fun k => k < w.heap.size)) Tryz.underlying48 cells_tbls (by decide) (fun _ => rfl) (fun _ _ _ h => read_Tbl h) h
 exact ⟨h,l,e,L,L.in_,hq⟩
theorem read_u8 {cs:List Value} {x:DataW H × List MemPlace} (h:DataW.trod ec Tryz.prog w base spare held fuel 5 cs = some x):∃ n:Nat,cs = [.int .u8 n] ∧ n < 256:=by
 obtain ⟨n,e,_,hw⟩:=DataW.trod_int Tryz.underlying5 h
 have hb:=wf_u8 hw
 exact ⟨n.toNat,by rw [e,Int.toNat_of_nonneg hb.1],by omega⟩
theorem read_Op {cs:List Value} {x:DataW H × List MemPlace} (h:DataW.trod ec Tryz.prog w base spare held fuel 58 cs = some x):∃ o:Opn,cs = o.cells ∧ RowIn w (fun k => k < w.heap.size) o.r ∧ o.Fine:=by
 obtain ⟨ys,n,_,_,hl,hlen,hg⟩:=DataW.trod_struct Tryz.underlying58 h
 rw [cells_Op] at hl
 have y:∀ j,j < 3 → ∃ z,ys[j]? = some z:=fun j hj => ⟨_,List.getElem?_eq_getElem (by rw [hlen];exact hj)⟩
 obtain ⟨y0,e0⟩:=y 0 (by omega);obtain ⟨y1,e1⟩:=y 1 (by omega);obtain ⟨y2,e2⟩:=y 2 (by omega)
 have t0:DataW.trod ec Tryz.prog w base spare held n 5 ((cs.drop 0).take (Tryz.prog.cellsOf 5)) = ys[0]?:=hg 0 _ rfl
 have t1:DataW.trod ec Tryz.prog w base spare held n 3 ((cs.drop 1).take (Tryz.prog.cellsOf 3)) = ys[1]?:=hg 1 _ rfl
 have t2:DataW.trod ec Tryz.prog w base spare held n 29 ((cs.drop 2).take (Tryz.prog.cellsOf 29)) = ys[2]?:=hg 2 _ rfl
 rw [cells_u8] at t0
 rw [cells_int] at t1
 rw [cells_rows] at t2
 obtain ⟨n0,h0,r0⟩:=read_u8 (t0.trans e0)
 obtain ⟨n1,h1,r1⟩:=read_int (t1.trans e1)
 obtain ⟨r2,h2,r2'⟩:=read_Rw (t2.trans e2)
 match cs,hl with
 | [c0,c1,c2],_ =>
  simp [intCell,Rw.cell] at h0 h1 h2
  exact ⟨⟨n0,n1,r2⟩,by simp [Opn.cells,h0,h1,h2],r2',r0,r1.1,r1.2⟩
theorem read_Ops {cs:List Value} {x:DataW H × List MemPlace} (h:DataW.trod ec Tryz.prog w base spare held fuel 49 cs = some x):∃ (h:Hd) (ops:List Opn),cs = [h.val] ∧ OpsAt w (fun k => k < w.heap.size) h ops:=by
 obtain ⟨h,l,e,L,hq,_⟩:=open_lies (enc:=Opn.cells) (Q:=fun o => RowIn w (fun k => k < w.heap.size) o.r ∧ o.Fine) Tryz.underlying49 cells_Op (by decide) (fun _ => rfl) (fun _ _ _ h => read_Op h) h
 exact ⟨h,l,e,L,hq⟩
end
section
variable {H:Type} {ec:TypeId × Value → H} {w:World} {base:Nat} {spare:Nat → Bool} {held:Bool} {r:Reach} {b0:Nat} {v:Value} {d:DataW H} {ps:List MemPlace}
theorem open_tbls (hv:Value.okWide Tryz.prog w r b0 48 v) (h:DataW.Trod ec Tryz.prog w base spare held 48 v d ps) :
  ∃ (h:Hd) (l:List Tbl),v = h.val ∧ TablesAt w (fun k => k < w.heap.size) h l:=by
 obtain ⟨A,len,cap,rfl⟩:=okWide_slice Tryz.underlying48 hv
 obtain ⟨fuel,hf⟩:=h
 obtain ⟨g,l,e,R⟩:=read_Tbls hf
 simp [Value.cells] at e
 exact ⟨g,l,e,R⟩
theorem open_ops (hv:Value.okWide Tryz.prog w r b0 49 v) (h:DataW.Trod ec Tryz.prog w base spare held 49 v d ps) :
  ∃ (h:Hd) (l:List Opn),v = h.val ∧ OpsAt w (fun k => k < w.heap.size) h l:=by
 obtain ⟨A,len,cap,rfl⟩:=okWide_slice Tryz.underlying49 hv
 obtain ⟨fuel,hf⟩:=h
 obtain ⟨g,l,e,R⟩:=read_Ops hf
 simp [Value.cells] at e
 exact ⟨g,l,e,R⟩
end
open Go.ChangeShapes Go.WideShapes Go.ChangeAt Go.RowKit
theorem Tryz.own:ownKnob Tryz.prog.godebug = none:=by kernel_rfl
theorem Tryz.laidOut:laidOutB Tryz.prog = true:=by kernel_rfl
def laidL:List (String × DataW Unit):=[("math/bits.deBruijn32tab",Rows.laid_math_bits_deBruijn32tab),("math/bits.deBruijn64tab",Rows.laid_math_bits_deBruijn64tab),("internal/strconv.uint64pow10",Rows.laid_internal_strconv_uint64pow10),("strconv.ErrRange",Rows.laid_strconv_ErrRange),("strconv.ErrSyntax",Rows.laid_strconv_ErrSyntax)]
theorem gPow:Tryz.prog.globalNamed "internal/strconv.uint64pow10" = some 0:=by kernel_rfl
theorem gRng:Tryz.prog.globalNamed "strconv.ErrRange" = some 2:=by kernel_rfl
theorem gSyn:Tryz.prog.globalNamed "strconv.ErrSyntax" = some 1:=by kernel_rfl
theorem tPow:(Tryz.prog.globals[0]?).map (·.type) = some 246:=by kernel_rfl
theorem tRng:(Tryz.prog.globals[2]?).map (·.type) = some 189:=by kernel_rfl
theorem tSyn:(Tryz.prog.globals[1]?).map (·.type) = some 189:=by kernel_rfl
theorem cells_u64:Tryz.prog.cellsOf 143 = 1:=by kernel_rfl
theorem cells_pow:Tryz.prog.cellsOf 246 = 20:=by kernel_rfl
theorem powTab:Rows.laid_internal_strconv_uint64pow10 (H:=Unit) = Lib.tabData .u64 Lib.pow10Tab:=by kernel_rfl
theorem door_met (os:Os) (args:Array Value):laidMetH Tryz.prog laidL ((World.doorLaid Tryz.prog 4000 os).forCall (fun _ _ => 0) ⟨#[],args,[]⟩).memory:=
 laidMetH_of_parts3 (fuel:=8) (laidMet_of_run' 8 (by kernel_rfl) (by kernel_rfl)) (by kernel_rfl) (by kernel_rfl)
theorem iface_cell {W:World} {n:String} {g:Nat} {t:TypeId} {ms:Array (String × TypeId)} {nm:String} {d:DataW Unit} {r:List (String × DataW Unit)} (hg:Tryz.prog.globalNamed n = some g) (ht:(Tryz.prog.globals[g]?).map (·.type) = some t) (hi:Tryz.prog.underlying t = some (.interface ms))
  (h:laidMet Tryz.prog ((n,.iface nm d) :: r) W):∃ u v,W.cell? ⟨g,0,none⟩ = some (.iface u v):=by
 obtain ⟨ps,⟨g',t',cs,fuel,p,q,hg',ht',hvar,hd,_,_⟩,_⟩:=h
 obtain rfl:=Option.some.inj (hg.symm.trans hg')
 obtain rfl:=Option.some.inj (ht.symm.trans ht')
 obtain ⟨f1,u,v,e,_,_⟩:=iface_of_trod hi hd
 have:=World.var?_cell hg hvar 0
 obtain ⟨l⟩:=cs
 simp only at e
 subst e
 exact ⟨u,v,by simpa using this⟩
theorem of_laid {W:World} (h:laidMetH Tryz.prog laidL W):Laid W:=by
 rw [MakeChecks.laidMetH_plain _ _ _ (by kernel_rfl)] at h
 have h2:=h.tail.tail
 have h3:=h2.tail
 have h4:=h3.tail
 rw [powTab] at h2
 exact ⟨Lib.tabIs_of_head gPow tPow Tryz.underlying246 Tryz.underlying143 cells_u64 cells_pow h2,iface_cell gSyn tSyn Tryz.underlying189 h4,iface_cell gRng tRng Tryz.underlying189 h3⟩
end Go.Proofs.YtfifnemnihcijaaGreatDoor

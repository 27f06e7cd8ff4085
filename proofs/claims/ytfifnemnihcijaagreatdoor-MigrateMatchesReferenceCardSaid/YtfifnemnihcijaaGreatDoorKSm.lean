import Derived.Test.YtfifnemnihcijaaGreatDoorKVb
import Derived.Shelf.Abstract
set_option linter.unusedSimpArgs false
set_option linter.unusedVariables false
set_option maxHeartbeats 16000000
set_option maxRecDepth 100000
namespace Go.Proofs.YtfifnemnihcijaaGreatDoor
open Go.RowKit
def okS (s:ByteArray):Prop:=s.size ≤ 9223372036854775807
def strCell (s:ByteArray):List Value:=[.string s]
def intCell (n:Int):List Value:=[.int .i64 n]
def StrsAt (w:World) (h:Hd) (l:List ByteArray):Prop:=Lies w 1 h strCell l ∧ ∀ s ∈ l,okS s
def IntsAt (w:World) (h:Hd) (l:List Int):Prop:=Lies w 1 h intCell l
def RowAt (w:World) (h:Hd) (l:List V):Prop:=Lies w 3 h V.cells l ∧ ∀ v ∈ l,okS v.s
structure RA where
 at_:At
 h:Hd
def RA.cells (r:RA):List Value:=[.string r.at_.name,.int .i64 r.at_.kind,r.h.val,.int .i64 r.at_.dflt.k,.int .i64 r.at_.dflt.n,.string r.at_.dflt.s]
def AttrsAt (w:World) (h:Hd) (rs:List RA):Prop:=Lies w 6 h RA.cells rs ∧ ∀ r ∈ rs,StrsAt w r.h r.at_.was ∧ okS r.at_.name ∧ okS r.at_.dflt.s
structure RT where
 name:ByteArray
 ha:Hd
 ra:List RA
 hk:Hd
 key:List Int
def RT.cells (t:RT):List Value:=[.string t.name,t.ha.val,t.hk.val]
def RT.val (t:RT):Value:=.agg #[.string t.name,t.ha.val,t.hk.val]
def RT.tb (t:RT):Tb:=⟨t.name,t.ra.map RA.at_,t.key⟩
def TbAt (w:World) (t:RT):Prop:=AttrsAt w t.ha t.ra ∧ IntsAt w t.hk t.key ∧ okS t.name
def TabsAt (w:World) (h:Hd) (ts:List RT):Prop:=Lies w 3 h RT.cells ts ∧ ∀ t ∈ ts,TbAt w t
section
variable {w w':World} {h:Hd}
theorem StrsAt.same {l:List ByteArray} (a:StrsAt w h l) (s:Same w w'):StrsAt w' h l:=⟨a.1.same s,a.2⟩
theorem IntsAt.same {l:List Int} (a:IntsAt w h l) (s:Same w w'):IntsAt w' h l:=Lies.same a s
theorem RowAt.same {l:List V} (a:RowAt w h l) (s:Same w w'):RowAt w' h l:=⟨a.1.same s,a.2⟩
theorem AttrsAt.same {l:List RA} (a:AttrsAt w h l) (s:Same w w'):AttrsAt w' h l:=⟨a.1.same s,fun r hr => ⟨(a.2 r hr).1.same s,(a.2 r hr).2⟩⟩
theorem TbAt.same {t:RT} (a:TbAt w t) (s:Same w w'):TbAt w' t:=⟨a.1.same s,a.2.1.same s,a.2.2⟩
theorem TabsAt.same {l:List RT} (a:TabsAt w h l) (s:Same w w'):TabsAt w' h l:=⟨a.1.same s,fun t ht => (a.2 t ht).same s⟩
theorem Lies.one {α:Type} {enc:α → List Value} {xs:List α} (l:Lies w 1 h enc xs) (k:Nat) (hk:k < xs.length) {v:Value} (he:enc xs[k] = [v]):∃ b off,h.a = some ⟨b,off,none⟩ ∧ b < w.heap.size ∧ w.cell? ⟨b,off + k,none⟩ = some v:=by
 obtain ⟨b,off,ha,hb,hc⟩:=l.2.2 k hk
 have:=hc 0 v (by rw [he];rfl)
 simp only [Nat.mul_one,Nat.add_zero] at this
 exact ⟨b,off,ha,hb,this⟩
end
theorem strs_reads {w:World} {h:Hd} {l:List ByteArray} (a:Lies w 1 h strCell l):Reads w w.heap.size 1 h.a h.n (l.map .string):=by
 refine ⟨by simp [a.1],fun hn => ?_⟩
 have h0:0 < l.length:=by rw [a.1];exact hn
 obtain ⟨b,off,ha,hb,_⟩:=a.one 0 h0 (v:=.string l[0]) rfl
 refine ⟨⟨b,off,none⟩,ha,hb,fun j u hu => ?_⟩
 rw [List.getElem?_map] at hu
 cases hj:l[j]? with
 | none => rw [hj] at hu;cases hu
 | some y =>
  rw [hj] at hu
  obtain ⟨hjl,e⟩:=List.getElem?_eq_some_iff.1 hj
  obtain ⟨b',off',ha',_,hc⟩:=a.one j hjl (v:=.string l[j]) rfl
  rw [ha] at ha'
  injection ha' with ha'
  injection ha' with e1 e2
  subst e1 e2
  have:u = .string l[j]:=by rw [e];simpa using hu.symm
  rw [this,← hc]
  unfold Addr.add
  split <;> simp_all
theorem beqB (s t:ByteArray):(s.toList == t.toList) = decide (s = t):=by
 rw [ByteArray.toList_eq,ByteArray.toList_eq,Bool.eq_iff_iff,beq_iff_eq,decide_eq_true_eq]
 exact ⟨fun h => ba_inj h,fun h => by rw [h]⟩
theorem indexS_ok (h:Hd) (l:List ByteArray) (x:ByteArray) (w:World) (a:StrsAt w h l) :
  Calls Tryz.prog 84 #[h.val,.string x] w fun e w' => e = .returned (.int .i64 (idxB (fun y => decide (y = x)) l)) ∧ w = w':=by
 obtain ⟨A,n,c⟩:=h
 show Calls Tryz.prog 84 #[.slice A n c,.string x] w _
 have hn:l.length = n:=a.1.1
 have hb:n ≤ 9223372036854775807:=a.1.2.1
 subst hn
 have HL:=Lib.hid a.1
 clear a
 go_enter Tryz.func84,Tryz.ntmps84
 go_wp2
 go_loop [8] (fun i => ∃ k:Nat,k ≤ l.length ∧ i = .int .i64 k ∧ Hid (∀ j (hj:j < l.length),j < k → decide (l[j] = x) = false)) (fun i => l.length - (intOf i).toNat)
 case atStart => exact ⟨0,Nat.zero_le _,rfl,fun j _ hj => absurd hj (Nat.not_lt_zero _)⟩
 case round =>
  obtain ⟨k,hk,rfl,N⟩:=hrel
  by_cases hlt:k < l.length
  ·obtain ⟨b,off,hA,blt,c0⟩:=HL.out.one k hlt (v:=.string l[k]) rfl
   have hA':A = some ⟨b,off,none⟩:=hA
   clear hA
   subst hA'
   obtain ⟨y,hy⟩:∃ y,y = l[k]:=⟨_,rfl⟩
   rw [← hy] at c0
   have HY:=Lib.hid hy
   clear hy
   by_cases hq:y = x
   ·have t1:(x.toList == y.toList) = true:=by rw [beqB];simp [hq]
    have HQ:=Lib.hid hq
    clear hq
    go_wp2
    go_ret
    exact ⟨ret_int (idxB_hit (p:=fun y => decide (y = x)) k hlt (by rw [← HY.out];exact decide_eq_true HQ.out) (fun j hj => N.out j (by omega) hj)).symm,rfl⟩
   ·have t1:(x.toList == y.toList) = false:=by rw [beqB];simp;exact fun h => hq h.symm
    have HQ:=Lib.hid hq
    clear hq
    go_wp2
    go_round
    case rel => exact ⟨k + 1,by omega,by go_num,not_step (p:=fun y => decide (y = x)) hlt (by rw [← HY.out];exact decide_eq_false HQ.out) N.out⟩
    case measure => simp [intOf];omega
  ·go_wp2
   go_ret
   exact ⟨ret_int (idxB_miss (p:=fun y => decide (y = x)) (fun j hj => N.out j hj (by omega))).symm,rfl⟩
theorem any_idxB {α:Type} (p:α → Bool) (l:List α):l.any p = decide (0 ≤ idxB p l):=by
 rcases idxB_cases p l with ⟨e,hn⟩ | ⟨i,hi,e,hp,_⟩
 ·rw [e]
  simp only [List.any_eq_false,show decide ((0:Int) ≤ -1) = false from rfl]
  intro x hx
  obtain ⟨j,hj,rfl⟩:=List.mem_iff_getElem.1 hx
  simp [hn j hj]
 ·rw [e,decide_eq_true (by omega),List.any_eq_true]
  exact ⟨l[i],List.getElem_mem hi,hp⟩
theorem containsS_ok (h:Hd) (l:List ByteArray) (x:ByteArray) (w:World) (a:StrsAt w h l) :
  Calls Tryz.prog 54 #[h.val,.string x] w fun e w' => e = .returned (.bool (l.any fun y => decide (y = x))) ∧ w = w':=by
 have HC:=Lib.hid (indexS_ok h l x w a)
 have HE:=Lib.hid (any_idxB (fun y => decide (y = x)) l)
 obtain ⟨r,hr⟩:∃ r,r = idxB (fun y => decide (y = x)) l:=⟨_,rfl⟩
 rw [← hr] at HC HE
 clear hr a
 obtain ⟨A,n,c⟩:=h
 have HC':Hid (Calls Tryz.prog 84 #[.slice A n c,.string x] w fun e w' => e = .returned (.int .i64 r) ∧ w = w'):=HC
 clear HC
 show Calls Tryz.prog 54 #[.slice A n c,.string x] w _
 go_enter Tryz.func54,Tryz.ntmps54
 go_wp2_with (go_at_call 84;refine HC'.out.mono ?_;rintro e w' ⟨rfl,rfl⟩)
 go_ret
 exact ⟨ret_bool HE.out.symm,rfl⟩
theorem indexI_ok (h:Hd) (l:List Int) (x:Int) (w:World) (a:IntsAt w h l) :
  Calls Tryz.prog 131 #[h.val,.int .i64 x] w fun e w' => e = .returned (.int .i64 (idxB (fun y => decide (y = x)) l)) ∧ w = w':=by
 obtain ⟨A,n,c⟩:=h
 show Calls Tryz.prog 131 #[.slice A n c,.int .i64 x] w _
 have hn:l.length = n:=a.1
 have hb:n ≤ 9223372036854775807:=a.2.1
 subst hn
 have HL:=Lib.hid (show Lies w 1 ⟨A,l.length,c⟩ intCell l from a)
 clear a
 go_enter Tryz.func131,Tryz.ntmps131
 go_wp2
 go_loop [8] (fun i => ∃ k:Nat,k ≤ l.length ∧ i = .int .i64 k ∧ Hid (∀ j (hj:j < l.length),j < k → decide (l[j] = x) = false)) (fun i => l.length - (intOf i).toNat)
 case atStart => exact ⟨0,Nat.zero_le _,rfl,fun j _ hj => absurd hj (Nat.not_lt_zero _)⟩
 case round =>
  obtain ⟨k,hk,rfl,N⟩:=hrel
  by_cases hlt:k < l.length
  ·obtain ⟨b,off,hA,blt,c0⟩:=HL.out.one k hlt (v:=.int .i64 l[k]) rfl
   have hA':A = some ⟨b,off,none⟩:=hA
   clear hA
   subst hA'
   obtain ⟨y,hy⟩:∃ y,y = l[k]:=⟨_,rfl⟩
   rw [← hy] at c0
   have HY:=Lib.hid hy
   clear hy
   by_cases hq:y = x
   ·have t1:(x == y) = true:=by simp [hq]
    have HQ:=Lib.hid hq
    clear hq
    go_wp2
    go_ret
    exact ⟨ret_int (idxB_hit (p:=fun y => decide (y = x)) k hlt (by rw [← HY.out];exact decide_eq_true HQ.out) (fun j hj => N.out j (by omega) hj)).symm,rfl⟩
   ·have t1:(x == y) = false:=by simp;exact fun h => hq h.symm
    have HQ:=Lib.hid hq
    clear hq
    go_wp2
    go_round
    case rel => exact ⟨k + 1,by omega,by go_num,not_step (p:=fun y => decide (y = x)) hlt (by rw [← HY.out];exact decide_eq_false HQ.out) N.out⟩
    case measure => simp [intOf];omega
  ·go_wp2
   go_ret
   exact ⟨ret_int (idxB_miss (p:=fun y => decide (y = x)) (fun j hj => N.out j hj (by omega))).symm,rfl⟩
theorem containsI_ok (h:Hd) (l:List Int) (x:Int) (w:World) (a:IntsAt w h l) :
  Calls Tryz.prog 106 #[h.val,.int .i64 x] w fun e w' => e = .returned (.bool (l.any fun y => decide (y = x))) ∧ w = w':=by
 have HC:=Lib.hid (indexI_ok h l x w a)
 have HE:=Lib.hid (any_idxB (fun y => decide (y = x)) l)
 obtain ⟨r,hr⟩:∃ r,r = idxB (fun y => decide (y = x)) l:=⟨_,rfl⟩
 rw [← hr] at HC HE
 clear hr a
 obtain ⟨A,n,c⟩:=h
 have HC':Hid (Calls Tryz.prog 131 #[.slice A n c,.int .i64 x] w fun e w' => e = .returned (.int .i64 r) ∧ w = w'):=HC
 clear HC
 show Calls Tryz.prog 106 #[.slice A n c,.int .i64 x] w _
 go_enter Tryz.func106,Tryz.ntmps106
 go_wp2_with (go_at_call 131;refine HC'.out.mono ?_;rintro e w' ⟨rfl,rfl⟩)
 go_ret
 exact ⟨ret_bool HE.out.symm,rfl⟩
theorem idxB_map {α β:Type} (f:α → β) (p:β → Bool) (l:List α):idxB p (l.map f) = idxB (fun x => p (f x)) l:=by
 unfold idxB
 rw [List.findIdx?_map]
 rfl
theorem find1_ok (B:Nat) (nm:ByteArray) (w:World) (hB:B < w.heap.size) (hc:w.cell? ⟨B,0,none⟩ = some (.string nm)) (ts:List RT) :
  Tells 48 #[.pointer (some ⟨B,0,none⟩)] w (fun t => .agg t.cells.toArray) (fun t:RT => decide (t.name = nm)) ts:=by
 intro t _ W s
 have c1:W.cell? ⟨B,0,none⟩ = some (.string nm):=(s.cell (p:=⟨B,0,none⟩) hB).trans hc
 have hBW:B < W.heap.size:=Nat.lt_of_lt_of_le hB s.size
 have hne:B ≠ W.heap.size:=by omega
 obtain ⟨n,⟨A,m,c⟩,ra,⟨A2,m2,c2⟩,key⟩:=t
 clear hc hB s
 show Calls Tryz.prog 48 #[.agg #[.string n,.slice A m c,.slice A2 m2 c2],.pointer (some ⟨B,0,none⟩)] W fun e W' => e = .returned (.bool (decide (n = nm))) ∧ Same W W'
 have hb:=beqB n nm
 go_enter Tryz.func48,Tryz.ntmps48
 go_wp2
 go_ret
 exact ⟨ret_bool (by simp),(Same.refl _).alloc _⟩
theorem find_ok (h:Hd) (ts:List RT) (nm:ByteArray) (w:World) (a:TabsAt w h ts) :
  Calls Tryz.prog 15 #[.agg #[h.val],.string nm] w fun e w' => e = .returned (.int .i64 (findT (ts.map RT.tb) nm)) ∧ Same w w':=by
 have eg:∀ args w,(callFunc 48 args).run Tryz.prog w = .ok (.enter 48 args) w:=enters_of Tryz.func48 (by kernel_rfl) rfl
 have HC:=Lib.hid (fun (W:World) (s:Same w W) (B:Nat) (hB:B < W.heap.size) (hc:W.cell? ⟨B,0,none⟩ = some (.string nm)) =>
  indexT_ok 48 #[.pointer (some ⟨B,0,none⟩)] eg h RT.cells (fun t => ⟨_,_,_,rfl⟩) (fun t:RT => decide (t.name = nm)) ts W (a.same s).1 (find1_ok B nm W hB hc ts))
 have HE:Hid (findT (ts.map RT.tb) nm = idxB (fun t:RT => decide (t.name = nm)) ts):=idxB_map RT.tb _ ts
 obtain ⟨r,hr⟩:∃ r,r = idxB (fun t:RT => decide (t.name = nm)) ts:=⟨_,rfl⟩
 rw [← hr] at HC HE
 clear hr a eg
 obtain ⟨A,n,c⟩:=h
 have HC':Hid (∀ (W:World),Same w W → ∀ B,B < W.heap.size → W.cell? ⟨B,0,none⟩ = some (.string nm) → Calls Tryz.prog 47 #[.slice A n c,.func (.func 48) #[] #[.pointer (some ⟨B,0,none⟩)]] W fun e w' => e = .returned (.int .i64 r) ∧ Same W w'):=HC
 clear HC
 show Calls Tryz.prog 15 #[.agg #[.slice A n c],.string nm] w _
 go_enter Tryz.func15,Tryz.ntmps15
 go_wp2_with (go_at_call 47;refine (HC'.out _ ?_ _ ?_ ?_).mono ?_;exact ((Same.refl w).alloc _).alloc _;simp;simp;rintro e w1 ⟨rfl,s1⟩;have S1:=Lib.hid s1;have K1:=s1.cells;have Z1:=s1.size;clear s1)
 go_ret
 exact ⟨ret_int HE.out.symm,(((Same.refl w).alloc _).alloc _).trans S1.out⟩
theorem col1_ok (B:Nat) (nm:ByteArray) (w:World) (hB:B < w.heap.size) (hc:w.cell? ⟨B,0,none⟩ = some (.string nm)) (rs:List RA) :
  Tells 52 #[.pointer (some ⟨B,0,none⟩)] w (fun r => .agg r.cells.toArray) (fun r:RA => decide (r.at_.name = nm)) rs:=by
 intro r _ W s
 have c1:W.cell? ⟨B,0,none⟩ = some (.string nm):=(s.cell (p:=⟨B,0,none⟩) hB).trans hc
 have hBW:B < W.heap.size:=Nat.lt_of_lt_of_le hB s.size
 have hne:B ≠ W.heap.size:=by omega
 obtain ⟨⟨n,kd,was,⟨dk,dn,ds⟩⟩,⟨A,m,c⟩⟩:=r
 clear hc hB s
 show Calls Tryz.prog 52 #[.agg #[.string n,.int .i64 kd,.slice A m c,.int .i64 dk,.int .i64 dn,.string ds],.pointer (some ⟨B,0,none⟩)] W fun e W' => e = .returned (.bool (decide (n = nm))) ∧ Same W W'
 have hb:=beqB n nm
 go_enter Tryz.func52,Tryz.ntmps52
 go_wp2
 go_ret
 exact ⟨ret_bool (by simp),(Same.refl _).alloc _⟩
theorem col2_ok (B:Nat) (nm:ByteArray) (w:World) (hB:B < w.heap.size) (hc:w.cell? ⟨B,0,none⟩ = some (.string nm)) (rs:List RA) (a:∀ r ∈ rs,StrsAt w r.h r.at_.was) :
  Tells 53 #[.pointer (some ⟨B,0,none⟩)] w (fun r => .agg r.cells.toArray) (fun r:RA => r.at_.was.any fun x => decide (x = nm)) rs:=by
 intro r hr W s
 have c1:W.cell? ⟨B,0,none⟩ = some (.string nm):=(s.cell (p:=⟨B,0,none⟩) hB).trans hc
 have hBW:B < W.heap.size:=Nat.lt_of_lt_of_le hB s.size
 have hne:B ≠ W.heap.size:=by omega
 have HC:=Lib.hid (fun W' (s':Same W W') => containsS_ok r.h r.at_.was nm W' ((a r hr).same (s.trans s')))
 dsimp only
 generalize (r.at_.was.any fun x => decide (x = nm)) = q at HC ⊢
 obtain ⟨⟨n,kd,was,⟨dk,dn,ds⟩⟩,⟨A,m,c⟩⟩:=r
 clear hc hB s hr a
 have HC':Hid (∀ W',Same W W' → Calls Tryz.prog 54 #[.slice A m c,.string nm] W' fun e w' => e = .returned (.bool q) ∧ W' = w'):=HC
 clear HC
 show Calls Tryz.prog 53 #[.agg #[.string n,.int .i64 kd,.slice A m c,.int .i64 dk,.int .i64 dn,.string ds],.pointer (some ⟨B,0,none⟩)] W fun e W' => e = .returned (.bool q) ∧ Same W W'
 go_enter Tryz.func53,Tryz.ntmps53
 go_wp2_with (go_at_call 54;refine (HC'.out _ ?_).mono ?_;exact (Same.refl _).alloc _;rintro e w1 ⟨rfl,rfl⟩)
 go_ret
 exact ⟨rfl,(Same.refl _).alloc _⟩
theorem column_ok (t:RT) (nm:ByteArray) (w:World) (a:TbAt w t) :
  Calls Tryz.prog 19 #[t.val,.string nm] w fun e w' => e = .returned (.int .i64 (colA t.tb.attrs nm)) ∧ Same w w':=by
 have eg1:∀ args w,(callFunc 52 args).run Tryz.prog w = .ok (.enter 52 args) w:=enters_of Tryz.func52 (by kernel_rfl) rfl
 have eg2:∀ args w,(callFunc 53 args).run Tryz.prog w = .ok (.enter 53 args) w:=enters_of Tryz.func53 (by kernel_rfl) rfl
 have HC1:=Lib.hid (fun (W:World) (s:Same w W) (B:Nat) (hB:B < W.heap.size) (hc:W.cell? ⟨B,0,none⟩ = some (.string nm)) =>
  indexA_ok 52 #[.pointer (some ⟨B,0,none⟩)] eg1 t.ha RA.cells (fun t => ⟨_,_,_,_,_,_,rfl⟩) (fun r:RA => decide (r.at_.name = nm)) t.ra W (a.1.same s).1 (col1_ok B nm W hB hc t.ra))
 have HC2:=Lib.hid (fun (W:World) (s:Same w W) (B:Nat) (hB:B < W.heap.size) (hc:W.cell? ⟨B,0,none⟩ = some (.string nm)) =>
  indexA_ok 53 #[.pointer (some ⟨B,0,none⟩)] eg2 t.ha RA.cells (fun t => ⟨_,_,_,_,_,_,rfl⟩) (fun r:RA => r.at_.was.any fun x => decide (x = nm)) t.ra W (a.1.same s).1 (col2_ok B nm W hB hc t.ra (fun r hr => ((a.1.same s).2 r hr).1)))
 have e1:idxB (fun a:At => decide (a.name = nm)) (t.ra.map RA.at_) = idxB (fun r:RA => decide (r.at_.name = nm)) t.ra:=idxB_map RA.at_ _ t.ra
 have e2:idxB (fun a:At => a.was.any fun x => decide (x = nm)) (t.ra.map RA.at_) = idxB (fun r:RA => r.at_.was.any fun x => decide (x = nm)) t.ra:=idxB_map RA.at_ _ t.ra
 have hl:=idxB_lt (fun r:RA => decide (r.at_.name = nm)) t.ra
 have HE:Hid (colA t.tb.attrs nm = if 0 ≤ idxB (fun r:RA => decide (r.at_.name = nm)) t.ra then idxB (fun r:RA => decide (r.at_.name = nm)) t.ra else idxB (fun r:RA => r.at_.was.any fun x => decide (x = nm)) t.ra):=by
  show colA (t.ra.map RA.at_) nm = _
  unfold colA
  rw [e1,e2]
 generalize idxB (fun r:RA => decide (r.at_.name = nm)) t.ra = r1 at HC1 HE
 generalize idxB (fun r:RA => r.at_.was.any fun x => decide (x = nm)) t.ra = r2 at HC2 HE
 generalize colA t.tb.attrs nm = r at HE ⊢
 clear e1 e2 hl a eg1 eg2
 obtain ⟨n,⟨A,m,c⟩,ra,⟨A2,m2,c2⟩,key⟩:=t
 have HC1':Hid (∀ (W:World),Same w W → ∀ B,B < W.heap.size → W.cell? ⟨B,0,none⟩ = some (.string nm) → Calls Tryz.prog 51 #[.slice A m c,.func (.func 52) #[] #[.pointer (some ⟨B,0,none⟩)]] W fun e w' => e = .returned (.int .i64 r1) ∧ Same W w'):=HC1
 have HC2':Hid (∀ (W:World),Same w W → ∀ B,B < W.heap.size → W.cell? ⟨B,0,none⟩ = some (.string nm) → Calls Tryz.prog 51 #[.slice A m c,.func (.func 53) #[] #[.pointer (some ⟨B,0,none⟩)]] W fun e w' => e = .returned (.int .i64 r2) ∧ Same W w'):=HC2
 clear HC1 HC2
 show Calls Tryz.prog 19 #[.agg #[.string n,.slice A m c,.slice A2 m2 c2],.string nm] w _
 go_enter Tryz.func19,Tryz.ntmps19
 go_wp2_with fail
 refine (HC1'.out _ ?_ _ ?_ ?_).mono ?_
 ·exact ((Same.refl w).alloc _).alloc _
 ·simp
 ·simp
 rintro e w1 ⟨rfl,s1⟩
 have S1:=Lib.hid ((((Same.refl w).alloc _).alloc _).trans s1)
 have K1:=s1.cells
 have Z1:=s1.size
 clear s1
 by_cases hr:0 ≤ r1
 ·rw [if_pos hr] at HE
  go_wp2
  go_ret
  exact ⟨ret_int HE.out.symm,S1.out⟩
 ·rw [if_neg hr] at HE
  have hr':¬ r1 ≥ 0:=hr
  go_wp2_with fail
  refine (HC2'.out _ S1.out _ ?_ ?_).mono ?_
  ·simp at Z1;omega
  ·rw [K1 _ _ (by simp)];simp
  rintro e w2 ⟨rfl,s2⟩
  have S2:=Lib.hid (S1.out.trans s2)
  clear s2
  go_wp2
  go_ret
  exact ⟨ret_int HE.out.symm,S2.out⟩
def fitAt (t:Tb) (row:List V) (i:Nat):Bool:=match t.attrs[i]?,row[i]? with | some a,some v => fitB a.kind v | _,_ => false
theorem fitsB_eq (t:Tb) (row:List V):fitsB t row = (decide (row.length = t.attrs.length) && (List.range row.length).all (fitAt t row)):=rfl
theorem all_range_true {p:Nat → Bool} {n:Nat} (h:∀ j,j < n → p j = true):(List.range n).all p = true:=by
 rw [List.all_eq_true];intro x hx;exact h x (List.mem_range.1 hx)
theorem all_range_false {p:Nat → Bool} {n:Nat} (k:Nat) (hk:k < n) (h:p k = false):(List.range n).all p = false:=by
 rw [List.all_eq_false];exact ⟨k,List.mem_range.2 hk,by simp [h]⟩
theorem yes_step {p:Nat → Bool} {k:Nat} (h:∀ j,j < k → p j = true) (hk:p k = true):∀ j,j < k + 1 → p j = true:=by
 intro j hj
 by_cases e:j = k
 ·subst e;exact hk
 ·exact h j (by omega)
theorem fits_ok (t:RT) (h:Hd) (row:List V) (w:World) (a:TbAt w t) (r:RowAt w h row) :
  Calls Tryz.prog 17 #[t.val,h.val] w fun e w' => e = .returned (.bool (fitsB t.tb row)) ∧ Same w w':=by
 have hla:t.ra.length = t.ha.n:=a.1.1.1
 have hlr:row.length = h.n:=r.1.1
 have hbr:h.n ≤ 9223372036854775807:=r.1.2.1
 have hba:t.ha.n ≤ 9223372036854775807:=a.1.1.2.1
 have HE:=Lib.hid (fitsB_eq t.tb row)
 have htb:t.tb.attrs.length = t.ra.length:=by simp [RT.tb]
 have HA:=Lib.hid (fun (W:World) (s:Same w W) => (a.1.same s).1)
 have HR:=Lib.hid (fun (W:World) (s:Same w W) => (r.same s).1)
 have HAt:Hid (∀ k (h1:k < t.ra.length) (h2:k < row.length),fitAt t.tb row k = fitB t.ra[k].at_.kind row[k]):=by
  intro k h1 h2
  simp [fitAt,RT.tb,h1,h2]
 obtain ⟨n,⟨A,m,c⟩,ra,⟨A2,m2,c2⟩,key⟩:=t
 obtain ⟨B,q,d⟩:=h
 generalize hT:RT.tb ⟨n,⟨A,m,c⟩,ra,⟨A2,m2,c2⟩,key⟩ = T at HE htb HAt ⊢
 simp only at hla hlr hbr hba htb
 subst hla hlr
 have HTB:=Lib.hid htb
 clear a r hT htb
 have HA':Hid (∀ (W:World),Same w W → Lies W 6 ⟨A,ra.length,c⟩ RA.cells ra):=HA
 clear HA
 show Calls Tryz.prog 17 #[.agg #[.string n,.slice A ra.length c,.slice A2 m2 c2],.slice B row.length d] w _
 by_cases hne:row.length = ra.length
 ·have h1:((row.length:Int) != (ra.length:Int)) = false:=by simp [hne]
  have HN:=Lib.hid hne
  clear hne
  go_enter Tryz.func17,Tryz.ntmps17
  go_wp2
  go_loopw [14] (fun i wr => ∃ k:Nat,k ≤ row.length ∧ i = .int .i64 k ∧ Hid (Same (w.alloc (.cells #[.string n,.slice A ra.length c,.slice A2 m2 c2] 44)) wr) ∧ Hid (∀ j,j < k → fitAt T row j = true)) (fun i _ => row.length - (intOf i).toNat)
  case atStart => exact ⟨0,Nat.zero_le _,rfl,Same.refl _,fun j hj => absurd hj (Nat.not_lt_zero _)⟩
  case round =>
   obtain ⟨k,hk,rfl,S,N⟩:=hrel
   by_cases hlt:k < row.length
   ·have sw:Same w wr:=((Same.refl w).alloc _).trans S.out
    have hka:k < ra.length:=by have:=HN.out;omega
    obtain ⟨b,off,hA,blt,hc⟩:=(HA'.out wr sw).2.2 k hka
    have hA':A = some ⟨b,off,none⟩:=hA
    obtain ⟨b2,off2,hB,blt2,hc2⟩:=(HR.out wr sw).2.2 k hlt
    have hB':B = some ⟨b2,off2,none⟩:=hB
    have hf:=HAt.out k hka hlt
    obtain ⟨rk,hrk⟩:∃ rk,rk = ra[k]:=⟨_,rfl⟩
    obtain ⟨vk,hvk⟩:∃ vk,vk = row[k]:=⟨_,rfl⟩
    rw [← hrk] at hc hf
    rw [← hvk] at hc2 hf
    obtain ⟨⟨n',kd,was,dd⟩,h'⟩:=rk
    obtain ⟨vk1,vn1,vs1⟩:=vk
    have c1:=hc 1 (.int .i64 kd) rfl
    have d0:=hc2 0 (.int .i64 vk1) rfl
    have d1:=hc2 1 (.int .i64 vn1) rfl
    have d2:=hc2 2 (.string vs1) rfl
    have x0:wr.cell? ⟨w.heap.size,1,none⟩ = some (.slice A ra.length c):=(S.out.cells _ 1 (by simp)).trans (by simp)
    have bx:w.heap.size < wr.heap.size:=Nat.lt_of_lt_of_le (by simp) S.out.size
    simp only [Nat.add_zero] at d0 hf
    have HF:=Lib.hid hf
    have HC:Hid (∀ W,Calls Tryz.prog 49 #[.int .i64 kd,.agg #[.int .i64 vk1,.int .i64 vn1,.string vs1]] W fun e W' => e = .returned (.bool (fitB kd ⟨vk1,vn1,vs1⟩)) ∧ Same W W'):=fun W => fit_ok kd ⟨vk1,vn1,vs1⟩ W
    clear hc hc2 hf hA hB hrk hvk
    subst hA' hB'
    go_wp2_with fail
    go_region_held3 (fun w' => w'.cell? ⟨w.heap.size,1,none⟩ = some (.slice (some ⟨b,off,none⟩) ra.length c) ∧ w'.cell? ⟨b,off + k * 6 + 1,none⟩ = some (.int .i64 kd) ∧ w'.cell? ⟨b2,off2 + k * 3,none⟩ = some (.int .i64 vk1) ∧ w'.cell? ⟨b2,off2 + k * 3 + 1,none⟩ = some (.int .i64 vn1) ∧ w'.cell? ⟨b2,off2 + k * 3 + 2,none⟩ = some (.string vs1)) (first | go_keep | simp [*])
     (first | (go_at_call 49;refine (HC.out _).mono ?_;rintro e w1 ⟨rfl,c1⟩;have C1:Hid (Same wr w1):=(Same.refl wr).drew.trans c1;have K1:∀ k o,k < wr.heap.size → w1.cell? ⟨k,o,none⟩ = wr.cell? ⟨k,o,none⟩:=c1.cells;have Z1:wr.heap.size ≤ w1.heap.size:=c1.size;clear c1))
    go_wp2
    ·go_ret
     refine ⟨ret_bool ?_,sw.trans C1.out⟩
     rw [HE.out,all_range_false k hlt (by rw [HF.out];simp_all),Bool.and_false]
    ·go_roundw
     case rel => exact ⟨k + 1,by omega,by go_num,S.out.trans C1.out,yes_step N.out (by rw [HF.out];simp_all)⟩
     case measure => simp [intOf];omega
   ·go_wp2
    go_ret
    refine ⟨ret_bool ?_,((Same.refl w).alloc _).trans S.out⟩
    rw [HE.out,all_range_true (fun j hj => N.out j (by omega)),decide_eq_true (HTB.out ▸ HN.out)]
    rfl
 ·have h1:((row.length:Int) != (ra.length:Int)) = true:=by simp;omega
  have HN:=Lib.hid hne
  clear hne
  go_enter Tryz.func17,Tryz.ntmps17
  go_wp2
  go_ret
  refine ⟨ret_bool ?_,(Same.refl w).alloc _⟩
  rw [HE.out,decide_eq_false (HTB.out ▸ HN.out)]
  rfl
theorem Tryz.infoStr:(Tryz.prog.info? 9).map (fun i => (i.zero,i.size,i.bytes)) = some (some (.string ByteArray.empty),1,16):=by kernel_rfl
theorem rightB_eq (t:Tb):rightB t = (nameB t.name && (decide (1 ≤ t.attrs.length) && decide (t.attrs.length ≤ 12) && decide (1 ≤ t.key.length)) && t.attrs.all attrB && (namesOf t).all nameB && !dupB (namesOf t) && keyB t.attrs.length t.key):=rfl
def namesR (rs:List RA):List ByteArray:=namesA (rs.map RA.at_)
theorem namesR_succ (rs:List RA) (k:Nat) (h:k < rs.length):namesR (rs.take (k + 1)) = namesR (rs.take k) ++ [rs[k].at_.name] ++ rs[k].at_.was:=by
 rw [List.take_succ_eq_append_getElem h]
 unfold namesR namesA
 rw [List.map_append,List.flatMap_append,List.append_assoc]
 simp only [List.map_cons,List.map_nil,List.flatMap_cons,List.flatMap_nil,List.append_nil,List.cons_append,List.nil_append]
theorem namesR_len {rs:List RA} (h:∀ r ∈ rs,r.at_.was.length ≤ 1000000):(namesR rs).length ≤ rs.length * 1000001:=by
 induction rs with
 | nil => simp [namesR,namesA]
 | cons r rs ih =>
  have h1:=h r (by simp)
  have h2:=ih (fun r hr => h r (by simp [hr]))
  have:namesR (r :: rs) = r.at_.name :: r.at_.was ++ namesR rs:=by simp [namesR,namesA]
  rw [this]
  simp only [List.length_append,List.length_cons]
  omega
def Rel1 (W0:World) (ra:List RA) (k:Nat) (v:Value) (wr:World):Prop:=
 Same W0 wr ∧ wr.ownsRow W0.heap.size 9 1 v (namesR (ra.take k)).length ((namesR (ra.take k)).map .string) ∧ ∀ j (hj:j < ra.length),j < k → attrB ra[j].at_ = true
theorem rightB_attr {T:Tb} {ra:List RA} (hT:T.attrs = ra.map RA.at_) (k:Nat) (hk:k < ra.length) (h:attrB ra[k].at_ = false):rightB T = false:=by
 have:T.attrs.all attrB = false:=by
  rw [List.all_eq_false]
  exact ⟨ra[k].at_,by rw [hT];exact List.mem_map_of_mem (List.getElem_mem hk),by simp [h]⟩
 rw [rightB_eq,this]
 simp
end Go.Proofs.YtfifnemnihcijaaGreatDoor

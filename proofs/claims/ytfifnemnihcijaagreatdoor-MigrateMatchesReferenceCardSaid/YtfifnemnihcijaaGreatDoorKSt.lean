import Derived.Test.YtfifnemnihcijaaGreatDoorKSp
import Derived.Laws.EntriesVeiled
set_option linter.unusedSimpArgs false
set_option linter.unusedVariables false
set_option maxHeartbeats 16000000
set_option maxRecDepth 100000
namespace Go.Proofs.YtfifnemnihcijaaGreatDoor
open Go.RowKit
def Cg.cells (c:Cg):List Value:=[.int .i64 c.kind,.string c.table,.string c.attr,.string c.name,.int .i64 c.to_,.int .i64 c.dflt.k,.int .i64 c.dflt.n,.string c.dflt.s]
def Cg.val (c:Cg):Value:=.agg c.cells.toArray
def fnV (g:Nat):Value:=.func (.func g) #[] #[]
def effAdd:Value:=.agg #[.bool false,fnV 100,fnV 103,fnV 104]
def effDrop:Value:=.agg #[.bool true,fnV 105,fnV 107,fnV 109]
def effRen:Value:=.agg #[.bool true,fnV 111,fnV 112,fnV 114]
def effCast:Value:=.agg #[.bool true,fnV 115,fnV 116,fnV 117]
theorem adding_ok (w:World):Calls Tryz.prog 87 #[] w fun e w' => e = .returned effAdd ∧ Same w w':=by
 go_enter Tryz.func87,Tryz.ntmps87
 go_wp2
 exact bodyPost_ret (v:=effAdd) (by simp [results,Tryz.results87,go_sem,effAdd,fnV]) rfl ⟨rfl,(Same.refl w).alloc _⟩
theorem dropping_ok (w:World):Calls Tryz.prog 88 #[] w fun e w' => e = .returned effDrop ∧ Same w w':=by
 go_enter Tryz.func88,Tryz.ntmps88
 go_wp2
 exact bodyPost_ret (v:=effDrop) (by simp [results,Tryz.results88,go_sem,effDrop,fnV]) rfl ⟨rfl,(Same.refl w).alloc _⟩
theorem renaming_ok (w:World):Calls Tryz.prog 89 #[] w fun e w' => e = .returned effRen ∧ Same w w':=by
 go_enter Tryz.func89,Tryz.ntmps89
 go_wp2
 exact bodyPost_ret (v:=effRen) (by simp [results,Tryz.results89,go_sem,effRen,fnV]) rfl ⟨rfl,(Same.refl w).alloc _⟩
theorem casting_ok (w:World):Calls Tryz.prog 90 #[] w fun e w' => e = .returned effCast ∧ Same w w':=by
 go_enter Tryz.func90,Tryz.ntmps90
 go_wp2
 exact bodyPost_ret (v:=effCast) (by simp [results,Tryz.results90,go_sem,effCast,fnV]) rfl ⟨rfl,(Same.refl w).alloc _⟩
theorem typed_ok (c:Cg) (w:World):Calls Tryz.prog 101 #[c.val] w fun e w' => e = .returned (.bool (typedB c)) ∧ Same w w':=by
 obtain ⟨k,t,a,n,to_,⟨dk,dn,ds⟩⟩:=c
 have HF:Hid (∀ W,Calls Tryz.prog 49 #[.int .i64 to_,.agg #[.int .i64 dk,.int .i64 dn,.string ds]] W fun e W' => e = .returned (.bool (fitB to_ ⟨dk,dn,ds⟩)) ∧ Same W W'):=fun W => fit_ok to_ ⟨dk,dn,ds⟩ W
 have HE:Hid (typedB ⟨k,t,a,n,to_,⟨dk,dn,ds⟩⟩ = (decide (1 ≤ to_) && decide (to_ ≤ 4) && fitB to_ ⟨dk,dn,ds⟩)):=rfl
 generalize fitB to_ ⟨dk,dn,ds⟩ = q at HF HE
 generalize typedB ⟨k,t,a,n,to_,⟨dk,dn,ds⟩⟩ = r at HE ⊢
 show Calls Tryz.prog 101 #[.agg #[.int .i64 k,.string t,.string a,.string n,.int .i64 to_,.int .i64 dk,.int .i64 dn,.string ds]] w _
 by_cases h1:1 ≤ to_ ∧ to_ ≤ 4
 ·obtain ⟨h1,h2⟩:=h1
  go_enter Tryz.func101,Tryz.ntmps101
  go_wp2_with (go_at_call 49;refine (HF.out _).mono ?_;rintro e w1 ⟨rfl,s1⟩;have S1:=Lib.hid s1;clear s1)
  go_ret
  exact ⟨ret_bool (by rw [HE.out,decide_eq_true h1,decide_eq_true h2];rfl),((Same.refl w).alloc _).trans S1.out⟩
 ·have HN:=Lib.hid h1
  clear h1
  go_enter Tryz.func101,Tryz.ntmps101
  by_cases h1:1 ≤ to_
  ·have h2:¬ to_ ≤ 4:=fun h => HN.out ⟨h1,h⟩
   go_wp2
   go_ret
   exact ⟨ret_bool (by rw [HE.out,decide_eq_false (show ¬ to_ ≤ 4 by omega)];simp),(Same.refl w).alloc _⟩
  ·go_wp2
   go_ret
   exact ⟨ret_bool (by rw [HE.out,decide_eq_false (show ¬ 1 ≤ to_ by omega)];simp),(Same.refl w).alloc _⟩
theorem fresh_ok (t:RT) (c:Cg) (w:World) (a:TbAt w t) (hn:okS c.name) :
  Calls Tryz.prog 102 #[t.val,c.val] w fun e w' => e = .returned (.int .i64 (freshE t.tb c)) ∧ Same w w':=by
 have HN:=Lib.hid (fun W => name_ok c.name W hn)
 have HC:=Lib.hid (fun W (s:Same w W) => column_ok t c.name W (a.same s))
 have HE:Hid (freshE t.tb c = if nameB c.name then (if 0 ≤ colA t.tb.attrs c.name then 9 else 0) else 1):=rfl
 generalize colA t.tb.attrs c.name = r at HC HE
 generalize freshE t.tb c = q at HE ⊢
 clear a hn
 obtain ⟨tn,⟨A,m,cc⟩,ra,⟨A2,m2,c2⟩,key⟩:=t
 obtain ⟨k,tt,aa,n,to_,⟨dk,dn,ds⟩⟩:=c
 simp only at HN
 generalize nameB n = b at HN HE
 have HC':Hid (Rt 19 #[.agg #[.string tn,.slice A m cc,.slice A2 m2 c2],.string n] w (.int .i64 r)):=HC
 clear HC
 show Calls Tryz.prog 102 #[.agg #[.string tn,.slice A m cc,.slice A2 m2 c2],.agg #[.int .i64 k,.string tt,.string aa,.string n,.int .i64 to_,.int .i64 dk,.int .i64 dn,.string ds]] w _
 go_enter Tryz.func102,Tryz.ntmps102
 cases b with
 | false =>
  go_wp2_with (go_at_call 77;refine (HN.out _).mono ?_;rintro e w1 ⟨rfl,rfl⟩)
  go_ret
  exact ⟨ret_int (by rw [HE.out];rfl),((Same.refl w).alloc _).alloc _⟩
 | true =>
  by_cases hr:0 ≤ r
  ·rw [if_pos rfl,if_pos hr] at HE
   go_wp2_with (first
    | (go_at_call 77;refine (HN.out _).mono ?_;rintro e w1 ⟨rfl,rfl⟩)
    | (go_at_call 19;refine (HC'.out _ ?_).mono ?_;exact ((Same.refl w).alloc _).alloc _;rintro e w2 ⟨rfl,s2⟩;have S2:=Lib.hid s2;clear s2))
   go_ret
   exact ⟨ret_int HE.out.symm,(((Same.refl w).alloc _).alloc _).trans S2.out⟩
  ·rw [if_pos rfl,if_neg hr] at HE
   go_wp2_with (first
    | (go_at_call 77;refine (HN.out _).mono ?_;rintro e w1 ⟨rfl,rfl⟩)
    | (go_at_call 19;refine (HC'.out _ ?_).mono ?_;exact ((Same.refl w).alloc _).alloc _;rintro e w2 ⟨rfl,s2⟩;have S2:=Lib.hid s2;clear s2))
   go_ret
   exact ⟨ret_int HE.out.symm,(((Same.refl w).alloc _).alloc _).trans S2.out⟩
theorem check_ren (t:RT) (c:Cg) (a:Nat) (w:World) (at_:TbAt w t) (hn:okS c.name) :
  Calls Tryz.prog 111 #[t.val,c.val,.int .i64 a] w fun e w' => e = .returned (.int .i64 (freshE t.tb c)) ∧ Same w w':=by
 have HF:=Lib.hid (fun W (s:Same w W) => fresh_ok t c W (at_.same s) hn)
 generalize freshE t.tb c = r at HF ⊢
 clear at_ hn
 obtain ⟨tn,⟨A,m,cc⟩,ra,⟨A2,m2,c2⟩,key⟩:=t
 obtain ⟨k,tt,aa,n,to_,⟨dk,dn,ds⟩⟩:=c
 have HF':Hid (Rt 102 #[.agg #[.string tn,.slice A m cc,.slice A2 m2 c2],.agg #[.int .i64 k,.string tt,.string aa,.string n,.int .i64 to_,.int .i64 dk,.int .i64 dn,.string ds]] w (.int .i64 r)):=HF
 clear HF
 show Calls Tryz.prog 111 #[.agg #[.string tn,.slice A m cc,.slice A2 m2 c2],.agg #[.int .i64 k,.string tt,.string aa,.string n,.int .i64 to_,.int .i64 dk,.int .i64 dn,.string ds],.int .i64 a] w _
 go_enter Tryz.func111,Tryz.ntmps111
 go_wp2_with (go_at_call 102;refine (HF'.out _ ?_).mono ?_;exact ((Same.refl w).alloc _).alloc _;rintro e w1 ⟨rfl,s1⟩;have S1:=Lib.hid s1;clear s1)
 go_ret
 exact ⟨rfl,(((Same.refl w).alloc _).alloc _).trans S1.out⟩
theorem check_drop (t:RT) (c:Cg) (a:Nat) (w:World) (at_:TbAt w t) :
  Calls Tryz.prog 105 #[t.val,c.val,.int .i64 a] w fun e w' => e = .returned (.int .i64 (if t.key.any (fun k => decide (k = (a:Int))) then 1 else 0)) ∧ Same w w':=by
 have HF:=Lib.hid (fun W (s:Same w W) => containsI_ok t.hk t.key (a:Int) W (at_.2.1.same s))
 generalize (t.key.any fun y => decide (y = (a:Int))) = r at HF ⊢
 clear at_
 obtain ⟨tn,⟨A,m,cc⟩,ra,⟨A2,m2,c2⟩,key⟩:=t
 obtain ⟨k,tt,aa,n,to_,⟨dk,dn,ds⟩⟩:=c
 have HF':Hid (Re 106 #[.slice A2 m2 c2,.int .i64 a] w (.bool r)):=HF
 clear HF
 show Calls Tryz.prog 105 #[.agg #[.string tn,.slice A m cc,.slice A2 m2 c2],.agg #[.int .i64 k,.string tt,.string aa,.string n,.int .i64 to_,.int .i64 dk,.int .i64 dn,.string ds],.int .i64 a] w _
 go_enter Tryz.func105,Tryz.ntmps105
 cases r with
 | true =>
  go_wp2_with (go_at_call 106;refine (HF'.out _ ?_).mono ?_;exact ((Same.refl w).alloc _).alloc _;rintro e w1 ⟨rfl,rfl⟩)
  go_ret
  exact ⟨rfl,((Same.refl w).alloc _).alloc _⟩
 | false =>
  go_wp2_with (go_at_call 106;refine (HF'.out _ ?_).mono ?_;exact ((Same.refl w).alloc _).alloc _;rintro e w1 ⟨rfl,rfl⟩)
  go_ret
  exact ⟨rfl,((Same.refl w).alloc _).alloc _⟩
theorem check_add (t:RT) (c:Cg) (a:Int) (w:World) (at_:TbAt w t) (hn:okS c.name) :
  Calls Tryz.prog 100 #[t.val,c.val,.int .i64 a] w fun e w' => e = .returned (.int .i64 (if typedB c then (if freshE t.tb c ≠ 0 then freshE t.tb c else if t.ra.length = 12 then 3 else 0) else 1)) ∧ Same w w':=by
 have HT:=Lib.hid (fun W => typed_ok c W)
 have HF:=Lib.hid (fun W (s:Same w W) => fresh_ok t c W (at_.same s) hn)
 have hl:t.ra.length = t.ha.n:=at_.1.1.1
 have hb:t.ha.n ≤ 9223372036854775807:=at_.1.1.2.1
 obtain ⟨E,hE⟩:∃ E:Int,E = (if typedB c then (if freshE t.tb c ≠ 0 then freshE t.tb c else if t.ra.length = 12 then 3 else 0) else 1):=⟨_,rfl⟩
 rw [← hE]
 have HE:=Lib.hid hE
 generalize freshE t.tb c = r at HF HE
 generalize typedB c = b at HT HE
 clear at_ hn hE
 obtain ⟨tn,⟨A,m,cc⟩,ra,⟨A2,m2,c2⟩,key⟩:=t
 obtain ⟨k,tt,aa,n,to_,⟨dk,dn,ds⟩⟩:=c
 simp only at hl hb HE
 subst hl
 have HF':Hid (Rt 102 #[.agg #[.string tn,.slice A ra.length cc,.slice A2 m2 c2],.agg #[.int .i64 k,.string tt,.string aa,.string n,.int .i64 to_,.int .i64 dk,.int .i64 dn,.string ds]] w (.int .i64 r)):=HF
 have HT':Hid (Rs 101 #[.agg #[.int .i64 k,.string tt,.string aa,.string n,.int .i64 to_,.int .i64 dk,.int .i64 dn,.string ds]] (.bool b)):=HT
 clear HF HT
 show Calls Tryz.prog 100 #[.agg #[.string tn,.slice A ra.length cc,.slice A2 m2 c2],.agg #[.int .i64 k,.string tt,.string aa,.string n,.int .i64 to_,.int .i64 dk,.int .i64 dn,.string ds],.int .i64 a] w _
 go_enter Tryz.func100,Tryz.ntmps100
 cases b with
 | false =>
  go_wp2_with (go_at_call 101;refine (HT'.out _).mono ?_;rintro e w1 ⟨rfl,s1⟩;have S1:=Lib.hid s1;clear s1)
  go_ret
  exact ⟨ret_int HE.out.symm,(((Same.refl w).alloc _).alloc _).trans S1.out⟩
 | true =>
  by_cases hr:r = 0
  ·subst hr
   by_cases h12:ra.length = 12
   ·have t1:((ra.length:Int) == 12) = true:=by simp;omega
    have H12:=Lib.hid h12
    clear h12
    go_wp2_with (first
     | (go_at_call 101;refine (HT'.out _).mono ?_;rintro e w1 ⟨rfl,s1⟩;have K1:=s1.cells;have B1:w.heap.size + 1 < w1.heap.size:=(by have:=s1.size;simp at this;omega);have B0:w.heap.size < w1.heap.size:=(by omega);have S1:=Lib.hid ((((Same.refl w).alloc _).alloc _).trans s1);clear s1)
     | (go_at_call 102;refine (HF'.out _ ?_).mono ?_;exact S1.out;rintro e w2 ⟨rfl,s2⟩;have K2:=s2.cells;have Z2:=s2.size;have S2:=Lib.hid (S1.out.trans s2);clear s2))
    go_ret
    exact ⟨ret_int (by rw [HE.out];simp [H12.out]),S2.out⟩
   ·have t1:((ra.length:Int) == 12) = false:=by simp;omega
    have H12:=Lib.hid h12
    clear h12
    go_wp2_with (first
     | (go_at_call 101;refine (HT'.out _).mono ?_;rintro e w1 ⟨rfl,s1⟩;have K1:=s1.cells;have B1:w.heap.size + 1 < w1.heap.size:=(by have:=s1.size;simp at this;omega);have B0:w.heap.size < w1.heap.size:=(by omega);have S1:=Lib.hid ((((Same.refl w).alloc _).alloc _).trans s1);clear s1)
     | (go_at_call 102;refine (HF'.out _ ?_).mono ?_;exact S1.out;rintro e w2 ⟨rfl,s2⟩;have K2:=s2.cells;have Z2:=s2.size;have S2:=Lib.hid (S1.out.trans s2);clear s2))
    go_ret
    exact ⟨ret_int (by rw [HE.out];simp [H12.out]),S2.out⟩
  ·have t1:(r != 0) = true:=by simp;exact hr
   have HRR:=Lib.hid hr
   clear hr
   go_wp2_with (first
    | (go_at_call 101;refine (HT'.out _).mono ?_;rintro e w1 ⟨rfl,s1⟩;have K1:=s1.cells;have B1:w.heap.size + 1 < w1.heap.size:=(by have:=s1.size;simp at this;omega);have B0:w.heap.size < w1.heap.size:=(by omega);have S1:=Lib.hid ((((Same.refl w).alloc _).alloc _).trans s1);clear s1)
    | (go_at_call 102;refine (HF'.out _ ?_).mono ?_;exact S1.out;rintro e w2 ⟨rfl,s2⟩;have K2:=s2.cells;have Z2:=s2.size;have S2:=Lib.hid (S1.out.trans s2);clear s2))
   go_ret
   exact ⟨ret_int (by rw [HE.out];simp [HRR.out]),S2.out⟩
theorem check_cast (t:RT) (c:Cg) (a:Nat) (w:World) (at_:TbAt w t) (ha:a < t.ra.length) :
  Calls Tryz.prog 115 #[t.val,c.val,.int .i64 a] w fun e w' => e = .returned (.int .i64 (if typedB c && !decide ((t.tb.attrs.map At.kind)[a]? = some c.to_) then 0 else 1)) ∧ Same w w':=by
 have HT:=Lib.hid (fun W => typed_ok c W)
 have HL:=Lib.hid (fun (W:World) (s:Same w W) => (at_.same s).1.1)
 have hl:t.ra.length = t.ha.n:=at_.1.1.1
 have hb:t.ha.n ≤ 9223372036854775807:=at_.1.1.2.1
 have HK:Hid ((t.tb.attrs.map At.kind)[a]? = some t.ra[a].at_.kind):=by show _ = _;simp [RT.tb,ha]
 obtain ⟨E,hE⟩:∃ E:Int,E = (if typedB c && !decide ((t.tb.attrs.map At.kind)[a]? = some c.to_) then 0 else 1):=⟨_,rfl⟩
 rw [← hE]
 rw [HK.out] at hE
 have HE:=Lib.hid hE
 generalize typedB c = b at HT HE
 clear at_ HK hE
 obtain ⟨tn,⟨A,m,cc⟩,ra,⟨A2,m2,c2⟩,key⟩:=t
 obtain ⟨k,tt,aa,n,to_,⟨dk,dn,ds⟩⟩:=c
 simp only at hl hb ha HE
 subst hl
 have HT':Hid (Rs 101 #[.agg #[.int .i64 k,.string tt,.string aa,.string n,.int .i64 to_,.int .i64 dk,.int .i64 dn,.string ds]] (.bool b)):=HT
 have HL':Hid (∀ W,Same w W → Lies W 6 ⟨A,ra.length,cc⟩ RA.cells ra):=HL
 clear HL HT
 obtain ⟨b2,off,hA,blt,hc⟩:=(HL'.out w (Same.refl _)).2.2 a ha
 have hA':A = some ⟨b2,off,none⟩:=hA
 clear hA
 subst hA'
 have c1:=hc 1 (.int .i64 ra[a].at_.kind) rfl
 generalize ra[a].at_.kind = q at c1 HE
 clear hc
 show Calls Tryz.prog 115 #[.agg #[.string tn,.slice (some ⟨b2,off,none⟩) ra.length cc,.slice A2 m2 c2],.agg #[.int .i64 k,.string tt,.string aa,.string n,.int .i64 to_,.int .i64 dk,.int .i64 dn,.string ds],.int .i64 a] w _
 obtain ⟨W0,hW0⟩:∃ W0,W0 = (w.alloc (.cells #[.string tn,.slice (some ⟨b2,off,none⟩) ra.length cc,.slice A2 m2 c2] 44)).alloc (.cells #[.int .i64 k,.string tt,.string aa,.string n,.int .i64 to_,.int .i64 dk,.int .i64 dn,.string ds] 28):=⟨_,rfl⟩
 have hs0:Same w W0:=by rw [hW0];exact ((Same.refl w).alloc _).alloc _
 have x1:W0.cell? ⟨w.heap.size,1,none⟩ = some (.slice (some ⟨b2,off,none⟩) ra.length cc):=by rw [hW0];simp
 have y:∀ j v,(#[Value.int .i64 k,.string tt,.string aa,.string n,.int .i64 to_,.int .i64 dk,.int .i64 dn,.string ds]:Array Value)[j]? = some v → W0.cell? ⟨w.heap.size + 1,j,none⟩ = some v:=by
  intro j v hv
  rw [hW0]
  have hh:=heap_alloc_new (w.alloc (.cells #[.string tn,.slice (some ⟨b2,off,none⟩) ra.length cc,.slice A2 m2 c2] 44)) (.cells #[.int .i64 k,.string tt,.string aa,.string n,.int .i64 to_,.int .i64 dk,.int .i64 dn,.string ds] 28)
  have hz:(w.alloc (.cells #[.string tn,.slice (some ⟨b2,off,none⟩) ra.length cc,.slice A2 m2 c2] 44)).heap.size = w.heap.size + 1:=by simp
  rw [hz] at hh
  simp only [World.cell?,hh]
  simpa using hv
 have y0:=y 0 _ rfl
 have y1:=y 1 _ rfl
 have y2:=y 2 _ rfl
 have y3:=y 3 _ rfl
 have y4:=y 4 _ rfl
 have y5:=y 5 _ rfl
 have y6:=y 6 _ rfl
 have y7:=y 7 _ rfl
 have c1':=(hs0.cells _ _ blt).trans c1
 have HS0:=Lib.hid hs0
 have k1:=cellr x1
 have k2:=cellr c1'
 have z0:=cellr y0
 have z1:=cellr y1
 have z2:=cellr y2
 have z3:=cellr y3
 have z4:=cellr y4
 have z5:=cellr y5
 have z6:=cellr y6
 have z7:=cellr y7
 have cT:=regr (w:=W0) (fun W _ => HT'.out W)
 clear x1 y y0 y1 y2 y3 y4 y5 y6 y7 c1 c1' hs0 blt
 go_enter Tryz.func115,Tryz.ntmps115
 go_wp2_with fail
 rw [← hW0]
 clear hW0
 cases b with
 | false =>
  refine wp_region_quiet_below (by kernel_rfl) (by kernel_rfl) ?_
  repeat (go_big_quiet_step (first | (go_at_call 101;exact cT _ _)))
  refine wpQuiet_nil ?_
  intro _ hw'
  obtain ⟨⟨dq,osq⟩,hw''⟩:=hw'
  subst hw''
  have S1:=Lib.hid (Same.reg W0 dq osq)
  generalize Sort.grow (redrawn W0 dq) osq = w1 at S1 ⊢
  go_wp2
  go_ret
  exact ⟨ret_int HE.out.symm,HS0.out.trans S1.out⟩
 | true =>
  by_cases hq:q = to_
  ·have t1:(q == to_) = true:=by simp [hq]
   have HQ:=Lib.hid hq
   clear hq
   refine wp_region_quiet_below (by kernel_rfl) (by kernel_rfl) ?_
   repeat (go_big_quiet_step (first | (go_at_call 101;exact cT _ _)))
   refine wpQuiet_nil ?_
   intro _ hw'
   obtain ⟨⟨dq,osq⟩,hw''⟩:=hw'
   subst hw''
   have S1:=Lib.hid (Same.reg W0 dq osq)
   generalize Sort.grow (redrawn W0 dq) osq = w1 at S1 ⊢
   go_wp2
   go_ret
   exact ⟨ret_int (by rw [HE.out];simp [HQ.out]),HS0.out.trans S1.out⟩
  ·have t1:(q == to_) = false:=by simp [hq]
   have HQ:=Lib.hid hq
   clear hq
   refine wp_region_quiet_below (by kernel_rfl) (by kernel_rfl) ?_
   repeat (go_big_quiet_step (first | (go_at_call 101;exact cT _ _)))
   refine wpQuiet_nil ?_
   intro _ hw'
   obtain ⟨⟨dq,osq⟩,hw''⟩:=hw'
   subst hw''
   have S1:=Lib.hid (Same.reg W0 dq osq)
   generalize Sort.grow (redrawn W0 dq) osq = w1 at S1 ⊢
   go_wp2
   go_ret
   exact ⟨ret_int (by rw [HE.out];simp [HQ.out]),HS0.out.trans S1.out⟩
end Go.Proofs.YtfifnemnihcijaaGreatDoor

import Derived.Test.YtfifnemnihcijaaGreatDoorKTi
import Derived.Test.YtfifnemnihcijaaGreatDoorKTb
import Derived.Test.YtfifnemnihcijaaGreatDoorKVp
set_option linter.unusedSimpArgs false
set_option linter.unusedVariables false
set_option maxHeartbeats 16000000
set_option maxRecDepth 100000
namespace Go.Proofs.YtfifnemnihcijaaGreatDoor
open Go.RowKit
theorem ready_of {w:World} {t:RT} (a:TbAt w t) (few:∀ r ∈ t.ra,r.at_.was.length ≤ 1000000) (r:Right t.tb):Ready w t:=by
 have hl:t.tb.attrs.length = t.ra.length:=by simp [RT.tb]
 refine ⟨a.1.2,a.2.2,?_,r.klen,?_,few⟩
 ·have:=r.l12;omega
 ·intro q hq
  obtain ⟨j,hj,rfl⟩:=List.mem_iff_getElem.1 hq
  have:=(keyAt_iff.1 (r.key j hj)).1
  have h12:=r.l12
  have e:t.tb.key.getD j 0 = t.key[j]:=by show t.key.getD j 0 = _;rw [List.getD_eq_getElem?_getD,List.getElem?_eq_getElem hj];rfl
  rw [e] at this
  omega
theorem Ready.congr {w:World} {t t':RT} (R:Ready w t) (h1:t'.name = t.name) (h2:t'.ra = t.ra) (h3:t'.key = t.key):Ready w t':=
 ⟨by rw [h2];exact R.ras,by rw [h1];exact R.nm,by rw [h2];exact R.al,by rw [h3];exact R.kl,by rw [h3];exact R.kb,by rw [h2];exact R.few⟩
theorem tb_congr {t t':RT} (h1:t'.name = t.name) (h2:t'.ra = t.ra) (h3:t'.key = t.key):t'.tb = t.tb:=by
 unfold RT.tb;rw [h1,h2,h3]
theorem apply_ok (h:Hd) (ts:List RT) (c:Cg) (w:World) (a:TabsAt w h ts) (few:Few ts) (hn:okS c.name) (hd:okS c.dflt.s) :
  Calls Tryz.prog 7 #[.agg #[h.val],c.val] w fun e w' => ApplyOut (applyS (ts.map RT.tb) c) (errOf (ts.map RT.tb) c) w' e ∧ Same w w':=by
 by_cases hE:errOf (ts.map RT.tb) c = 0
 ·obtain ⟨hf,hv,q,hq',hfi,hnm,hc,hch⟩:=errOf_zero hE
  have hq:q < ts.length:=by simpa using hq'
  have e3:(ts.map RT.tb)[q] = ts[q].tb:=by simp
  rw [e3] at hc hch hnm
  obtain ⟨hl20,hright⟩:=valid_iff.1 hv
  have hl:ts.length ≤ 20:=by simpa using hl20
  have r:=(hright q hq').1
  rw [e3] at r
  have hti:=a.2 _ (List.getElem_mem hq)
  have R:=ready_of hti (few _ (List.getElem_mem hq)) r
  have al:ts[q].tb.attrs.length = ts[q].ra.length:=by simp [RT.tb]
  have hcl:=(colA_lt ts[q].tb.attrs c.attr).2
  have fin:∀ e w',(∃ (h':Hd) (ts':List RT),e = .returned (.tuple #[.agg #[h'.val],.int .i64 0]) ∧ TabsAt w' h' ts' ∧ ts'.map RT.tb = (ts.map RT.tb).set q (newT ts[q].tb c) ∧ Same w w') → ApplyOut (applyS (ts.map RT.tb) c) (errOf (ts.map RT.tb) c) w' e ∧ Same w w':=by
   rintro e w' ⟨h',ts',he,hT,hm,s⟩
   refine ⟨.inr ⟨hE,h',ts',he,hT,?_⟩,s⟩
   rw [hm]
   unfold applyS
   rw [hfi,Int.toNat_natCast,← set_modify _ q hq',e3]
  have FO:Rt 37 #[.agg #[h.val],c.val] w (.tuple #[effV c.kind,.int .i64 q,.int .i64 (colA ts[q].tb.attrs c.attr),.int .i64 0]):=by
   intro W s
   refine (find_all h ts c W (a.same s) few hn).mono ?_
   rintro e w' ⟨⟨x,y,he,hxy⟩,s'⟩
   obtain ⟨e1,e2⟩:=hxy hE
   rw [hfi] at e1 e2
   rw [Int.toNat_natCast,List.getElem?_eq_getElem hq] at e2
   rw [he,e1,e2,hE]
   exact ⟨rfl,s'⟩
  have nat:c.kind ≠ 1 → ∃ k:Nat,colA ts[q].tb.attrs c.attr = k ∧ k < ts[q].ra.length:=fun h => ⟨(colA ts[q].tb.attrs c.attr).toNat,(Int.toNat_of_nonneg (hc h)).symm,by have:=hc h;omega⟩
  rcases formed_kind hf with hk | hk | hk | hk
  ·have hv:effV c.kind = .agg #[.bool false,fnV 100,fnV 103,fnV 104]:=by simp [effV,hk,effAdd]
   rw [hv] at FO
   refine (apply_gen _ _ _ rfl rfl rfl 103 (enters_of Tryz.func103 (by kernel_rfl) rfl) h ts c w a hl q hq _ R (newT ts[q].tb c) FO ?_).mono fin
   intro W g cc ts' t h1 h2 h3 S
   have:=table_add c (colA ts[q].tb.attrs c.attr) S (R.congr h1 h2 h3) hk hn hd
   rw [tb_congr h1 h2 h3] at this
   exact this
  ·obtain ⟨k,hk1,hk2⟩:=nat (by omega)
   have hv:effV c.kind = .agg #[.bool true,fnV 105,fnV 107,fnV 109]:=by simp [effV,hk,effDrop]
   rw [hv] at FO
   refine (apply_gen _ _ _ rfl rfl rfl 107 (enters_of Tryz.func107 (by kernel_rfl) rfl) h ts c w a hl q hq _ R (newT ts[q].tb c) FO ?_).mono fin
   intro W g cc ts' t h1 h2 h3 S
   rw [hk1]
   have:=table_drop c k S (R.congr h1 h2 h3) hk (by rw [h2];exact hk2) (by rw [tb_congr h1 h2 h3];exact hk1)
   rw [tb_congr h1 h2 h3] at this
   exact this
  ·obtain ⟨k,hk1,hk2⟩:=nat (by omega)
   have hv:effV c.kind = .agg #[.bool true,fnV 111,fnV 112,fnV 114]:=by simp [effV,hk,effRen]
   rw [hv] at FO
   refine (apply_gen _ _ _ rfl rfl rfl 112 (enters_of Tryz.func112 (by kernel_rfl) rfl) h ts c w a hl q hq _ R (newT ts[q].tb c) FO ?_).mono fin
   intro W g cc ts' t h1 h2 h3 S
   rw [hk1]
   have:=table_ren c k S (R.congr h1 h2 h3) hk (by rw [h2];exact hk2) (by rw [tb_congr h1 h2 h3];exact hk1) hn
   rw [tb_congr h1 h2 h3] at this
   exact this
  ·obtain ⟨k,hk1,hk2⟩:=nat (by omega)
   have hv:effV c.kind = .agg #[.bool true,fnV 115,fnV 116,fnV 117]:=by simp [effV,hk,effCast]
   rw [hv] at FO
   refine (apply_gen _ _ _ rfl rfl rfl 116 (enters_of Tryz.func116 (by kernel_rfl) rfl) h ts c w a hl q hq _ R (newT ts[q].tb c) FO ?_).mono fin
   intro W g cc ts' t h1 h2 h3 S
   rw [hk1]
   have:=table_cast c k S (R.congr h1 h2 h3) hk (by rw [h2];exact hk2) (by rw [tb_congr h1 h2 h3];exact hk1) hd
   rw [tb_congr h1 h2 h3] at this
   exact this
 ·refine (apply_bad h ts c w a few hn hE).mono ?_
  rintro e w' ⟨he,s⟩
  exact ⟨.inl ⟨hE,he⟩,s⟩
theorem V.clen (v:V):v.cells.length = 3:=rfl
theorem V.one (v:V):∀ u ∈ v.cells,u.oneCell' = true:=by
 intro u hu
 simp only [V.cells,List.mem_cons,List.not_mem_nil,or_false] at hu
 rcases hu with rfl | rfl | rfl <;> rfl
theorem drop3_ok (B g n c0 i:Nat) (row:List V) (k to_ dk dn:Int) (tt aa nn ds:ByteArray) (w:World) (hB:B ≤ w.heap.size) (hn:n ≤ 1000000) (hi:i < n) (hl:row.length = n) (own:w.ownsRow B 26 3 (.slice (some ⟨g,0,none⟩) n c0) n (row.flatMap V.cells)) :
  Calls Tryz.prog 109 #[.slice (some ⟨g,0,none⟩) n c0,.agg #[.int .i64 k,.string tt,.string aa,.string nn,.int .i64 to_,.int .i64 dk,.int .i64 dn,.string ds],.int .i64 i] w fun e w' => e = .returned (.tuple #[.slice (some ⟨g,0,none⟩) (n - 1) c0,.int .i64 0]) ∧
   w'.ownsRow B 26 3 (.slice (some ⟨g,0,none⟩) (n - 1) c0) (n - 1) ((row.eraseIdx i).flatMap V.cells) ∧ Below B w w':=by
 have h1:∀ u ∈ row.flatMap V.cells,u.oneCell' = true:=by
  intro u hu
  obtain ⟨r,_,hr⟩:=List.mem_flatMap.1 hu
  exact r.one u hr
 have hgB:=(own.lt g rfl).1
 obtain ⟨bx,hbx⟩:∃ bx,bx = Obj.cells #[.int .i64 k,.string tt,.string aa,.string nn,.int .i64 to_,.int .i64 dk,.int .i64 dn,.string ds] 28:=⟨_,rfl⟩
 have HD:Hid (Calls Tryz.prog 110 #[.slice (some ⟨g,0,none⟩) n c0,.int .i64 i,.int .i64 ((i:Int) + 1)] (w.alloc bx) fun e w' => e = .returned (.slice (some ⟨g,0,none⟩) (n - 1) c0) ∧ w'.ownsRow B 26 3 (.slice (some ⟨g,0,none⟩) (n - 1) c0) (n - 1) ((row.flatMap V.cells).take (i * 3) ++ (row.flatMap V.cells).drop ((i + 1) * 3)) ∧ (w.alloc bx).grownBy w' (some g)):=
  delV_ok B g n c0 i (i + 1) _ (w.alloc bx) (own.alloc bx) h1 hi rfl hn
 rw [flat_erase V.clen row i (by omega)] at HD
 rw [hbx] at HD
 have HB:=Lib.hid hB
 clear own h1 hbx hB
 have hi':(i:Int) + 1 ≤ 1000000:=by omega
 go_enter Tryz.func109,Tryz.ntmps109
 go_wp2_with fail
 refine HD.out.mono ?_
 rintro e w2 ⟨rfl,o2,g2⟩
 have O2:=Lib.hid o2
 have B2:Hid (Below B w w2):=Below.grown ((Below.refl B w).alloc HB.out _) g2 (Nat.le_trans HB.out (by simp)) (fun k hk => by injection hk with hk;omega)
 clear o2 g2
 go_wp2_with fail
 go_ret2
 exact ⟨rfl,O2.out,B2.out⟩
theorem own_set3 {w:World} {B g n c i:Nat} {row:List V} (o:w.ownsRow B 26 3 (.slice (some ⟨g,0,none⟩) n c) n (row.flatMap V.cells)) (hl:row.length = n) (hi:i < n) (v:V) :
  (((w.setCell ⟨g,i * 3,none⟩ (.int .i64 v.k)).setCell ⟨g,i * 3 + 1,none⟩ (.int .i64 v.n)).setCell ⟨g,i * 3 + 2,none⟩ (.string v.s)).ownsRow B 26 3 (.slice (some ⟨g,0,none⟩) n c) n ((row.set i v).flatMap V.cells):=by
 obtain ⟨⟨k0,n0,s0⟩,hr⟩:∃ r,r = row[i]'(by omega):=⟨_,rfl⟩
 have o1:=own_set (y:=(⟨v.k,n0,s0⟩:V)) V.clen o hl i hi 0 (by decide) (.int .i64 v.k) (by rw [← hr];rfl)
 have o2:=own_set (y:=(⟨v.k,v.n,s0⟩:V)) V.clen o1 (by rw [List.length_set];exact hl) i hi 1 (by decide) (.int .i64 v.n) (by rw [List.getElem_set_self];rfl)
 have o3:=own_set (y:=(⟨v.k,v.n,v.s⟩:V)) V.clen o2 (by rw [List.length_set,List.length_set];exact hl) i hi 2 (by decide) (.string v.s) (by rw [List.getElem_set_self];rfl)
 simpa [List.set_set] using o3
def CastOut (B g n c0:Nat) (row:List V) (i:Nat) (p:V × Int) (w w':World) (e:Ending):Prop:=
 (p.2 = 0 ∧ e = .returned (.tuple #[.slice (some ⟨g,0,none⟩) n c0,.int .i64 0]) ∧ w'.ownsRow B 26 3 (.slice (some ⟨g,0,none⟩) n c0) n ((row.set i p.1).flatMap V.cells) ∨
  p.2 ≠ 0 ∧ e = .returned (.tuple #[.slice none 0 0,.int .i64 15])) ∧ Below B w w'
theorem cast3_ok (B g n c0 i:Nat) (row:List V) (k to_ dk dn:Int) (tt aa nn ds:ByteArray) (w:World) (l:Laid w) (hB:B ≤ w.heap.size) (hn:n ≤ 1000000) (hi:i < n) (hl:row.length = n) (own:w.ownsRow B 26 3 (.slice (some ⟨g,0,none⟩) n c0) n (row.flatMap V.cells)) :
  Calls Tryz.prog 117 #[.slice (some ⟨g,0,none⟩) n c0,.agg #[.int .i64 k,.string tt,.string aa,.string nn,.int .i64 to_,.int .i64 dk,.int .i64 dn,.string ds],.int .i64 i] w fun e w' => CastOut B g n c0 row i (castP (row[i]'(by omega)) to_) w w' e:=by
 have hgB:=(own.lt g rfl).1
 have hgl:=(own.lt g rfl).2
 have HC:=Lib.hid (fun W (s:Same w W) => cast_ok (row[i]'(by omega)) to_ W (l.same s))
 have d0:=own_cell V.clen own hl i hi 0 (by decide)
 have d1:=own_cell V.clen own hl i hi 1 (by decide)
 have d2:=own_cell V.clen own hl i hi 2 (by decide)
 have HO:=Lib.hid (fun (W:World) (s:Same w W) => own_set3 (own_same s own) hl hi (castP (row[i]'(by omega)) to_).1)
 obtain ⟨g',cur,hA,_,hk,_⟩:=own_blk own (by omega)
 injection hA with hA
 injection hA with e
 subst e
 have HF:=Lib.hid (fun (W:World) (s:Same w W) (j:Nat) => (s.frees g j hk.lt).trans (hk.frozen j))
 obtain ⟨⟨cv,ce⟩,hcv⟩:∃ p,p = castP (row[i]'(by omega)) to_:=⟨_,rfl⟩
 rw [← hcv] at HC HO ⊢
 obtain ⟨⟨v0,v1,v2⟩,hv⟩:∃ v,v = row[i]'(by omega):=⟨_,rfl⟩
 rw [← hv] at HC d0 d1 d2
 obtain ⟨q0,q1,q2⟩:=cv
 have e0:w.cell? ⟨g,i * 3,none⟩ = some (.int .i64 v0):=d0
 have e1:w.cell? ⟨g,i * 3 + 1,none⟩ = some (.int .i64 v1):=d1
 have e2:w.cell? ⟨g,i * 3 + 2,none⟩ = some (.string v2):=d2
 have HC':Hid (Rt 118 #[.agg #[.int .i64 v0,.int .i64 v1,.string v2],.int .i64 to_] w (.tuple #[.agg #[.int .i64 q0,.int .i64 q1,.string q2],.int .i64 ce])):=HC
 have HO':Hid (∀ W,Same w W → (((W.setCell ⟨g,i * 3,none⟩ (.int .i64 q0)).setCell ⟨g,i * 3 + 1,none⟩ (.int .i64 q1)).setCell ⟨g,i * 3 + 2,none⟩ (.string q2)).ownsRow B 26 3 (.slice (some ⟨g,0,none⟩) n c0) n ((row.set i ⟨q0,q1,q2⟩).flatMap V.cells)):=HO
 clear HO
 have HB:=Lib.hid hB
 have hz:g ≠ w.heap.size:=by omega
 clear own hk hcv hv d0 d1 d2 HC hB l
 by_cases hce:ce = 0
 ·subst hce
  go_enter Tryz.func117,Tryz.ntmps117
  go_wp2_with fail
  go_region_held3 (fun w' => w'.cell? ⟨g,i * 3,none⟩ = some (.int .i64 v0) ∧ w'.cell? ⟨g,i * 3 + 1,none⟩ = some (.int .i64 v1) ∧ w'.cell? ⟨g,i * 3 + 2,none⟩ = some (.string v2) ∧ w'.cell? ⟨w.heap.size,4,none⟩ = some (.int .i64 to_)) (first | (simp [*];done) | (simp [*,cell_drew,cell_far,cell_new',cell_old];done) | ((repeat' apply And.intro) <;> (first | (simp [*];done) | (simp [*,cell_drew,cell_far,cell_new',cell_old];done) | go_keep)))
   (first
   | (go_at_call 118;refine (HC'.out _ ?_).mono ?_;exact (((Same.refl w).alloc _).alloc _).drew;rintro e w1 ⟨rfl,s1⟩;have S1:Hid (Same w w1):=Same.trans ((((Same.refl w).alloc _).alloc _).drew) s1;have hz1:w.heap.size < w1.heap.size:=Nat.lt_of_lt_of_le (by simp [heap_drew] <;> omega) s1.size;have hgl1:g < w1.heap.size:=Nat.lt_of_lt_of_le hgl S1.out.size;have u0:=(S1.out.cells _ _ hgl).trans e0;have u1:=(S1.out.cells _ _ hgl).trans e1;have u2:=(S1.out.cells _ _ hgl).trans e2;have u3:w1.cell? ⟨w.heap.size,4,none⟩ = some (.int .i64 to_):=(s1.cells _ _ (by simp [heap_drew] <;> omega)).trans (by simp [cell_drew]);have fr0:=HF.out w1 S1.out (i * 3);have fr1:=HF.out w1 S1.out (i * 3 + 1);have fr2:=HF.out w1 S1.out (i * 3 + 2);have m0:w1.cell? ⟨w.heap.size + 1,0,none⟩ = some (.int .i64 0):=(s1.cells _ _ (by simp [heap_drew] <;> omega)).trans (by simp [cell_drew]);have f0:w1.frozen? ⟨w.heap.size + 1,0,none⟩ = false:=(s1.frees _ _ (by simp [heap_drew] <;> omega)).trans (by simp);have m1:w1.cell? ⟨w.heap.size + 1,1,none⟩ = some (.int .i64 0):=(s1.cells _ _ (by simp [heap_drew] <;> omega)).trans (by simp [cell_drew]);have f1:w1.frozen? ⟨w.heap.size + 1,1,none⟩ = false:=(s1.frees _ _ (by simp [heap_drew] <;> omega)).trans (by simp);have m2:w1.cell? ⟨w.heap.size + 1,2,none⟩ = some (.string ⟨#[]⟩):=(s1.cells _ _ (by simp [heap_drew] <;> omega)).trans (by simp [cell_drew]);have f2:w1.frozen? ⟨w.heap.size + 1,2,none⟩ = false:=(s1.frees _ _ (by simp [heap_drew] <;> omega)).trans (by simp);have hz2:w.heap.size + 1 < w1.heap.size:=Nat.lt_of_lt_of_le (by simp [heap_drew] <;> omega) s1.size;have hgn:g ≠ w.heap.size + 1:=(by omega);clear s1)
   | (go_at_call 118;refine (HC'.out _ ?_).mono ?_;exact ((Same.refl w).alloc _).drew;rintro e w1 ⟨rfl,s1⟩;have S1:Hid (Same w w1):=Same.trans (((Same.refl w).alloc _).drew) s1;have hz1:w.heap.size < w1.heap.size:=Nat.lt_of_lt_of_le (by simp [heap_drew] <;> omega) s1.size;have hgl1:g < w1.heap.size:=Nat.lt_of_lt_of_le hgl S1.out.size;have u0:=(S1.out.cells _ _ hgl).trans e0;have u1:=(S1.out.cells _ _ hgl).trans e1;have u2:=(S1.out.cells _ _ hgl).trans e2;have u3:w1.cell? ⟨w.heap.size,4,none⟩ = some (.int .i64 to_):=(s1.cells _ _ (by simp [heap_drew] <;> omega)).trans (by simp [cell_drew]);have fr0:=HF.out w1 S1.out (i * 3);have fr1:=HF.out w1 S1.out (i * 3 + 1);have fr2:=HF.out w1 S1.out (i * 3 + 2);clear s1))
  all_goals
   go_wp2_with fail
   go_ret2
   refine ⟨.inl ⟨rfl,rfl,?_⟩,?_⟩
   ·first
     | with_reducible exact (HO'.out w1 S1.out).alloc _
     | ((with_reducible refine HO'.out _ ?_)
        exact ((S1.out.setCell (p:=⟨w.heap.size + 1,0,none⟩) (Nat.le_succ _) _).setCell (p:=⟨w.heap.size + 1,1,none⟩) (Nat.le_succ _) _).setCell (p:=⟨w.heap.size + 1,2,none⟩) (Nat.le_succ _) _)
   ·have hb:=HB.out
    have hz9:=S1.out.size
    repeat (first | (with_reducible refine Below.setCell ?_ (by dsimp only;omega) _) | (with_reducible refine Below.alloc ?_ (by (try simp [World.setCell]);omega) _))
    exact Below.mono S1.out HB.out
 ·have tce:(ce != 0) = true:=by simp;exact hce
  have HCE:=Lib.hid hce
  clear hce
  go_enter Tryz.func117,Tryz.ntmps117
  go_wp2_with fail
  go_region_held3 (fun w' => w'.cell? ⟨g,i * 3,none⟩ = some (.int .i64 v0) ∧ w'.cell? ⟨g,i * 3 + 1,none⟩ = some (.int .i64 v1) ∧ w'.cell? ⟨g,i * 3 + 2,none⟩ = some (.string v2) ∧ w'.cell? ⟨w.heap.size,4,none⟩ = some (.int .i64 to_)) (first | (simp [*];done) | (simp [*,cell_drew,cell_far,cell_new',cell_old];done) | ((repeat' apply And.intro) <;> (first | (simp [*];done) | (simp [*,cell_drew,cell_far,cell_new',cell_old];done) | go_keep)))
   (first
   | (go_at_call 118;refine (HC'.out _ ?_).mono ?_;exact (((Same.refl w).alloc _).alloc _).drew;rintro e w1 ⟨rfl,s1⟩;have S1:Hid (Same w w1):=Same.trans ((((Same.refl w).alloc _).alloc _).drew) s1;have hz1:w.heap.size < w1.heap.size:=Nat.lt_of_lt_of_le (by simp [heap_drew] <;> omega) s1.size;have hgl1:g < w1.heap.size:=Nat.lt_of_lt_of_le hgl S1.out.size;have u0:=(S1.out.cells _ _ hgl).trans e0;have u1:=(S1.out.cells _ _ hgl).trans e1;have u2:=(S1.out.cells _ _ hgl).trans e2;have u3:w1.cell? ⟨w.heap.size,4,none⟩ = some (.int .i64 to_):=(s1.cells _ _ (by simp [heap_drew] <;> omega)).trans (by simp [cell_drew]);have fr0:=HF.out w1 S1.out (i * 3);have fr1:=HF.out w1 S1.out (i * 3 + 1);have fr2:=HF.out w1 S1.out (i * 3 + 2);have m0:w1.cell? ⟨w.heap.size + 1,0,none⟩ = some (.int .i64 0):=(s1.cells _ _ (by simp [heap_drew] <;> omega)).trans (by simp [cell_drew]);have f0:w1.frozen? ⟨w.heap.size + 1,0,none⟩ = false:=(s1.frees _ _ (by simp [heap_drew] <;> omega)).trans (by simp);have m1:w1.cell? ⟨w.heap.size + 1,1,none⟩ = some (.int .i64 0):=(s1.cells _ _ (by simp [heap_drew] <;> omega)).trans (by simp [cell_drew]);have f1:w1.frozen? ⟨w.heap.size + 1,1,none⟩ = false:=(s1.frees _ _ (by simp [heap_drew] <;> omega)).trans (by simp);have m2:w1.cell? ⟨w.heap.size + 1,2,none⟩ = some (.string ⟨#[]⟩):=(s1.cells _ _ (by simp [heap_drew] <;> omega)).trans (by simp [cell_drew]);have f2:w1.frozen? ⟨w.heap.size + 1,2,none⟩ = false:=(s1.frees _ _ (by simp [heap_drew] <;> omega)).trans (by simp);have hz2:w.heap.size + 1 < w1.heap.size:=Nat.lt_of_lt_of_le (by simp [heap_drew] <;> omega) s1.size;have hgn:g ≠ w.heap.size + 1:=(by omega);clear s1)
   | (go_at_call 118;refine (HC'.out _ ?_).mono ?_;exact ((Same.refl w).alloc _).drew;rintro e w1 ⟨rfl,s1⟩;have S1:Hid (Same w w1):=Same.trans (((Same.refl w).alloc _).drew) s1;have hz1:w.heap.size < w1.heap.size:=Nat.lt_of_lt_of_le (by simp [heap_drew] <;> omega) s1.size;have hgl1:g < w1.heap.size:=Nat.lt_of_lt_of_le hgl S1.out.size;have u0:=(S1.out.cells _ _ hgl).trans e0;have u1:=(S1.out.cells _ _ hgl).trans e1;have u2:=(S1.out.cells _ _ hgl).trans e2;have u3:w1.cell? ⟨w.heap.size,4,none⟩ = some (.int .i64 to_):=(s1.cells _ _ (by simp [heap_drew] <;> omega)).trans (by simp [cell_drew]);have fr0:=HF.out w1 S1.out (i * 3);have fr1:=HF.out w1 S1.out (i * 3 + 1);have fr2:=HF.out w1 S1.out (i * 3 + 2);clear s1))
  all_goals
   go_wp2_with fail
   go_ret2
   refine ⟨.inr ⟨HCE.out,rfl⟩,?_⟩
   have hb:=HB.out
   have hz9:=S1.out.size
   repeat (first | (with_reducible refine Below.setCell ?_ (by dsimp only;omega) _) | (with_reducible refine Below.alloc ?_ (by (try simp [World.setCell]);omega) _))
   exact Below.mono S1.out HB.out
end Go.Proofs.YtfifnemnihcijaaGreatDoor

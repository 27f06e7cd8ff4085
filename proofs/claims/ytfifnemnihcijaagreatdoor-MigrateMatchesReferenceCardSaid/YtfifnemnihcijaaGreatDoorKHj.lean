import Derived.Test.YtfifnemnihcijaaGreatDoorKHe
set_option linter.unusedSimpArgs false
set_option linter.unusedVariables false
set_option maxHeartbeats 16000000
set_option maxRecDepth 100000
namespace Go.Proofs.YtfifnemnihcijaaGreatDoor
open Go.RowKit
theorem head43_ok (w:World) (l:Laid w):Calls Tryz.prog 21 #[] w fun e w' => e = .returned (.bool true) ∧ Same w w':=by
 have HL:=Lib.hid l
 clear l
 go_enter Tryz.func21,Tryz.ntmps21
 go_wp2_with fail
 refine (exampleE w).mono ?_
 rintro e w1 ⟨A,n,c,t,rfl,hta,s1⟩
 have HTA:=Lib.hid hta
 have S1:=Lib.hid s1
 clear hta s1
 go_wp2_with fail
 obtain ⟨W2,hW2⟩:∃ W2,W2 = (w1.alloc (.cells #[.slice A n c] 24)).alloc (.cells #[.int .i64 4,.string eT,.string eN,.string ⟨#[]⟩,.int .i64 3,.int .i64 0,.int .i64 0,.string ⟨#[]⟩] 28):=⟨_,rfl⟩
 have S_w_W2:Hid (Same w W2):=by rw [hW2];exact Lib.hid (S1.out.trans (two_new w1 _ _ _ _).1)
 have Bs:Blk W2 w1.heap.size 24 #[.slice A n c]:=by rw [hW2];exact (two_new w1 _ _ _ _).2.1
 have Bc:Blk W2 (w1.heap.size + 1) 28 #[.int .i64 4,.string eT,.string eN,.string ⟨#[]⟩,.int .i64 3,.int .i64 0,.int .i64 0,.string ⟨#[]⟩]:=by rw [hW2];exact (two_new w1 _ _ _ _).2.2
 have HT2:Hid (TabsAt W2 ⟨A,n,c⟩ [t] ∧ t.tb = exTb):=⟨HTA.out.1.same (by rw [hW2];exact (two_new w1 _ _ _ _).1),HTA.out.2⟩
 rw [← hW2]
 clear hW2 HTA S1
 have lS_W2:=Bs.lt
 have lC_W2:=Bc.lt
 have ks_W2:W2.cell? ⟨w1.heap.size,0,none⟩ = some (.slice A n c):=Bs.cell 0
 have k0_W2:W2.cell? ⟨w1.heap.size + 1,0,none⟩ = some (.int .i64 4):=Bc.cell 0
 have k1_W2:W2.cell? ⟨w1.heap.size + 1,1,none⟩ = some (.string eT):=Bc.cell 1
 have k2_W2:W2.cell? ⟨w1.heap.size + 1,2,none⟩ = some (.string eN):=Bc.cell 2
 have k3_W2:W2.cell? ⟨w1.heap.size + 1,3,none⟩ = some (.string ⟨#[]⟩):=Bc.cell 3
 have k4_W2:W2.cell? ⟨w1.heap.size + 1,4,none⟩ = some (.int .i64 3):=Bc.cell 4
 have k5_W2:W2.cell? ⟨w1.heap.size + 1,5,none⟩ = some (.int .i64 0):=Bc.cell 5
 have k6_W2:W2.cell? ⟨w1.heap.size + 1,6,none⟩ = some (.int .i64 0):=Bc.cell 6
 have k7_W2:W2.cell? ⟨w1.heap.size + 1,7,none⟩ = some (.string ⟨#[]⟩):=Bc.cell 7
 clear Bs Bc
 have RX:Hid (∀ W,Same W2 W → Calls Tryz.prog 56 #[.string ⟨#[120]⟩,.int .i64 1] W fun e w' => ∃ (b m c:Nat),e = .returned (.slice (some ⟨b,0,none⟩) m c) ∧ RowAt w' ⟨some ⟨b,0,none⟩,m,c⟩ (rowE bX 1) ∧ Same W w'):=Lib.hid fun W _ => (rowB bX 1 W (by decide)).mono fun e w' ⟨b,m,c,he,hr,s⟩ => ⟨b,m,c,he,hr.1,s⟩
 have RY:Hid (∀ W,Same W2 W → Calls Tryz.prog 56 #[.string ⟨#[121]⟩,.int .i64 200000] W fun e w' => ∃ (b m c:Nat),e = .returned (.slice (some ⟨b,0,none⟩) m c) ∧ RowAt w' ⟨some ⟨b,0,none⟩,m,c⟩ (rowE bY 200000) ∧ Same W w'):=Lib.hid fun W _ => (rowB bY 200000 W (by decide)).mono fun e w' ⟨b,m,c,he,hr,s⟩ => ⟨b,m,c,he,hr.1,s⟩
 have RZ:Hid (∀ W,Same W2 W → Calls Tryz.prog 56 #[.string ⟨#[122]⟩,.int .i64 3] W fun e w' => ∃ (b m c:Nat),e = .returned (.slice (some ⟨b,0,none⟩) m c) ∧ RowAt w' ⟨some ⟨b,0,none⟩,m,c⟩ (rowE bZ 3) ∧ Same W w'):=Lib.hid fun W _ => (rowB bZ 3 W (by decide)).mono fun e w' ⟨b,m,c,he,hr,s⟩ => ⟨b,m,c,he,hr.1,s⟩
 have ST1:Hid (∀ (wo W:World) (bp mp cp bq mq cq bv mv cv:Nat),Same W2 wo → RowAt wo ⟨some ⟨bp,0,none⟩,mp,cp⟩ (rowE bX 1) → RowAt wo ⟨some ⟨bq,0,none⟩,mq,cq⟩ (rowE bY 200000) → RowAt wo ⟨some ⟨bv,0,none⟩,mv,cv⟩ (rowE bZ 3) → Same wo W → Blk W wo.heap.size 29 #[.slice (some ⟨bp,0,none⟩) mp cp,.slice (some ⟨bq,0,none⟩) mq cq,.slice (some ⟨bv,0,none⟩) mv cv] → Blk W (wo.heap.size + 1) 99 #[.slice (some ⟨wo.heap.size,0,none⟩) 3 3] →
   Calls Tryz.prog 23 #[.agg #[.slice A n c],.agg #[.int .i64 4,.string eT,.string eN,.string ⟨#[]⟩,.int .i64 3,.int .i64 0,.int .i64 0,.string ⟨#[]⟩],.slice (some ⟨wo.heap.size + 1,0,none⟩) 1 1] W fun e w' => ∃ g:Nat,e = .returned (.tuple #[.pointer (some ⟨g,0,none⟩),.int .i64 0]) ∧ LiveM W2 w' g M1):=Lib.hid fun wo W bp mp cp bq mq cq bv mv cv sz rp rq rv s b b' =>
  start_ex (V:=W2) (HL.out.same S_w_W2.out) (HT2.out.1) (HT2.out.2) sz s [⟨⟨some ⟨bp,0,none⟩,mp,cp⟩,rowE bX 1⟩,⟨⟨some ⟨bq,0,none⟩,mq,cq⟩,rowE bY 200000⟩,⟨⟨some ⟨bv,0,none⟩,mv,cv⟩,rowE bZ 3⟩] (fun r hr => by
   simp only [List.mem_cons,List.not_mem_nil,or_false] at hr
   rcases hr with rfl | rfl | rfl <;> assumption) (show (3:Nat) ≤ 1000000 by decide) b b' f_st1
 go_region_held3 (fun w' => w'.cell? ⟨w1.heap.size,0,none⟩ = some (.slice A n c) ∧ w'.cell? ⟨w1.heap.size + 1,0,none⟩ = some (.int .i64 4) ∧ w'.cell? ⟨w1.heap.size + 1,1,none⟩ = some (.string eT) ∧ w'.cell? ⟨w1.heap.size + 1,2,none⟩ = some (.string eN) ∧ w'.cell? ⟨w1.heap.size + 1,3,none⟩ = some (.string ⟨#[]⟩) ∧ w'.cell? ⟨w1.heap.size + 1,4,none⟩ = some (.int .i64 3) ∧ w'.cell? ⟨w1.heap.size + 1,5,none⟩ = some (.int .i64 0) ∧ w'.cell? ⟨w1.heap.size + 1,6,none⟩ = some (.int .i64 0) ∧ w'.cell? ⟨w1.heap.size + 1,7,none⟩ = some (.string ⟨#[]⟩)) (first | (simp [*];done) | (simp [*,cell_drew,cell_old];done) | ((repeat' apply And.intro) <;> (first | assumption | (simp [*,cell_drew,cell_old];done) | go_keep)))
  ((first
    | (go_at_call 56;(with_reducible refine (RX.out _ ?_).mono ?_);(first | exact (Same.refl W2).drew | exact (Same.refl W2));rintro e wp ⟨bp,mp,cp,rfl,rp,sp⟩;have S_wp:Hid (Same W2 wp):=(((Same.refl W2).drew).trans sp);have ks_wp:=(S_wp.out.cells _ 0 lS_W2).trans ks_W2;have k0_wp:=(S_wp.out.cells _ 0 lC_W2).trans k0_W2;have k1_wp:=(S_wp.out.cells _ 1 lC_W2).trans k1_W2;have k2_wp:=(S_wp.out.cells _ 2 lC_W2).trans k2_W2;have k3_wp:=(S_wp.out.cells _ 3 lC_W2).trans k3_W2;have k4_wp:=(S_wp.out.cells _ 4 lC_W2).trans k4_W2;have k5_wp:=(S_wp.out.cells _ 5 lC_W2).trans k5_W2;have k6_wp:=(S_wp.out.cells _ 6 lC_W2).trans k6_W2;have k7_wp:=(S_wp.out.cells _ 7 lC_W2).trans k7_W2;have lS_wp:w1.heap.size < wp.heap.size:=Nat.lt_of_lt_of_le lS_W2 (S_wp.out).size;have lC_wp:w1.heap.size + 1 < wp.heap.size:=Nat.lt_of_lt_of_le lC_W2 (S_wp.out).size;have Rp:=Lib.hid rp;clear sp rp)
    | (go_at_call 56;(with_reducible refine (RY.out _ ?_).mono ?_);(first | exact S_wp.out | exact S_wp.out.drew);rintro e wq ⟨bq,mq,cq,rfl,rq,sq⟩;have S_wq:Hid (Same W2 wq):=((S_wp.out).trans sq);have ks_wq:=(S_wq.out.cells _ 0 lS_W2).trans ks_W2;have k0_wq:=(S_wq.out.cells _ 0 lC_W2).trans k0_W2;have k1_wq:=(S_wq.out.cells _ 1 lC_W2).trans k1_W2;have k2_wq:=(S_wq.out.cells _ 2 lC_W2).trans k2_W2;have k3_wq:=(S_wq.out.cells _ 3 lC_W2).trans k3_W2;have k4_wq:=(S_wq.out.cells _ 4 lC_W2).trans k4_W2;have k5_wq:=(S_wq.out.cells _ 5 lC_W2).trans k5_W2;have k6_wq:=(S_wq.out.cells _ 6 lC_W2).trans k6_W2;have k7_wq:=(S_wq.out.cells _ 7 lC_W2).trans k7_W2;have lS_wq:w1.heap.size < wq.heap.size:=Nat.lt_of_lt_of_le lS_W2 (S_wq.out).size;have lC_wq:w1.heap.size + 1 < wq.heap.size:=Nat.lt_of_lt_of_le lC_W2 (S_wq.out).size;have Rq:=Lib.hid rq;have Rp:=Lib.hid (Rp.out.same sq);clear sq rq)
    | (go_at_call 56;(with_reducible refine (RZ.out _ ?_).mono ?_);(first | exact S_wq.out | exact S_wq.out.drew);rintro e wv ⟨bv,mv,cv,rfl,rv,sv⟩;have S_wv:Hid (Same W2 wv):=((S_wq.out).trans sv);have ks_wv:=(S_wv.out.cells _ 0 lS_W2).trans ks_W2;have k0_wv:=(S_wv.out.cells _ 0 lC_W2).trans k0_W2;have k1_wv:=(S_wv.out.cells _ 1 lC_W2).trans k1_W2;have k2_wv:=(S_wv.out.cells _ 2 lC_W2).trans k2_W2;have k3_wv:=(S_wv.out.cells _ 3 lC_W2).trans k3_W2;have k4_wv:=(S_wv.out.cells _ 4 lC_W2).trans k4_W2;have k5_wv:=(S_wv.out.cells _ 5 lC_W2).trans k5_W2;have k6_wv:=(S_wv.out.cells _ 6 lC_W2).trans k6_W2;have k7_wv:=(S_wv.out.cells _ 7 lC_W2).trans k7_W2;have lS_wv:w1.heap.size < wv.heap.size:=Nat.lt_of_lt_of_le lS_W2 (S_wv.out).size;have lC_wv:w1.heap.size + 1 < wv.heap.size:=Nat.lt_of_lt_of_le lC_W2 (S_wv.out).size;have Rv:=Lib.hid rv;have Rp:=Lib.hid (Rp.out.same sv);have Rq:=Lib.hid (Rq.out.same sv);clear sv rv;have zS:w1.heap.size ≠ wv.heap.size:=Nat.ne_of_lt lS_wv;have zS1:w1.heap.size ≠ wv.heap.size + 1:=(by omega);have zC:w1.heap.size + 1 ≠ wv.heap.size:=Nat.ne_of_lt lC_wv;have zC1:w1.heap.size + 1 ≠ wv.heap.size + 1:=(by omega);have lS1:w1.heap.size < wv.heap.size + 1:=(by omega))
    | (go_at_call 23;refine (ST1.out wv _ bp mp cp bq mq cq bv mv cv S_wv.out Rp.out Rq.out Rv.out (by first | exact (two_new wv _ _ _ _).1 | exact (two_new wv _ _ _ _).1.drew) (by exact (two_new wv _ _ _ _).2.1) (by exact (two_new wv _ _ _ _).2.2)).mono ?_;rintro e w3 ⟨g1,rfl,lv⟩;have LV_w3:=Lib.hid lv;have ks_w3:=(LV_w3.out.same.cells _ 0 lS_W2).trans ks_W2;have k0_w3:=(LV_w3.out.same.cells _ 0 lC_W2).trans k0_W2;have k1_w3:=(LV_w3.out.same.cells _ 1 lC_W2).trans k1_W2;have k2_w3:=(LV_w3.out.same.cells _ 2 lC_W2).trans k2_W2;have k3_w3:=(LV_w3.out.same.cells _ 3 lC_W2).trans k3_W2;have k4_w3:=(LV_w3.out.same.cells _ 4 lC_W2).trans k4_W2;have k5_w3:=(LV_w3.out.same.cells _ 5 lC_W2).trans k5_W2;have k6_w3:=(LV_w3.out.same.cells _ 6 lC_W2).trans k6_W2;have k7_w3:=(LV_w3.out.same.cells _ 7 lC_W2).trans k7_W2;have lS_w3:w1.heap.size < w3.heap.size:=Nat.lt_of_lt_of_le lS_W2 (LV_w3.out.same).size;have lC_w3:w1.heap.size + 1 < w3.heap.size:=Nat.lt_of_lt_of_le lC_W2 (LV_w3.out.same).size;clear lv)))
 all_goals
  clear ks_wp k0_wp k1_wp k2_wp k3_wp k4_wp k5_wp k6_wp k7_wp ks_wq k0_wq k1_wq k2_wq k3_wq k4_wq k5_wq k6_wq k7_wq ks_wv k0_wv k1_wv k2_wv k3_wv k4_wv k5_wv k6_wv k7_wv ks_w3 k0_w3 k1_w3 k2_w3 k3_w3 k4_w3 k5_w3 k6_w3 k7_w3 RX RY RZ ST1
  go_wp2_with fail
  refine (LV_w3.out.stepL 1 2 0 f_len.1.1 (by decide) f_1.1 f_1.2.1).mono ?_
  rintro e w4 ⟨rfl,lv⟩
  have LV4:Hid (LiveM W2 w4 g1 M1a):=lv
  clear lv
  go_wp2_with fail
  refine (LV4.out.stepL 1 2 15 f_len.1.2.1 (by decide) f_1.2.2.1 f_1.2.2.2.1).mono ?_
  rintro e w5 ⟨rfl,lv⟩
  have LV5:Hid (LiveM W2 w5 g1 M1b):=lv
  clear lv
  go_wp2_with fail
  refine (LV5.out.finishEL 15 f_1.2.2.2.2.1 (by decide)).mono ?_
  rintro e w6 ⟨rfl,lv⟩
  have LV6:Hid (LiveM W2 w6 g1 M1b):=lv
  clear lv
  go_wp2_with fail
  obtain ⟨W7,hW7⟩:∃ W7,W7 = w6.alloc (.cells #[.slice none 0 0] 24):=⟨_,rfl⟩
  have LV7:Hid (LiveM W2 W7 g1 M1b):=by rw [hW7];exact Lib.hid (LV6.out.next ((Same.refl _).alloc _))
  rw [← hW7]
  clear hW7
  refine (LV7.out.abandonL (by rw [f_tabs1];exact few_ex1) f_1.2.2.2.2.2 [rowE bX 1,rowE bY 200000,rowE bZ 3] f_tabs1).mono ?_
  rintro e w8 ⟨go1,cg1,Bo,d1,rfl,ho,lv⟩
  have HOLD:Hid (w8.cell? ⟨go1,0,none⟩ = some (.slice Bo 3 d1) ∧ go1 < w8.heap.size):=ho
  have S_W2_w8:Hid (Same W2 w8):=lv.same
  have S_w_w8:Hid (Same w w8):=S_w_W2.out.trans S_W2_w8.out
  have HT8:Hid (TabsAt w8 ⟨A,n,c⟩ [t] ∧ t.tb = exTb):=⟨HT2.out.1.same S_W2_w8.out,HT2.out.2⟩
  have ks_w8:=(S_W2_w8.out.cells _ 0 lS_W2).trans ks_W2
  have k0_w8:=(S_W2_w8.out.cells _ 0 lC_W2).trans k0_W2
  have k1_w8:=(S_W2_w8.out.cells _ 1 lC_W2).trans k1_W2
  have k2_w8:=(S_W2_w8.out.cells _ 2 lC_W2).trans k2_W2
  have k3_w8:=(S_W2_w8.out.cells _ 3 lC_W2).trans k3_W2
  have k4_w8:=(S_W2_w8.out.cells _ 4 lC_W2).trans k4_W2
  have k5_w8:=(S_W2_w8.out.cells _ 5 lC_W2).trans k5_W2
  have k6_w8:=(S_W2_w8.out.cells _ 6 lC_W2).trans k6_W2
  have k7_w8:=(S_W2_w8.out.cells _ 7 lC_W2).trans k7_W2
  have lS_w8:w1.heap.size < w8.heap.size:=Nat.lt_of_lt_of_le lS_W2 (S_W2_w8.out).size
  have lC_w8:w1.heap.size + 1 < w8.heap.size:=Nat.lt_of_lt_of_le lC_W2 (S_W2_w8.out).size
  clear ks_W2 k0_W2 k1_W2 k2_W2 k3_W2 k4_W2 k5_W2 k6_W2 k7_W2 ho lv LV4 LV5 LV6 LV7
  have RX8:Hid (∀ W,Same w8 W → Calls Tryz.prog 56 #[.string ⟨#[120]⟩,.int .i64 1] W fun e w' => ∃ (b m c:Nat),e = .returned (.slice (some ⟨b,0,none⟩) m c) ∧ RowAt w' ⟨some ⟨b,0,none⟩,m,c⟩ (rowE bX 1) ∧ Same W w'):=Lib.hid fun W _ => (rowB bX 1 W (by decide)).mono fun e w' ⟨b,m,c,he,hr,s⟩ => ⟨b,m,c,he,hr.1,s⟩
  have RZ8:Hid (∀ W,Same w8 W → Calls Tryz.prog 56 #[.string ⟨#[122]⟩,.int .i64 3] W fun e w' => ∃ (b m c:Nat),e = .returned (.slice (some ⟨b,0,none⟩) m c) ∧ RowAt w' ⟨some ⟨b,0,none⟩,m,c⟩ (rowE bZ 3) ∧ Same W w'):=Lib.hid fun W _ => (rowB bZ 3 W (by decide)).mono fun e w' ⟨b,m,c,he,hr,s⟩ => ⟨b,m,c,he,hr.1,s⟩
  have ST2:Hid (∀ (wo W:World) (bx mx cx bz mz cz:Nat),Same w8 wo → RowAt wo ⟨some ⟨bx,0,none⟩,mx,cx⟩ (rowE bX 1) → RowAt wo ⟨some ⟨bz,0,none⟩,mz,cz⟩ (rowE bZ 3) → Same wo W → Blk W wo.heap.size 29 #[.slice (some ⟨bx,0,none⟩) mx cx,.slice (some ⟨bz,0,none⟩) mz cz] → Blk W (wo.heap.size + 1) 99 #[.slice (some ⟨wo.heap.size,0,none⟩) 2 2] →
    Calls Tryz.prog 23 #[.agg #[.slice A n c],.agg #[.int .i64 4,.string eT,.string eN,.string ⟨#[]⟩,.int .i64 3,.int .i64 0,.int .i64 0,.string ⟨#[]⟩],.slice (some ⟨wo.heap.size + 1,0,none⟩) 1 1] W fun e w' => ∃ g:Nat,e = .returned (.tuple #[.pointer (some ⟨g,0,none⟩),.int .i64 0]) ∧ LiveM w8 w' g M2):=Lib.hid fun wo W bx mx cx bz mz cz sz rx rz s b b' =>
   start_ex (V:=w8) (HL.out.same S_w_w8.out) (HT8.out.1) (HT8.out.2) sz s [⟨⟨some ⟨bx,0,none⟩,mx,cx⟩,rowE bX 1⟩,⟨⟨some ⟨bz,0,none⟩,mz,cz⟩,rowE bZ 3⟩] (fun r hr => by
    simp only [List.mem_cons,List.not_mem_nil,or_false] at hr
    rcases hr with rfl | rfl <;> assumption) (show (2:Nat) ≤ 1000000 by decide) b b' f_st2
  go_wp2_with fail
  go_region_held3 (fun w' => w'.cell? ⟨w1.heap.size,0,none⟩ = some (.slice A n c) ∧ w'.cell? ⟨w1.heap.size + 1,0,none⟩ = some (.int .i64 4) ∧ w'.cell? ⟨w1.heap.size + 1,1,none⟩ = some (.string eT) ∧ w'.cell? ⟨w1.heap.size + 1,2,none⟩ = some (.string eN) ∧ w'.cell? ⟨w1.heap.size + 1,3,none⟩ = some (.string ⟨#[]⟩) ∧ w'.cell? ⟨w1.heap.size + 1,4,none⟩ = some (.int .i64 3) ∧ w'.cell? ⟨w1.heap.size + 1,5,none⟩ = some (.int .i64 0) ∧ w'.cell? ⟨w1.heap.size + 1,6,none⟩ = some (.int .i64 0) ∧ w'.cell? ⟨w1.heap.size + 1,7,none⟩ = some (.string ⟨#[]⟩)) (first | (simp [*];done) | (simp [*,cell_drew,cell_old];done) | ((repeat' apply And.intro) <;> (first | assumption | (simp [*,cell_drew,cell_old];done) | go_keep)))
   ((first
     | (go_at_call 56;(with_reducible refine (RX8.out _ ?_).mono ?_);(first | exact (Same.refl w8).drew | exact (Same.refl w8));rintro e wx ⟨bx,mx,cx,rfl,rx,sx⟩;have S_wx:Hid (Same w8 wx):=(((Same.refl w8).drew).trans sx);have ks_wx:=(S_wx.out.cells _ 0 lS_w8).trans ks_w8;have k0_wx:=(S_wx.out.cells _ 0 lC_w8).trans k0_w8;have k1_wx:=(S_wx.out.cells _ 1 lC_w8).trans k1_w8;have k2_wx:=(S_wx.out.cells _ 2 lC_w8).trans k2_w8;have k3_wx:=(S_wx.out.cells _ 3 lC_w8).trans k3_w8;have k4_wx:=(S_wx.out.cells _ 4 lC_w8).trans k4_w8;have k5_wx:=(S_wx.out.cells _ 5 lC_w8).trans k5_w8;have k6_wx:=(S_wx.out.cells _ 6 lC_w8).trans k6_w8;have k7_wx:=(S_wx.out.cells _ 7 lC_w8).trans k7_w8;have lS_wx:w1.heap.size < wx.heap.size:=Nat.lt_of_lt_of_le lS_w8 (S_wx.out).size;have lC_wx:w1.heap.size + 1 < wx.heap.size:=Nat.lt_of_lt_of_le lC_w8 (S_wx.out).size;have Rx:=Lib.hid rx;clear sx rx)
     | (go_at_call 56;(with_reducible refine (RZ8.out _ ?_).mono ?_);(first | exact S_wx.out | exact S_wx.out.drew);rintro e wz ⟨bz,mz,cz,rfl,rz,sz⟩;have S_wz:Hid (Same w8 wz):=((S_wx.out).trans sz);have ks_wz:=(S_wz.out.cells _ 0 lS_w8).trans ks_w8;have k0_wz:=(S_wz.out.cells _ 0 lC_w8).trans k0_w8;have k1_wz:=(S_wz.out.cells _ 1 lC_w8).trans k1_w8;have k2_wz:=(S_wz.out.cells _ 2 lC_w8).trans k2_w8;have k3_wz:=(S_wz.out.cells _ 3 lC_w8).trans k3_w8;have k4_wz:=(S_wz.out.cells _ 4 lC_w8).trans k4_w8;have k5_wz:=(S_wz.out.cells _ 5 lC_w8).trans k5_w8;have k6_wz:=(S_wz.out.cells _ 6 lC_w8).trans k6_w8;have k7_wz:=(S_wz.out.cells _ 7 lC_w8).trans k7_w8;have lS_wz:w1.heap.size < wz.heap.size:=Nat.lt_of_lt_of_le lS_w8 (S_wz.out).size;have lC_wz:w1.heap.size + 1 < wz.heap.size:=Nat.lt_of_lt_of_le lC_w8 (S_wz.out).size;have Rz:=Lib.hid rz;have Rx:=Lib.hid (Rx.out.same sz);clear sz rz;have zS:w1.heap.size ≠ wz.heap.size:=Nat.ne_of_lt lS_wz;have zS1:w1.heap.size ≠ wz.heap.size + 1:=(by omega);have zC:w1.heap.size + 1 ≠ wz.heap.size:=Nat.ne_of_lt lC_wz;have zC1:w1.heap.size + 1 ≠ wz.heap.size + 1:=(by omega);have lS1:w1.heap.size < wz.heap.size + 1:=(by omega))
     | (go_at_call 23;refine (ST2.out wz _ bx mx cx bz mz cz S_wz.out Rx.out Rz.out (by first | exact (two_new wz _ _ _ _).1 | exact (two_new wz _ _ _ _).1.drew) (by exact (two_new wz _ _ _ _).2.1) (by exact (two_new wz _ _ _ _).2.2)).mono ?_;rintro e w9 ⟨g2,rfl,lv⟩;have LV_w9:=Lib.hid lv;have ks_w9:=(LV_w9.out.same.cells _ 0 lS_w8).trans ks_w8;have k0_w9:=(LV_w9.out.same.cells _ 0 lC_w8).trans k0_w8;have k1_w9:=(LV_w9.out.same.cells _ 1 lC_w8).trans k1_w8;have k2_w9:=(LV_w9.out.same.cells _ 2 lC_w8).trans k2_w8;have k3_w9:=(LV_w9.out.same.cells _ 3 lC_w8).trans k3_w8;have k4_w9:=(LV_w9.out.same.cells _ 4 lC_w8).trans k4_w8;have k5_w9:=(LV_w9.out.same.cells _ 5 lC_w8).trans k5_w8;have k6_w9:=(LV_w9.out.same.cells _ 6 lC_w8).trans k6_w8;have k7_w9:=(LV_w9.out.same.cells _ 7 lC_w8).trans k7_w8;have lS_w9:w1.heap.size < w9.heap.size:=Nat.lt_of_lt_of_le lS_w8 (LV_w9.out.same).size;have lC_w9:w1.heap.size + 1 < w9.heap.size:=Nat.lt_of_lt_of_le lC_w8 (LV_w9.out.same).size;clear lv)))
  all_goals
   clear ks_wx k0_wx k1_wx k2_wx k3_wx k4_wx k5_wx k6_wx k7_wx ks_wz k0_wz k1_wz k2_wz k3_wz k4_wz k5_wz k6_wz k7_wz ks_w9 k0_w9 k1_w9 k2_w9 k3_w9 k4_w9 k5_w9 k6_w9 k7_w9 ks_w8 k0_w8 k1_w8 k2_w8 k3_w8 k4_w8 k5_w8 k6_w8 k7_w8 RX8 RZ8 ST2
   go_wp2_with fail
   refine (LV_w9.out.finishEL 12 f_2.1 (by decide)).mono ?_
   rintro e w10 ⟨rfl,lv⟩
   have LV10:Hid (LiveM w8 w10 g2 M2):=lv
   clear lv
   go_wp2_with fail
   obtain ⟨W11,hW11⟩:∃ W11,W11 = w10.alloc (.cells #[.slice none 0 0] 24):=⟨_,rfl⟩
   have LV11:Hid (LiveM w8 W11 g2 M2):=by rw [hW11];exact Lib.hid (LV10.out.next ((Same.refl _).alloc _))
   rw [← hW11]
   clear hW11
   obtain ⟨sa,hsa⟩:∃ sa,sa = (M2.stepN 1:Int):=⟨_,rfl⟩
   obtain ⟨sb,hsb⟩:∃ sb,sb = M2.stepE 1:=⟨_,rfl⟩
   have C12:=Lib.hid (LV11.out.stepL 1 sa sb f_len.1.2.2.1 (by decide) hsa.symm hsb.symm)
   clear hsa hsb
   refine C12.out.mono ?_
   rintro e w12 ⟨rfl,lv⟩
   have LV12:Hid (LiveM w8 w12 g2 M2a):=lv
   clear lv C12
   go_wp2_with fail
   refine (rowB bW 4 w12 (by decide)).mono ?_
   rintro e w13 ⟨bw,mw,cw,rfl,⟨hr,cs,hb⟩,s13⟩
   have LV13:Hid (LiveM w8 w13 g2 M2a):=LV12.out.next s13
   have C14:=Lib.hid (LV13.out.putL hr hb 0 0 (fun rows h => by have:=List.all_eq_true.1 f_len.2.2.2 rows h;simpa using this) f_2.2.1)
   clear hr hb s13
   go_wp2_with fail
   refine C14.out.mono ?_
   rintro e w14 ⟨rfl,lv⟩
   have LV14:Hid (LiveM w8 w14 g2 M2b):=lv
   clear lv C14
   go_wp2_with fail
   refine (LV14.out.stepL 9 0 0 f_len.1.2.2.2.1 (by decide) f_2.2.2.1 f_2.2.2.2.1).mono ?_
   rintro e w15 ⟨rfl,lv⟩
   have LV15:Hid (LiveM w8 w15 g2 M2c):=lv
   clear lv
   go_wp2_with fail
   refine (finish_ex LV15.out).mono ?_
   rintro e w16 ⟨b1,o1,c1,go2,cg2,b2,o2,c2,bi,ci,br,orr,cr,rfl,hx,lv⟩
   have HX:=Lib.hid hx
   have LV16:=Lib.hid lv
   clear hx lv
   go_upto_region 13 with (fail)
   obtain ⟨W17,hW17⟩:∃ W17,W17 = w16.alloc (.cells #[.slice (some ⟨b1,o1,none⟩) 1 c1] 24):=⟨_,rfl⟩
   have s17:Same w16 W17:=by rw [hW17];exact (Same.refl _).alloc _
   have y0:W17.cell? ⟨w16.heap.size,0,none⟩ = some (.slice (some ⟨b1,o1,none⟩) 1 c1):=by rw [hW17];exact (Blk.new w16 _ _).cell 0
   rw [← hW17]
   clear hW17
   have LV17:Hid (LiveM w8 W17 g2 M2c.finish):=LV16.out.next s17
   obtain ⟨⟨x1,x2⟩,⟨x3,x4⟩,⟨x5,x6,x7⟩,p1,p2,p3,p4,p5⟩:=HX.out
   have z1:=(s17.cells _ _ p1).trans x1
   have z2:=(s17.cells _ _ p2).trans x2
   have z3:=(s17.cells _ _ p3).trans x3
   have z4:=(s17.cells _ _ p4).trans x4
   have z5:=(s17.cells _ _ p5).trans x5
   have z6:=(s17.cells _ _ p5).trans x6
   have z7:=(s17.cells _ _ p5).trans x7
   have z8:=(LV17.out.same.cells _ _ HOLD.out.2).trans HOLD.out.1
   clear x1 x2 x3 x4 x5 x6 x7 s17 p1 p2 p3 p4 p5
   go_wp2_with fail
   refine (LV17.out.stepC f_2.2.2.2.2.2 1).mono ?_
   rintro e w' ⟨rfl,rfl⟩
   go_wp2_with fail
   go_ret
   exact ⟨rfl,S_w_w8.out.trans LV17.out.same⟩
end Go.Proofs.YtfifnemnihcijaaGreatDoor

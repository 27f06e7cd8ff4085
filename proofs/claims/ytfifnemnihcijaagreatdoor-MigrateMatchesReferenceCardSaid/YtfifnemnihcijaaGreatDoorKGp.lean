import Derived.Test.YtfifnemnihcijaaGreatDoorKGn
set_option linter.unusedSimpArgs false
set_option linter.unusedVariables false
set_option maxHeartbeats 16000000
set_option maxRecDepth 100000
namespace Go.Proofs.YtfifnemnihcijaaGreatDoor
open Go.RowKit
theorem OwnT.chgT {S:Nat → Prop} {w w':World} {B:Nat} {ho:Hd} {tb:List Tbl} (o:OwnT w B ho tb) (c:Chg S w w') {g:Nat} {t:TypeId} {cs:Array Value} (hb:Blk w g t cs) (h1:t ≠ 99) (h2:t ≠ 29) (hS:∀ k,S k → k = g):OwnT w' B ho tb:=by
 refine ⟨own_chg o.oo c fun k hk hs => ?_,o.oh,fun t' ht => ⟨own_chg (o.oi t' ht).1 c fun k hk hs => ?_,(o.oi t' ht).2⟩,o.ai⟩
 ·obtain ⟨_,cs',hb'⟩:=row_ty o.oo hk
  rw [hS k hs] at hb'
  exact Blk.ne_ hb hb' h1 rfl
 ·obtain ⟨_,cs',hb'⟩:=row_ty (o.oi t' ht).1 hk
  rw [hS k hs] at hb'
  exact Blk.ne_ hb hb' h2 rfl
theorem start_bad1 (A At_:Option Addr) (n c tm tc:Nat) (k to_ dk dn:Int) (t aa nm ds:ByteArray) (w:World)
  (HV:Hid (Rt 13 #[.agg #[.slice A n c]] w (.bool false))) :
  Calls Tryz.prog 23 #[.agg #[.slice A n c],.agg #[.int .i64 k,.string t,.string aa,.string nm,.int .i64 to_,.int .i64 dk,.int .i64 dn,.string ds],.slice At_ tm tc] w fun e w' => e = .returned (.tuple #[.pointer none,.int .i64 1]) ∧ Same w w':=by
 go_enter Tryz.func23,Tryz.ntmps23
 go_wp2_with fail
 refine (HV.out _ (((Same.refl w).alloc _).alloc _)).mono ?_
 rintro e w1 ⟨rfl,s1⟩
 have S1:Hid (Same w w1):=(((Same.refl w).alloc _).alloc _).trans s1
 clear s1
 go_wp2_with fail
 go_ret2
 exact ⟨rfl,S1.out⟩
theorem start_bad2 (A At_:Option Addr) (n c tm tc:Nat) (k to_ dk dn:Int) (t aa nm ds:ByteArray) (w:World)
  (HV:Hid (Rt 13 #[.agg #[.slice A n c]] w (.bool true)))
  (HFI:Hid (Rt 59 #[.agg #[.slice A n c],.slice At_ tm tc] w (.bool false))) :
  Calls Tryz.prog 23 #[.agg #[.slice A n c],.agg #[.int .i64 k,.string t,.string aa,.string nm,.int .i64 to_,.int .i64 dk,.int .i64 dn,.string ds],.slice At_ tm tc] w fun e w' => e = .returned (.tuple #[.pointer none,.int .i64 1]) ∧ Same w w':=by
 go_enter Tryz.func23,Tryz.ntmps23
 go_wp2_with fail
 obtain ⟨W0,hW0⟩:∃ W0,W0 = (w.alloc (.cells #[.slice A n c] 24)).alloc (.cells #[.int .i64 k,.string t,.string aa,.string nm,.int .i64 to_,.int .i64 dk,.int .i64 dn,.string ds] 28):=⟨_,rfl⟩
 have S0:Hid (Same w W0):=by rw [hW0];exact Lib.hid (((Same.refl w).alloc _).alloc _)
 have Bs:Hid (Blk W0 w.heap.size 24 #[.slice A n c]):=by rw [hW0];exact Lib.hid ((Blk.new w _ _).alloc _)
 rw [← hW0]
 clear hW0
 have bs0:=Bs.out.cell 0
 refine (HV.out _ S0.out).mono ?_
 rintro e w1 ⟨rfl,s1⟩
 have S1:Hid (Same w w1):=S0.out.trans s1
 have Bs1:Hid (Blk w1 w.heap.size 24 #[.slice A n c]):=Bs.out.below s1 Bs.out.lt
 clear s1 bs0 Bs S0
 have bs0:=Bs1.out.cell 0
 go_wp2_with fail
 refine (HFI.out _ S1.out).mono ?_
 rintro e w2 ⟨rfl,s2⟩
 have S2:Hid (Same w w2):=S1.out.trans s2
 clear s2 bs0
 go_wp2_with fail
 go_ret2
 exact ⟨rfl,S2.out⟩
theorem start_bad3 (A At_:Option Addr) (n c tm tc:Nat) (k to_ dk dn E:Int) (t aa nm ds:ByteArray) (w:World) (hE:E ≠ 0)
  (HV:Hid (Rt 13 #[.agg #[.slice A n c]] w (.bool true)))
  (HFI:Hid (Rt 59 #[.agg #[.slice A n c],.slice At_ tm tc] w (.bool true)))
  (HAP:Hid (Rt 7 #[.agg #[.slice A n c],.agg #[.int .i64 k,.string t,.string aa,.string nm,.int .i64 to_,.int .i64 dk,.int .i64 dn,.string ds]] w (.tuple #[.agg #[.slice none 0 0],.int .i64 E]))) :
  Calls Tryz.prog 23 #[.agg #[.slice A n c],.agg #[.int .i64 k,.string t,.string aa,.string nm,.int .i64 to_,.int .i64 dk,.int .i64 dn,.string ds],.slice At_ tm tc] w fun e w' => e = .returned (.tuple #[.pointer none,.int .i64 E]) ∧ Same w w':=by
 have tE:(E != 0) = true:=by simp [hE]
 clear hE
 go_enter Tryz.func23,Tryz.ntmps23
 go_wp2_with fail
 obtain ⟨W0,hW0⟩:∃ W0,W0 = (w.alloc (.cells #[.slice A n c] 24)).alloc (.cells #[.int .i64 k,.string t,.string aa,.string nm,.int .i64 to_,.int .i64 dk,.int .i64 dn,.string ds] 28):=⟨_,rfl⟩
 have S0:Hid (Same w W0):=by rw [hW0];exact Lib.hid (((Same.refl w).alloc _).alloc _)
 have Bs:Hid (Blk W0 w.heap.size 24 #[.slice A n c]):=by rw [hW0];exact Lib.hid ((Blk.new w _ _).alloc _)
 have Bc:Hid (Blk W0 (w.heap.size + 1) 28 #[.int .i64 k,.string t,.string aa,.string nm,.int .i64 to_,.int .i64 dk,.int .i64 dn,.string ds]):=by
  have e:w.heap.size + 1 = (w.alloc (.cells #[.slice A n c] 24)).heap.size:=by simp
  rw [hW0,e];exact Lib.hid (Blk.new _ _ _)
 rw [← hW0]
 clear hW0
 have bs0:=Bs.out.cell 0
 refine (HV.out _ S0.out).mono ?_
 rintro e w1 ⟨rfl,s1⟩
 have S1:Hid (Same w w1):=S0.out.trans s1
 have Bs1:Hid (Blk w1 w.heap.size 24 #[.slice A n c]):=Bs.out.below s1 Bs.out.lt
 have Bc1:Hid (Blk w1 (w.heap.size + 1) 28 #[.int .i64 k,.string t,.string aa,.string nm,.int .i64 to_,.int .i64 dk,.int .i64 dn,.string ds]):=Bc.out.below s1 Bc.out.lt
 clear s1 bs0 Bs Bc S0
 have bs0:=Bs1.out.cell 0
 go_wp2_with fail
 refine (HFI.out _ S1.out).mono ?_
 rintro e w2 ⟨rfl,s2⟩
 have S2:Hid (Same w w2):=S1.out.trans s2
 have Bs2:Hid (Blk w2 w.heap.size 24 #[.slice A n c]):=Bs1.out.below s2 Bs1.out.lt
 have Bc2:Hid (Blk w2 (w.heap.size + 1) 28 #[.int .i64 k,.string t,.string aa,.string nm,.int .i64 to_,.int .i64 dk,.int .i64 dn,.string ds]):=Bc1.out.below s2 Bc1.out.lt
 clear s2 bs0 Bs1 Bc1 S1
 have bs0:=Bs2.out.cell 0
 have bc0:=Bc2.out.cell 0
 have bc1:=Bc2.out.cell 1
 have bc2:=Bc2.out.cell 2
 have bc3:=Bc2.out.cell 3
 have bc4:=Bc2.out.cell 4
 have bc5:=Bc2.out.cell 5
 have bc6:=Bc2.out.cell 6
 have bc7:=Bc2.out.cell 7
 go_wp2_with fail
 refine (HAP.out _ S2.out).mono ?_
 rintro e w3 ⟨rfl,s3⟩
 have S3:Hid (Same w w3):=S2.out.trans s3
 clear s3 bs0 bc0 bc1 bc2 bc3 bc4 bc5 bc6 bc7
 go_wp2_with fail
 go_ret2
 exact ⟨rfl,S3.out.alloc _⟩
theorem start_walk (A At_:Option Addr) (n c tm tc:Nat) (k to_ dk dn fi:Int) (t aa nm ds:ByteArray) (tbs:List Tbl) (w:World) (R:Option Addr → Nat → Nat → World → Prop) (POST:Ending → World → Prop)
  (HV:Hid (Rt 13 #[.agg #[.slice A n c]] w (.bool true)))
  (HFI:Hid (Rt 59 #[.agg #[.slice A n c],.slice At_ tm tc] w (.bool true)))
  (HAP:Hid (∀ W,Same w W → Calls Tryz.prog 7 #[.agg #[.slice A n c],.agg #[.int .i64 k,.string t,.string aa,.string nm,.int .i64 to_,.int .i64 dk,.int .i64 dn,.string ds]] W fun e w' => (∃ (A1:Option Addr) (m1 c1:Nat),e = .returned (.tuple #[.agg #[.slice A1 m1 c1],.int .i64 0]) ∧ R A1 m1 c1 w') ∧ Same W w'))
  (HFD:Hid (Rt 15 #[.agg #[.slice A n c],.string t] w (.int .i64 fi)))
  (HCL:Hid (∀ W,Same w W → Calls Tryz.prog 60 #[.slice At_ tm tc] W fun e w' => ∃ (Ao:Option Addr) (no co:Nat) (ts2:List Tbl),e = .returned (.slice Ao no co) ∧ (OwnT w' W.heap.size ⟨Ao,no,co⟩ ts2 ∧ ts2.map Tbl.rs = tbs.map Tbl.rs) ∧ Same W w'))
  (HR:∀ A1 m1 c1 W W',R A1 m1 c1 W → Same W W' → R A1 m1 c1 W')
  (HP0:Hid (∀ (A1:Option Addr) (m1 c1:Nat) (W4 wy:World) (gM gm:Nat) (Ao:Option Addr) (no co:Nat) (ts2:List Tbl),Same w W4 → R A1 m1 c1 W4 → Blk W4 w.heap.size 24 #[.slice A n c] → Blk W4 (w.heap.size + 1) 28 #[.int .i64 k,.string t,.string aa,.string nm,.int .i64 to_,.int .i64 dk,.int .i64 dn,.string ds] → W4.heap.size ≤ gM → W4.heap.size ≤ gm →
   Blk wy gM 106 #[.slice A n c,.slice A1 m1 c1,.int .i64 fi,.slice Ao no co,.slice none 0 0,.nilFunc,.bool false,.bool false] → Blk wy gm 51 #[.pointer (some ⟨gM,0,none⟩)] → Same W4 wy → OwnT wy W4.heap.size ⟨Ao,no,co⟩ ts2 → ts2.map Tbl.rs = tbs.map Tbl.rs →
   POST (.returned (.tuple #[.pointer (some ⟨gM,0,none⟩),.int .i64 0])) (wy.setCell ⟨gM,5,none⟩ (.func (.func 61) #[] #[.pointer (some ⟨w.heap.size,0,none⟩),.pointer (some ⟨w.heap.size + 1,0,none⟩),.pointer (some ⟨gm,0,none⟩)])))) :
  Calls Tryz.prog 23 #[.agg #[.slice A n c],.agg #[.int .i64 k,.string t,.string aa,.string nm,.int .i64 to_,.int .i64 dk,.int .i64 dn,.string ds],.slice At_ tm tc] w POST:=by
 go_enter Tryz.func23,Tryz.ntmps23
 go_wp2_with fail
 obtain ⟨W0,hW0⟩:∃ W0,W0 = (w.alloc (.cells #[.slice A n c] 24)).alloc (.cells #[.int .i64 k,.string t,.string aa,.string nm,.int .i64 to_,.int .i64 dk,.int .i64 dn,.string ds] 28):=⟨_,rfl⟩
 have S0:Hid (Same w W0):=by rw [hW0];exact Lib.hid (((Same.refl w).alloc _).alloc _)
 have Bs:Hid (Blk W0 w.heap.size 24 #[.slice A n c]):=by rw [hW0];exact Lib.hid ((Blk.new w _ _).alloc _)
 have Bc:Hid (Blk W0 (w.heap.size + 1) 28 #[.int .i64 k,.string t,.string aa,.string nm,.int .i64 to_,.int .i64 dk,.int .i64 dn,.string ds]):=by
  have e:w.heap.size + 1 = (w.alloc (.cells #[.slice A n c] 24)).heap.size:=by simp
  rw [hW0,e];exact Lib.hid (Blk.new _ _ _)
 rw [← hW0]
 clear hW0
 have bs0:=Bs.out.cell 0
 refine (HV.out _ S0.out).mono ?_
 rintro e w1 ⟨rfl,s1⟩
 have S1:Hid (Same w w1):=S0.out.trans s1
 have Bs1:Hid (Blk w1 w.heap.size 24 #[.slice A n c]):=Bs.out.below s1 Bs.out.lt
 have Bc1:Hid (Blk w1 (w.heap.size + 1) 28 #[.int .i64 k,.string t,.string aa,.string nm,.int .i64 to_,.int .i64 dk,.int .i64 dn,.string ds]):=Bc.out.below s1 Bc.out.lt
 clear s1 bs0 Bs Bc S0
 have bs0:=Bs1.out.cell 0
 go_wp2_with fail
 refine (HFI.out _ S1.out).mono ?_
 rintro e w2 ⟨rfl,s2⟩
 have S2:Hid (Same w w2):=S1.out.trans s2
 have Bs2:Hid (Blk w2 w.heap.size 24 #[.slice A n c]):=Bs1.out.below s2 Bs1.out.lt
 have Bc2:Hid (Blk w2 (w.heap.size + 1) 28 #[.int .i64 k,.string t,.string aa,.string nm,.int .i64 to_,.int .i64 dk,.int .i64 dn,.string ds]):=Bc1.out.below s2 Bc1.out.lt
 clear s2 bs0 Bs1 Bc1 S1
 have bs0:=Bs2.out.cell 0
 have bc0:=Bc2.out.cell 0
 have bc1:=Bc2.out.cell 1
 have bc2:=Bc2.out.cell 2
 have bc3:=Bc2.out.cell 3
 have bc4:=Bc2.out.cell 4
 have bc5:=Bc2.out.cell 5
 have bc6:=Bc2.out.cell 6
 have bc7:=Bc2.out.cell 7
 go_wp2_with fail
 refine (HAP.out _ S2.out).mono ?_
 rintro e w3 ⟨⟨A1,m1,c1,rfl,hR⟩,s3⟩
 have S3:Hid (Same w w3):=S2.out.trans s3
 have Bs3:Hid (Blk w3 w.heap.size 24 #[.slice A n c]):=Bs2.out.below s3 Bs2.out.lt
 have Bc3:Hid (Blk w3 (w.heap.size + 1) 28 #[.int .i64 k,.string t,.string aa,.string nm,.int .i64 to_,.int .i64 dk,.int .i64 dn,.string ds]):=Bc2.out.below s3 Bc2.out.lt
 have RR:=Lib.hid hR
 clear s3 hR bs0 bc0 bc1 bc2 bc3 bc4 bc5 bc6 bc7 Bs2 Bc2 S2
 go_wp2_with fail
 obtain ⟨W4,hW4⟩:∃ W4,W4 = w3.alloc (.cells #[.slice A1 m1 c1] 24):=⟨_,rfl⟩
 have s34:Same w3 W4:=by rw [hW4];exact (Same.refl w3).alloc _
 have BN:Blk W4 w3.heap.size 24 #[.slice A1 m1 c1]:=by rw [hW4];exact Blk.new w3 _ _
 obtain ⟨nb,hnb⟩:∃ nb,nb = w3.heap.size:=⟨_,rfl⟩
 rw [← hW4]
 try rw [← hnb]
 rw [← hnb] at BN
 have S4:Hid (Same w W4):=S3.out.trans s34
 have Bs4:Hid (Blk W4 w.heap.size 24 #[.slice A n c]):=Bs3.out.below s34 Bs3.out.lt
 have Bc4:Hid (Blk W4 (w.heap.size + 1) 28 #[.int .i64 k,.string t,.string aa,.string nm,.int .i64 to_,.int .i64 dk,.int .i64 dn,.string ds]):=Bc3.out.below s34 Bc3.out.lt
 have HFD4:Hid (Rt 15 #[.agg #[.slice A n c],.string t] W4 (.int .i64 fi)):=Lib.hid fun W s => HFD.out W (S4.out.trans s)
 have HCL4:Hid (∀ W,Same W4 W → Calls Tryz.prog 60 #[.slice At_ tm tc] W fun e w' => ∃ (Ao:Option Addr) (no co:Nat) (ts2:List Tbl),e = .returned (.slice Ao no co) ∧ (OwnT w' W.heap.size ⟨Ao,no,co⟩ ts2 ∧ ts2.map Tbl.rs = tbs.map Tbl.rs) ∧ Same W w'):=Lib.hid fun W s => HCL.out W (S4.out.trans s)
 have HP:=Lib.hid (fun wy gM gm Ao no co ts2 => HP0.out A1 m1 c1 W4 wy gM gm Ao no co ts2 S4.out (HR _ _ _ _ _ RR.out s34) Bs4.out Bc4.out)
 have lS:=Bs4.out.lt
 have lC:=Bc4.out.lt
 have lN:=BN.lt
 have kS_W4:W4.cell? ⟨w.heap.size,0,none⟩ = some (.slice A n c):=Bs4.out.cell 0
 have kN_W4:W4.cell? ⟨nb,0,none⟩ = some (.slice A1 m1 c1):=BN.cell 0
 have kC_W4:W4.cell? ⟨w.heap.size + 1,1,none⟩ = some (.string t):=Bc4.out.cell 1
 clear hW4 hnb s34 BN HP0 HR RR Bs3 Bc3 S3 HV HFI HAP HFD HCL
 refine wp_region_last (opsP:=?opsP) (S:=(fun w' => w'.cell? ⟨w.heap.size,0,none⟩ = some (.slice A n c) ∧ w'.cell? ⟨nb,0,none⟩ = some (.slice A1 m1 c1) ∧ w'.cell? ⟨w.heap.size + 1,1,none⟩ = some (.string t))) (n:=11) (by kernel_rfl) (lastOk_of (by kernel_rfl)) ?hp ?wk
 case hp => simp only [List.pop_toArray,List.dropLast_cons_cons,List.dropLast_singleton];rfl
 obtain ⟨V,hV⟩:∃ V,V = W4.drew:=⟨_,rfl⟩
 have S_V:Hid (Same W4 V):=by rw [hV];exact Lib.hid (Same.refl W4).drew
 rw [← hV]
 clear hV
 have kS_V:=(S_V.out.cells _ 0 lS).trans kS_W4
 have kN_V:=(S_V.out.cells _ 0 lN).trans kN_W4
 have kC_V:=(S_V.out.cells _ 1 lC).trans kC_W4
 have hHeld:(fun w' => w'.cell? ⟨w.heap.size,0,none⟩ = some (.slice A n c) ∧ w'.cell? ⟨nb,0,none⟩ = some (.slice A1 m1 c1) ∧ w'.cell? ⟨w.heap.size + 1,1,none⟩ = some (.string t)) V:=⟨kS_V,kN_V,kC_V⟩
 refine tk 0 (oi:=?o1) (v:=?v1) ?h1 (by kernel_rfl) ?q1 ?w1 ?y1 hHeld ?r1
 case h1 => simp only [lxa,lxb,lxc];rfl
 case q1 => exact fun _ _ _ h => h
 case w1 => rfl
 case y1 => rintro w' ⟨y1,y2,y3⟩;go_simp;try with_reducible rfl
 try simp only [Act.put,lxd,lxe,lxf]
 refine tk 1 (oi:=?o2) (v:=?v2) ?h2 (by kernel_rfl) ?q2 ?w2 ?y2 hHeld ?r2
 case h2 => simp only [lxa,lxb,lxc];rfl
 case q2 => exact fun _ _ _ h => h
 case w2 => rfl
 case y2 => rintro w' ⟨y1,y2,y3⟩;go_simp;try with_reducible rfl
 try simp only [Act.put,lxd,lxe,lxf]
 refine tk 2 (oi:=?o3) (v:=?v3) ?h3 (by kernel_rfl) ?q3 ?w3 ?y3 hHeld ?r3
 case h3 => simp only [lxa,lxb,lxc];rfl
 case q3 => exact fun _ _ _ h => h
 case w3 => rfl
 case y3 => rintro w' ⟨y1,y2,y3⟩;go_simp;try with_reducible rfl
 try simp only [Act.put,lxd,lxe,lxf]
 refine tk 3 (oi:=?o4) (v:=?v4) ?h4 (by kernel_rfl) ?q4 ?w4 ?y4 hHeld ?r4
 case h4 => simp only [lxa,lxb,lxc];rfl
 case q4 => exact fun _ _ _ h => h
 case w4 => rfl
 case y4 => rintro w' ⟨y1,y2,y3⟩;go_simp;try with_reducible rfl
 try simp only [Act.put,lxd,lxe,lxf]
 refine tk 4 (oi:=?o5) (v:=?v5) ?h5 (by kernel_rfl) ?q5 ?w5 ?y5 hHeld ?r5
 case h5 => simp only [lxa,lxb,lxc];rfl
 case q5 => exact fun _ _ _ h => h
 case w5 => rfl
 case y5 => rintro w' ⟨y1,y2,y3⟩;go_simp;try with_reducible rfl
 try simp only [Act.put,lxd,lxe,lxf]
 refine tk 6 (oi:=?o6) (v:=?v6) ?h6 (by kernel_rfl) ?q6 ?w6 ?y6 hHeld ?r6
 case h6 => simp only [lxa,lxb,lxc];rfl
 case q6 => exact fun _ _ _ h => h
 case w6 => rfl
 case y6 => rintro w' ⟨y1,y2,y3⟩;go_simp;try with_reducible rfl
 try simp only [Act.put,lxd,lxe,lxf]
 refine wpAnyH_ready (rs:=[5,10]) (by kernel_rfl) (by simp) ?_
 refine AllReadyH.cons (o:=?oo7) ?ho7 (fun K hK => ?st7) ?more7
 case ho7 => simp only [lxa,lxb,lxc];rfl
 case st7 =>
  rw [if_pos (by rfl)]
  go_simp
  go_at_call 15
  refine (HFD4.out _ S_V.out).mono ?_
  rintro e wf ⟨rfl,sf⟩
  have sm_wf:Hid (Same V wf):=sf
  have S_wf:Hid (Same W4 wf):=S_V.out.trans sf
  have kS_wf:=(S_wf.out.cells _ 0 lS).trans kS_W4
  have kN_wf:=(S_wf.out.cells _ 0 lN).trans kN_W4
  have kC_wf:=(S_wf.out.cells _ 1 lC).trans kC_W4
  clear sf
  try go_simp
  refine hK.out _ _ ?_ (fun hHeld => ?_)
  ·exact ⟨kS_wf,kN_wf,kC_wf⟩
  clear hK K
  try simp only [Act.put,lxd,lxe,lxf]
  refine wpAnyH_ready (rs:=[7,10]) (by kernel_rfl) (by simp) ?_
  refine AllReadyH.cons (o:=?oo8) ?ho8 (fun K hK => ?st8) ?more8
  case ho8 => simp only [lxa,lxb,lxc];rfl
  case st8 =>
   rw [if_pos (by rfl)]
   go_simp
   go_at_call 60
   refine (HCL4.out _ S_wf.out).mono ?_
   rintro e wc ⟨Ao,no,co,ts2,rfl,oc,sc⟩
   have OC:Hid (OwnT wc W4.heap.size ⟨Ao,no,co⟩ ts2 ∧ ts2.map Tbl.rs = tbs.map Tbl.rs):=⟨oc.1.base S_wf.out.size,oc.2⟩
   clear oc
   have sm_wc:Hid (Same wf wc):=sc
   have S_wc:Hid (Same W4 wc):=S_wf.out.trans sc
   have kS_wc:=(S_wc.out.cells _ 0 lS).trans kS_W4
   have kN_wc:=(S_wc.out.cells _ 0 lN).trans kN_W4
   have kC_wc:=(S_wc.out.cells _ 1 lC).trans kC_W4
   clear sc
   try go_simp
   refine hK.out _ _ ?_ (fun hHeld => ?_)
   ·exact ⟨kS_wc,kN_wc,kC_wc⟩
   clear hK K
   try simp only [Act.put,lxd,lxe,lxf]
   refine tk 8 (oi:=?o9) (v:=?v9) ?h9 (by kernel_rfl) ?q9 ?w9 ?y9 hHeld ?r9
   case h9 => simp only [lxa,lxb,lxc];rfl
   case q9 => exact fun _ _ _ h => h
   case w9 => rfl
   case y9 => rintro w' ⟨y1,y2,y3⟩;go_simp;try with_reducible rfl
   try simp only [Act.put,lxd,lxe,lxf]
   refine wpAnyH_ready (rs:=[9,10]) (by kernel_rfl) (by simp) ?_
   refine AllReadyH.cons (o:=?oo10) ?ho10 (fun K hK => ?st10) ?more10
   case ho10 => simp only [lxa,lxb,lxc];rfl
   case st10 =>
    rw [if_pos (by rfl)]
    go_simp
    obtain ⟨wb,hwb⟩:∃ wb,wb = wc.alloc (.cells #[.slice A n c,.slice A1 m1 c1,.int .i64 fi,.slice Ao no co,.slice none 0 0,.nilFunc,.bool false,.bool false] 106):=⟨_,rfl⟩
    have sb:Same wc wb:=by rw [hwb];exact (Same.refl _).alloc _
    have BM:Hid (Blk wb wc.heap.size 106 #[.slice A n c,.slice A1 m1 c1,.int .i64 fi,.slice Ao no co,.slice none 0 0,.nilFunc,.bool false,.bool false]):=by rw [hwb];exact Lib.hid (Blk.new _ _ _)
    obtain ⟨gM,hgM⟩:∃ gM,gM = wc.heap.size:=⟨_,rfl⟩
    have hgM0:W4.heap.size ≤ gM:=by rw [hgM];exact S_wc.out.size
    rw [← hwb,← hgM]
    rw [← hgM] at BM
    have sm_wb:Hid (Same wc wb):=sb
    have S_wb:Hid (Same W4 wb):=S_wc.out.trans sb
    have kS_wb:=(S_wb.out.cells _ 0 lS).trans kS_W4
    have kN_wb:=(S_wb.out.cells _ 0 lN).trans kN_W4
    have kC_wb:=(S_wb.out.cells _ 1 lC).trans kC_W4
    clear sb
    have hgME:=Lib.hid hgM
    have hwbE:=Lib.hid hwb
    clear hgM hwb
    refine hK.out _ _ ?_ (fun hHeld => ?_)
    ·exact ⟨kS_wb,kN_wb,kC_wb⟩
    clear hK K
    try simp only [Act.put,lxd,lxe,lxf]
    refine wpAnyH_ready (rs:=[10]) (by kernel_rfl) (by simp) ?_
    refine AllReadyH.cons (o:=?oo11) ?ho11 (fun K hK => ?st11) ?more11
    case ho11 => simp only [lxa,lxb,lxc];rfl
    case more11 => exact AllReadyH.nil
    case st11 =>
     rw [if_pos (by rfl)]
     go_simp
     obtain ⟨wa,hwa⟩:∃ wa,wa = wb.alloc (.cells #[.pointer none] 51):=⟨_,rfl⟩
     have sa:Same wb wa:=by rw [hwa];exact (Same.refl _).alloc _
     have BA:Hid (Blk wa wb.heap.size 51 #[.pointer none]):=by rw [hwa];exact Lib.hid (Blk.new _ _ _)
     obtain ⟨gm,hgm⟩:∃ gm,gm = wb.heap.size:=⟨_,rfl⟩
     have hgm0:W4.heap.size ≤ gm:=by rw [hgm];exact S_wb.out.size
     rw [← hwa,← hgm]
     rw [← hgm] at BA
     have sm_wa:Hid (Same wb wa):=sa
     have S_wa:Hid (Same W4 wa):=S_wb.out.trans sa
     have kS_wa:=(S_wa.out.cells _ 0 lS).trans kS_W4
     have kN_wa:=(S_wa.out.cells _ 0 lN).trans kN_W4
     have kC_wa:=(S_wa.out.cells _ 1 lC).trans kC_W4
     clear sa
     have hgmE:=Lib.hid hgm
     have hwaE:=Lib.hid hwa
     clear hgm hwa
     refine hK.out _ _ ?_ (fun hHeld => ?_)
     ·exact ⟨kS_wa,kN_wa,kC_wa⟩
     clear hK K
     try simp only [Act.put,lxd,lxe,lxf]
     have BAz:=BA
     have BMz:Hid (Blk wa gM 106 #[.slice A n c,.slice A1 m1 c1,.int .i64 fi,.slice Ao no co,.slice none 0 0,.nilFunc,.bool false,.bool false]):=(BM.out.below sm_wa.out BM.out.lt)
     have OCz:Hid (OwnT wa W4.heap.size ⟨Ao,no,co⟩ ts2 ∧ ts2.map Tbl.rs = tbs.map Tbl.rs):=⟨OC.out.1.same (sm_wb.out.trans sm_wa.out),OC.out.2⟩
     have gm_ne:gm ≠ gM:=by
      have h1:=BAz.out
      have h2:=BMz.out
      exact Blk.ne_ h1 h2 (by decide)
     have qm:=BAz.out.cell 0
     have qmf:=BAz.out.frozen 0
     obtain ⟨wz,hwz⟩:∃ wz:World,wz = wa:=⟨_,rfl⟩
     rw [← hwz] at BAz BMz OCz qm qmf S_wa
     rw [← hwz]
     clear hwz
     have SZ:=S_wa
     refine wpAnyH_done (by kernel_rfl) ?_ _
     refine lastQ_of (o:=?oz12) ?hz12 ?gz12 ?sz12
     case hz12 => simp only [lxa,lxb,lxc];rfl
     case gz12 => rfl
     intro K hK
     go_simp
     refine hK.out _ _ ?_
     clear hK K
     try simp only [Act.put,lxd,lxe,lxf]
     have BM1:Blk (wz.setCell ⟨gm,0,none⟩ (.pointer (some ⟨gM,0,none⟩))) gM 106 #[.slice A n c,.slice A1 m1 c1,.int .i64 fi,.slice Ao no co,.slice none 0 0,.nilFunc,.bool false,.bool false]:=BMz.out.far (p:=⟨gm,0,none⟩) (Ne.symm gm_ne) _
     have BA1:Blk (wz.setCell ⟨gm,0,none⟩ (.pointer (some ⟨gM,0,none⟩))) gm 51 #[.pointer (some ⟨gM,0,none⟩)]:=BAz.out.set_ 0 _
     have SZ1:Same W4 (wz.setCell ⟨gm,0,none⟩ (.pointer (some ⟨gM,0,none⟩))):=SZ.out.setCell (p:=⟨gm,0,none⟩) hgm0 _
     have OZ1:OwnT (wz.setCell ⟨gm,0,none⟩ (.pointer (some ⟨gM,0,none⟩))) W4.heap.size ⟨Ao,no,co⟩ ts2:=OCz.out.1.chgT (S:=fun k => k = gm) ((Chg.refl _ _).setCell _ _ (fun _ => rfl)) BAz.out (by decide) (by decide) (fun k hk => hk)
     obtain ⟨wy,hwy⟩:∃ wy,wy = wz.setCell ⟨gm,0,none⟩ (.pointer (some ⟨gM,0,none⟩)):=⟨_,rfl⟩
     rw [← hwy] at BM1 BA1 SZ1 OZ1
     rw [← hwy]
     have y0:=BA1.cell 0
     have y5:=BM1.cell 5
     have f5:=BM1.frozen 5
     have ZZ:=Lib.hid (And.intro BM1 (And.intro BA1 (And.intro SZ1 OZ1)))
     have ZO:=Lib.hid OCz.out.2
     clear hwy BM1 BA1 SZ1 OZ1 qm qmf
     go_wp2_with fail
     show POST (.returned (.tuple #[.pointer (some ⟨gM,0,none⟩),.int .i64 0])) (wy.setCell ⟨gM,5,none⟩ (.func (.func 61) #[] #[.pointer (some ⟨w.heap.size,0,none⟩),.pointer (some ⟨w.heap.size + 1,0,none⟩),.pointer (some ⟨gm,0,none⟩)]))
     exact HP.out wy gM gm Ao no co ts2 hgM0 hgm0 ZZ.out.1 ZZ.out.2.1 ZZ.out.2.2.1 ZZ.out.2.2.2 ZO.out
   refine AllReadyH.cons (o:=?oo13) ?ho13 (fun K hK => ?st13) ?more13
   case ho13 => simp only [lxa,lxb,lxc];rfl
   case more13 => exact AllReadyH.nil
   case st13 =>
    rw [if_pos (by rfl)]
    go_simp
    obtain ⟨wa,hwa⟩:∃ wa,wa = wc.alloc (.cells #[.pointer none] 51):=⟨_,rfl⟩
    have sa:Same wc wa:=by rw [hwa];exact (Same.refl _).alloc _
    have BA:Hid (Blk wa wc.heap.size 51 #[.pointer none]):=by rw [hwa];exact Lib.hid (Blk.new _ _ _)
    obtain ⟨gm,hgm⟩:∃ gm,gm = wc.heap.size:=⟨_,rfl⟩
    have hgm0:W4.heap.size ≤ gm:=by rw [hgm];exact S_wc.out.size
    rw [← hwa,← hgm]
    rw [← hgm] at BA
    have sm_wa:Hid (Same wc wa):=sa
    have S_wa:Hid (Same W4 wa):=S_wc.out.trans sa
    have kS_wa:=(S_wa.out.cells _ 0 lS).trans kS_W4
    have kN_wa:=(S_wa.out.cells _ 0 lN).trans kN_W4
    have kC_wa:=(S_wa.out.cells _ 1 lC).trans kC_W4
    clear sa
    have hgmE:=Lib.hid hgm
    have hwaE:=Lib.hid hwa
    clear hgm hwa
    refine hK.out _ _ ?_ (fun hHeld => ?_)
    ·exact ⟨kS_wa,kN_wa,kC_wa⟩
    clear hK K
    try simp only [Act.put,lxd,lxe,lxf]
    refine wpAnyH_ready (rs:=[9]) (by kernel_rfl) (by simp) ?_
    refine AllReadyH.cons (o:=?oo14) ?ho14 (fun K hK => ?st14) ?more14
    case ho14 => simp only [lxa,lxb,lxc];rfl
    case more14 => exact AllReadyH.nil
    case st14 =>
     rw [if_pos (by rfl)]
     go_simp
     obtain ⟨wb,hwb⟩:∃ wb,wb = wa.alloc (.cells #[.slice A n c,.slice A1 m1 c1,.int .i64 fi,.slice Ao no co,.slice none 0 0,.nilFunc,.bool false,.bool false] 106):=⟨_,rfl⟩
     have sb:Same wa wb:=by rw [hwb];exact (Same.refl _).alloc _
     have BM:Hid (Blk wb wa.heap.size 106 #[.slice A n c,.slice A1 m1 c1,.int .i64 fi,.slice Ao no co,.slice none 0 0,.nilFunc,.bool false,.bool false]):=by rw [hwb];exact Lib.hid (Blk.new _ _ _)
     obtain ⟨gM,hgM⟩:∃ gM,gM = wa.heap.size:=⟨_,rfl⟩
     have hgM0:W4.heap.size ≤ gM:=by rw [hgM];exact S_wa.out.size
     rw [← hwb,← hgM]
     rw [← hgM] at BM
     have sm_wb:Hid (Same wa wb):=sb
     have S_wb:Hid (Same W4 wb):=S_wa.out.trans sb
     have kS_wb:=(S_wb.out.cells _ 0 lS).trans kS_W4
     have kN_wb:=(S_wb.out.cells _ 0 lN).trans kN_W4
     have kC_wb:=(S_wb.out.cells _ 1 lC).trans kC_W4
     clear sb
     have hgME:=Lib.hid hgM
     have hwbE:=Lib.hid hwb
     clear hgM hwb
     refine hK.out _ _ ?_ (fun hHeld => ?_)
     ·exact ⟨kS_wb,kN_wb,kC_wb⟩
     clear hK K
     try simp only [Act.put,lxd,lxe,lxf]
     have BAz:Hid (Blk wb gm 51 #[.pointer none]):=(BA.out.below sm_wb.out BA.out.lt)
     have BMz:=BM
     have OCz:Hid (OwnT wb W4.heap.size ⟨Ao,no,co⟩ ts2 ∧ ts2.map Tbl.rs = tbs.map Tbl.rs):=⟨OC.out.1.same (sm_wa.out.trans sm_wb.out),OC.out.2⟩
     have gm_ne:gm ≠ gM:=by
      have h1:=BAz.out
      have h2:=BMz.out
      exact Blk.ne_ h1 h2 (by decide)
     have qm:=BAz.out.cell 0
     have qmf:=BAz.out.frozen 0
     obtain ⟨wz,hwz⟩:∃ wz:World,wz = wb:=⟨_,rfl⟩
     rw [← hwz] at BAz BMz OCz qm qmf S_wb
     rw [← hwz]
     clear hwz
     have SZ:=S_wb
     refine wpAnyH_done (by kernel_rfl) ?_ _
     refine lastQ_of (o:=?oz15) ?hz15 ?gz15 ?sz15
     case hz15 => simp only [lxa,lxb,lxc];rfl
     case gz15 => rfl
     intro K hK
     go_simp
     refine hK.out _ _ ?_
     clear hK K
     try simp only [Act.put,lxd,lxe,lxf]
     have BM1:Blk (wz.setCell ⟨gm,0,none⟩ (.pointer (some ⟨gM,0,none⟩))) gM 106 #[.slice A n c,.slice A1 m1 c1,.int .i64 fi,.slice Ao no co,.slice none 0 0,.nilFunc,.bool false,.bool false]:=BMz.out.far (p:=⟨gm,0,none⟩) (Ne.symm gm_ne) _
     have BA1:Blk (wz.setCell ⟨gm,0,none⟩ (.pointer (some ⟨gM,0,none⟩))) gm 51 #[.pointer (some ⟨gM,0,none⟩)]:=BAz.out.set_ 0 _
     have SZ1:Same W4 (wz.setCell ⟨gm,0,none⟩ (.pointer (some ⟨gM,0,none⟩))):=SZ.out.setCell (p:=⟨gm,0,none⟩) hgm0 _
     have OZ1:OwnT (wz.setCell ⟨gm,0,none⟩ (.pointer (some ⟨gM,0,none⟩))) W4.heap.size ⟨Ao,no,co⟩ ts2:=OCz.out.1.chgT (S:=fun k => k = gm) ((Chg.refl _ _).setCell _ _ (fun _ => rfl)) BAz.out (by decide) (by decide) (fun k hk => hk)
     obtain ⟨wy,hwy⟩:∃ wy,wy = wz.setCell ⟨gm,0,none⟩ (.pointer (some ⟨gM,0,none⟩)):=⟨_,rfl⟩
     rw [← hwy] at BM1 BA1 SZ1 OZ1
     rw [← hwy]
     have y0:=BA1.cell 0
     have y5:=BM1.cell 5
     have f5:=BM1.frozen 5
     have ZZ:=Lib.hid (And.intro BM1 (And.intro BA1 (And.intro SZ1 OZ1)))
     have ZO:=Lib.hid OCz.out.2
     clear hwy BM1 BA1 SZ1 OZ1 qm qmf
     go_wp2_with fail
     show POST (.returned (.tuple #[.pointer (some ⟨gM,0,none⟩),.int .i64 0])) (wy.setCell ⟨gM,5,none⟩ (.func (.func 61) #[] #[.pointer (some ⟨w.heap.size,0,none⟩),.pointer (some ⟨w.heap.size + 1,0,none⟩),.pointer (some ⟨gm,0,none⟩)]))
     exact HP.out wy gM gm Ao no co ts2 hgM0 hgm0 ZZ.out.1 ZZ.out.2.1 ZZ.out.2.2.1 ZZ.out.2.2.2 ZO.out
  refine AllReadyH.cons (o:=?oo16) ?ho16 (fun K hK => ?st16) ?more16
  case ho16 => simp only [lxa,lxb,lxc];rfl
  case more16 => exact AllReadyH.nil
  case st16 =>
   rw [if_pos (by rfl)]
   go_simp
   obtain ⟨wa,hwa⟩:∃ wa,wa = wf.alloc (.cells #[.pointer none] 51):=⟨_,rfl⟩
   have sa:Same wf wa:=by rw [hwa];exact (Same.refl _).alloc _
   have BA:Hid (Blk wa wf.heap.size 51 #[.pointer none]):=by rw [hwa];exact Lib.hid (Blk.new _ _ _)
   obtain ⟨gm,hgm⟩:∃ gm,gm = wf.heap.size:=⟨_,rfl⟩
   have hgm0:W4.heap.size ≤ gm:=by rw [hgm];exact S_wf.out.size
   rw [← hwa,← hgm]
   rw [← hgm] at BA
   have sm_wa:Hid (Same wf wa):=sa
   have S_wa:Hid (Same W4 wa):=S_wf.out.trans sa
   have kS_wa:=(S_wa.out.cells _ 0 lS).trans kS_W4
   have kN_wa:=(S_wa.out.cells _ 0 lN).trans kN_W4
   have kC_wa:=(S_wa.out.cells _ 1 lC).trans kC_W4
   clear sa
   have hgmE:=Lib.hid hgm
   have hwaE:=Lib.hid hwa
   clear hgm hwa
   refine hK.out _ _ ?_ (fun hHeld => ?_)
   ·exact ⟨kS_wa,kN_wa,kC_wa⟩
   clear hK K
   try simp only [Act.put,lxd,lxe,lxf]
   refine wpAnyH_ready (rs:=[7]) (by kernel_rfl) (by simp) ?_
   refine AllReadyH.cons (o:=?oo17) ?ho17 (fun K hK => ?st17) ?more17
   case ho17 => simp only [lxa,lxb,lxc];rfl
   case more17 => exact AllReadyH.nil
   case st17 =>
    rw [if_pos (by rfl)]
    go_simp
    go_at_call 60
    refine (HCL4.out _ S_wa.out).mono ?_
    rintro e wc ⟨Ao,no,co,ts2,rfl,oc,sc⟩
    have OC:Hid (OwnT wc W4.heap.size ⟨Ao,no,co⟩ ts2 ∧ ts2.map Tbl.rs = tbs.map Tbl.rs):=⟨oc.1.base S_wa.out.size,oc.2⟩
    clear oc
    have sm_wc:Hid (Same wa wc):=sc
    have S_wc:Hid (Same W4 wc):=S_wa.out.trans sc
    have kS_wc:=(S_wc.out.cells _ 0 lS).trans kS_W4
    have kN_wc:=(S_wc.out.cells _ 0 lN).trans kN_W4
    have kC_wc:=(S_wc.out.cells _ 1 lC).trans kC_W4
    clear sc
    try go_simp
    refine hK.out _ _ ?_ (fun hHeld => ?_)
    ·exact ⟨kS_wc,kN_wc,kC_wc⟩
    clear hK K
    try simp only [Act.put,lxd,lxe,lxf]
    refine tk 8 (oi:=?o18) (v:=?v18) ?h18 (by kernel_rfl) ?q18 ?w18 ?y18 hHeld ?r18
    case h18 => simp only [lxa,lxb,lxc];rfl
    case q18 => exact fun _ _ _ h => h
    case w18 => rfl
    case y18 => rintro w' ⟨y1,y2,y3⟩;go_simp;try with_reducible rfl
    try simp only [Act.put,lxd,lxe,lxf]
    refine wpAnyH_ready (rs:=[9]) (by kernel_rfl) (by simp) ?_
    refine AllReadyH.cons (o:=?oo19) ?ho19 (fun K hK => ?st19) ?more19
    case ho19 => simp only [lxa,lxb,lxc];rfl
    case more19 => exact AllReadyH.nil
    case st19 =>
     rw [if_pos (by rfl)]
     go_simp
     obtain ⟨wb,hwb⟩:∃ wb,wb = wc.alloc (.cells #[.slice A n c,.slice A1 m1 c1,.int .i64 fi,.slice Ao no co,.slice none 0 0,.nilFunc,.bool false,.bool false] 106):=⟨_,rfl⟩
     have sb:Same wc wb:=by rw [hwb];exact (Same.refl _).alloc _
     have BM:Hid (Blk wb wc.heap.size 106 #[.slice A n c,.slice A1 m1 c1,.int .i64 fi,.slice Ao no co,.slice none 0 0,.nilFunc,.bool false,.bool false]):=by rw [hwb];exact Lib.hid (Blk.new _ _ _)
     obtain ⟨gM,hgM⟩:∃ gM,gM = wc.heap.size:=⟨_,rfl⟩
     have hgM0:W4.heap.size ≤ gM:=by rw [hgM];exact S_wc.out.size
     rw [← hwb,← hgM]
     rw [← hgM] at BM
     have sm_wb:Hid (Same wc wb):=sb
     have S_wb:Hid (Same W4 wb):=S_wc.out.trans sb
     have kS_wb:=(S_wb.out.cells _ 0 lS).trans kS_W4
     have kN_wb:=(S_wb.out.cells _ 0 lN).trans kN_W4
     have kC_wb:=(S_wb.out.cells _ 1 lC).trans kC_W4
     clear sb
     have hgME:=Lib.hid hgM
     have hwbE:=Lib.hid hwb
     clear hgM hwb
     refine hK.out _ _ ?_ (fun hHeld => ?_)
     ·exact ⟨kS_wb,kN_wb,kC_wb⟩
     clear hK K
     try simp only [Act.put,lxd,lxe,lxf]
     have BAz:Hid (Blk wb gm 51 #[.pointer none]):=(BA.out.below (sm_wc.out.trans sm_wb.out) BA.out.lt)
     have BMz:=BM
     have OCz:Hid (OwnT wb W4.heap.size ⟨Ao,no,co⟩ ts2 ∧ ts2.map Tbl.rs = tbs.map Tbl.rs):=⟨OC.out.1.same sm_wb.out,OC.out.2⟩
     have gm_ne:gm ≠ gM:=by
      have h1:=BAz.out
      have h2:=BMz.out
      exact Blk.ne_ h1 h2 (by decide)
     have qm:=BAz.out.cell 0
     have qmf:=BAz.out.frozen 0
     obtain ⟨wz,hwz⟩:∃ wz:World,wz = wb:=⟨_,rfl⟩
     rw [← hwz] at BAz BMz OCz qm qmf S_wb
     rw [← hwz]
     clear hwz
     have SZ:=S_wb
     refine wpAnyH_done (by kernel_rfl) ?_ _
     refine lastQ_of (o:=?oz20) ?hz20 ?gz20 ?sz20
     case hz20 => simp only [lxa,lxb,lxc];rfl
     case gz20 => rfl
     intro K hK
     go_simp
     refine hK.out _ _ ?_
     clear hK K
     try simp only [Act.put,lxd,lxe,lxf]
     have BM1:Blk (wz.setCell ⟨gm,0,none⟩ (.pointer (some ⟨gM,0,none⟩))) gM 106 #[.slice A n c,.slice A1 m1 c1,.int .i64 fi,.slice Ao no co,.slice none 0 0,.nilFunc,.bool false,.bool false]:=BMz.out.far (p:=⟨gm,0,none⟩) (Ne.symm gm_ne) _
     have BA1:Blk (wz.setCell ⟨gm,0,none⟩ (.pointer (some ⟨gM,0,none⟩))) gm 51 #[.pointer (some ⟨gM,0,none⟩)]:=BAz.out.set_ 0 _
     have SZ1:Same W4 (wz.setCell ⟨gm,0,none⟩ (.pointer (some ⟨gM,0,none⟩))):=SZ.out.setCell (p:=⟨gm,0,none⟩) hgm0 _
     have OZ1:OwnT (wz.setCell ⟨gm,0,none⟩ (.pointer (some ⟨gM,0,none⟩))) W4.heap.size ⟨Ao,no,co⟩ ts2:=OCz.out.1.chgT (S:=fun k => k = gm) ((Chg.refl _ _).setCell _ _ (fun _ => rfl)) BAz.out (by decide) (by decide) (fun k hk => hk)
     obtain ⟨wy,hwy⟩:∃ wy,wy = wz.setCell ⟨gm,0,none⟩ (.pointer (some ⟨gM,0,none⟩)):=⟨_,rfl⟩
     rw [← hwy] at BM1 BA1 SZ1 OZ1
     rw [← hwy]
     have y0:=BA1.cell 0
     have y5:=BM1.cell 5
     have f5:=BM1.frozen 5
     have ZZ:=Lib.hid (And.intro BM1 (And.intro BA1 (And.intro SZ1 OZ1)))
     have ZO:=Lib.hid OCz.out.2
     clear hwy BM1 BA1 SZ1 OZ1 qm qmf
     go_wp2_with fail
     show POST (.returned (.tuple #[.pointer (some ⟨gM,0,none⟩),.int .i64 0])) (wy.setCell ⟨gM,5,none⟩ (.func (.func 61) #[] #[.pointer (some ⟨w.heap.size,0,none⟩),.pointer (some ⟨w.heap.size + 1,0,none⟩),.pointer (some ⟨gm,0,none⟩)]))
     exact HP.out wy gM gm Ao no co ts2 hgM0 hgm0 ZZ.out.1 ZZ.out.2.1 ZZ.out.2.2.1 ZZ.out.2.2.2 ZO.out
 refine AllReadyH.cons (o:=?oo21) ?ho21 (fun K hK => ?st21) ?more21
 case ho21 => simp only [lxa,lxb,lxc];rfl
 case more21 => exact AllReadyH.nil
 case st21 =>
  rw [if_pos (by rfl)]
  go_simp
  obtain ⟨wa,hwa⟩:∃ wa,wa = V.alloc (.cells #[.pointer none] 51):=⟨_,rfl⟩
  have sa:Same V wa:=by rw [hwa];exact (Same.refl _).alloc _
  have BA:Hid (Blk wa V.heap.size 51 #[.pointer none]):=by rw [hwa];exact Lib.hid (Blk.new _ _ _)
  obtain ⟨gm,hgm⟩:∃ gm,gm = V.heap.size:=⟨_,rfl⟩
  have hgm0:W4.heap.size ≤ gm:=by rw [hgm];exact S_V.out.size
  rw [← hwa,← hgm]
  rw [← hgm] at BA
  have sm_wa:Hid (Same V wa):=sa
  have S_wa:Hid (Same W4 wa):=S_V.out.trans sa
  have kS_wa:=(S_wa.out.cells _ 0 lS).trans kS_W4
  have kN_wa:=(S_wa.out.cells _ 0 lN).trans kN_W4
  have kC_wa:=(S_wa.out.cells _ 1 lC).trans kC_W4
  clear sa
  have hgmE:=Lib.hid hgm
  have hwaE:=Lib.hid hwa
  clear hgm hwa
  refine hK.out _ _ ?_ (fun hHeld => ?_)
  ·exact ⟨kS_wa,kN_wa,kC_wa⟩
  clear hK K
  try simp only [Act.put,lxd,lxe,lxf]
  refine wpAnyH_ready (rs:=[5]) (by kernel_rfl) (by simp) ?_
  refine AllReadyH.cons (o:=?oo22) ?ho22 (fun K hK => ?st22) ?more22
  case ho22 => simp only [lxa,lxb,lxc];rfl
  case more22 => exact AllReadyH.nil
  case st22 =>
   rw [if_pos (by rfl)]
   go_simp
   go_at_call 15
   refine (HFD4.out _ S_wa.out).mono ?_
   rintro e wf ⟨rfl,sf⟩
   have sm_wf:Hid (Same wa wf):=sf
   have S_wf:Hid (Same W4 wf):=S_wa.out.trans sf
   have kS_wf:=(S_wf.out.cells _ 0 lS).trans kS_W4
   have kN_wf:=(S_wf.out.cells _ 0 lN).trans kN_W4
   have kC_wf:=(S_wf.out.cells _ 1 lC).trans kC_W4
   clear sf
   try go_simp
   refine hK.out _ _ ?_ (fun hHeld => ?_)
   ·exact ⟨kS_wf,kN_wf,kC_wf⟩
   clear hK K
   try simp only [Act.put,lxd,lxe,lxf]
   refine wpAnyH_ready (rs:=[7]) (by kernel_rfl) (by simp) ?_
   refine AllReadyH.cons (o:=?oo23) ?ho23 (fun K hK => ?st23) ?more23
   case ho23 => simp only [lxa,lxb,lxc];rfl
   case more23 => exact AllReadyH.nil
   case st23 =>
    rw [if_pos (by rfl)]
    go_simp
    go_at_call 60
    refine (HCL4.out _ S_wf.out).mono ?_
    rintro e wc ⟨Ao,no,co,ts2,rfl,oc,sc⟩
    have OC:Hid (OwnT wc W4.heap.size ⟨Ao,no,co⟩ ts2 ∧ ts2.map Tbl.rs = tbs.map Tbl.rs):=⟨oc.1.base S_wf.out.size,oc.2⟩
    clear oc
    have sm_wc:Hid (Same wf wc):=sc
    have S_wc:Hid (Same W4 wc):=S_wf.out.trans sc
    have kS_wc:=(S_wc.out.cells _ 0 lS).trans kS_W4
    have kN_wc:=(S_wc.out.cells _ 0 lN).trans kN_W4
    have kC_wc:=(S_wc.out.cells _ 1 lC).trans kC_W4
    clear sc
    try go_simp
    refine hK.out _ _ ?_ (fun hHeld => ?_)
    ·exact ⟨kS_wc,kN_wc,kC_wc⟩
    clear hK K
    try simp only [Act.put,lxd,lxe,lxf]
    refine tk 8 (oi:=?o24) (v:=?v24) ?h24 (by kernel_rfl) ?q24 ?w24 ?y24 hHeld ?r24
    case h24 => simp only [lxa,lxb,lxc];rfl
    case q24 => exact fun _ _ _ h => h
    case w24 => rfl
    case y24 => rintro w' ⟨y1,y2,y3⟩;go_simp;try with_reducible rfl
    try simp only [Act.put,lxd,lxe,lxf]
    refine wpAnyH_ready (rs:=[9]) (by kernel_rfl) (by simp) ?_
    refine AllReadyH.cons (o:=?oo25) ?ho25 (fun K hK => ?st25) ?more25
    case ho25 => simp only [lxa,lxb,lxc];rfl
    case more25 => exact AllReadyH.nil
    case st25 =>
     rw [if_pos (by rfl)]
     go_simp
     obtain ⟨wb,hwb⟩:∃ wb,wb = wc.alloc (.cells #[.slice A n c,.slice A1 m1 c1,.int .i64 fi,.slice Ao no co,.slice none 0 0,.nilFunc,.bool false,.bool false] 106):=⟨_,rfl⟩
     have sb:Same wc wb:=by rw [hwb];exact (Same.refl _).alloc _
     have BM:Hid (Blk wb wc.heap.size 106 #[.slice A n c,.slice A1 m1 c1,.int .i64 fi,.slice Ao no co,.slice none 0 0,.nilFunc,.bool false,.bool false]):=by rw [hwb];exact Lib.hid (Blk.new _ _ _)
     obtain ⟨gM,hgM⟩:∃ gM,gM = wc.heap.size:=⟨_,rfl⟩
     have hgM0:W4.heap.size ≤ gM:=by rw [hgM];exact S_wc.out.size
     rw [← hwb,← hgM]
     rw [← hgM] at BM
     have sm_wb:Hid (Same wc wb):=sb
     have S_wb:Hid (Same W4 wb):=S_wc.out.trans sb
     have kS_wb:=(S_wb.out.cells _ 0 lS).trans kS_W4
     have kN_wb:=(S_wb.out.cells _ 0 lN).trans kN_W4
     have kC_wb:=(S_wb.out.cells _ 1 lC).trans kC_W4
     clear sb
     have hgME:=Lib.hid hgM
     have hwbE:=Lib.hid hwb
     clear hgM hwb
     refine hK.out _ _ ?_ (fun hHeld => ?_)
     ·exact ⟨kS_wb,kN_wb,kC_wb⟩
     clear hK K
     try simp only [Act.put,lxd,lxe,lxf]
     have BAz:Hid (Blk wb gm 51 #[.pointer none]):=(BA.out.below ((sm_wf.out.trans sm_wc.out).trans sm_wb.out) BA.out.lt)
     have BMz:=BM
     have OCz:Hid (OwnT wb W4.heap.size ⟨Ao,no,co⟩ ts2 ∧ ts2.map Tbl.rs = tbs.map Tbl.rs):=⟨OC.out.1.same sm_wb.out,OC.out.2⟩
     have gm_ne:gm ≠ gM:=by
      have h1:=BAz.out
      have h2:=BMz.out
      exact Blk.ne_ h1 h2 (by decide)
     have qm:=BAz.out.cell 0
     have qmf:=BAz.out.frozen 0
     obtain ⟨wz,hwz⟩:∃ wz:World,wz = wb:=⟨_,rfl⟩
     rw [← hwz] at BAz BMz OCz qm qmf S_wb
     rw [← hwz]
     clear hwz
     have SZ:=S_wb
     refine wpAnyH_done (by kernel_rfl) ?_ _
     refine lastQ_of (o:=?oz26) ?hz26 ?gz26 ?sz26
     case hz26 => simp only [lxa,lxb,lxc];rfl
     case gz26 => rfl
     intro K hK
     go_simp
     refine hK.out _ _ ?_
     clear hK K
     try simp only [Act.put,lxd,lxe,lxf]
     have BM1:Blk (wz.setCell ⟨gm,0,none⟩ (.pointer (some ⟨gM,0,none⟩))) gM 106 #[.slice A n c,.slice A1 m1 c1,.int .i64 fi,.slice Ao no co,.slice none 0 0,.nilFunc,.bool false,.bool false]:=BMz.out.far (p:=⟨gm,0,none⟩) (Ne.symm gm_ne) _
     have BA1:Blk (wz.setCell ⟨gm,0,none⟩ (.pointer (some ⟨gM,0,none⟩))) gm 51 #[.pointer (some ⟨gM,0,none⟩)]:=BAz.out.set_ 0 _
     have SZ1:Same W4 (wz.setCell ⟨gm,0,none⟩ (.pointer (some ⟨gM,0,none⟩))):=SZ.out.setCell (p:=⟨gm,0,none⟩) hgm0 _
     have OZ1:OwnT (wz.setCell ⟨gm,0,none⟩ (.pointer (some ⟨gM,0,none⟩))) W4.heap.size ⟨Ao,no,co⟩ ts2:=OCz.out.1.chgT (S:=fun k => k = gm) ((Chg.refl _ _).setCell _ _ (fun _ => rfl)) BAz.out (by decide) (by decide) (fun k hk => hk)
     obtain ⟨wy,hwy⟩:∃ wy,wy = wz.setCell ⟨gm,0,none⟩ (.pointer (some ⟨gM,0,none⟩)):=⟨_,rfl⟩
     rw [← hwy] at BM1 BA1 SZ1 OZ1
     rw [← hwy]
     have y0:=BA1.cell 0
     have y5:=BM1.cell 5
     have f5:=BM1.frozen 5
     have ZZ:=Lib.hid (And.intro BM1 (And.intro BA1 (And.intro SZ1 OZ1)))
     have ZO:=Lib.hid OCz.out.2
     clear hwy BM1 BA1 SZ1 OZ1 qm qmf
     go_wp2_with fail
     show POST (.returned (.tuple #[.pointer (some ⟨gM,0,none⟩),.int .i64 0])) (wy.setCell ⟨gM,5,none⟩ (.func (.func 61) #[] #[.pointer (some ⟨w.heap.size,0,none⟩),.pointer (some ⟨w.heap.size + 1,0,none⟩),.pointer (some ⟨gm,0,none⟩)]))
     exact HP.out wy gM gm Ao no co ts2 hgM0 hgm0 ZZ.out.1 ZZ.out.2.1 ZZ.out.2.2.1 ZZ.out.2.2.2 ZO.out
end Go.Proofs.YtfifnemnihcijaaGreatDoor

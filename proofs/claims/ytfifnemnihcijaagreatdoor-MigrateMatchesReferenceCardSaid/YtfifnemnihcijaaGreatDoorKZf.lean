import Derived.Test.YtfifnemnihcijaaGreatDoorKZe
set_option linter.unusedSimpArgs false
set_option linter.unusedVariables false
set_option maxHeartbeats 16000000
set_option maxRecDepth 100000
namespace Go.Proofs.YtfifnemnihcijaaGreatDoor
open Go.RowKit
theorem reads_blkS {w:World} {b:Nat} {t:TypeId} {x:Value} (h:Blk w b t #[x]):Reads w (b + 1) 1 (some ⟨b,0,none⟩) 1 [x]:=by
 refine ⟨rfl,fun _ => ⟨_,rfl,Nat.lt_succ_self _,fun j u hu => ?_⟩⟩
 have h:=h.cell j
 have e:(⟨b,0,none⟩:Addr).add j = ⟨b,j,none⟩:=by unfold Addr.add;split <;> simp_all
 rw [e,h]
 simpa using hu
theorem own_emptyS {w:World} {b B:Nat} {t:TypeId} (h:Blk w b t #[]) (hB:B ≤ b):w.ownsRow B t 1 (.slice (some ⟨b,0,none⟩) 0 0) 0 []:=
 blk_own hB h rfl (Nat.le_refl _) (Nat.zero_le _) (by simp) rfl
theorem own_ren2 {w:World} {B g n c:Nat} {ra:List RA} (o:w.ownsRow B 82 6 (.slice (some ⟨g,0,none⟩) n c) n (ra.flatMap RA.cells)) (hl:ra.length = n) (a:Nat) (ha:a < n) (hw:Hd) (was:List ByteArray) (nn:ByteArray) :
  ((w.setCell ⟨g,a * 6 + 2,none⟩ hw.val).setCell ⟨g,a * 6,none⟩ (.string nn)).ownsRow B 82 6 (.slice (some ⟨g,0,none⟩) n c) n
   ((ra.set a ⟨⟨nn,(ra[a]'(by omega)).at_.kind,was,(ra[a]'(by omega)).at_.dflt⟩,hw⟩).flatMap RA.cells):=by
 subst hl
 obtain ⟨r,hr⟩:∃ r,r = ra[a]:=⟨_,rfl⟩
 rw [← hr]
 obtain ⟨⟨nm,kd,was0,⟨k0,n0,s0⟩⟩,h⟩:=r
 have o1:=own_set (y:=(⟨⟨nm,kd,was,⟨k0,n0,s0⟩⟩,hw⟩:RA)) RA.clen o rfl a ha 2 (by decide) hw.val (by rw [← hr];rfl)
 have o2:=own_set (y:=(⟨⟨nn,kd,was,⟨k0,n0,s0⟩⟩,hw⟩:RA)) RA.clen o1 (by simp) a ha 0 (by decide) (.string nn) (by simp;rfl)
 simpa [List.set_set] using o2
theorem rapply_ren (A:Option Addr) (m cc:Nat) (tt aa n:ByteArray) (to_ dk dn:Int) (ds:ByteArray) (ts:List RT) (w:World) (hm:ts.length = m) (hm2:m ≤ 20) (HA:Hid (TabsAt w ⟨A,m,cc⟩ ts))
  (q:Nat) (cj:Int) (HF:Hid (Rt 41 #[.agg #[.slice A m cc],.agg #[.int .i64 3,.string tt,.string aa,.string n,.int .i64 to_,.int .i64 dk,.int .i64 dn,.string ds]] w (.tuple #[.int .i64 q,.int .i64 cj,.int .i64 0])))
  (hq:q < ts.length) (hn:okS n) (hd:okS ds) (hra:ts[q].ra.length ≤ 12) (a:Nat) (hcj:cj = a) (ha:a < ts[q].ra.length) (hc:colA ts[q].tb.attrs aa = a) (hfew:∀ r ∈ ts[q].ra,r.at_.was.length ≤ 1000000) :
  Calls Tryz.prog 8 #[.agg #[.slice A m cc],.agg #[.int .i64 3,.string tt,.string aa,.string n,.int .i64 to_,.int .i64 dk,.int .i64 dn,.string ds]] w fun e w' => ROut w ⟨A,m,cc⟩ ts q (newT ts[q].tb ⟨3,tt,aa,n,to_,⟨dk,dn,ds⟩⟩) w' e:=by
 obtain ⟨i0,hi0,hiz0,hiz1,hiz2⟩:=info_parts Tryz.infoCT
 obtain ⟨i1,hj0,hjz0,hjz1,hjz2⟩:=info_parts Tryz.infoCA
 have hqm:q < m:=by omega
 have hm0:0 < m:=by omega
 have q0:(0:Int) ≤ (q:Int):=by omega
 have q1:(q:Int) < (m:Int):=by omega
 obtain ⟨b,off,hA,hbl,hcell⟩:=HA.out.1.2.2 q hq
 have hA':A = some ⟨b,off,none⟩:=hA
 clear hA
 subst hA'
 have hti:=HA.out.2 _ (List.getElem_mem hq)
 have hgq:ts[q]? = some ts[q]:=List.getElem?_eq_getElem hq
 obtain ⟨t,ht⟩:∃ t,t = ts[q]:=⟨_,rfl⟩
 rw [← ht] at hcell hti hra ha hc hfew ⊢
 obtain ⟨tn,⟨A1,m1,c1_⟩,ra,⟨A2,m2,c2_⟩,key⟩:=t
 have y0:w.cell? ⟨b,off + q * 3,none⟩ = some (.string tn):=hcell 0 _ rfl
 have y1:w.cell? ⟨b,off + q * 3 + 1,none⟩ = some (.slice A1 m1 c1_):=hcell 1 _ rfl
 have y2:w.cell? ⟨b,off + q * 3 + 2,none⟩ = some (.slice A2 m2 c2_):=hcell 2 _ rfl
 have hm1:ra.length = m1:=hti.1.1.1
 have hra':ra.length ≤ 12:=hra
 have hm12:m1 ≤ 12:=by omega
 have HTA:Hid (AttrsAt w ⟨A1,m1,c1_⟩ ra):=hti.1
 have HTK:Hid (IntsAt w ⟨A2,m2,c2_⟩ key):=hti.2.1
 have HTN:Hid (okS tn):=hti.2.2
 have HD:=Lib.hid hd
 have HN:=Lib.hid hn
 obtain ⟨XT,hXT⟩:∃ XT,XT = ts.flatMap RT.cells:=⟨_,rfl⟩
 obtain ⟨XA,hXA⟩:∃ XA,XA = ra.flatMap RA.cells:=⟨_,rfl⟩
 have HXA':Hid (XA = ra.flatMap RA.cells):=hXA
 have HXT':Hid (XT = ts.flatMap RT.cells):=hXT
 have HXT:Hid (∀ u ∈ XT,u.oneCell' = true):=Lib.hid fun u hu => by
  rw [hXT] at hu
  obtain ⟨x,_,hx⟩:=List.mem_flatMap.1 hu
  exact RT.one1 x u hx
 have HXA:Hid (∀ u ∈ XA,u.oneCell' = true):=Lib.hid fun u hu => by
  rw [hXA] at hu
  obtain ⟨x,_,hx⟩:=List.mem_flatMap.1 hu
  exact RA.one1 x u hx
 have HRT0:Hid (∀ W,Same w W → Reads W W.heap.size 3 (some ⟨b,off,none⟩) m XT):=Lib.hid fun W s => by rw [hXT];exact lies_reads RT.clen (HA.out.same s).1
 have HRA0:Hid (∀ W,Same w W → Reads W W.heap.size 6 A1 m1 XA):=Lib.hid fun W s => by rw [hXA];exact lies_reads RA.clen (HTA.out.same s).1
 have HGQ:Hid (q < m ∧ (∀ (W:World) (g c:Nat),W.ownsRow w.heap.size 44 3 (.slice (some ⟨g,0,none⟩) m c) m XT → W.cell? ⟨g,q * 3,none⟩ = some (.string tn) ∧ W.cell? ⟨g,q * 3 + 1,none⟩ = some (.slice A1 m1 c1_) ∧ W.cell? ⟨g,q * 3 + 2,none⟩ = some (.slice A2 m2 c2_) ∧ ∀ j,W.frozen? ⟨g,j,none⟩ = false)):=by
  refine ⟨hqm,fun W g c o => ?_⟩
  rw [hXT] at o
  have z0:=own_cell RT.clen o hm q hqm 0 (by decide)
  have z1:=own_cell RT.clen o hm q hqm 1 (by decide)
  have z2:=own_cell RT.clen o hm q hqm 2 (by decide)
  rw [← ht] at z0 z1 z2
  refine ⟨z0,z1,z2,?_⟩
  obtain ⟨g',cur,hA,_,hk,_⟩:=own_blk o hm0
  injection hA with hA
  injection hA with e
  subst e
  exact fun j => hk.frozen j
 have HTM:Hid ((⟨tn,⟨A1,m1,c1_⟩,ra,⟨A2,m2,c2_⟩,key⟩:RT) ∈ ts):=by show _ ∈ ts;rw [ht];exact List.getElem_mem hq
 clear hcell hti hra hd hn hXT hXA ht hgq
 have ha':a < ra.length:=ha
 have ham:a < m1:=by omega
 have HCA:Hid (colA (RT.tb ⟨tn,⟨A1,m1,c1_⟩,ra,⟨A2,m2,c2_⟩,key⟩).attrs aa = a):=hc
 have hfew':(ra[a]'ha').at_.was.length ≤ 1000000:=hfew _ (List.getElem_mem ha')
 clear ha hc hfew
 subst hcj
 go_enter Tryz.func8,Tryz.ntmps8
 go_wp2_with fail
 obtain ⟨W0,hW0⟩:∃ W0,W0 = ((w.alloc (.cells #[.slice (some ⟨b,off,none⟩) m cc] 24)).alloc (.cells #[.int .i64 3,.string tt,.string aa,.string n,.int .i64 to_,.int .i64 dk,.int .i64 dn,.string ds] 28)).alloc (.cells #[.slice none 0 0] 24):=⟨_,rfl⟩
 have S0:Hid (Same w W0):=by show Same _ _;rw [hW0];exact (((Same.refl w).alloc _).alloc _).alloc _
 have BS0:Blk W0 w.heap.size 24 #[.slice (some ⟨b,off,none⟩) m cc]:=by rw [hW0];exact ((Blk.new w _ _).alloc _).alloc _
 have BC0:Blk W0 (w.heap.size + 1) 28 #[.int .i64 3,.string tt,.string aa,.string n,.int .i64 to_,.int .i64 dk,.int .i64 dn,.string ds]:=by
  have e:w.heap.size + 1 = (w.alloc (.cells #[.slice (some ⟨b,off,none⟩) m cc] 24)).heap.size:=by simp
  rw [hW0,e];exact (Blk.new _ _ _).alloc _
 have BR0:Blk W0 (w.heap.size + 1 + 1) 24 #[.slice none 0 0]:=by
  have e:w.heap.size + 1 + 1 = ((w.alloc (.cells #[.slice (some ⟨b,off,none⟩) m cc] 24)).alloc (.cells #[.int .i64 3,.string tt,.string aa,.string n,.int .i64 to_,.int .i64 dk,.int .i64 dn,.string ds] 28)).heap.size:=by simp
  rw [hW0,e];exact Blk.new _ _ _
 rw [← hW0]
 clear hW0
 refine (HF.out _ S0.out).mono ?_
 rintro e w1 ⟨rfl,s1⟩
 have S1:=Lib.hid (S0.out.trans s1)
 have BS1:=Lib.hid (BS0.below s1 BS0.lt)
 have BC1:=Lib.hid (BC0.below s1 BC0.lt)
 have BR1:=Lib.hid (BR0.below s1 BR0.lt)
 clear s1 BS0 BC0 BR0
 have z0:w.heap.size < w1.heap.size:=BS1.out.lt
 have z2:w.heap.size + 1 + 1 < w1.heap.size:=BR1.out.lt
 have lw1:w.heap.size ≤ w1.heap.size:=by omega
 have b0:w1.cell? ⟨w.heap.size,0,none⟩ = some (.slice (some ⟨b,off,none⟩) m cc):=BS1.out.cell 0
 have HRT:=Lib.hid (HRT0.out w1 S1.out)
 have hb1:b < w1.heap.size:=Nat.lt_of_lt_of_le hbl lw1
 have yy0:=(S1.out.cells _ _ hbl).trans y0
 have yy1:=(S1.out.cells _ _ hbl).trans y1
 have yy2:=(S1.out.cells _ _ hbl).trans y2
 go_upto_region 6 with (at_builtin;refine wpList_append_any _ rfl (.tmp 24) (.tmp 26) 22 rfl w.heap.size 44 i0 _ 3 64 Tryz.underlying22 hi0 hiz0 hiz1 hiz2 rfl (by decide) (.slice (some ⟨w1.heap.size,0,none⟩) 0 0) 0 [] rfl (own_low (ownsRow_new w1 _ _) lw1) w1.heap.size (some ⟨b,off,none⟩) m cc XT rfl (HRT.out.alloc (Nat.le_refl _) _) HXT.out (by simp only [maxLen];omega) (by omega) (by simp;omega) ?_;intro v1 w2 hown1 hg1 hat1;rw [List.nil_append,Nat.zero_add] at hown1;obtain ⟨g,c3,hv,hgb,hgl⟩:=own_head hown1 hm0;subst hv;have sm:Same w1 w2:=Below.grown ((Same.refl w1).alloc _) hg1 (by simp) (fun k hk => by simp [Value.ownBlock] at hk;omega);have SM:=Lib.hid sm;have OT:=Lib.hid hown1;have lw2:w.heap.size < w2.heap.size:=Nat.lt_of_lt_of_le z0 sm.size;have lb2:b < w2.heap.size:=Nat.lt_of_lt_of_le hb1 sm.size;have b0':=(sm.cells _ 0 z0).trans b0;have yy0':=(sm.cells _ _ hb1).trans yy0;have yy1':=(sm.cells _ _ hb1).trans yy1;have yy2':=(sm.cells _ _ hb1).trans yy2;clear hown1 hg1 hat1 sm yy0 yy1 yy2 b0)
 obtain ⟨W3,hW3⟩:∃ W3,W3 = (w2.alloc (.cells #[.slice (some ⟨g,0,none⟩) m c3] 24)).alloc (.cells #[.string tn,.slice A1 m1 c1_,.slice A2 m2 c2_] 44):=⟨_,rfl⟩
 have s23:Same w2 W3:=by rw [hW3];exact ((Same.refl w2).alloc _).alloc _
 have BO:Hid (Blk W3 w2.heap.size 24 #[.slice (some ⟨g,0,none⟩) m c3]):=by show Blk _ _ _ _;rw [hW3];exact (Blk.new w2 _ _).alloc _
 have BX:Hid (Blk W3 (w2.heap.size + 1) 44 #[.string tn,.slice A1 m1 c1_,.slice A2 m2 c2_]):=by
  have e:w2.heap.size + 1 = (w2.alloc (.cells #[.slice (some ⟨g,0,none⟩) m c3] 24)).heap.size:=by simp
  show Blk _ _ _ _
  rw [hW3,e];exact Blk.new _ _ _
 rw [← hW3]
 clear hW3 yy0' yy1' yy2' b0'
 have S13:Hid (Same w1 W3):=SM.out.trans s23
 have X3:Hid (XS w W3 g c3 m (w2.heap.size + 1) w2.heap.size XT (.slice (some ⟨b,off,none⟩) m cc) #[.int .i64 3,.string tt,.string aa,.string n,.int .i64 to_,.int .i64 dk,.int .i64 dn,.string ds] tn (.slice A1 m1 c1_) (.slice A2 m2 c2_)):=
  ⟨S1.out.trans S13.out,own_same s23 OT.out,hgb,BX.out,BO.out,BR1.out.below S13.out BR1.out.lt,BC1.out.below S13.out BC1.out.lt,BS1.out.below S13.out BS1.out.lt,by omega,by omega⟩
 have lw3:w.heap.size ≤ W3.heap.size:=X3.out.s.size
 have lx0:w2.heap.size + 1 < W3.heap.size:=BX.out.lt
 have x31:W3.cell? ⟨w2.heap.size + 1,1,none⟩ = some (.slice A1 m1 c1_):=BX.out.cell 1
 have x3f:W3.frozen? ⟨w2.heap.size + 1,1,none⟩ = false:=BX.out.frozen 1
 have HRA:=Lib.hid (HRA0.out W3 X3.out.s)
 clear s23 BO BX SM OT HRT HRT0 HRA0 BS1 BC1 BR1
 go_upto_region 7 with (at_builtin;refine wpList_append_any _ rfl (.tmp 34) (.tmp 36) 41 rfl w.heap.size 82 i1 _ 6 80 Tryz.underlying41 hj0 hjz0 hjz1 hjz2 rfl (by decide) (.slice (some ⟨W3.heap.size,0,none⟩) 0 0) 0 [] rfl (own_low (ownsRow_new W3 _ _) lw3) W3.heap.size A1 m1 c1_ XA rfl (HRA.out.alloc (Nat.le_refl _) _) HXA.out (by simp only [maxLen];omega) (by omega) (by simp;omega) ?_;intro v1 w4 hown1 hg1 hat1;rw [List.nil_append,Nat.zero_add] at hown1;obtain ⟨A4,c4_,hv⟩:=own_val hown1;subst hv;have sm:Same W3 w4:=Below.grown ((Same.refl W3).alloc _) hg1 (by simp) (fun k hk => by simp [Value.ownBlock] at hk;omega);have SM4:=Lib.hid sm;have OA:=Lib.hid hown1;have u1:=(sm.cells _ 1 lx0).trans x31;have uf:=(sm.frees _ 1 lx0).trans x3f;clear hown1 hg1 hat1 sm x31 x3f)
 obtain ⟨W5,hW5⟩:∃ W5,W5 = w4.setCell ⟨w2.heap.size + 1,1,none⟩ (.slice A4 m1 c4_):=⟨_,rfl⟩
 have X4:=X3.out.same SM4.out
 have X5:Hid (XS w W5 g c3 m (w2.heap.size + 1) w2.heap.size XT (.slice (some ⟨b,off,none⟩) m cc) #[.int .i64 3,.string tt,.string aa,.string n,.int .i64 to_,.int .i64 dk,.int .i64 dn,.string ds] tn (.slice A4 m1 c4_) (.slice A2 m2 c2_)):=by
  rw [hW5];exact X4.setX _
 have OA5:Hid (W5.ownsRow w.heap.size 82 6 (.slice A4 m1 c4_) m1 XA):=by show World.ownsRow _ _ _ _ _ _ _;rw [hW5];exact X4.keepX OA.out (by decide) 1 _
 rw [← hW5]
 clear hW5 X4 X3 OA SM4 u1 uf S13 HRA lx0 lw3
 obtain ⟨bx,hbx⟩:∃ bx,bx = w2.heap.size + 1:=⟨_,rfl⟩
 obtain ⟨bo,hbo⟩:∃ bo,bo = w2.heap.size:=⟨_,rfl⟩
 rw [← hbx] at X5 ⊢
 rw [← hbo] at X5 ⊢
 clear hbx hbo lw2 lb2 hgl
 have xW50:=X5.out.bX.cell 0
 have xW51:=X5.out.bX.cell 1
 have xW52:=X5.out.bX.cell 2
 have xfW5:=X5.out.bX.frozen 1
 have cW50:=X5.out.bC.cell 0
 have cW53:=X5.out.bC.cell 3
 have cW54:=X5.out.bC.cell 4
 have cW55:=X5.out.bC.cell 5
 have cW56:=X5.out.bC.cell 6
 have cW57:=X5.out.bC.cell 7
 have hpos:0 < m1:=by omega
 obtain ⟨ga,ca,hv,hgab,hgal⟩:=own_head OA5.out hpos
 injection hv with hv1 _ hv2
 subst hv1 hv2
 obtain ⟨ga',cur,hA,_,hk,_,hmc,hcm,_⟩:=own_blk OA5.out hpos
 injection hA with hA
 injection hA with e
 subst e
 have HK:=Lib.hid hk
 have nbx:ga ≠ bx:=hk.ne_ X5.out.bX (by decide)
 have nbc:ga ≠ w.heap.size + 1:=hk.ne_ X5.out.bC (by decide)
 obtain ⟨i2,hk0,hkz0,hkz1,hkz2⟩:=info_parts Tryz.infoCS
 obtain ⟨⟨⟨nm,kd,was,⟨k0,n0,s0⟩⟩,⟨Aw,wl,wc⟩⟩,hr⟩:∃ r,r = ra[a]'ha':=⟨_,rfl⟩
 have eW50:=own_cell RA.clen (by have h:=OA5.out;rw [HXA'.out] at h;exact h) hm1 a ham 0 (by decide)
 have efW50:=hk.frozen (a * 6 + 0)
 have eW52:=own_cell RA.clen (by have h:=OA5.out;rw [HXA'.out] at h;exact h) hm1 a ham 2 (by decide)
 have efW52:=hk.frozen (a * 6 + 2)
 rw [← hr] at eW50 eW52
 have eW50':W5.cell? ⟨ga,a * 6,none⟩ = some (.string nm):=eW50
 have eW52':W5.cell? ⟨ga,a * 6 + 2,none⟩ = some (.slice Aw wl wc):=eW52
 have HRW:=(HTA.out.2 _ (List.getElem_mem ha')).1
 have HRN:=(HTA.out.2 _ (List.getElem_mem ha')).2.1
 rw [← hr] at HRW HRN hfew'
 have HWN:Hid (was = (ra[a]'ha').at_.was ∧ nm = (ra[a]'ha').at_.name):=by rw [← hr];exact ⟨rfl,rfl⟩
 have hwl:was.length = wl:=HRW.1.1
 have hwl2:wl ≤ 1000000:=by rw [← hwl];exact hfew'
 obtain ⟨XW,hXW⟩:∃ XW,XW = was.map Value.string:=⟨_,rfl⟩
 have HX1:Hid (∀ u ∈ XW,u.oneCell' = true):=Lib.hid fun u hu => by
  rw [hXW] at hu
  obtain ⟨y,_,rfl⟩:=List.mem_map.1 hu
  rfl
 have HRD:Hid (∀ W,Same W5 W → Reads W W.heap.size 1 Aw wl XW):=Lib.hid fun W s => by rw [hXW];exact strs_reads ((StrsAt.same HRW X5.out.s).same s).1
 have HSTR:Hid (∀ (W9:World) (B2:Option Addr) (d2:Nat),W9.ownsRow W5.heap.size 9 1 (.slice B2 (wl + 1) d2) (wl + 1) (XW ++ [.string nm]) → StrsAt W9 ⟨B2,wl + 1,d2⟩ (was ++ [nm])):=Lib.hid fun W9 B2 d2 o => by
  refine ⟨own_lies' (enc:=strCell) (fun _ => rfl) (by simp [hwl]) (by show wl + 1 ≤ _;omega) (by rw [flat_str,List.map_append];rw [hXW] at o;exact o),fun s hs => ?_⟩
  rcases List.mem_append.1 hs with h1 | h1
  ·exact HRW.2 s h1
  ·rw [List.mem_singleton.1 h1];exact HRN
 have lbx:bx < W5.heap.size:=X5.out.bX.lt
 have lga:ga < W5.heap.size:=hk.lt
 have efW50':W5.frozen? ⟨ga,a * 6,none⟩ = false:=efW50
 clear eW50 eW52 hr hk hXW HRW HRN hfew'
 go_upto_region 21 with (fail)
 refine wp_region_last (opsP:=?opsP) (S:=(fun w' => w'.cell? ⟨bx,1,none⟩ = some (.slice (some ⟨ga,0,none⟩) m1 c4_) ∧ w'.cell? ⟨ga,a * 6 + 2,none⟩ = some (.slice Aw wl wc) ∧ w'.cell? ⟨ga,a * 6,none⟩ = some (.string nm))) (n:=21) (by kernel_rfl) (lastOk_of (by kernel_rfl)) ?hp ?wk
 case hp => simp only [List.pop_toArray,List.dropLast_cons_cons,List.dropLast_singleton];rfl
 have SMwd:Hid (Same W5 W5.drew):=(Same.refl W5).drew
 generalize W5.drew = wd at SMwd ⊢
 have y1wd:=(SMwd.out.cells _ _ lbx).trans xW51
 have y2wd:=(SMwd.out.cells _ _ lga).trans eW52'
 have y3wd:=(SMwd.out.cells _ _ lga).trans eW50'
 have hHeld:(fun w' => w'.cell? ⟨bx,1,none⟩ = some (.slice (some ⟨ga,0,none⟩) m1 c4_) ∧ w'.cell? ⟨ga,a * 6 + 2,none⟩ = some (.slice Aw wl wc) ∧ w'.cell? ⟨ga,a * 6,none⟩ = some (.string nm)) wd:=⟨y1wd,y2wd,y3wd⟩
 refine tk 0 (oi:=?o1) (v:=?v1) ?h1 (by kernel_rfl) ?q1 ?w1 ?y1 hHeld ?r1
 case h1 => simp only [lxa,lxb,lxc];rfl
 case q1 => exact fun _ _ _ h => h
 case w1 => rfl
 case y1 => rintro w' ⟨y1z,y2z,y3z⟩;go_simp;try with_reducible rfl
 try simp only [Act.put,lxd,lxe,lxf]
 refine tk 1 (oi:=?o2) (v:=?v2) ?h2 (by kernel_rfl) ?q2 ?w2 ?y2 hHeld ?r2
 case h2 => simp only [lxa,lxb,lxc];rfl
 case q2 => exact fun _ _ _ h => h
 case w2 => rfl
 case y2 => rintro w' ⟨y1z,y2z,y3z⟩;go_simp;try with_reducible rfl
 try simp only [Act.put,lxd,lxe,lxf]
 refine tk 2 (oi:=?o3) (v:=?v3) ?h3 (by kernel_rfl) ?q3 ?w3 ?y3 hHeld ?r3
 case h3 => simp only [lxa,lxb,lxc];rfl
 case q3 => exact fun _ _ _ h => h
 case w3 => rfl
 case y3 => rintro w' ⟨y1z,y2z,y3z⟩;go_simp;try with_reducible rfl
 try simp only [Act.put,lxd,lxe,lxf]
 refine tk 4 (oi:=?o4) (v:=?v4) ?h4 (by kernel_rfl) ?q4 ?w4 ?y4 hHeld ?r4
 case h4 => simp only [lxa,lxb,lxc];rfl
 case q4 => exact fun _ _ _ h => h
 case w4 => rfl
 case y4 => rintro w' ⟨y1z,y2z,y3z⟩;go_simp;try with_reducible rfl
 try simp only [Act.put,lxd,lxe,lxf]
 refine tk 5 (oi:=?o5) (v:=?v5) ?h5 (by kernel_rfl) ?q5 ?w5 ?y5 hHeld ?r5
 case h5 => simp only [lxa,lxb,lxc];rfl
 case q5 => exact fun _ _ _ h => h
 case w5 => rfl
 case y5 => rintro w' ⟨y1z,y2z,y3z⟩;go_simp;try with_reducible rfl
 try simp only [Act.put,lxd,lxe,lxf]
 refine tk 6 (oi:=?o6) (v:=?v6) ?h6 (by kernel_rfl) ?q6 ?w6 ?y6 hHeld ?r6
 case h6 => simp only [lxa,lxb,lxc];rfl
 case q6 => exact fun _ _ _ h => h
 case w6 => rfl
 case y6 => rintro w' ⟨y1z,y2z,y3z⟩;go_simp;try with_reducible rfl
 try simp only [Act.put,lxd,lxe,lxf]
 refine tk 7 (oi:=?o7) (v:=?v7) ?h7 (by kernel_rfl) ?q7 ?w7 ?y7 hHeld ?r7
 case h7 => simp only [lxa,lxb,lxc];rfl
 case q7 => exact fun _ _ _ h => h
 case w7 => rfl
 case y7 => rintro w' ⟨y1z,y2z,y3z⟩;go_simp;try with_reducible rfl
 try simp only [Act.put,lxd,lxe,lxf]
 refine tk 8 (oi:=?o8) (v:=?v8) ?h8 (by kernel_rfl) ?q8 ?w8 ?y8 hHeld ?r8
 case h8 => simp only [lxa,lxb,lxc];rfl
 case q8 => exact fun _ _ _ h => h
 case w8 => rfl
 case y8 => rintro w' ⟨y1z,y2z,y3z⟩;go_simp;try with_reducible rfl
 try simp only [Act.put,lxd,lxe,lxf]
 refine tk 9 (oi:=?o9) (v:=?v9) ?h9 (by kernel_rfl) ?q9 ?w9 ?y9 hHeld ?r9
 case h9 => simp only [lxa,lxb,lxc];rfl
 case q9 => exact fun _ _ _ h => h
 case w9 => rfl
 case y9 => rintro w' ⟨y1z,y2z,y3z⟩;go_simp;try with_reducible rfl
 try simp only [Act.put,lxd,lxe,lxf]
 refine tk 11 (oi:=?o10) (v:=?v10) ?h10 (by kernel_rfl) ?q10 ?w10 ?y10 hHeld ?r10
 case h10 => simp only [lxa,lxb,lxc];rfl
 case q10 => exact fun _ _ _ h => h
 case w10 => rfl
 case y10 => rintro w' ⟨y1z,y2z,y3z⟩;go_simp;try with_reducible rfl
 try simp only [Act.put,lxd,lxe,lxf]
 refine tk 12 (oi:=?o11) (v:=?v11) ?h11 (by kernel_rfl) ?q11 ?w11 ?y11 hHeld ?r11
 case h11 => simp only [lxa,lxb,lxc];rfl
 case q11 => exact fun _ _ _ h => h
 case w11 => rfl
 case y11 => rintro w' ⟨y1z,y2z,y3z⟩;go_simp;try with_reducible rfl
 try simp only [Act.put,lxd,lxe,lxf]
 refine tk 13 (oi:=?o12) (v:=?v12) ?h12 (by kernel_rfl) ?q12 ?w12 ?y12 hHeld ?r12
 case h12 => simp only [lxa,lxb,lxc];rfl
 case q12 => exact fun _ _ _ h => h
 case w12 => rfl
 case y12 => rintro w' ⟨y1z,y2z,y3z⟩;go_simp;try with_reducible rfl
 try simp only [Act.put,lxd,lxe,lxf]
 refine tk 14 (oi:=?o13) (v:=?v13) ?h13 (by kernel_rfl) ?q13 ?w13 ?y13 hHeld ?r13
 case h13 => simp only [lxa,lxb,lxc];rfl
 case q13 => exact fun _ _ _ h => h
 case w13 => rfl
 case y13 => rintro w' ⟨y1z,y2z,y3z⟩;go_simp;try with_reducible rfl
 try simp only [Act.put,lxd,lxe,lxf]
 refine tk 15 (oi:=?o14) (v:=?v14) ?h14 (by kernel_rfl) ?q14 ?w14 ?y14 hHeld ?r14
 case h14 => simp only [lxa,lxb,lxc];rfl
 case q14 => exact fun _ _ _ h => h
 case w14 => rfl
 case y14 => rintro w' ⟨y1z,y2z,y3z⟩;go_simp;try with_reducible rfl
 try simp only [Act.put,lxd,lxe,lxf]
 refine tk 16 (oi:=?o15) (v:=?v15) ?h15 (by kernel_rfl) ?q15 ?w15 ?y15 hHeld ?r15
 case h15 => simp only [lxa,lxb,lxc];rfl
 case q15 => exact fun _ _ _ h => h
 case w15 => rfl
 case y15 => rintro w' ⟨y1z,y2z,y3z⟩;go_simp;try with_reducible rfl
 try simp only [Act.put,lxd,lxe,lxf]
 refine wpAnyH_ready (rs:=[3,17]) (by kernel_rfl) (by simp) ?_
 refine AllReadyH.cons (o:=?oo16_0) ?ho16_0 (fun K hK => ?st16_0) ?more16_0
 case ho16_0 => simp only [lxa,lxb,lxc];rfl
 case st16_0 =>
  rw [if_pos (by rfl)]
  go_simp
  obtain ⟨wa1,hwa1⟩:∃ wa1,wa1 = wd.alloc (.cells #[] 9):=⟨_,rfl⟩
  have swa1:Same wd wa1:=by rw [hwa1];exact (Same.refl _).alloc _
  have Bwa1:Hid (Blk wa1 wd.heap.size 9 #[]):=by rw [hwa1];exact Lib.hid (Blk.new _ _ _)
  have lbwa1:W5.heap.size ≤ wd.heap.size:=SMwd.out.size
  rw [← hwa1]
  have SMwa1:Hid (Same W5 wa1):=SMwd.out.trans swa1
  have y1wa1:=(SMwa1.out.cells _ _ lbx).trans xW51
  have y2wa1:=(SMwa1.out.cells _ _ lga).trans eW52'
  have y3wa1:=(SMwa1.out.cells _ _ lga).trans eW50'
  clear hwa1 swa1
  refine hK.out _ _ ⟨y1wa1,y2wa1,y3wa1⟩ (fun hHeld => ?_)
  clear hK K
  try simp only [Act.put,lxd,lxe,lxf]
  refine wpAnyH_ready (rs:=[10,17]) (by kernel_rfl) (by simp) ?_
  refine AllReadyH.cons (o:=?oo17_0) ?ho17_0 (fun K hK => ?st17_0) ?more17_0
  case ho17_0 => simp only [lxa,lxb,lxc];rfl
  case st17_0 =>
   refine step_append_any _ rfl (.tmp 105) (.tmp 111) 80 rfl W5.heap.size 9 i2 _ 1 16 Tryz.underlying80 hk0 hkz0 hkz1 hkz2 rfl (by decide) (.slice (some ⟨wd.heap.size,0,none⟩) 0 0) 0 [] rfl (own_emptyS Bwa1.out lbwa1) wa1.heap.size Aw wl wc XW rfl (HRD.out _ SMwa1.out) HX1.out (by simp only [maxLen];omega) (by omega) SMwa1.out.size ?_
   intro v1 wb2 hown1 hg1 hat1
   rw [Nat.zero_add,List.nil_append] at hown1
   obtain ⟨B1,d1,hv⟩:=own_val hown1
   subst hv
   have Owb2:=Lib.hid hown1
   have swb2:Same W5 wb2:=Below.grown SMwa1.out hg1 SMwa1.out.size (fun k hk => by simp [Value.ownBlock] at hk;have:=lbwa1;omega)
   have SMwb2:Hid (Same W5 wb2):=swb2
   have y1wb2:=(SMwb2.out.cells _ _ lbx).trans xW51
   have y2wb2:=(SMwb2.out.cells _ _ lga).trans eW52'
   have y3wb2:=(SMwb2.out.cells _ _ lga).trans eW50'
   clear hown1 hg1 hat1 swb2
   refine hK.out _ _ ⟨y1wb2,y2wb2,y3wb2⟩ (fun hHeld => ?_)
   clear hK K
   try simp only [Act.put,lxd,lxe,lxf]
   refine wpAnyH_ready (rs:=[17]) (by kernel_rfl) (by simp) ?_
   refine AllReadyH.cons (o:=?oo18_0) ?ho18_0 (fun K hK => ?st18_0) ?more18_0
   case ho18_0 => simp only [lxa,lxb,lxc];rfl
   case st18_0 =>
    rw [if_pos (by rfl)]
    go_simp
    obtain ⟨wa3,hwa3⟩:∃ wa3,wa3 = wb2.alloc (.cells #[.string nm] 9):=⟨_,rfl⟩
    have swa3:Same wb2 wa3:=by rw [hwa3];exact (Same.refl _).alloc _
    have Bwa3:Hid (Blk wa3 wb2.heap.size 9 #[.string nm]):=by rw [hwa3];exact Lib.hid (Blk.new _ _ _)
    have lbwa3:W5.heap.size ≤ wb2.heap.size:=SMwb2.out.size
    rw [← hwa3]
    have Owa3:=Lib.hid (own_same swa3 Owb2.out)
    have SMwa3:Hid (Same W5 wa3):=SMwb2.out.trans swa3
    have y1wa3:=(SMwa3.out.cells _ _ lbx).trans xW51
    have y2wa3:=(SMwa3.out.cells _ _ lga).trans eW52'
    have y3wa3:=(SMwa3.out.cells _ _ lga).trans eW50'
    clear hwa3 swa3
    refine hK.out _ _ ⟨y1wa3,y2wa3,y3wa3⟩ (fun hHeld => ?_)
    clear hK K
    try simp only [Act.put,lxd,lxe,lxf]
    refine wpAnyH_ready (rs:=[18]) (by kernel_rfl) (by simp) ?_
    refine AllReadyH.cons (o:=?oo19_0) ?ho19_0 (fun K hK => ?st19_0) ?more19_0
    case ho19_0 => simp only [lxa,lxb,lxc];rfl
    case st19_0 =>
     refine step_append_any _ rfl (.tmp 112) (.tmp 119) 80 rfl W5.heap.size 9 i2 _ 1 16 Tryz.underlying80 hk0 hkz0 hkz1 hkz2 rfl (by decide) (.slice B1 wl d1) wl XW rfl Owa3.out (wb2.heap.size + 1) (some ⟨wb2.heap.size,0,none⟩) 1 1 [.string nm] rfl (reads_blkS Bwa3.out) (by intro u hu;simp at hu;rw [hu];rfl) (by simp only [maxLen];omega) (by omega) SMwa3.out.size ?_
     intro v2 wc hown2 hg2 hat2
     obtain ⟨B2,d2,hv⟩:=own_val hown2
     subst hv
     have swc:Same W5 wc:=Below.grown SMwa3.out hg2 SMwa3.out.size (fun k hk => (Owa3.out.lt k hk).1)
     have HOS:=Lib.hid hown2
     have fz2:=(swc.frees _ _ lga).trans efW52
     have fz0:=(swc.frees _ _ lga).trans efW50'
     have SMwc:Hid (Same W5 wc):=swc
     have y1wc:=(SMwc.out.cells _ _ lbx).trans xW51
     have y2wc:=(SMwc.out.cells _ _ lga).trans eW52'
     have y3wc:=(SMwc.out.cells _ _ lga).trans eW50'
     clear hown2 hg2 hat2 swc
     refine hK.out _ _ ⟨y1wc,y2wc,y3wc⟩ (fun hHeld => ?_)
     clear hK K
     try simp only [Act.put,lxd,lxe,lxf]
     refine tk 19 (oi:=?o20) (v:=?v20) ?h20 (by kernel_rfl) ?q20 ?w20 ?y20 hHeld ?r20
     case h20 => simp only [lxa,lxb,lxc];rfl
     case q20 => exact fun _ _ _ h => h
     case w20 => rfl
     case y20 => rintro w' ⟨y1z,y2z,y3z⟩;go_simp;try with_reducible rfl
     try simp only [Act.put,lxd,lxe,lxf]
     refine tk 20 (oi:=?o21) (v:=?v21) ?h21 (by kernel_rfl) ?q21 ?w21 ?y21 hHeld ?r21
     case h21 => simp only [lxa,lxb,lxc];rfl
     case q21 => exact fun _ _ _ h => h
     case w21 => rfl
     case y21 => rintro w' ⟨y1z,y2z,y3z⟩;go_simp;try with_reducible rfl
     try simp only [Act.put,lxd,lxe,lxf]
     refine wpAnyH_done (by kernel_rfl) ?_ _
     refine lastQ_of (o:=?oz22) ?hz22 ?gz22 ?sz22
     case hz22 => simp only [lxa,lxb,lxc];rfl
     case gz22 => rfl
     intro K hK
     go_simp
     refine hK.out _ _ ?_
     clear hK K
     try simp only [Act.put,lxd,lxe,lxf]
     have Xc:=X5.out.same SMwc.out
     have cwc3:=Xc.bC.cell 3
     clear Xc
     go_upto_region 26 with (fail)
     obtain ⟨W7,hW7⟩:∃ W7,W7 = (wc.setCell ⟨ga,a * 6 + 2,none⟩ (.slice B2 (wl + 1) d2)).setCell ⟨ga,a * 6,none⟩ (.string n):=⟨_,rfl⟩
     have HKc:=HK.out.below SMwc.out lga
     have X7:=Lib.hid (((X5.out.same SMwc.out).set_ HKc hgab (by decide) (by decide) (by decide) (a * 6 + 2) (.slice B2 (wl + 1) d2)).set_ (HKc.set_ _ _) hgab (by decide) (by decide) (by decide) (a * 6) (.string n))
     have O7:=Lib.hid (own_ren2 (w:=wc) (own_same SMwc.out (by have h:=OA5.out;rw [HXA'.out] at h;exact h)) hm1 a ham ⟨B2,wl + 1,d2⟩ (was ++ [nm]) n)
     have nS:=own_blk_ne HOS.out HKc (by decide)
     have OS7:=Lib.hid (ownsRow_setCell_other (ownsRow_setCell_other HOS.out (a:=⟨ga,a * 6 + 2,none⟩) nS (.slice B2 (wl + 1) d2)) (a:=⟨ga,a * 6,none⟩) nS (.string n))
     rw [← hW7] at OS7
     have X7':Hid (XS w W7 g c3 m bx bo XT (.slice (some ⟨b,off,none⟩) m cc) #[.int .i64 3,.string tt,.string aa,.string n,.int .i64 to_,.int .i64 dk,.int .i64 dn,.string ds] tn (.slice (some ⟨ga,0,none⟩) m1 c4_) (.slice A2 m2 c2_)):=by rw [hW7];exact X7
     have O7':Hid (W7.ownsRow w.heap.size 82 6 (.slice (some ⟨ga,0,none⟩) m1 c4_) m1 ((ra.set a ⟨⟨n,(ra[a]'ha').at_.kind,was ++ [nm],(ra[a]'ha').at_.dflt⟩,⟨B2,wl + 1,d2⟩⟩).flatMap RA.cells)):=by show World.ownsRow _ _ _ _ _ _ _;rw [hW7];exact O7.out
     rw [← hW7]
     clear hW7 X7 O7 nS
     have xW70:=X7'.out.bX.cell 0
     have xW71:=X7'.out.bX.cell 1
     have xW72:=X7'.out.bX.cell 2
     have xfW7:=X7'.out.bX.frozen 1
     have oW7:=X7'.out.bO.cell 0
     have rW7:=X7'.out.bR.cell 0
     have rfW7:=X7'.out.bR.frozen 0
     obtain ⟨gW70,gW71,gW72,gfW7⟩:=HGQ.out.2 _ _ _ X7'.out.ot
     have gfW70:=gfW7 (q * 3)
     have gfW71:=gfW7 (q * 3 + 1)
     have gfW72:=gfW7 (q * 3 + 2)
     clear gfW7
     have FIN:=Lib.hid (XS.fin (W:=W7) (q:=q) (cc:=cc) (A:=some ⟨b,off,none⟩) (Aa:=some ⟨ga,0,none⟩) (n:=m1) (ca:=c4_) (Ak:=A2) (nk:=m2) (ck:=c2_) (ra:=ra.set a ⟨⟨n,(ra[a]'ha').at_.kind,was ++ [nm],(ra[a]'ha').at_.dflt⟩,⟨B2,wl + 1,d2⟩⟩) (key:=key) (by have:=X7'.out;rw [HXT'.out] at this;exact this) rfl hm hm2 hqm HA.out HTN.out (by simp;omega) (by omega) O7'.out (fun W9 s9 _ => HTK.out.same s9) (fun W9 s9 K9 => RAsOk.set (HTA.out.same s9).2 a _ (by
      have h:=(HTA.out.same s9).2 ra[a] (List.getElem_mem ha')
      refine ⟨HSTR.out W9 B2 d2 (K9.own OS7.out (by decide) (by decide)),HN.out,h.2.2⟩)) (fun K t _ => (t.2 _ HTM.out).2.1) (fun K t hK r hr => by
      rcases List.mem_or_eq_of_mem_set hr with h1 | h1
      ·exact (t.2 _ HTM.out).2.2 r h1
      ·rw [h1];exact own_in OS7.out (fun k hk => hK k (Nat.le_trans X5.out.s.size hk))) (newT (RT.tb ⟨tn,⟨A1,m1,c1_⟩,ra,⟨A2,m2,c2_⟩,key⟩) ⟨3,tt,aa,n,to_,⟨dk,dn,ds⟩⟩) (by have h:=newT_ren ⟨tn,⟨A1,m1,c1_⟩,ra,⟨A2,m2,c2_⟩,key⟩ ⟨3,tt,aa,n,to_,⟨dk,dn,ds⟩⟩ a ha' rfl HCA.out ⟨B2,wl + 1,d2⟩;rw [HWN.out.1,HWN.out.2];exact h))
     have hgo:=X7'.out.go.1
     have hgr:=X7'.out.go.2
     go_wp2_with fail
     refine bodyPost_ret (v:=.tuple #[.agg #[.slice (some ⟨g,0,none⟩) m c3],.int .i64 0]) ?_ rfl ?_
     ·simp [results,Tryz.results8,go_sem,oW7,rW7,rfW7]
     ·exact FIN.out
    case more19_0 =>
     exact AllReadyH.nil
   case more18_0 =>
    exact AllReadyH.nil
  case more17_0 =>
   refine AllReadyH.cons (o:=?oo17_1) ?ho17_1 (fun K hK => ?st17_1) ?more17_1
   case ho17_1 => simp only [lxa,lxb,lxc];rfl
   case st17_1 =>
    rw [if_pos (by rfl)]
    go_simp
    obtain ⟨wa4,hwa4⟩:∃ wa4,wa4 = wa1.alloc (.cells #[.string nm] 9):=⟨_,rfl⟩
    have swa4:Same wa1 wa4:=by rw [hwa4];exact (Same.refl _).alloc _
    have Bwa4:Hid (Blk wa4 wa1.heap.size 9 #[.string nm]):=by rw [hwa4];exact Lib.hid (Blk.new _ _ _)
    have lbwa4:W5.heap.size ≤ wa1.heap.size:=SMwa1.out.size
    rw [← hwa4]
    have Bwa4E:Hid (Blk wa4 wd.heap.size 9 #[]):=by rw [hwa4];exact Lib.hid (Bwa1.out.alloc _)
    have newa4:wd.heap.size < wa1.heap.size:=Bwa1.out.lt
    have SMwa4:Hid (Same W5 wa4):=SMwa1.out.trans swa4
    have y1wa4:=(SMwa4.out.cells _ _ lbx).trans xW51
    have y2wa4:=(SMwa4.out.cells _ _ lga).trans eW52'
    have y3wa4:=(SMwa4.out.cells _ _ lga).trans eW50'
    clear hwa4 swa4
    refine hK.out _ _ ⟨y1wa4,y2wa4,y3wa4⟩ (fun hHeld => ?_)
    clear hK K
    try simp only [Act.put,lxd,lxe,lxf]
    refine wpAnyH_ready (rs:=[10]) (by kernel_rfl) (by simp) ?_
    refine AllReadyH.cons (o:=?oo23_0) ?ho23_0 (fun K hK => ?st23_0) ?more23_0
    case ho23_0 => simp only [lxa,lxb,lxc];rfl
    case st23_0 =>
     refine step_append_any _ rfl (.tmp 105) (.tmp 111) 80 rfl W5.heap.size 9 i2 _ 1 16 Tryz.underlying80 hk0 hkz0 hkz1 hkz2 rfl (by decide) (.slice (some ⟨wd.heap.size,0,none⟩) 0 0) 0 [] rfl (own_emptyS Bwa4E.out lbwa1) wa4.heap.size Aw wl wc XW rfl (HRD.out _ SMwa4.out) HX1.out (by simp only [maxLen];omega) (by omega) SMwa4.out.size ?_
     intro v1 wb5 hown1 hg1 hat1
     rw [Nat.zero_add,List.nil_append] at hown1
     obtain ⟨B1,d1,hv⟩:=own_val hown1
     subst hv
     have Owb5:=Lib.hid hown1
     have swb5:Same W5 wb5:=Below.grown SMwa4.out hg1 SMwa4.out.size (fun k hk => by simp [Value.ownBlock] at hk;have:=lbwa1;omega)
     have Bwb5:Hid (Blk wb5 wa1.heap.size 9 #[.string nm]):=Lib.hid (Bwa4.out.grown hg1 (fun e => by simp [Value.ownBlock] at e;have:=newa4;omega))
     have SMwb5:Hid (Same W5 wb5):=swb5
     have y1wb5:=(SMwb5.out.cells _ _ lbx).trans xW51
     have y2wb5:=(SMwb5.out.cells _ _ lga).trans eW52'
     have y3wb5:=(SMwb5.out.cells _ _ lga).trans eW50'
     clear hown1 hg1 hat1 swb5
     refine hK.out _ _ ⟨y1wb5,y2wb5,y3wb5⟩ (fun hHeld => ?_)
     clear hK K
     try simp only [Act.put,lxd,lxe,lxf]
     refine wpAnyH_ready (rs:=[18]) (by kernel_rfl) (by simp) ?_
     refine AllReadyH.cons (o:=?oo24_0) ?ho24_0 (fun K hK => ?st24_0) ?more24_0
     case ho24_0 => simp only [lxa,lxb,lxc];rfl
     case st24_0 =>
      refine step_append_any _ rfl (.tmp 112) (.tmp 119) 80 rfl W5.heap.size 9 i2 _ 1 16 Tryz.underlying80 hk0 hkz0 hkz1 hkz2 rfl (by decide) (.slice B1 wl d1) wl XW rfl Owb5.out (wa1.heap.size + 1) (some ⟨wa1.heap.size,0,none⟩) 1 1 [.string nm] rfl (reads_blkS Bwb5.out) (by intro u hu;simp at hu;rw [hu];rfl) (by simp only [maxLen];omega) (by omega) SMwb5.out.size ?_
      intro v2 wc hown2 hg2 hat2
      obtain ⟨B2,d2,hv⟩:=own_val hown2
      subst hv
      have swc:Same W5 wc:=Below.grown SMwb5.out hg2 SMwb5.out.size (fun k hk => (Owb5.out.lt k hk).1)
      have HOS:=Lib.hid hown2
      have fz2:=(swc.frees _ _ lga).trans efW52
      have fz0:=(swc.frees _ _ lga).trans efW50'
      have SMwc:Hid (Same W5 wc):=swc
      have y1wc:=(SMwc.out.cells _ _ lbx).trans xW51
      have y2wc:=(SMwc.out.cells _ _ lga).trans eW52'
      have y3wc:=(SMwc.out.cells _ _ lga).trans eW50'
      clear hown2 hg2 hat2 swc
      refine hK.out _ _ ⟨y1wc,y2wc,y3wc⟩ (fun hHeld => ?_)
      clear hK K
      try simp only [Act.put,lxd,lxe,lxf]
      refine tk 19 (oi:=?o25) (v:=?v25) ?h25 (by kernel_rfl) ?q25 ?w25 ?y25 hHeld ?r25
      case h25 => simp only [lxa,lxb,lxc];rfl
      case q25 => exact fun _ _ _ h => h
      case w25 => rfl
      case y25 => rintro w' ⟨y1z,y2z,y3z⟩;go_simp;try with_reducible rfl
      try simp only [Act.put,lxd,lxe,lxf]
      refine tk 20 (oi:=?o26) (v:=?v26) ?h26 (by kernel_rfl) ?q26 ?w26 ?y26 hHeld ?r26
      case h26 => simp only [lxa,lxb,lxc];rfl
      case q26 => exact fun _ _ _ h => h
      case w26 => rfl
      case y26 => rintro w' ⟨y1z,y2z,y3z⟩;go_simp;try with_reducible rfl
      try simp only [Act.put,lxd,lxe,lxf]
      refine wpAnyH_done (by kernel_rfl) ?_ _
      refine lastQ_of (o:=?oz27) ?hz27 ?gz27 ?sz27
      case hz27 => simp only [lxa,lxb,lxc];rfl
      case gz27 => rfl
      intro K hK
      go_simp
      refine hK.out _ _ ?_
      clear hK K
      try simp only [Act.put,lxd,lxe,lxf]
      have Xc:=X5.out.same SMwc.out
      have cwc3:=Xc.bC.cell 3
      clear Xc
      go_upto_region 26 with (fail)
      obtain ⟨W7,hW7⟩:∃ W7,W7 = (wc.setCell ⟨ga,a * 6 + 2,none⟩ (.slice B2 (wl + 1) d2)).setCell ⟨ga,a * 6,none⟩ (.string n):=⟨_,rfl⟩
      have HKc:=HK.out.below SMwc.out lga
      have X7:=Lib.hid (((X5.out.same SMwc.out).set_ HKc hgab (by decide) (by decide) (by decide) (a * 6 + 2) (.slice B2 (wl + 1) d2)).set_ (HKc.set_ _ _) hgab (by decide) (by decide) (by decide) (a * 6) (.string n))
      have O7:=Lib.hid (own_ren2 (w:=wc) (own_same SMwc.out (by have h:=OA5.out;rw [HXA'.out] at h;exact h)) hm1 a ham ⟨B2,wl + 1,d2⟩ (was ++ [nm]) n)
      have nS:=own_blk_ne HOS.out HKc (by decide)
      have OS7:=Lib.hid (ownsRow_setCell_other (ownsRow_setCell_other HOS.out (a:=⟨ga,a * 6 + 2,none⟩) nS (.slice B2 (wl + 1) d2)) (a:=⟨ga,a * 6,none⟩) nS (.string n))
      rw [← hW7] at OS7
      have X7':Hid (XS w W7 g c3 m bx bo XT (.slice (some ⟨b,off,none⟩) m cc) #[.int .i64 3,.string tt,.string aa,.string n,.int .i64 to_,.int .i64 dk,.int .i64 dn,.string ds] tn (.slice (some ⟨ga,0,none⟩) m1 c4_) (.slice A2 m2 c2_)):=by rw [hW7];exact X7
      have O7':Hid (W7.ownsRow w.heap.size 82 6 (.slice (some ⟨ga,0,none⟩) m1 c4_) m1 ((ra.set a ⟨⟨n,(ra[a]'ha').at_.kind,was ++ [nm],(ra[a]'ha').at_.dflt⟩,⟨B2,wl + 1,d2⟩⟩).flatMap RA.cells)):=by show World.ownsRow _ _ _ _ _ _ _;rw [hW7];exact O7.out
      rw [← hW7]
      clear hW7 X7 O7 nS
      have xW70:=X7'.out.bX.cell 0
      have xW71:=X7'.out.bX.cell 1
      have xW72:=X7'.out.bX.cell 2
      have xfW7:=X7'.out.bX.frozen 1
      have oW7:=X7'.out.bO.cell 0
      have rW7:=X7'.out.bR.cell 0
      have rfW7:=X7'.out.bR.frozen 0
      obtain ⟨gW70,gW71,gW72,gfW7⟩:=HGQ.out.2 _ _ _ X7'.out.ot
      have gfW70:=gfW7 (q * 3)
      have gfW71:=gfW7 (q * 3 + 1)
      have gfW72:=gfW7 (q * 3 + 2)
      clear gfW7
      have FIN:=Lib.hid (XS.fin (W:=W7) (q:=q) (cc:=cc) (A:=some ⟨b,off,none⟩) (Aa:=some ⟨ga,0,none⟩) (n:=m1) (ca:=c4_) (Ak:=A2) (nk:=m2) (ck:=c2_) (ra:=ra.set a ⟨⟨n,(ra[a]'ha').at_.kind,was ++ [nm],(ra[a]'ha').at_.dflt⟩,⟨B2,wl + 1,d2⟩⟩) (key:=key) (by have:=X7'.out;rw [HXT'.out] at this;exact this) rfl hm hm2 hqm HA.out HTN.out (by simp;omega) (by omega) O7'.out (fun W9 s9 _ => HTK.out.same s9) (fun W9 s9 K9 => RAsOk.set (HTA.out.same s9).2 a _ (by
       have h:=(HTA.out.same s9).2 ra[a] (List.getElem_mem ha')
       refine ⟨HSTR.out W9 B2 d2 (K9.own OS7.out (by decide) (by decide)),HN.out,h.2.2⟩)) (fun K t _ => (t.2 _ HTM.out).2.1) (fun K t hK r hr => by
       rcases List.mem_or_eq_of_mem_set hr with h1 | h1
       ·exact (t.2 _ HTM.out).2.2 r h1
       ·rw [h1];exact own_in OS7.out (fun k hk => hK k (Nat.le_trans X5.out.s.size hk))) (newT (RT.tb ⟨tn,⟨A1,m1,c1_⟩,ra,⟨A2,m2,c2_⟩,key⟩) ⟨3,tt,aa,n,to_,⟨dk,dn,ds⟩⟩) (by have h:=newT_ren ⟨tn,⟨A1,m1,c1_⟩,ra,⟨A2,m2,c2_⟩,key⟩ ⟨3,tt,aa,n,to_,⟨dk,dn,ds⟩⟩ a ha' rfl HCA.out ⟨B2,wl + 1,d2⟩;rw [HWN.out.1,HWN.out.2];exact h))
      have hgo:=X7'.out.go.1
      have hgr:=X7'.out.go.2
      go_wp2_with fail
      refine bodyPost_ret (v:=.tuple #[.agg #[.slice (some ⟨g,0,none⟩) m c3],.int .i64 0]) ?_ rfl ?_
      ·simp [results,Tryz.results8,go_sem,oW7,rW7,rfW7]
      ·exact FIN.out
     case more24_0 =>
      exact AllReadyH.nil
    case more23_0 =>
     exact AllReadyH.nil
   case more17_1 =>
    exact AllReadyH.nil
 case more16_0 =>
  refine AllReadyH.cons (o:=?oo16_1) ?ho16_1 (fun K hK => ?st16_1) ?more16_1
  case ho16_1 => simp only [lxa,lxb,lxc];rfl
  case st16_1 =>
   rw [if_pos (by rfl)]
   go_simp
   obtain ⟨wa6,hwa6⟩:∃ wa6,wa6 = wd.alloc (.cells #[.string nm] 9):=⟨_,rfl⟩
   have swa6:Same wd wa6:=by rw [hwa6];exact (Same.refl _).alloc _
   have Bwa6:Hid (Blk wa6 wd.heap.size 9 #[.string nm]):=by rw [hwa6];exact Lib.hid (Blk.new _ _ _)
   have lbwa6:W5.heap.size ≤ wd.heap.size:=SMwd.out.size
   rw [← hwa6]
   have SMwa6:Hid (Same W5 wa6):=SMwd.out.trans swa6
   have y1wa6:=(SMwa6.out.cells _ _ lbx).trans xW51
   have y2wa6:=(SMwa6.out.cells _ _ lga).trans eW52'
   have y3wa6:=(SMwa6.out.cells _ _ lga).trans eW50'
   clear hwa6 swa6
   refine hK.out _ _ ⟨y1wa6,y2wa6,y3wa6⟩ (fun hHeld => ?_)
   clear hK K
   try simp only [Act.put,lxd,lxe,lxf]
   refine wpAnyH_ready (rs:=[3]) (by kernel_rfl) (by simp) ?_
   refine AllReadyH.cons (o:=?oo28_0) ?ho28_0 (fun K hK => ?st28_0) ?more28_0
   case ho28_0 => simp only [lxa,lxb,lxc];rfl
   case st28_0 =>
    rw [if_pos (by rfl)]
    go_simp
    obtain ⟨wa7,hwa7⟩:∃ wa7,wa7 = wa6.alloc (.cells #[] 9):=⟨_,rfl⟩
    have swa7:Same wa6 wa7:=by rw [hwa7];exact (Same.refl _).alloc _
    have Bwa7:Hid (Blk wa7 wa6.heap.size 9 #[]):=by rw [hwa7];exact Lib.hid (Blk.new _ _ _)
    have lbwa7:W5.heap.size ≤ wa6.heap.size:=SMwa6.out.size
    rw [← hwa7]
    have Bwa7N:Hid (Blk wa7 wd.heap.size 9 #[.string nm]):=by rw [hwa7];exact Lib.hid (Bwa6.out.alloc _)
    have newa7:wd.heap.size < wa6.heap.size:=Bwa6.out.lt
    have SMwa7:Hid (Same W5 wa7):=SMwa6.out.trans swa7
    have y1wa7:=(SMwa7.out.cells _ _ lbx).trans xW51
    have y2wa7:=(SMwa7.out.cells _ _ lga).trans eW52'
    have y3wa7:=(SMwa7.out.cells _ _ lga).trans eW50'
    clear hwa7 swa7
    refine hK.out _ _ ⟨y1wa7,y2wa7,y3wa7⟩ (fun hHeld => ?_)
    clear hK K
    try simp only [Act.put,lxd,lxe,lxf]
    refine wpAnyH_ready (rs:=[10]) (by kernel_rfl) (by simp) ?_
    refine AllReadyH.cons (o:=?oo29_0) ?ho29_0 (fun K hK => ?st29_0) ?more29_0
    case ho29_0 => simp only [lxa,lxb,lxc];rfl
    case st29_0 =>
     refine step_append_any _ rfl (.tmp 105) (.tmp 111) 80 rfl W5.heap.size 9 i2 _ 1 16 Tryz.underlying80 hk0 hkz0 hkz1 hkz2 rfl (by decide) (.slice (some ⟨wa6.heap.size,0,none⟩) 0 0) 0 [] rfl (own_emptyS Bwa7.out lbwa7) wa7.heap.size Aw wl wc XW rfl (HRD.out _ SMwa7.out) HX1.out (by simp only [maxLen];omega) (by omega) SMwa7.out.size ?_
     intro v1 wb8 hown1 hg1 hat1
     rw [Nat.zero_add,List.nil_append] at hown1
     obtain ⟨B1,d1,hv⟩:=own_val hown1
     subst hv
     have Owb8:=Lib.hid hown1
     have swb8:Same W5 wb8:=Below.grown SMwa7.out hg1 SMwa7.out.size (fun k hk => by simp [Value.ownBlock] at hk;have:=lbwa7;omega)
     have Bwb8:Hid (Blk wb8 wd.heap.size 9 #[.string nm]):=Lib.hid (Bwa7N.out.grown hg1 (fun e => by simp [Value.ownBlock] at e;have:=newa7;omega))
     have SMwb8:Hid (Same W5 wb8):=swb8
     have y1wb8:=(SMwb8.out.cells _ _ lbx).trans xW51
     have y2wb8:=(SMwb8.out.cells _ _ lga).trans eW52'
     have y3wb8:=(SMwb8.out.cells _ _ lga).trans eW50'
     clear hown1 hg1 hat1 swb8
     refine hK.out _ _ ⟨y1wb8,y2wb8,y3wb8⟩ (fun hHeld => ?_)
     clear hK K
     try simp only [Act.put,lxd,lxe,lxf]
     refine wpAnyH_ready (rs:=[18]) (by kernel_rfl) (by simp) ?_
     refine AllReadyH.cons (o:=?oo30_0) ?ho30_0 (fun K hK => ?st30_0) ?more30_0
     case ho30_0 => simp only [lxa,lxb,lxc];rfl
     case st30_0 =>
      refine step_append_any _ rfl (.tmp 112) (.tmp 119) 80 rfl W5.heap.size 9 i2 _ 1 16 Tryz.underlying80 hk0 hkz0 hkz1 hkz2 rfl (by decide) (.slice B1 wl d1) wl XW rfl Owb8.out (wd.heap.size + 1) (some ⟨wd.heap.size,0,none⟩) 1 1 [.string nm] rfl (reads_blkS Bwb8.out) (by intro u hu;simp at hu;rw [hu];rfl) (by simp only [maxLen];omega) (by omega) SMwb8.out.size ?_
      intro v2 wc hown2 hg2 hat2
      obtain ⟨B2,d2,hv⟩:=own_val hown2
      subst hv
      have swc:Same W5 wc:=Below.grown SMwb8.out hg2 SMwb8.out.size (fun k hk => (Owb8.out.lt k hk).1)
      have HOS:=Lib.hid hown2
      have fz2:=(swc.frees _ _ lga).trans efW52
      have fz0:=(swc.frees _ _ lga).trans efW50'
      have SMwc:Hid (Same W5 wc):=swc
      have y1wc:=(SMwc.out.cells _ _ lbx).trans xW51
      have y2wc:=(SMwc.out.cells _ _ lga).trans eW52'
      have y3wc:=(SMwc.out.cells _ _ lga).trans eW50'
      clear hown2 hg2 hat2 swc
      refine hK.out _ _ ⟨y1wc,y2wc,y3wc⟩ (fun hHeld => ?_)
      clear hK K
      try simp only [Act.put,lxd,lxe,lxf]
      refine tk 19 (oi:=?o31) (v:=?v31) ?h31 (by kernel_rfl) ?q31 ?w31 ?y31 hHeld ?r31
      case h31 => simp only [lxa,lxb,lxc];rfl
      case q31 => exact fun _ _ _ h => h
      case w31 => rfl
      case y31 => rintro w' ⟨y1z,y2z,y3z⟩;go_simp;try with_reducible rfl
      try simp only [Act.put,lxd,lxe,lxf]
      refine tk 20 (oi:=?o32) (v:=?v32) ?h32 (by kernel_rfl) ?q32 ?w32 ?y32 hHeld ?r32
      case h32 => simp only [lxa,lxb,lxc];rfl
      case q32 => exact fun _ _ _ h => h
      case w32 => rfl
      case y32 => rintro w' ⟨y1z,y2z,y3z⟩;go_simp;try with_reducible rfl
      try simp only [Act.put,lxd,lxe,lxf]
      refine wpAnyH_done (by kernel_rfl) ?_ _
      refine lastQ_of (o:=?oz33) ?hz33 ?gz33 ?sz33
      case hz33 => simp only [lxa,lxb,lxc];rfl
      case gz33 => rfl
      intro K hK
      go_simp
      refine hK.out _ _ ?_
      clear hK K
      try simp only [Act.put,lxd,lxe,lxf]
      have Xc:=X5.out.same SMwc.out
      have cwc3:=Xc.bC.cell 3
      clear Xc
      go_upto_region 26 with (fail)
      obtain ⟨W7,hW7⟩:∃ W7,W7 = (wc.setCell ⟨ga,a * 6 + 2,none⟩ (.slice B2 (wl + 1) d2)).setCell ⟨ga,a * 6,none⟩ (.string n):=⟨_,rfl⟩
      have HKc:=HK.out.below SMwc.out lga
      have X7:=Lib.hid (((X5.out.same SMwc.out).set_ HKc hgab (by decide) (by decide) (by decide) (a * 6 + 2) (.slice B2 (wl + 1) d2)).set_ (HKc.set_ _ _) hgab (by decide) (by decide) (by decide) (a * 6) (.string n))
      have O7:=Lib.hid (own_ren2 (w:=wc) (own_same SMwc.out (by have h:=OA5.out;rw [HXA'.out] at h;exact h)) hm1 a ham ⟨B2,wl + 1,d2⟩ (was ++ [nm]) n)
      have nS:=own_blk_ne HOS.out HKc (by decide)
      have OS7:=Lib.hid (ownsRow_setCell_other (ownsRow_setCell_other HOS.out (a:=⟨ga,a * 6 + 2,none⟩) nS (.slice B2 (wl + 1) d2)) (a:=⟨ga,a * 6,none⟩) nS (.string n))
      rw [← hW7] at OS7
      have X7':Hid (XS w W7 g c3 m bx bo XT (.slice (some ⟨b,off,none⟩) m cc) #[.int .i64 3,.string tt,.string aa,.string n,.int .i64 to_,.int .i64 dk,.int .i64 dn,.string ds] tn (.slice (some ⟨ga,0,none⟩) m1 c4_) (.slice A2 m2 c2_)):=by rw [hW7];exact X7
      have O7':Hid (W7.ownsRow w.heap.size 82 6 (.slice (some ⟨ga,0,none⟩) m1 c4_) m1 ((ra.set a ⟨⟨n,(ra[a]'ha').at_.kind,was ++ [nm],(ra[a]'ha').at_.dflt⟩,⟨B2,wl + 1,d2⟩⟩).flatMap RA.cells)):=by show World.ownsRow _ _ _ _ _ _ _;rw [hW7];exact O7.out
      rw [← hW7]
      clear hW7 X7 O7 nS
      have xW70:=X7'.out.bX.cell 0
      have xW71:=X7'.out.bX.cell 1
      have xW72:=X7'.out.bX.cell 2
      have xfW7:=X7'.out.bX.frozen 1
      have oW7:=X7'.out.bO.cell 0
      have rW7:=X7'.out.bR.cell 0
      have rfW7:=X7'.out.bR.frozen 0
      obtain ⟨gW70,gW71,gW72,gfW7⟩:=HGQ.out.2 _ _ _ X7'.out.ot
      have gfW70:=gfW7 (q * 3)
      have gfW71:=gfW7 (q * 3 + 1)
      have gfW72:=gfW7 (q * 3 + 2)
      clear gfW7
      have FIN:=Lib.hid (XS.fin (W:=W7) (q:=q) (cc:=cc) (A:=some ⟨b,off,none⟩) (Aa:=some ⟨ga,0,none⟩) (n:=m1) (ca:=c4_) (Ak:=A2) (nk:=m2) (ck:=c2_) (ra:=ra.set a ⟨⟨n,(ra[a]'ha').at_.kind,was ++ [nm],(ra[a]'ha').at_.dflt⟩,⟨B2,wl + 1,d2⟩⟩) (key:=key) (by have:=X7'.out;rw [HXT'.out] at this;exact this) rfl hm hm2 hqm HA.out HTN.out (by simp;omega) (by omega) O7'.out (fun W9 s9 _ => HTK.out.same s9) (fun W9 s9 K9 => RAsOk.set (HTA.out.same s9).2 a _ (by
       have h:=(HTA.out.same s9).2 ra[a] (List.getElem_mem ha')
       refine ⟨HSTR.out W9 B2 d2 (K9.own OS7.out (by decide) (by decide)),HN.out,h.2.2⟩)) (fun K t _ => (t.2 _ HTM.out).2.1) (fun K t hK r hr => by
       rcases List.mem_or_eq_of_mem_set hr with h1 | h1
       ·exact (t.2 _ HTM.out).2.2 r h1
       ·rw [h1];exact own_in OS7.out (fun k hk => hK k (Nat.le_trans X5.out.s.size hk))) (newT (RT.tb ⟨tn,⟨A1,m1,c1_⟩,ra,⟨A2,m2,c2_⟩,key⟩) ⟨3,tt,aa,n,to_,⟨dk,dn,ds⟩⟩) (by have h:=newT_ren ⟨tn,⟨A1,m1,c1_⟩,ra,⟨A2,m2,c2_⟩,key⟩ ⟨3,tt,aa,n,to_,⟨dk,dn,ds⟩⟩ a ha' rfl HCA.out ⟨B2,wl + 1,d2⟩;rw [HWN.out.1,HWN.out.2];exact h))
      have hgo:=X7'.out.go.1
      have hgr:=X7'.out.go.2
      go_wp2_with fail
      refine bodyPost_ret (v:=.tuple #[.agg #[.slice (some ⟨g,0,none⟩) m c3],.int .i64 0]) ?_ rfl ?_
      ·simp [results,Tryz.results8,go_sem,oW7,rW7,rfW7]
      ·exact FIN.out
     case more30_0 =>
      exact AllReadyH.nil
    case more29_0 =>
     exact AllReadyH.nil
   case more28_0 =>
    exact AllReadyH.nil
  case more16_1 =>
   exact AllReadyH.nil
end Go.Proofs.YtfifnemnihcijaaGreatDoor

import Derived.Test.YtfifnemnihcijaaGreatDoorKZc
set_option linter.unusedSimpArgs false
set_option linter.unusedVariables false
set_option maxHeartbeats 16000000
set_option maxRecDepth 100000
namespace Go.Proofs.YtfifnemnihcijaaGreatDoor
open Go.RowKit
def dropK (a:Nat) (key:List Int):List Int:=key.map (fun k => if (a:Int) < k then k - 1 else k)
theorem dropK_get (a:Nat) (key:List Int) (k:Nat) (hk:k < key.length):(dropK a key).take (k + 1) = (dropK a key).take k ++ [if (a:Int) < key[k] then key[k] - 1 else key[k]]:=by
 have h:k < (dropK a key).length:=by simp [dropK,hk]
 rw [List.take_succ_eq_append_getElem h]
 simp [dropK]
theorem dropK_len (a:Nat) (key:List Int):(dropK a key).length = key.length:=by simp [dropK]
structure DRel (w:World) (g c m bx bo:Nat) (XT:List Value) (sv:Value) (cs:Array Value) (tn:ByteArray) (hv:Value) (n:Nat) (YA:List Value) (kk:List Int) (k:Nat) (Ak:Option Addr) (ck:Nat) (wr:World):Prop where
 x:XS w wr g c m bx bo XT sv cs tn hv (.slice Ak k ck)
 oa:wr.ownsRow w.heap.size 82 6 hv n YA
 ok:wr.ownsRow w.heap.size 3 1 (.slice Ak k ck) k ((kk.take k).flatMap intCell)
theorem DRel.step {w wr w6:World} {g c m bx bo:Nat} {XT:List Value} {sv:Value} {cs:Array Value} {tn:ByteArray} {hv:Value} {n:Nat} {YA:List Value} {a k:Nat} {key:List Int} {Ak:Option Addr} {ck:Nat} (hk:k < key.length)
  (R:DRel w g c m bx bo XT sv cs tn hv n YA (dropK a key) k Ak ck wr) {kx:Int} (hkx:kx = if (a:Int) < key[k] then key[k] - 1 else key[k]) {ob:Obj} {A6:Option Addr} {c6:Nat}
  (own2:w6.ownsRow w.heap.size 3 1 (.slice A6 (k + 1) c6) (k + 1) (((dropK a key).take k).flatMap intCell ++ [.int .i64 kx])) (G:(wr.alloc ob).grownBy w6 (Value.slice Ak k ck).ownBlock) :
  DRel w g c m bx bo XT sv cs tn hv n YA (dropK a key) (k + 1) A6 c6 (w6.setCell ⟨bx,2,none⟩ (.slice A6 (k + 1) c6)):=by
 have X6:=(R.x.same ((Same.refl wr).alloc ob)).grown (R.ok.alloc ob) (Nat.le_refl _) (by decide) (by decide) (by decide) G
 have hn:hv.ownBlock = none ∨ hv.ownBlock ≠ (Value.slice Ak k ck).ownBlock:=by
  rcases R.ok.2 with ⟨hv',_⟩ | ⟨g',cap,cur,hv',_,hh',_⟩
  ·rw [hv']
   rcases hv.ownBlock with _ | q
   ·exact .inl rfl
   ·right;simp [Value.ownBlock]
  ·right
   rw [hv']
   exact own_blk_ne R.oa hh' (by decide)
 have oa6:=(R.oa.alloc ob).kept G (hn.imp id (fun h e => h e.symm) |> fun h => h.imp id (fun h e => h e.symm))
 refine ⟨X6.setK _,X6.keepX oa6 (by decide) 2 _,?_⟩
 rw [dropK_get a key k hk,List.flatMap_append,← hkx]
 exact X6.keepX own2 (by decide) 2 _
theorem rapply_drop (A:Option Addr) (m cc:Nat) (tt aa n:ByteArray) (to_ dk dn:Int) (ds:ByteArray) (ts:List RT) (w:World) (hm:ts.length = m) (hm2:m ≤ 20) (HA:Hid (TabsAt w ⟨A,m,cc⟩ ts))
  (q:Nat) (cj:Int) (HF:Hid (Rt 41 #[.agg #[.slice A m cc],.agg #[.int .i64 2,.string tt,.string aa,.string n,.int .i64 to_,.int .i64 dk,.int .i64 dn,.string ds]] w (.tuple #[.int .i64 q,.int .i64 cj,.int .i64 0])))
  (hq:q < ts.length) (hn:okS n) (hd:okS ds) (hra:ts[q].ra.length ≤ 12) (a:Nat) (hcj:cj = a) (ha:a < ts[q].ra.length) (hc:colA ts[q].tb.attrs aa = a) (hkl:ts[q].key.length ≤ 12) (hkb:∀ x ∈ ts[q].key,0 ≤ x ∧ x ≤ 1000000) :
  Calls Tryz.prog 8 #[.agg #[.slice A m cc],.agg #[.int .i64 2,.string tt,.string aa,.string n,.int .i64 to_,.int .i64 dk,.int .i64 dn,.string ds]] w fun e w' => ROut w ⟨A,m,cc⟩ ts q (newT ts[q].tb ⟨2,tt,aa,n,to_,⟨dk,dn,ds⟩⟩) w' e:=by
 obtain ⟨i0,hi0,hiz0,hiz1,hiz2⟩:=info_parts Tryz.infoCT
 obtain ⟨i1,hj0,hjz0,hjz1,hjz2⟩:=info_parts Tryz.infoCA
 have hqm:q < m:=by omega
 have hm0:0 < m:=by omega
 have q0:(0:Int) ≤ (q:Int):=by omega
 have q1:(q:Int) < (m:Int):=by omega
 obtain ⟨b,off,hA,hbl,hcell⟩:=HA.out.1.2.2 q hq
 have hA':A = some ⟨b,off,none⟩:=hA
 clear hA
 subst hA'
 have hti:=HA.out.2 _ (List.getElem_mem hq)
 have hgq:ts[q]? = some ts[q]:=List.getElem?_eq_getElem hq
 obtain ⟨t,ht⟩:∃ t,t = ts[q]:=⟨_,rfl⟩
 rw [← ht] at hcell hti hra ha hc hkl hkb ⊢
 obtain ⟨tn,⟨A1,m1,c1_⟩,ra,⟨A2,m2,c2_⟩,key⟩:=t
 have y0:w.cell? ⟨b,off + q * 3,none⟩ = some (.string tn):=hcell 0 _ rfl
 have y1:w.cell? ⟨b,off + q * 3 + 1,none⟩ = some (.slice A1 m1 c1_):=hcell 1 _ rfl
 have y2:w.cell? ⟨b,off + q * 3 + 2,none⟩ = some (.slice A2 m2 c2_):=hcell 2 _ rfl
 have hm1:ra.length = m1:=hti.1.1.1
 have hra':ra.length ≤ 12:=hra
 have hm12:m1 ≤ 12:=by omega
 have HTA:Hid (AttrsAt w ⟨A1,m1,c1_⟩ ra):=hti.1
 have HTK:Hid (IntsAt w ⟨A2,m2,c2_⟩ key):=hti.2.1
 have HTN:Hid (okS tn):=hti.2.2
 have HD:=Lib.hid hd
 have HN:=Lib.hid hn
 obtain ⟨XT,hXT⟩:∃ XT,XT = ts.flatMap RT.cells:=⟨_,rfl⟩
 obtain ⟨XA,hXA⟩:∃ XA,XA = ra.flatMap RA.cells:=⟨_,rfl⟩
 have HXA':Hid (XA = ra.flatMap RA.cells):=hXA
 have HXT':Hid (XT = ts.flatMap RT.cells):=hXT
 have HXT:Hid (∀ u ∈ XT,u.oneCell' = true):=Lib.hid fun u hu => by
  rw [hXT] at hu
  obtain ⟨x,_,hx⟩:=List.mem_flatMap.1 hu
  exact RT.one1 x u hx
 have HXA:Hid (∀ u ∈ XA,u.oneCell' = true):=Lib.hid fun u hu => by
  rw [hXA] at hu
  obtain ⟨x,_,hx⟩:=List.mem_flatMap.1 hu
  exact RA.one1 x u hx
 have HRT0:Hid (∀ W,Same w W → Reads W W.heap.size 3 (some ⟨b,off,none⟩) m XT):=Lib.hid fun W s => by rw [hXT];exact lies_reads RT.clen (HA.out.same s).1
 have HRA0:Hid (∀ W,Same w W → Reads W W.heap.size 6 A1 m1 XA):=Lib.hid fun W s => by rw [hXA];exact lies_reads RA.clen (HTA.out.same s).1
 have HGQ:Hid (q < m ∧ (∀ (W:World) (g c:Nat),W.ownsRow w.heap.size 44 3 (.slice (some ⟨g,0,none⟩) m c) m XT → W.cell? ⟨g,q * 3,none⟩ = some (.string tn) ∧ W.cell? ⟨g,q * 3 + 1,none⟩ = some (.slice A1 m1 c1_) ∧ W.cell? ⟨g,q * 3 + 2,none⟩ = some (.slice A2 m2 c2_) ∧ ∀ j,W.frozen? ⟨g,j,none⟩ = false)):=by
  refine ⟨hqm,fun W g c o => ?_⟩
  rw [hXT] at o
  have z0:=own_cell RT.clen o hm q hqm 0 (by decide)
  have z1:=own_cell RT.clen o hm q hqm 1 (by decide)
  have z2:=own_cell RT.clen o hm q hqm 2 (by decide)
  rw [← ht] at z0 z1 z2
  refine ⟨z0,z1,z2,?_⟩
  obtain ⟨g',cur,hA,_,hk,_⟩:=own_blk o hm0
  injection hA with hA
  injection hA with e
  subst e
  exact fun j => hk.frozen j
 have HTM:Hid ((⟨tn,⟨A1,m1,c1_⟩,ra,⟨A2,m2,c2_⟩,key⟩:RT) ∈ ts):=by show _ ∈ ts;rw [ht];exact List.getElem_mem hq
 clear hcell hti hra hd hn hXT hXA ht hgq
 have ha':a < ra.length:=ha
 have ham:a < m1:=by omega
 have HCA:Hid (colA (RT.tb ⟨tn,⟨A1,m1,c1_⟩,ra,⟨A2,m2,c2_⟩,key⟩).attrs aa = a):=hc
 have hkl':key.length ≤ 12:=hkl
 have HKB:Hid (∀ x ∈ key,0 ≤ x ∧ x ≤ 1000000):=hkb
 clear ha hc hkl hkb
 subst hcj
 go_enter Tryz.func8,Tryz.ntmps8
 go_wp2_with fail
 obtain ⟨W0,hW0⟩:∃ W0,W0 = ((w.alloc (.cells #[.slice (some ⟨b,off,none⟩) m cc] 24)).alloc (.cells #[.int .i64 2,.string tt,.string aa,.string n,.int .i64 to_,.int .i64 dk,.int .i64 dn,.string ds] 28)).alloc (.cells #[.slice none 0 0] 24):=⟨_,rfl⟩
 have S0:Hid (Same w W0):=by show Same _ _;rw [hW0];exact (((Same.refl w).alloc _).alloc _).alloc _
 have BS0:Blk W0 w.heap.size 24 #[.slice (some ⟨b,off,none⟩) m cc]:=by rw [hW0];exact ((Blk.new w _ _).alloc _).alloc _
 have BC0:Blk W0 (w.heap.size + 1) 28 #[.int .i64 2,.string tt,.string aa,.string n,.int .i64 to_,.int .i64 dk,.int .i64 dn,.string ds]:=by
  have e:w.heap.size + 1 = (w.alloc (.cells #[.slice (some ⟨b,off,none⟩) m cc] 24)).heap.size:=by simp
  rw [hW0,e];exact (Blk.new _ _ _).alloc _
 have BR0:Blk W0 (w.heap.size + 1 + 1) 24 #[.slice none 0 0]:=by
  have e:w.heap.size + 1 + 1 = ((w.alloc (.cells #[.slice (some ⟨b,off,none⟩) m cc] 24)).alloc (.cells #[.int .i64 2,.string tt,.string aa,.string n,.int .i64 to_,.int .i64 dk,.int .i64 dn,.string ds] 28)).heap.size:=by simp
  rw [hW0,e];exact Blk.new _ _ _
 rw [← hW0]
 clear hW0
 refine (HF.out _ S0.out).mono ?_
 rintro e w1 ⟨rfl,s1⟩
 have S1:=Lib.hid (S0.out.trans s1)
 have BS1:=Lib.hid (BS0.below s1 BS0.lt)
 have BC1:=Lib.hid (BC0.below s1 BC0.lt)
 have BR1:=Lib.hid (BR0.below s1 BR0.lt)
 clear s1 BS0 BC0 BR0
 have z0:w.heap.size < w1.heap.size:=BS1.out.lt
 have z2:w.heap.size + 1 + 1 < w1.heap.size:=BR1.out.lt
 have lw1:w.heap.size ≤ w1.heap.size:=by omega
 have b0:w1.cell? ⟨w.heap.size,0,none⟩ = some (.slice (some ⟨b,off,none⟩) m cc):=BS1.out.cell 0
 have HRT:=Lib.hid (HRT0.out w1 S1.out)
 have hb1:b < w1.heap.size:=Nat.lt_of_lt_of_le hbl lw1
 have yy0:=(S1.out.cells _ _ hbl).trans y0
 have yy1:=(S1.out.cells _ _ hbl).trans y1
 have yy2:=(S1.out.cells _ _ hbl).trans y2
 go_upto_region 6 with (at_builtin;refine wpList_append_any _ rfl (.tmp 24) (.tmp 26) 22 rfl w.heap.size 44 i0 _ 3 64 Tryz.underlying22 hi0 hiz0 hiz1 hiz2 rfl (by decide) (.slice (some ⟨w1.heap.size,0,none⟩) 0 0) 0 [] rfl (own_low (ownsRow_new w1 _ _) lw1) w1.heap.size (some ⟨b,off,none⟩) m cc XT rfl (HRT.out.alloc (Nat.le_refl _) _) HXT.out (by simp only [maxLen];omega) (by omega) (by simp;omega) ?_;intro v1 w2 hown1 hg1 hat1;rw [List.nil_append,Nat.zero_add] at hown1;obtain ⟨g,c3,hv,hgb,hgl⟩:=own_head hown1 hm0;subst hv;have sm:Same w1 w2:=Below.grown ((Same.refl w1).alloc _) hg1 (by simp) (fun k hk => by simp [Value.ownBlock] at hk;omega);have SM:=Lib.hid sm;have OT:=Lib.hid hown1;have lw2:w.heap.size < w2.heap.size:=Nat.lt_of_lt_of_le z0 sm.size;have lb2:b < w2.heap.size:=Nat.lt_of_lt_of_le hb1 sm.size;have b0':=(sm.cells _ 0 z0).trans b0;have yy0':=(sm.cells _ _ hb1).trans yy0;have yy1':=(sm.cells _ _ hb1).trans yy1;have yy2':=(sm.cells _ _ hb1).trans yy2;clear hown1 hg1 hat1 sm yy0 yy1 yy2 b0)
 obtain ⟨W3,hW3⟩:∃ W3,W3 = (w2.alloc (.cells #[.slice (some ⟨g,0,none⟩) m c3] 24)).alloc (.cells #[.string tn,.slice A1 m1 c1_,.slice A2 m2 c2_] 44):=⟨_,rfl⟩
 have s23:Same w2 W3:=by rw [hW3];exact ((Same.refl w2).alloc _).alloc _
 have BO:Hid (Blk W3 w2.heap.size 24 #[.slice (some ⟨g,0,none⟩) m c3]):=by show Blk _ _ _ _;rw [hW3];exact (Blk.new w2 _ _).alloc _
 have BX:Hid (Blk W3 (w2.heap.size + 1) 44 #[.string tn,.slice A1 m1 c1_,.slice A2 m2 c2_]):=by
  have e:w2.heap.size + 1 = (w2.alloc (.cells #[.slice (some ⟨g,0,none⟩) m c3] 24)).heap.size:=by simp
  show Blk _ _ _ _
  rw [hW3,e];exact Blk.new _ _ _
 rw [← hW3]
 clear hW3 yy0' yy1' yy2' b0'
 have S13:Hid (Same w1 W3):=SM.out.trans s23
 have X3:Hid (XS w W3 g c3 m (w2.heap.size + 1) w2.heap.size XT (.slice (some ⟨b,off,none⟩) m cc) #[.int .i64 2,.string tt,.string aa,.string n,.int .i64 to_,.int .i64 dk,.int .i64 dn,.string ds] tn (.slice A1 m1 c1_) (.slice A2 m2 c2_)):=
  ⟨S1.out.trans S13.out,own_same s23 OT.out,hgb,BX.out,BO.out,BR1.out.below S13.out BR1.out.lt,BC1.out.below S13.out BC1.out.lt,BS1.out.below S13.out BS1.out.lt,by omega,by omega⟩
 have lw3:w.heap.size ≤ W3.heap.size:=X3.out.s.size
 have lx0:w2.heap.size + 1 < W3.heap.size:=BX.out.lt
 have x31:W3.cell? ⟨w2.heap.size + 1,1,none⟩ = some (.slice A1 m1 c1_):=BX.out.cell 1
 have x3f:W3.frozen? ⟨w2.heap.size + 1,1,none⟩ = false:=BX.out.frozen 1
 have HRA:=Lib.hid (HRA0.out W3 X3.out.s)
 clear s23 BO BX SM OT HRT HRT0 HRA0 BS1 BC1 BR1
 go_upto_region 7 with (at_builtin;refine wpList_append_any _ rfl (.tmp 34) (.tmp 36) 41 rfl w.heap.size 82 i1 _ 6 80 Tryz.underlying41 hj0 hjz0 hjz1 hjz2 rfl (by decide) (.slice (some ⟨W3.heap.size,0,none⟩) 0 0) 0 [] rfl (own_low (ownsRow_new W3 _ _) lw3) W3.heap.size A1 m1 c1_ XA rfl (HRA.out.alloc (Nat.le_refl _) _) HXA.out (by simp only [maxLen];omega) (by omega) (by simp;omega) ?_;intro v1 w4 hown1 hg1 hat1;rw [List.nil_append,Nat.zero_add] at hown1;obtain ⟨A4,c4_,hv⟩:=own_val hown1;subst hv;have sm:Same W3 w4:=Below.grown ((Same.refl W3).alloc _) hg1 (by simp) (fun k hk => by simp [Value.ownBlock] at hk;omega);have SM4:=Lib.hid sm;have OA:=Lib.hid hown1;have u1:=(sm.cells _ 1 lx0).trans x31;have uf:=(sm.frees _ 1 lx0).trans x3f;clear hown1 hg1 hat1 sm x31 x3f)
 obtain ⟨W5,hW5⟩:∃ W5,W5 = w4.setCell ⟨w2.heap.size + 1,1,none⟩ (.slice A4 m1 c4_):=⟨_,rfl⟩
 have X4:=X3.out.same SM4.out
 have X5:Hid (XS w W5 g c3 m (w2.heap.size + 1) w2.heap.size XT (.slice (some ⟨b,off,none⟩) m cc) #[.int .i64 2,.string tt,.string aa,.string n,.int .i64 to_,.int .i64 dk,.int .i64 dn,.string ds] tn (.slice A4 m1 c4_) (.slice A2 m2 c2_)):=by
  rw [hW5];exact X4.setX _
 have OA5:Hid (W5.ownsRow w.heap.size 82 6 (.slice A4 m1 c4_) m1 XA):=by show World.ownsRow _ _ _ _ _ _ _;rw [hW5];exact X4.keepX OA.out (by decide) 1 _
 rw [← hW5]
 clear hW5 X4 X3 OA SM4 u1 uf S13 HRA lx0 lw3
 obtain ⟨bx,hbx⟩:∃ bx,bx = w2.heap.size + 1:=⟨_,rfl⟩
 obtain ⟨bo,hbo⟩:∃ bo,bo = w2.heap.size:=⟨_,rfl⟩
 rw [← hbx] at X5 ⊢
 rw [← hbo] at X5 ⊢
 clear hbx hbo lw2 lb2 hgl
 have xW50:=X5.out.bX.cell 0
 have xW51:=X5.out.bX.cell 1
 have xW52:=X5.out.bX.cell 2
 have xfW5:=X5.out.bX.frozen 1
 have cW50:=X5.out.bC.cell 0
 have cW53:=X5.out.bC.cell 3
 have cW54:=X5.out.bC.cell 4
 have cW55:=X5.out.bC.cell 5
 have cW56:=X5.out.bC.cell 6
 have cW57:=X5.out.bC.cell 7
 have hpos:0 < m1:=by omega
 obtain ⟨ga,ca,hv,hgab,hgal⟩:=own_head OA5.out hpos
 injection hv with hv1 _ hv2
 subst hv1 hv2
 obtain ⟨ga',cur,hA,_,hk,_,hmc,hcm,_⟩:=own_blk OA5.out hpos
 injection hA with hA
 injection hA with e
 subst e
 have HK:=Lib.hid hk
 have nbx:ga ≠ bx:=hk.ne_ X5.out.bX (by decide)
 have nbc:ga ≠ w.heap.size + 1:=hk.ne_ X5.out.bC (by decide)
 obtain ⟨i2,hk0,hkz0,hkz1,hkz2⟩:=info_parts Tryz.infoCI
 obtain ⟨SV,hSV⟩:∃ SV,SV = (Value.slice (some ⟨b,off,none⟩) m cc):=⟨_,rfl⟩
 obtain ⟨CS,hCS⟩:∃ CS:Array Value,CS = #[.int .i64 2,.string tt,.string aa,.string n,.int .i64 to_,.int .i64 dk,.int .i64 dn,.string ds]:=⟨_,rfl⟩
 have HSV:=Lib.hid hSV
 have X5':Hid (XS w W5 g c3 m bx bo XT SV CS tn (.slice (some ⟨ga,0,none⟩) m1 c4_) (.slice A2 m2 c2_)):=by rw [hSV,hCS];exact X5
 clear X5 hSV hk
 obtain ⟨news,AD,W6,hAD,DF⟩:=del_facts OA5.out.drew ham (by decide) HXA.out
 obtain ⟨n',hn'⟩:∃ n',n' = a + (m1 - (a + 1)):=⟨_,rfl⟩
 have en:n' = m1 - 1:=by omega
 have HNN:Hid (n' = m1 - 1):=en
 have hcm':c4_ ≤ 9223372036854775807:=by unfold maxLen at hcm;exact hcm
 have hic:a ≤ c4_:=by omega
 have hjc:a + 1 ≤ c4_:=by omega
 have hjn:a + 1 ≤ m1:=by omega
 have hwp:IntKind.i64.wrap ((a:Int) + 1) = (a:Int) + 1:=IntWalk.i64_in _ ⟨by omega,by omega⟩
 have htn:((a:Int) + 1).toNat = a + 1:=by omega
 have hp0:(0:Int) ≤ (a:Int) + 1:=by omega
 have hp1:(a:Int) + 1 ≤ (m1:Int):=by omega
 have s1:=Lib.hid DF.len
 have s2:=Lib.hid DF.one
 have s3:=Lib.hid DF.dst
 have hsrc:=Lib.hid DF.src
 have hW:=Lib.hid DF.out
 have YD:=DF.own
 rw [← en] at YD
 obtain ⟨YA,hYA⟩:∃ YA,YA = XA.take (a * 6) ++ XA.drop ((a + 1) * 6):=⟨_,rfl⟩
 rw [← hYA] at YD
 have HYA:=Lib.hid hYA
 have OD:=Lib.hid YD
 have X6:=Lib.hid (X5'.out.drew.grown OA5.out.drew (Nat.le_refl _) (by decide) (by decide) (by decide) DF.grown)
 have x61:=X6.out.bX.cell 1
 have x62:=X6.out.bX.cell 2
 have x6f:=X6.out.bX.frozen 1
 have x6g:=X6.out.bX.frozen 2
 clear DF YD hYA en
 go_upto_region 11 with (fail)
 go_region_law (refine step_append_room rfl (.tmp 60) (.tmp 65) 41 rfl 82 i1 6 Tryz.underlying41 hj0 hjz1 ga 0 a c4_ (by simp [Act.eval,Act.put]) AD (m1 - (a + 1)) (c4_ - (a + 1)) news (by simp [Act.eval,Act.put]) s1.out hsrc.out s2.out (by omega) s3.out ?_;rw [hW.out])
 all_goals
  rw [← hn']
  have hnb:n' ≤ 1000:=by omega
  clear hn'
  have X7:=X6.out.setX (.slice (some ⟨ga,0,none⟩) n' c4_)
  have O7:=X6.out.keepX OD.out (by decide) 1 (.slice (some ⟨ga,0,none⟩) n' c4_)
  obtain ⟨W7,hW7⟩:∃ W7,W7 = W6.setCell ⟨bx,1,none⟩ (.slice (some ⟨ga,0,none⟩) n' c4_):=⟨_,rfl⟩
  rw [← hW7] at X7 O7 ⊢
  have x72:=X7.bX.cell 2
  have x7g:=X7.bX.frozen 2
  have X8:=X7.setK (.slice none 0 0)
  have O8:=X7.keepX O7 (by decide) 2 (.slice none 0 0)
  obtain ⟨W8,hW8⟩:∃ W8,W8 = W7.setCell ⟨bx,2,none⟩ (.slice none 0 0):=⟨_,rfl⟩
  rw [← hW8] at X8 O8
  clear hW7 X7 O7 x61 x62 x6f x6g
  have HX8:=Lib.hid X8
  have HO8:=Lib.hid O8
  have HCS:Hid (CS = #[.int .i64 2,.string tt,.string aa,.string n,.int .i64 to_,.int .i64 dk,.int .i64 dn,.string ds]):=hCS
  clear X8 O8
  go_upto_region 13 with (fail)
  rw [← hW8]
  clear hW8 x72 x7g
  go_wp2_with fail
  go_loopw [11] (fun i wr => ∃ k:Nat,k ≤ key.length ∧ i = .int .i64 k ∧ ∃ (Ak:Option Addr) (ck:Nat),Hid (DRel w g c3 m bx bo XT SV CS tn (.slice (some ⟨ga,0,none⟩) n' c4_) n' YA (dropK a key) k Ak ck wr)) (fun i _ => key.length - (intOf i).toNat)
  case atStart => exact ⟨0,Nat.zero_le _,rfl,none,0,HX8.out,HO8.out,rfl,.inl ⟨rfl,rfl⟩⟩
  case round =>
   obtain ⟨k,hk,rfl,Ak,ck,HR⟩:=hrel
   have R:=HR.out
   have lwr:w.heap.size ≤ wr.heap.size:=R.x.s.size
   have sb:=R.x.bS.cell 0
   rw [HSV.out] at sb
   have rb0:wr.cell? ⟨w.heap.size,0,none⟩ = some (.slice (some ⟨b,off,none⟩) m cc):=sb
   clear sb
   have yr:wr.cell? ⟨b,off + q * 3 + 2,none⟩ = some (.slice A2 m2 c2_):=(R.x.s.cells _ _ hbl).trans y2
   have hbr:b < wr.heap.size:=Nat.lt_of_lt_of_le hbl lwr
   by_cases hlt:k < key.length
   ·obtain ⟨kb,ko,hA2,hkbl,hkc⟩:=HTK.out.2.2 k hlt
    have hA2':A2 = some ⟨kb,ko,none⟩:=hA2
    have hk0_:=HKB.out _ (List.getElem_mem hlt)
    obtain ⟨kx,hkx⟩:∃ kx,kx = key[k]:=⟨_,rfl⟩
    rw [← hkx] at hk0_ hkc
    have HKX:=Lib.hid hkx
    have hkc0:=hkc 0 (.int .i64 kx) rfl
    have hkc1:wr.cell? ⟨kb,ko + k,none⟩ = some (.int .i64 kx):=by
     have:=(R.x.s.cells _ _ hkbl).trans hkc0
     simpa using this
    have hkbr:kb < wr.heap.size:=Nat.lt_of_lt_of_le hkbl lwr
    have hlm:key.length = m2:=HTK.out.1
    clear hkc hkc0 hkx hA2
    subst hA2'
    obtain ⟨hkx0,hkx1⟩:=hk0_
    have xr2:=R.x.bX.cell 2
    have xrf:=R.x.bX.frozen 2
    obtain ⟨KX,hKX⟩:∃ KX,KX = ((dropK a key).take k).flatMap intCell:=⟨_,rfl⟩
    have HKXL:=Lib.hid hKX
    have OK:=Lib.hid R.ok
    rw [← hKX] at OK
    clear hKX
    by_cases hgt:(a:Int) < kx
    ·have t1:decide ((a:Int) < kx) = true:=decide_eq_true hgt
     have HST:Hid (∀ (w6:World) (A6:Option Addr) (c6:Nat) (ob:Obj),w6.ownsRow w.heap.size 3 1 (.slice A6 (k + 1) c6) (k + 1) (KX ++ [.int .i64 (kx - 1)]) → (wr.alloc ob).grownBy w6 (Value.slice Ak k ck).ownBlock → DRel w g c3 m bx bo XT SV CS tn (.slice (some ⟨ga,0,none⟩) n' c4_) n' YA (dropK a key) (k + 1) A6 c6 (w6.setCell ⟨bx,2,none⟩ (.slice A6 (k + 1) c6))):=
      Lib.hid fun w6 A6 c6 ob o G => DRel.step hlt R (kx:=(kx - 1)) (by rw [if_pos (by rw [← HKX.out];exact hgt),← HKX.out]) (by rw [← HKXL.out];exact o) G
     clear hgt
     go_wp2_with (at_builtin;refine wpList_append_any _ rfl (.tmp 95) (.tmp 97) 42 rfl w.heap.size 3 i2 _ 1 8 Tryz.underlying42 hk0 hkz0 hkz1 hkz2 rfl (by decide) (.slice Ak k ck) k KX rfl (OK.out.alloc _) (wr.heap.size + 1) (some ⟨wr.heap.size,0,none⟩) 1 1 [.int .i64 (kx - 1)] rfl (reads_new wr _ _) (fun u hu => by simp at hu;subst hu;rfl) (by simp only [maxLen];omega) (by omega) (Nat.le_trans lwr (by simp)) ?_;intro v2 w6 hown2 hg2 hat2;obtain ⟨A6,c6,hv⟩:=own_val hown2;subst hv;have X6:=Lib.hid ((R.x.same ((Same.refl wr).alloc _)).grown (R.ok.alloc _) (Nat.le_refl _) (by decide) (by decide) (by decide) hg2);have HFF:=Lib.hid (HST.out w6 A6 c6 _ hown2 hg2);have x62:=X6.out.bX.cell 2;have x6f:=X6.out.bX.frozen 2;clear hown2 hg2 hat2)
     go_roundw
     case rel => exact ⟨k + 1,by omega,by go_num,A6,c6,HFF⟩
     case measure => simp [intOf];omega
    ·have t1:decide ((a:Int) < kx) = false:=decide_eq_false hgt
     have HST:Hid (∀ (w6:World) (A6:Option Addr) (c6:Nat) (ob:Obj),w6.ownsRow w.heap.size 3 1 (.slice A6 (k + 1) c6) (k + 1) (KX ++ [.int .i64 kx]) → (wr.alloc ob).grownBy w6 (Value.slice Ak k ck).ownBlock → DRel w g c3 m bx bo XT SV CS tn (.slice (some ⟨ga,0,none⟩) n' c4_) n' YA (dropK a key) (k + 1) A6 c6 (w6.setCell ⟨bx,2,none⟩ (.slice A6 (k + 1) c6))):=
      Lib.hid fun w6 A6 c6 ob o G => DRel.step hlt R (kx:=kx) (by rw [if_neg (by rw [← HKX.out];exact hgt),← HKX.out]) (by rw [← HKXL.out];exact o) G
     clear hgt
     go_wp2_with (at_builtin;refine wpList_append_any _ rfl (.tmp 95) (.tmp 97) 42 rfl w.heap.size 3 i2 _ 1 8 Tryz.underlying42 hk0 hkz0 hkz1 hkz2 rfl (by decide) (.slice Ak k ck) k KX rfl (OK.out.alloc _) (wr.heap.size + 1) (some ⟨wr.heap.size,0,none⟩) 1 1 [.int .i64 kx] rfl (reads_new wr _ _) (fun u hu => by simp at hu;subst hu;rfl) (by simp only [maxLen];omega) (by omega) (Nat.le_trans lwr (by simp)) ?_;intro v2 w6 hown2 hg2 hat2;obtain ⟨A6,c6,hv⟩:=own_val hown2;subst hv;have X6:=Lib.hid ((R.x.same ((Same.refl wr).alloc _)).grown (R.ok.alloc _) (Nat.le_refl _) (by decide) (by decide) (by decide) hg2);have HFF:=Lib.hid (HST.out w6 A6 c6 _ hown2 hg2);have x62:=X6.out.bX.cell 2;have x6f:=X6.out.bX.frozen 2;clear hown2 hg2 hat2)
     go_roundw
     case rel => exact ⟨k + 1,by omega,by go_num,A6,c6,HFF⟩
     case measure => simp [intOf];omega
   ·have ek:k = key.length:=by omega
    have hlm:key.length = m2:=HTK.out.1
    subst hlm
    subst ek
    have XR:=Lib.hid R.x
    have OAR:=Lib.hid R.oa
    have OKR:=Lib.hid R.ok
    clear hlt R HR
    go_upto_region 26 with (fail)
    have xwr0:=XR.out.bX.cell 0
    have xwr1:=XR.out.bX.cell 1
    have xwr2:=XR.out.bX.cell 2
    have xfwr:=XR.out.bX.frozen 1
    have owr:=XR.out.bO.cell 0
    have rwr:=XR.out.bR.cell 0
    have rfwr:=XR.out.bR.frozen 0
    obtain ⟨gwr0,gwr1,gwr2,gfwr⟩:=HGQ.out.2 _ _ _ XR.out.ot
    have gfwr0:=gfwr (q * 3)
    have gfwr1:=gfwr (q * 3 + 1)
    have gfwr2:=gfwr (q * 3 + 2)
    clear gfwr
    have FIN:=Lib.hid (XS.fin (W:=wr) (q:=q) (cc:=cc) (A:=some ⟨b,off,none⟩) (Aa:=some ⟨ga,0,none⟩) (n:=n') (ca:=c4_) (Ak:=Ak) (nk:=key.length) (ck:=ck) (ra:=ra.eraseIdx a) (key:=dropK a key) (by have:=XR.out;rw [HXT'.out] at this;exact this) rfl hm hm2 hqm HA.out HTN.out (by rw [List.length_eraseIdx,if_pos ha'];have:=HNN.out;omega) (by omega) (by have h:=OAR.out;rw [HYA.out,HXA'.out,flat_erase RA.clen ra a ha'] at h;exact h) (fun W9 s9 K9 => own_lies' (enc:=intCell) (fun _ => rfl) (dropK_len a key) (by show key.length ≤ _;omega) (by have h:=K9.own OKR.out (by decide) (by decide);rw [List.take_of_length_le (by rw [dropK_len];exact Nat.le_refl _)] at h;exact h)) (fun W9 s9 _ r hr => (HTA.out.same s9).2 r (List.mem_of_mem_eraseIdx hr)) (fun K _ hK => own_in OKR.out hK) (fun K t _ r hr => (t.2 _ HTM.out).2.2 r (List.mem_of_mem_eraseIdx hr)) _ (newT_drop ⟨tn,⟨A1,m1,c1_⟩,ra,⟨A2,key.length,c2_⟩,key⟩ ⟨2,tt,aa,n,to_,⟨dk,dn,ds⟩⟩ a rfl HCA.out ⟨some ⟨ga,0,none⟩,n',c4_⟩))
    have hgo:=XR.out.go.1
    have hgr:=XR.out.go.2
    go_wp2_with fail
    refine bodyPost_ret (v:=.tuple #[.agg #[.slice (some ⟨g,0,none⟩) m c3],.int .i64 0]) ?_ rfl ?_
    ·simp [results,Tryz.results8,go_sem,owr,rwr,rfwr]
    ·exact FIN.out
end Go.Proofs.YtfifnemnihcijaaGreatDoor

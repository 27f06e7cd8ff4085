import Derived.Test.YtfifnemnihcijaaGreatDoorKTc
import Derived.Deep.RegionWith
set_option linter.unusedSimpArgs false
set_option linter.unusedVariables false
set_option maxHeartbeats 16000000
set_option maxRecDepth 100000
namespace Go.Proofs.YtfifnemnihcijaaGreatDoor
open Go.RowKit
theorem RT.one (t:RT):∀ v ∈ t.cells,v.oneCell' = true:=by
 intro v hv
 simp only [RT.cells,List.mem_cons,List.not_mem_nil,or_false] at hv
 rcases hv with rfl | rfl | rfl <;> rfl
theorem RA.one (t:RA):∀ v ∈ t.cells,v.oneCell' = true:=by
 intro v hv
 simp only [RA.cells,List.mem_cons,List.not_mem_nil,or_false] at hv
 rcases hv with rfl | rfl | rfl | rfl | rfl | rfl <;> rfl
theorem cloneT' (h:Hd) (ts:List RT) (w:World) (a:Lies w 3 h RT.cells ts) (hn:h.n ≤ 1000000000) (h0:0 < ts.length) :
  Calls Tryz.prog 38 #[h.val] w fun e w' => ∃ g c,e = .returned (.slice (some ⟨g,0,none⟩) ts.length c) ∧ Same w w' ∧ w'.ownsRow w.heap.size 44 3 (.slice (some ⟨g,0,none⟩) ts.length c) ts.length (ts.flatMap RT.cells):=by
 refine (cloneT_ok h RT.cells RT.clen RT.one ts w a hn).mono ?_
 rintro e w' (⟨_,rfl,_⟩ | ⟨c,g,he,s,o⟩)
 ·simp at h0
 ·exact ⟨g,c,he,s,o⟩
theorem cloneA' (h:Hd) (l:List RA) (w:World) (a:Lies w 6 h RA.cells l) (hn:h.n ≤ 1000000000) :
  Calls Tryz.prog 39 #[h.val] w fun e w' => ∃ A c,e = .returned (.slice A l.length c) ∧ Same w w' ∧ w'.ownsRow w.heap.size 82 6 (.slice A l.length c) l.length (l.flatMap RA.cells):=by
 refine (cloneA_ok h RA.cells RA.clen RA.one l w a hn).mono ?_
 rintro e1 w' (⟨rfl,rfl,s⟩ | ⟨c,g,rfl,s,o⟩)
 ·exact ⟨none,0,rfl,s,rfl,.inl ⟨rfl,rfl⟩⟩
 ·exact ⟨_,c,rfl,s,o⟩
theorem cloneI' (h:Hd) (l:List Int) (w:World) (a:Lies w 1 h intCell l) (hn:h.n ≤ 1000000000) :
  Calls Tryz.prog 40 #[h.val] w fun e w' => ∃ A c,e = .returned (.slice A l.length c) ∧ Same w w' ∧ w'.ownsRow w.heap.size 3 1 (.slice A l.length c) l.length (l.flatMap intCell):=by
 refine (cloneI_ok h intCell (fun _ => rfl) (fun x v hv => by simp [intCell] at hv;subst hv;rfl) l w a hn).mono ?_
 rintro e1 w' (⟨rfl,rfl,s⟩ | ⟨c,g,rfl,s,o⟩)
 ·exact ⟨none,0,rfl,s,rfl,.inl ⟨rfl,rfl⟩⟩
 ·exact ⟨_,c,rfl,s,o⟩
theorem strs_set {w:World} {h:Hd} {l:List ByteArray} (a:StrsAt w h l) {b:Nat} {A:Option Addr} {n c:Nat} (hc:w.cell? ⟨b,0,none⟩ = some (.slice A n c)) (v:Value):StrsAt (w.setCell ⟨b,0,none⟩ v) h l:=by
 refine ⟨⟨a.1.1,a.1.2.1,fun k hk => ?_⟩,a.2⟩
 obtain ⟨b',off,h1,h2,h3⟩:=a.1.2.2 k hk
 refine ⟨b',off,h1,by simpa [World.setCell] using h2,fun j u hu => ?_⟩
 have h4:=h3 j u hu
 rw [World.cell?_setCell_other _ _ _ _ (fun e => ?_)]
 ·exact h4
 ·rw [← e,hc] at h4
  have:u = .string l[k]:=by
   match j,hu with
   | 0,hu => simpa [strCell] using hu.symm
   | j + 1,hu => simp [strCell] at hu
  rw [this] at h4
  cases h4
theorem TabState.setOut {W0 w:World} {g c i:Nat} {ts:List RT} {t:RT} (S:TabState W0 w g c ts i t) {b:Nat} {tg:TypeId} {cs:Array Value} (hb:Blk w b tg cs) (h1:44 ≠ tg) (h2:82 ≠ tg) (h3:3 ≠ tg) (h0:W0.heap.size ≤ b) (j:Nat) (v:Value):TabState W0 (w.setCell ⟨b,j,none⟩ v) g c ts i t:=
 ⟨S.s.setCell (p:=⟨b,j,none⟩) h0 v,ownsRow_setCell_other S.row (a:=⟨b,j,none⟩) (own_blk_ne S.row hb h1) v,S.ti,S.an,ownsRow_setCell_other S.ar (a:=⟨b,j,none⟩) (own_blk_ne S.ar hb h2) v,S.kn,ownsRow_setCell_other S.kr (a:=⟨b,j,none⟩) (own_blk_ne S.kr hb h3) v⟩
theorem tab_start {w Wb W:World} {g cc i ca ck:Nat} {A K:Option Addr} {ts:List RT} (hi:i < ts.length) (own:Wb.ownsRow w.heap.size 44 3 (.slice (some ⟨g,0,none⟩) ts.length cc) ts.length (ts.flatMap RT.cells)) (s0:Same w Wb) (s:Same Wb W)
  (oA:W.ownsRow w.heap.size 82 6 (.slice A ts[i].ra.length ca) ts[i].ra.length (ts[i].ra.flatMap RA.cells)) (oK:W.ownsRow w.heap.size 3 1 (.slice K ts[i].key.length ck) ts[i].key.length (ts[i].key.flatMap intCell)) :
  TabState w ((W.setCell ⟨g,i * 3 + 1,none⟩ (.slice A ts[i].ra.length ca)).setCell ⟨g,i * 3 + 2,none⟩ (.slice K ts[i].key.length ck)) g cc (ts.set i ⟨ts[i].name,⟨A,ts[i].ra.length,ca⟩,ts[i].ra,⟨K,ts[i].key.length,ck⟩,ts[i].key⟩) i ⟨ts[i].name,⟨A,ts[i].ra.length,ca⟩,ts[i].ra,⟨K,ts[i].key.length,ck⟩,ts[i].key⟩ ∧
  KeepT Wb ((W.setCell ⟨g,i * 3 + 1,none⟩ (.slice A ts[i].ra.length ca)).setCell ⟨g,i * 3 + 2,none⟩ (.slice K ts[i].key.length ck)):=by
 have oW:=own_same s own
 obtain ⟨g',cur,hA,hgb,hk,_⟩:=own_blk oW (by omega)
 injection hA with hA
 injection hA with e
 subst e
 obtain ⟨t,ht⟩:∃ t,t = ts[i]:=⟨_,rfl⟩
 have hti:ts[i]? = some t:=by rw [ht];exact List.getElem?_eq_getElem hi
 rw [← ht] at oA oK ⊢
 have nA:=row_ne oA oW (by decide)
 have nK:=row_ne oK oW (by decide)
 have o1:=own_set (y:={ t with ha:=⟨A,t.ra.length,ca⟩ }) RT.clen oW rfl i hi 1 (by decide) (.slice A t.ra.length ca) (by rw [← ht];rfl)
 have o2:=own_set (y:=⟨t.name,⟨A,t.ra.length,ca⟩,t.ra,⟨K,t.key.length,ck⟩,t.key⟩) RT.clen o1 (by simp) i hi 2 (by decide) (.slice K t.key.length ck) (by simp;rfl)
 rw [List.set_set] at o2
 refine ⟨⟨((s0.trans s).setCell (p:=⟨g,i * 3 + 1,none⟩) hgb _).setCell (p:=⟨g,i * 3 + 2,none⟩) hgb _,?_,by simp [hi],rfl,?_,rfl,?_⟩,((KeepT.same s).set hk (.inl rfl) _ _).set (hk.set_ _ _) (.inl rfl) _ _⟩
 ·rw [List.length_set];exact o2
 ·exact ownsRow_setCell_other (ownsRow_setCell_other oA (a:=⟨g,i * 3 + 1,none⟩) nA _) (a:=⟨g,i * 3 + 2,none⟩) nA _
 ·exact ownsRow_setCell_other (ownsRow_setCell_other oK (a:=⟨g,i * 3 + 1,none⟩) nK _) (a:=⟨g,i * 3 + 2,none⟩) nK _
theorem apply_gen (x0 x1 x3:Value) (o0:x0.oneCell' = true) (o1:x1.oneCell' = true) (o3:x3.oneCell' = true) (g2:Nat) (eg:∀ args w,(callFunc g2 args).run Tryz.prog w = .ok (.enter g2 args) w) (h:Hd) (ts:List RT) (c:Cg) (w:World) (a:TabsAt w h ts) (hl:ts.length ≤ 20)
  (q:Nat) (hq:q < ts.length) (cA:Int) (R:Ready w ts[q]) (tb':Tb)
  (hf:Rt 37 #[.agg #[h.val],c.val] w (.tuple #[.agg #[x0,x1,fnV g2,x3],.int .i64 q,.int .i64 cA,.int .i64 0]))
  (ht:∀ W g cc ts' t,t.name = ts[q].name → t.ra = ts[q].ra → t.key = ts[q].key → TabState w W g cc ts' q t → Calls Tryz.prog g2 #[.pointer (some ⟨g,q * 3,none⟩),c.val,.int .i64 cA] W fun e w' => e = .returned (.tuple #[]) ∧ TbDone w w' g cc ts' q tb' ∧ KeepT W w') :
  Calls Tryz.prog 7 #[.agg #[h.val],c.val] w fun e w' => ∃ (h':Hd) (ts':List RT),e = .returned (.tuple #[.agg #[h'.val],.int .i64 0]) ∧ TabsAt w' h' ts' ∧ ts'.map RT.tb = (ts.map RT.tb).set q tb' ∧ Same w w':=by
 have HA:=Lib.hid a
 have HR:=Lib.hid R
 have HLn:ts.length = h.n:=a.1.1
 have HCT:=Lib.hid (fun (W:World) (s:Same w W) => cloneT' h ts W (a.same s).1 (by rw [← HLn];omega) (by omega))
 have hti:=a.2 _ (List.getElem_mem hq)
 have HCA:=Lib.hid (fun (W:World) (s:Same w W) => cloneA' ts[q].ha ts[q].ra W (hti.same s).1.1 (by rw [← hti.1.1.1];have:=R.al;omega))
 have HCI:=Lib.hid (fun (W:World) (s:Same w W) => cloneI' ts[q].hk ts[q].key W (hti.same s).2.1 (by rw [← hti.2.1.1];have:=R.kl;omega))
 have HF:=Lib.hid hf
 have HT:=Lib.hid ht
 have r0:=fun w a m => run_store Tryz.prog w a x0 m o0
 have r1:=fun w a m => run_store Tryz.prog w a x1 m o1
 have r3:=fun w a m => run_store Tryz.prog w a x3 m o3
 clear a R hti hf ht o0 o1 o3
 obtain ⟨A,m,cc⟩:=h
 obtain ⟨k,tt,aa,n,to_,⟨dk,dn,ds⟩⟩:=c
 simp only at HLn
 subst HLn
 have HF':Hid (Rt 37 #[.agg #[.slice A ts.length cc],.agg #[.int .i64 k,.string tt,.string aa,.string n,.int .i64 to_,.int .i64 dk,.int .i64 dn,.string ds]] w (.tuple #[.agg #[x0,x1,.func (.func g2) #[] #[],x3],.int .i64 q,.int .i64 cA,.int .i64 0])):=HF
 have HCT':Hid (∀ W,Same w W → Calls Tryz.prog 38 #[.slice A ts.length cc] W fun e w' => ∃ g c,e = .returned (.slice (some ⟨g,0,none⟩) ts.length c) ∧ Same W w' ∧ w'.ownsRow W.heap.size 44 3 (.slice (some ⟨g,0,none⟩) ts.length c) ts.length (ts.flatMap RT.cells)):=HCT
 clear HF HCT
 show Calls Tryz.prog 7 #[.agg #[.slice A ts.length cc],.agg #[.int .i64 k,.string tt,.string aa,.string n,.int .i64 to_,.int .i64 dk,.int .i64 dn,.string ds]] w _
 go_enter Tryz.func7,Tryz.ntmps7
 go_wp2_with fail
 refine (HF'.out _ ?_).mono ?_
 ·exact (((Same.refl w).alloc _).alloc _).alloc _
 rintro e w1 ⟨rfl,s1⟩
 have S1:=Lib.hid ((((Same.refl w).alloc _).alloc _).alloc _ |>.trans s1)
 have K1:=s1.cells
 have F1:=s1.frees
 have Z1:w.heap.size + 3 ≤ w1.heap.size:=by have:=s1.size;simp at this;omega
 have z0:w.heap.size < w1.heap.size:=by omega
 have z1:w.heap.size + 1 < w1.heap.size:=by omega
 have z2:w.heap.size + 1 + 1 < w1.heap.size:=by omega
 have S1a:=Lib.hid s1
 clear s1
 go_wp2_with fail
 refine (HCT'.out _ ?_).mono ?_
 ·exact S1.out.alloc _
 rintro e w2 ⟨g,c2,rfl,s2,o2⟩
 go_wp2_with fail
 obtain ⟨Wx,hWx⟩:∃ Wx,Wx = w1.alloc (.cells #[x0,x1,.func (.func g2) #[] #[],x3] 74):=⟨_,rfl⟩
 rw [← hWx] at s2 o2
 have swx:Same w1 Wx:=by rw [hWx];exact (Same.refl w1).alloc _
 have n1:(w.alloc (.cells #[.slice A ts.length cc] 24)).heap.size = w.heap.size + 1:=by simp
 have n2:((w.alloc (.cells #[.slice A ts.length cc] 24)).alloc (.cells #[.int .i64 k,.string tt,.string aa,.string n,.int .i64 to_,.int .i64 dk,.int .i64 dn,.string ds] 28)).heap.size = w.heap.size + 1 + 1:=by simp
 have ba2:=(Blk.new (w.alloc (.cells #[.slice A ts.length cc] 24)) 28 #[.int .i64 k,.string tt,.string aa,.string n,.int .i64 to_,.int .i64 dk,.int .i64 dn,.string ds]).alloc (.cells #[.slice none 0 0] 24)
 have ba3:=Blk.new ((w.alloc (.cells #[.slice A ts.length cc] 24)).alloc (.cells #[.int .i64 k,.string tt,.string aa,.string n,.int .i64 to_,.int .i64 dk,.int .i64 dn,.string ds] 28)) 24 #[.slice none 0 0]
 rw [n1] at ba2
 rw [n2] at ba3
 obtain ⟨Wb,hWb⟩:∃ Wb,Wb = w2.alloc (.cells #[.slice (some ⟨g,0,none⟩) ts.length c2] 24):=⟨_,rfl⟩
 rw [← hWb]
 have swb:Same w1 Wb:=by rw [hWb];exact (swx.trans s2).alloc _
 have SWB:Hid (Same w Wb):=S1.out.trans swb
 have BO:Hid (Blk Wb w2.heap.size 24 #[.slice (some ⟨g,0,none⟩) ts.length c2]):=by show Blk _ _ _ _;rw [hWb];exact Blk.new w2 _ _
 have BR:Hid (Blk Wb (w.heap.size + 1 + 1) 24 #[.slice none 0 0]):=(swb.block _ z2).trans ((S1a.out.block _ (by simp)).trans ba3)
 have BC:Hid (Blk Wb (w.heap.size + 1) 28 #[.int .i64 k,.string tt,.string aa,.string n,.int .i64 to_,.int .i64 dk,.int .i64 dn,.string ds]):=(swb.block _ z1).trans ((S1a.out.block _ (by simp)).trans ba2)
 have BX:Hid (Blk Wb w1.heap.size 74 #[x0,x1,.func (.func g2) #[] #[],x3]):=by
  show Blk _ _ _ _
  rw [hWb]
  refine Blk.alloc ?_ _
  refine (s2.block _ ?_).trans ?_
  ·rw [hWx];simp
  ·rw [hWx];exact Blk.new w1 _ _
 have OT:Hid (Wb.ownsRow w.heap.size 44 3 (.slice (some ⟨g,0,none⟩) ts.length c2) ts.length (ts.flatMap RT.cells)):=by
  show World.ownsRow _ _ _ _ _ _ _
  rw [hWb]
  exact (o2.mono (Nat.le_trans S1.out.size swx.size)).alloc _
 have hgl:g < Wb.heap.size:=(OT.out.lt g rfl).2
 have hgl2:Hid (w.heap.size ≤ g):=(OT.out.lt g rfl).1
 have x1:Wb.cell? ⟨g,q * 3 + 1,none⟩ = some ts[q].ha.val:=own_cell RT.clen OT.out rfl q hq 1 (by decide)
 have x2:Wb.cell? ⟨g,q * 3 + 2,none⟩ = some ts[q].hk.val:=own_cell RT.clen OT.out rfl q hq 2 (by decide)
 have ff:∀ j,Wb.frozen? ⟨g,j,none⟩ = false:=by
  obtain ⟨g',cur,hA,_,hk,_⟩:=own_blk OT.out (by omega)
  injection hA with hA
  injection hA with e
  subst e
  exact fun j => hk.frozen j
 have f1:=ff (q * 3 + 1)
 have f2:=ff (q * 3 + 2)
 obtain ⟨⟨A1,m1,c1⟩,hha⟩:∃ h,ts[q].ha = h:=⟨_,rfl⟩
 obtain ⟨⟨A2,m2,c3⟩,hhk⟩:∃ h,ts[q].hk = h:=⟨_,rfl⟩
 rw [hha] at x1 HCA
 rw [hhk] at x2 HCI
 have x1':Wb.cell? ⟨g,q * 3 + 1,none⟩ = some (.slice A1 m1 c1):=x1
 have x2':Wb.cell? ⟨g,q * 3 + 2,none⟩ = some (.slice A2 m2 c3):=x2
 have HCA':Hid (∀ W,Same w W → Calls Tryz.prog 39 #[.slice A1 m1 c1] W fun e w' => ∃ A c,e = .returned (.slice A ts[q].ra.length c) ∧ Same W w' ∧ w'.ownsRow W.heap.size 82 6 (.slice A ts[q].ra.length c) ts[q].ra.length (ts[q].ra.flatMap RA.cells)):=HCA
 have HCI':Hid (∀ W,Same w W → Calls Tryz.prog 40 #[.slice A2 m2 c3] W fun e w' => ∃ A c,e = .returned (.slice A ts[q].key.length c) ∧ Same W w' ∧ w'.ownsRow W.heap.size 3 1 (.slice A ts[q].key.length c) ts[q].key.length (ts[q].key.flatMap intCell)):=HCI
 clear hWb hWx ba2 ba3 n1 n2 s2 o2 swx swb x1 x2 ff hha hhk HCA HCI r0 r1 r3 K1 F1
 go_region_with
  (first
   | (go_at_call 39;refine (HCA'.out _ ?_).mono ?_;(first | exact SKW.out | exact SWB.out.drew);rintro e wa ⟨Aa,ca,rfl,sa,oa⟩;have SBA:Hid (Same Wb wa):=(by first | exact SBK.out.trans sa | exact (Same.refl Wb).drew.trans sa);have SAW:Hid (Same w wa):=SWB.out.trans SBA.out;have OA:Hid (wa.ownsRow w.heap.size 82 6 (.slice Aa ts[q].ra.length ca) ts[q].ra.length (ts[q].ra.flatMap RA.cells)):=World.ownsRow.mono oa (by first | exact SKW.out.size | exact SWB.out.size);have SA:=Lib.hid sa;have x1a:=(SBA.out.cells _ _ hgl).trans x1';have x2a:=(SBA.out.cells _ _ hgl).trans x2';have f1a:wa.frozen? ⟨g,q * 3 + 1,none⟩ = false:=(SBA.out.frees _ _ hgl).trans f1;have f2a:wa.frozen? ⟨g,q * 3 + 2,none⟩ = false:=(SBA.out.frees _ _ hgl).trans f2;clear sa oa)
   | (go_at_call 40;refine (HCI'.out _ ?_).mono ?_;(first | exact SAW.out | exact SWB.out.drew);rintro e wk ⟨Ak,ck,rfl,sk,ok⟩;have SBK:Hid (Same Wb wk):=(by first | exact SBA.out.trans sk | exact (Same.refl Wb).drew.trans sk);have SKW:Hid (Same w wk):=SWB.out.trans SBK.out;have OK:Hid (wk.ownsRow w.heap.size 3 1 (.slice Ak ts[q].key.length ck) ts[q].key.length (ts[q].key.flatMap intCell)):=World.ownsRow.mono ok (by first | exact SAW.out.size | exact SWB.out.size);have SK:=Lib.hid sk;have x1k:=(SBK.out.cells _ _ hgl).trans x1';have x2k:=(SBK.out.cells _ _ hgl).trans x2';have f1k:wk.frozen? ⟨g,q * 3 + 1,none⟩ = false:=(SBK.out.frees _ _ hgl).trans f1;have f2k:wk.frozen? ⟨g,q * 3 + 2,none⟩ = false:=(SBK.out.frees _ _ hgl).trans f2;clear sk ok))
 all_goals
  obtain ⟨W2,hW2⟩:∃ W2,W2 = (wk.setCell ⟨g,q * 3 + 1,none⟩ (.slice Aa ts[q].ra.length ca)).setCell ⟨g,q * 3 + 2,none⟩ (.slice Ak ts[q].key.length ck):=⟨_,rfl⟩
  rw [← hW2]
  have T:=tab_start hq OT.out SWB.out SBK.out (own_same SK.out OA.out) OK.out
  rw [← hW2] at T
  have T1:=Lib.hid T.1
  have bo:=T.2 _ _ _ BO.out (by decide) (by decide) (by decide)
  have br:=T.2 _ _ _ BR.out (by decide) (by decide) (by decide)
  have bc:=T.2 _ _ _ BC.out (by decide) (by decide) (by decide)
  have bx:=T.2 _ _ _ BX.out (by decide) (by decide) (by decide)
  have y0:W2.cell? ⟨w1.heap.size,2,none⟩ = some (.func (.func g2) #[] #[]):=bx.cell 2
  have c0:W2.cell? ⟨w.heap.size + 1,0,none⟩ = some (.int .i64 k):=bc.cell 0
  have c1_:W2.cell? ⟨w.heap.size + 1,1,none⟩ = some (.string tt):=bc.cell 1
  have c2_:W2.cell? ⟨w.heap.size + 1,2,none⟩ = some (.string aa):=bc.cell 2
  have c3_:W2.cell? ⟨w.heap.size + 1,3,none⟩ = some (.string n):=bc.cell 3
  have c4_:W2.cell? ⟨w.heap.size + 1,4,none⟩ = some (.int .i64 to_):=bc.cell 4
  have c5_:W2.cell? ⟨w.heap.size + 1,5,none⟩ = some (.int .i64 dk):=bc.cell 5
  have c6_:W2.cell? ⟨w.heap.size + 1,6,none⟩ = some (.int .i64 dn):=bc.cell 6
  have c7_:W2.cell? ⟨w.heap.size + 1,7,none⟩ = some (.string ds):=bc.cell 7
  have HBO:=Lib.hid bo
  have HBR:=Lib.hid br
  have HTT:Hid (Calls Tryz.prog g2 #[.pointer (some ⟨g,q * 3,none⟩),.agg #[.int .i64 k,.string tt,.string aa,.string n,.int .i64 to_,.int .i64 dk,.int .i64 dn,.string ds],.int .i64 cA] W2 fun e w' => e = .returned (.tuple #[]) ∧ TbDone w w' g c2 (ts.set q ⟨ts[q].name,⟨Aa,ts[q].ra.length,ca⟩,ts[q].ra,⟨Ak,ts[q].key.length,ck⟩,ts[q].key⟩) q tb' ∧ KeepT W2 w'):=HT.out W2 g c2 _ ⟨ts[q].name,⟨Aa,ts[q].ra.length,ca⟩,ts[q].ra,⟨Ak,ts[q].key.length,ck⟩,ts[q].key⟩ rfl rfl rfl T1.out
  clear T bo br bc bx hW2 x1' x2' f1 f2
  go_wp2_with fail
  refine HTT.out.mono ?_
  rintro e w5 ⟨rfl,D,kp⟩
  have bo5:=kp _ _ _ HBO.out (by decide) (by decide) (by decide)
  have br5:=kp _ _ _ HBR.out (by decide) (by decide) (by decide)
  have u0:w5.cell? ⟨w2.heap.size,0,none⟩ = some (.slice (some ⟨g,0,none⟩) ts.length c2):=bo5.cell 0
  have u1:w5.cell? ⟨w.heap.size + 1 + 1,0,none⟩ = some (.slice none 0 0):=br5.cell 0
  have u2:w5.frozen? ⟨w.heap.size + 1 + 1,0,none⟩ = false:=br5.frozen 0
  have HD:=Lib.hid D
  have HB5:=Lib.hid br5
  clear D kp bo5 br5
  go_wp2_with fail
  obtain ⟨t',DS,Dt,Dr,Dn,Dl,Dk⟩:=HD.out
  rw [List.set_set] at DS
  have hsl:(ts.set q t').length = ts.length:=List.length_set ..
  have hb0:w.heap.size ≤ w.heap.size + 1 + 1:=by omega
  have DS':=DS.setOut HB5.out (by decide) (by decide) (by decide) hb0 0 (.slice (some ⟨g,0,none⟩) ts.length c2)
  have TS:=DS'.tabs (by rw [hsl];omega) (by omega) (by omega) (fun r hr => ⟨strs_set (Dr r hr).1 u1 _,(Dr r hr).2⟩) Dn (fun j hj hne => by
   rw [List.getElem_set_ne (by omega)]
   exact (HA.out.2 _ (List.getElem_mem (by rw [hsl] at hj;exact hj))).same DS'.s)
  rw [hsl] at TS
  refine bodyPost_ret (v:=.tuple #[.agg #[.slice (some ⟨g,0,none⟩) ts.length c2],.int .i64 0]) ?_ rfl ⟨⟨some ⟨g,0,none⟩,ts.length,c2⟩,ts.set q t',rfl,TS,?_,DS'.s⟩
  ·simp [results,Tryz.results7,go_sem,u0,u1,u2]
  ·rw [List.map_set,Dt]
end Go.Proofs.YtfifnemnihcijaaGreatDoor

import Derived.Test.YtfifnemnihcijaaGreatDoorKSu
set_option linter.unusedSimpArgs false
set_option linter.unusedVariables false
set_option maxHeartbeats 16000000
set_option maxRecDepth 100000
namespace Go.Proofs.YtfifnemnihcijaaGreatDoor
open Go.RowKit
def FindOut (ev:Value) (E ti ai:Int) (e:Ending):Prop:=∃ x y:Int,e = .returned (.tuple #[ev,.int .i64 x,.int .i64 y,.int .i64 E]) ∧ (E = 0 → x = ti ∧ y = ai)
structure FindBox (b:Nat) (sl:Value) (cs es:List Value) (W:World):Prop where
 s:W.cell? ⟨b,0,none⟩ = some sl
 c:∀ j v,cs[j]? = some v → W.cell? ⟨b + 1,j,none⟩ = some v
 e:∀ j v,es[j]? = some v → W.cell? ⟨b + 1 + 1,j,none⟩ = some v
 f:∀ j,W.frozen? ⟨b + 1 + 1,j,none⟩ = false
 z:b + 3 ≤ W.heap.size
 k:Blk W (b + 1 + 1) 74 es.toArray
theorem FindBox.same {b:Nat} {sl:Value} {cs es:List Value} {W W':World} (h:FindBox b sl cs es W) (t:Same W W'):FindBox b sl cs es W':=
 have z:=h.z
 ⟨(t.cells _ _ (by omega)).trans h.s,fun j v hv => (t.cells _ _ (by omega)).trans (h.c j v hv),fun j v hv => (t.cells _ _ (by omega)).trans (h.e j v hv),fun j => (t.frees _ _ (by omega)).trans (h.f j),Nat.le_trans z t.size,(t.block _ (by omega)).trans h.k⟩
theorem set4_other (w:World) (b:Nat) (v0 v1 v2 v3:Value) (p:Addr) (h:p.block ≠ b) :
  ((((w.setCell ⟨b,0,none⟩ v0).setCell ⟨b,1,none⟩ v1).setCell ⟨b,2,none⟩ v2).setCell ⟨b,3,none⟩ v3).cell? p = w.cell? p:=by
 have far:∀ (w:World) (j:Nat) (v:Value),(w.setCell ⟨b,j,none⟩ v).cell? p = w.cell? p:=fun w j v => World.cell?_of_block (Below.heap_setCell w ⟨b,j,none⟩ v p.block h)
 rw [far,far,far,far]
theorem set4_same {w:World} {b:Nat} {t:TypeId} {x0 x1 x2 x3:Value} (v0 v1 v2 v3:Value) (h:Blk w b t #[x0,x1,x2,x3]) :
  Blk ((((w.setCell ⟨b,0,none⟩ v0).setCell ⟨b,1,none⟩ v1).setCell ⟨b,2,none⟩ v2).setCell ⟨b,3,none⟩ v3) b t #[v0,v1,v2,v3]:=
 (((h.set_ 0 v0).set_ 1 v1).set_ 2 v2).set_ 3 v3
theorem find_gen (nb fb:Bool) (g1 g2 g3:Nat) (h:Hd) (ts:List RT) (c:Cg) (chk:RT → Int → Int) (w:World) (a:TabsAt w h ts) (few:Few ts)
  (heff:Rs 67 #[c.val] (.tuple #[.agg #[.bool nb,fnV g1,fnV g2,fnV g3],.bool fb]))
  (eg:∀ args w,(callFunc g1 args).run Tryz.prog w = .ok (.enter g1 args) w)
  (hchk:∀ (k:Nat) (hk:k < ts.length) (i:Int) W,Same w W → (nb = true → 0 ≤ i ∧ i < ts[k].ra.length) → Calls Tryz.prog g1 #[ts[k].val,c.val,.int .i64 i] W fun e w' => e = .returned (.int .i64 (chk ts[k] i)) ∧ Same W w')
  (E:Int) (hE0:fb = false → E = 1) (hE1:validB (ts.map RT.tb) = false → E = 1) (hE2:fb = true → validB (ts.map RT.tb) = true → findT (ts.map RT.tb) c.table < 0 → E = 11)
  (hE3:fb = true → validB (ts.map RT.tb) = true → ∀ (k:Nat) (hk:k < ts.length),findT (ts.map RT.tb) c.table = k → nb = true → colA ts[k].tb.attrs c.attr < 0 → E = 11)
  (hE4:fb = true → validB (ts.map RT.tb) = true → ∀ (k:Nat) (hk:k < ts.length),findT (ts.map RT.tb) c.table = k → (nb = true → ¬ colA ts[k].tb.attrs c.attr < 0) → E = chk ts[k] (colA ts[k].tb.attrs c.attr)) :
  Calls Tryz.prog 37 #[.agg #[h.val],c.val] w fun e w' =>
   FindOut (.agg #[.bool nb,fnV g1,fnV g2,fnV g3]) E (findT (ts.map RT.tb) c.table) (match ts[(findT (ts.map RT.tb) c.table).toNat]? with | some t => colA t.tb.attrs c.attr | none => 0) e ∧ Same w w':=by
 have HV:=Lib.hid (fun W (s:Same w W) => valid_s_ok h ts W (a.same s) few)
 have HF:=Lib.hid (fun W (s:Same w W) => find_ok h ts c.table W (a.same s))
 have HC:=Lib.hid (fun W (s:Same w W) (k:Nat) (hk:k < ts.length) => column_ok ts[k] c.attr W ((a.2 _ (List.getElem_mem hk)).same s))
 have HL:=Lib.hid (fun (W:World) (s:Same w W) => (a.same s).1)
 have HEFF:=Lib.hid heff
 have HCHK:=Lib.hid hchk
 have HE0:=Lib.hid hE0
 have HE1:=Lib.hid hE1
 have HE2:=Lib.hid hE2
 have HE3:=Lib.hid hE3
 have HE4:=Lib.hid hE4
 have hl:ts.length = h.n:=a.1.1
 have hb:h.n ≤ 9223372036854775807:=a.1.2.1
 have hfl:findT (ts.map RT.tb) c.table < ts.length:=by have:=(idxB_lt (fun t:Tb => decide (t.name = c.table)) (ts.map RT.tb)).2;rw [List.length_map] at this;exact this
 have hfl':-1 ≤ findT (ts.map RT.tb) c.table:=(idxB_lt (fun t:Tb => decide (t.name = c.table)) (ts.map RT.tb)).1
 clear a few heff hchk hE0 hE1 hE2 hE3 hE4
 obtain ⟨k,tt,aa,n,to_,⟨dk,dn,ds⟩⟩:=c
 simp only at HF HC HE2 HE3 HE4 hfl hfl' ⊢
 obtain ⟨A,m,cc⟩:=h
 simp only at hl hb
 subst hl
 generalize hfT:findT (ts.map RT.tb) tt = fT at HF HE2 HE3 HE4 hfl hfl' ⊢
 generalize validB (ts.map RT.tb) = vb at HV HE1 HE2 HE3 HE4
 clear hfT
 generalize hO:FindOut (.agg #[.bool nb,fnV g1,fnV g2,fnV g3]) E fT (match ts[fT.toNat]? with | some t => colA t.tb.attrs aa | none => 0) = O
 have HO:=Lib.hid hO
 clear hO
 have HV':Hid (Rt 13 #[.agg #[.slice A ts.length cc]] w (.bool vb)):=HV
 have HF':Hid (Rt 15 #[.agg #[.slice A ts.length cc],.string tt] w (.int .i64 fT)):=HF
 have HEFF':Hid (Rs 67 #[.agg #[.int .i64 k,.string tt,.string aa,.string n,.int .i64 to_,.int .i64 dk,.int .i64 dn,.string ds]] (.tuple #[.agg #[.bool nb,.func (.func g1) #[] #[],.func (.func g2) #[] #[],.func (.func g3) #[] #[]],.bool fb])):=HEFF
 clear HV HF HEFF
 show Calls Tryz.prog 37 #[.agg #[.slice A ts.length cc],.agg #[.int .i64 k,.string tt,.string aa,.string n,.int .i64 to_,.int .i64 dk,.int .i64 dn,.string ds]] w _
 go_enter Tryz.func37,Tryz.ntmps37
 go_wp2_with fail
 refine (HEFF'.out _).mono ?_
 rintro e w1 ⟨rfl,s1⟩
 have S1:=Lib.hid s1
 have K1:=s1.cells
 have F1:=s1.frees
 have Z1:w.heap.size + 3 ≤ w1.heap.size:=by have:=s1.size;simp at this;omega
 clear s1
 go_upto_region 2 with (fail)
 obtain ⟨wq,hwq⟩:∃ wq,wq = (((w1.setCell ⟨w.heap.size + 1 + 1,0,none⟩ (.bool nb)).setCell ⟨w.heap.size + 1 + 1,1,none⟩ (.func (.func g1) #[] #[])).setCell ⟨w.heap.size + 1 + 1,2,none⟩ (.func (.func g2) #[] #[])).setCell ⟨w.heap.size + 1 + 1,3,none⟩ (.func (.func g3) #[] #[]):=⟨_,rfl⟩
 rw [← hwq]
 have sq:Same w wq:=by
  rw [hwq]
  repeat (with_reducible refine Same.setCell ?_ (by dsimp only;omega) _)
  exact ((((Same.refl w).alloc _).alloc _).alloc _).trans S1.out
 have FQ:Hid (FindBox w.heap.size (.slice A ts.length cc) [.int .i64 k,.string tt,.string aa,.string n,.int .i64 to_,.int .i64 dk,.int .i64 dn,.string ds] [.bool nb,.func (.func g1) #[] #[],.func (.func g2) #[] #[],.func (.func g3) #[] #[]] wq):=by
  have n1:(w.alloc (.cells #[.slice A ts.length cc] 24)).heap.size = w.heap.size + 1:=by simp
  have n2:((w.alloc (.cells #[.slice A ts.length cc] 24)).alloc (.cells #[.int .i64 k,.string tt,.string aa,.string n,.int .i64 to_,.int .i64 dk,.int .i64 dn,.string ds] 28)).heap.size = w.heap.size + 1 + 1:=by simp
  have ba1:=((Blk.new w 24 #[.slice A ts.length cc]).alloc (.cells #[.int .i64 k,.string tt,.string aa,.string n,.int .i64 to_,.int .i64 dk,.int .i64 dn,.string ds] 28)).alloc (.cells #[.bool false,.nilFunc,.nilFunc,.nilFunc] 74)
  have ba2:=(Blk.new (w.alloc (.cells #[.slice A ts.length cc] 24)) 28 #[.int .i64 k,.string tt,.string aa,.string n,.int .i64 to_,.int .i64 dk,.int .i64 dn,.string ds]).alloc (.cells #[.bool false,.nilFunc,.nilFunc,.nilFunc] 74)
  have ba3:=Blk.new ((w.alloc (.cells #[.slice A ts.length cc] 24)).alloc (.cells #[.int .i64 k,.string tt,.string aa,.string n,.int .i64 to_,.int .i64 dk,.int .i64 dn,.string ds] 28)) 74 #[.bool false,.nilFunc,.nilFunc,.nilFunc]
  rw [n1] at ba2
  rw [n2] at ba3
  have bb1:Blk w1 w.heap.size 24 #[.slice A ts.length cc]:=(S1.out.block _ (by simp;omega)).trans ba1
  have bb2:Blk w1 (w.heap.size + 1) 28 #[.int .i64 k,.string tt,.string aa,.string n,.int .i64 to_,.int .i64 dk,.int .i64 dn,.string ds]:=(S1.out.block _ (by simp)).trans ba2
  have hb1:Blk w1 (w.heap.size + 1 + 1) 74 #[.bool false,.nilFunc,.nilFunc,.nilFunc]:=(S1.out.block _ (by simp)).trans ba3
  have hb2:=set4_same (.bool nb) (.func (.func g1) #[] #[]) (.func (.func g2) #[] #[]) (.func (.func g3) #[] #[]) hb1
  have hsz:wq.heap.size = w1.heap.size:=by rw [hwq];simp [World.setCell]
  refine ⟨?_,?_,?_,?_,?_,?_⟩
  ·rw [hwq,set4_other _ _ _ _ _ _ _ (by dsimp only;omega),bb1.cell];rfl
  ·intro j v hv
   rw [hwq,set4_other _ _ _ _ _ _ _ (by dsimp only;omega),bb2.cell]
   simpa using hv
  ·intro j v hv
   rw [hwq,hb2.cell]
   simpa using hv
  ·intro j
   rw [hwq];exact hb2.frozen j
  ·rw [hsz];exact Z1
  ·rw [hwq];exact hb2
 have SQ:=Lib.hid sq
 clear hwq sq K1 F1 Z1 S1
 cases fb with
 | false =>
  have HEE:=Lib.hid (HE0.out rfl)
  obtain ⟨-,-,e_,f_,z_,-⟩:=FQ.out
  have e0:=e_ 0 _ rfl
  have e1:=e_ 1 _ rfl
  have e2:=e_ 2 _ rfl
  have e3:=e_ 3 _ rfl
  clear e_
  go_wp2_with fail
  refine bodyPost_ret (v:=.tuple #[.agg #[.bool nb,.func (.func g1) #[] #[],.func (.func g2) #[] #[],.func (.func g3) #[] #[]],.int .i64 0,.int .i64 0,.int .i64 1]) ?_ rfl ⟨?_,?_⟩
  ·simp [results,Tryz.results37,go_sem,e0,e1,e2,e3]
  ·rw [← HO.out]
   exact ⟨0,0,by rw [HEE.out];rfl,fun h => by rw [HEE.out] at h;cases h⟩
  ·repeat with_reducible first | refine Same.setCell ?_ (by dsimp only;omega) _ | refine Same.drew ?_
   exact SQ.out
 | true =>
  have HY2:=Lib.hid (HE2.out rfl)
  have HY3:=Lib.hid (HE3.out rfl)
  have HY4:=Lib.hid (HE4.out rfl)
  clear HE0 HE2 HE3 HE4
  obtain ⟨s_,-,-,f_,z_,-⟩:=FQ.out
  go_wp2_with fail
  refine (HV'.out _ SQ.out).mono ?_
  rintro e w2 ⟨rfl,s2⟩
  have S2:=Lib.hid (SQ.out.trans s2)
  have FB2:=Lib.hid (FQ.out.same s2)
  clear s2 FQ SQ s_ f_ z_
  cases vb with
  | false =>
   have HEE:=Lib.hid (HE1.out rfl)
   obtain ⟨-,-,e_,f_,z_,-⟩:=FB2.out
   have e0:=e_ 0 _ rfl
   have e1:=e_ 1 _ rfl
   have e2:=e_ 2 _ rfl
   have e3:=e_ 3 _ rfl
   clear e_
   go_wp2_with fail
   refine bodyPost_ret (v:=.tuple #[.agg #[.bool nb,.func (.func g1) #[] #[],.func (.func g2) #[] #[],.func (.func g3) #[] #[]],.int .i64 0,.int .i64 0,.int .i64 1]) ?_ rfl ⟨?_,?_⟩
   ·simp [results,Tryz.results37,go_sem,e0,e1,e2,e3]
   ·rw [← HO.out]
    exact ⟨0,0,by rw [HEE.out];rfl,fun h => by rw [HEE.out] at h;cases h⟩
   ·repeat with_reducible first | refine Same.setCell ?_ (by dsimp only;omega) _ | refine Same.drew ?_
    exact S2.out
  | true =>
   have HX2:=Lib.hid (HY2.out rfl)
   have HX3:=Lib.hid (HY3.out rfl)
   have HX4:=Lib.hid (HY4.out rfl)
   clear HE1 HY2 HY3 HY4
   obtain ⟨s_,c_,e_,f_,z_,-⟩:=FB2.out
   have q1:=c_ 1 _ rfl
   clear e_ c_
   go_wp2_with fail
   refine (HF'.out _ S2.out).mono ?_
   rintro e w3 ⟨rfl,s3⟩
   have S3:=Lib.hid (S2.out.trans s3)
   have FB3:=Lib.hid (FB2.out.same s3)
   clear s3 FB2 S2 q1 s_ f_ z_
   by_cases hneg:fT < 0
   ·obtain ⟨-,-,e_,f_,z_,-⟩:=FB3.out
    have e0:=e_ 0 _ rfl
    have e1:=e_ 1 _ rfl
    have e2:=e_ 2 _ rfl
    have e3:=e_ 3 _ rfl
    have HEE:=Lib.hid (HX2.out hneg)
    clear e_
    go_wp2_with fail
    refine bodyPost_ret (v:=.tuple #[.agg #[.bool nb,.func (.func g1) #[] #[],.func (.func g2) #[] #[],.func (.func g3) #[] #[]],.int .i64 0,.int .i64 0,.int .i64 11]) ?_ rfl ⟨?_,?_⟩
    ·simp [results,Tryz.results37,go_sem,e0,e1,e2,e3]
    ·rw [← HO.out]
     exact ⟨0,0,by rw [HEE.out];rfl,fun h => by rw [HEE.out] at h;cases h⟩
    ·repeat with_reducible first | refine Same.setCell ?_ (by dsimp only;omega) _ | refine Same.drew ?_
     exact S3.out
   ·obtain ⟨q,rfl⟩:∃ q:Nat,fT = q:=⟨fT.toNat,by omega⟩
    have hq:q < ts.length:=by omega
    obtain ⟨b,off,hA,blt0,hcell0⟩:=(HL.out w (Same.refl _)).2.2 q hq
    have hcell:=fun j v hv => (S3.out.cells b (off + q * 3 + j) blt0).trans (hcell0 j v hv)
    have blt:b < w3.heap.size:=Nat.lt_of_lt_of_le blt0 S3.out.size
    have BLT0:=Lib.hid blt0
    clear hcell0 blt0
    have hA':A = some ⟨b,off,none⟩:=hA
    clear hA
    subst hA'
    obtain ⟨s_,c_,e_,f_,z_,-⟩:=FB3.out
    have q2:=c_ 2 _ rfl
    have hcol:=fun W s => HC.out W s q hq
    have hchk:=fun i W s => HCHK.out q hq i W s
    have he3:=HX3.out q hq rfl
    have he4:=HX4.out q hq rfl
    have hO':Hid (O = FindOut (.agg #[.bool nb,fnV g1,fnV g2,fnV g3]) E q (colA ts[q].tb.attrs aa)):=by
     show O = _
     rw [← HO.out]
     simp [hq]
    obtain ⟨tq,htq⟩:∃ tq,tq = ts[q]:=⟨_,rfl⟩
    simp only [← htq] at hcell hcol hchk he3 he4 hO'
    clear htq
    generalize hcA:colA tq.tb.attrs aa = cA at hcol he3 he4 hO'
    have hcl:cA < tq.ra.length:=by rw [← hcA];have:=(colA_lt tq.tb.attrs aa).2;rw [show tq.tb.attrs.length = tq.ra.length by simp [RT.tb]] at this;exact this
    clear hcA
    have HCL:=Lib.hid hcl
    generalize hCK:chk tq = ck at hchk he4
    have hln:tq.ra.length = tq.ra.length:=rfl
    obtain ⟨n',⟨A1,m1,c1⟩,ra,⟨A2,m2,c2⟩,key⟩:=tq
    simp only at hcl
    have x0:=hcell 0 (.string n') rfl
    have x1:=hcell 1 (.slice A1 m1 c1) rfl
    have x2:=hcell 2 (.slice A2 m2 c2) rfl
    simp only [Nat.add_zero] at x0
    have HCOL:Hid (Rt 19 #[.agg #[.string n',.slice A1 m1 c1,.slice A2 m2 c2],.string aa] w (.int .i64 cA)):=hcol
    have HCK:Hid (∀ W,Same w W → (nb = true → 0 ≤ cA ∧ cA < ra.length) → Calls Tryz.prog g1 #[.agg #[.string n',.slice A1 m1 c1,.slice A2 m2 c2],.agg #[.int .i64 k,.string tt,.string aa,.string n,.int .i64 to_,.int .i64 dk,.int .i64 dn,.string ds],.int .i64 cA] W fun e w' => e = .returned (.int .i64 (ck cA)) ∧ Same W w'):=hchk cA
    have HE3':=Lib.hid he3
    have HE4':=Lib.hid he4
    clear hcell hcol hchk he3 he4 hCK HX2 HX3 HX4 HC HL HCHK HV' HF' HEFF' HO hfl hfl' hneg hln e_ c_
    have XT0:Hid (w3.cell? ⟨b,off + q * 3,none⟩ = some (.string n') ∧ w3.cell? ⟨b,off + q * 3 + 1,none⟩ = some (.slice A1 m1 c1) ∧ w3.cell? ⟨b,off + q * 3 + 2,none⟩ = some (.slice A2 m2 c2)):=⟨x0,x1,x2⟩
    have BLT:=Lib.hid blt
    have r0:=cellr s_
    have r1:=cellr x0
    have r2:=cellr x1
    have r3:=cellr x2
    have r4:=cellr q2
    have cC:=regr (w:=w3) (fun W s => HCOL.out W (S3.out.trans s))
    clear s_ x0 x1 x2 q2 f_ z_ blt
    go_wp2_with fail
    refine wp_region_quiet_below (by kernel_rfl) (by kernel_rfl) ?_
    repeat (go_big_quiet_step (first | (go_at_call 19;exact cC _ _)))
    refine wpQuiet_nil ?_
    intro _ hw'
    obtain ⟨⟨dq,osq⟩,hw''⟩:=hw'
    subst hw''
    have S4:=Lib.hid (S3.out.trans (Same.reg w3 dq osq))
    have FB4:=Lib.hid (FB3.out.same (Same.reg w3 dq osq))
    have BLT4:Hid (b < (Sort.grow (redrawn w3 dq) osq).heap.size):=Nat.lt_of_lt_of_le BLT.out (Same.reg w3 dq osq).size
    have XT:Hid ((Sort.grow (redrawn w3 dq) osq).cell? ⟨b,off + q * 3,none⟩ = some (.string n') ∧ (Sort.grow (redrawn w3 dq) osq).cell? ⟨b,off + q * 3 + 1,none⟩ = some (.slice A1 m1 c1) ∧ (Sort.grow (redrawn w3 dq) osq).cell? ⟨b,off + q * 3 + 2,none⟩ = some (.slice A2 m2 c2)):=
     ⟨((Same.reg w3 dq osq).cells _ _ BLT.out).trans XT0.out.1,((Same.reg w3 dq osq).cells _ _ BLT.out).trans XT0.out.2.1,((Same.reg w3 dq osq).cells _ _ BLT.out).trans XT0.out.2.2⟩
    generalize Sort.grow (redrawn w3 dq) osq = w4 at S4 FB4 XT BLT4 ⊢
    clear r0 r1 r2 r3 r4 cC HCOL
    obtain ⟨s_,c_,e_,f_,z_,-⟩:=FB4.out
    have e0:=e_ 0 _ rfl
    have e1:=e_ 1 _ rfl
    have e2:=e_ 2 _ rfl
    have e3:=e_ 3 _ rfl
    cases nb with
    | true =>
     by_cases hcn:cA < 0
     ·have HEE:=Lib.hid (HE3'.out rfl hcn)
      clear c_ e_
      go_wp2_with fail
      refine bodyPost_ret (v:=.tuple #[.agg #[.bool true,.func (.func g1) #[] #[],.func (.func g2) #[] #[],.func (.func g3) #[] #[]],.int .i64 0,.int .i64 0,.int .i64 11]) ?_ rfl ⟨?_,?_⟩
      ·simp [results,Tryz.results37,go_sem,e0,e1,e2,e3]
      ·rw [hO'.out]
       exact ⟨0,0,by rw [HEE.out];rfl,fun h => by rw [HEE.out] at h;cases h⟩
      ·repeat with_reducible first | refine Same.setCell ?_ (by dsimp only;omega) _ | refine Same.drew ?_
       exact S4.out
     ·have HCA:Hid (true = true → 0 ≤ cA ∧ cA < ra.length):=fun _ => ⟨by omega,HCL.out⟩
      have HEE:=Lib.hid (HE4'.out (fun _ => by omega))
      clear c_ e_ f_ z_ s_ e1 e2 e3
      go_upto_region 10 with (fail)
      clear e0
      obtain ⟨s_,c_,e_,f_,z_,-⟩:=FB4.out
      have e0:=e_ 0 _ rfl
      have e1:=e_ 1 _ rfl
      have e2:=e_ 2 _ rfl
      have e3:=e_ 3 _ rfl
      have y0:=c_ 0 _ rfl
      have y1:=c_ 1 _ rfl
      have y2:=c_ 2 _ rfl
      have y3:=c_ 3 _ rfl
      have y4:=c_ 4 _ rfl
      have y5:=c_ 5 _ rfl
      have y6:=c_ 6 _ rfl
      have y7:=c_ 7 _ rfl
      have x0:=XT.out.1
      have x1:=XT.out.2.1
      have x2:=XT.out.2.2
      clear c_ e_
      have f0:=f_ 0;have f1:=f_ 1;have f2:=f_ 2;have f3:=f_ 3
      have hz4:w.heap.size < w4.heap.size:=by omega
      have hz5:w.heap.size + 1 < w4.heap.size:=by omega
      have hz6:w.heap.size + 1 + 1 < w4.heap.size:=by omega
      have hz7:=BLT4.out
      clear f_ z_
      go_region_held3 (fun w' => w'.cell? ⟨w.heap.size,0,none⟩ = some (.slice (some ⟨b,off,none⟩) ts.length cc) ∧ w'.cell? ⟨b,off + q * 3,none⟩ = some (.string n') ∧ w'.cell? ⟨b,off + q * 3 + 1,none⟩ = some (.slice A1 m1 c1) ∧ w'.cell? ⟨b,off + q * 3 + 2,none⟩ = some (.slice A2 m2 c2) ∧ w'.cell? ⟨w.heap.size + 1,0,none⟩ = some (.int .i64 k) ∧ w'.cell? ⟨w.heap.size + 1,1,none⟩ = some (.string tt) ∧ w'.cell? ⟨w.heap.size + 1,2,none⟩ = some (.string aa) ∧ w'.cell? ⟨w.heap.size + 1,3,none⟩ = some (.string n) ∧ w'.cell? ⟨w.heap.size + 1,4,none⟩ = some (.int .i64 to_) ∧ w'.cell? ⟨w.heap.size + 1,5,none⟩ = some (.int .i64 dk) ∧ w'.cell? ⟨w.heap.size + 1,6,none⟩ = some (.int .i64 dn) ∧ w'.cell? ⟨w.heap.size + 1,7,none⟩ = some (.string ds) ∧ w'.cell? ⟨w.heap.size + 1 + 1,0,none⟩ = some (.bool true) ∧ w'.cell? ⟨w.heap.size + 1 + 1,1,none⟩ = some (.func (.func g1) #[] #[]) ∧ w'.cell? ⟨w.heap.size + 1 + 1,2,none⟩ = some (.func (.func g2) #[] #[]) ∧ w'.cell? ⟨w.heap.size + 1 + 1,3,none⟩ = some (.func (.func g3) #[] #[]) ∧ w'.frozen? ⟨w.heap.size + 1 + 1,0,none⟩ = false ∧ w'.frozen? ⟨w.heap.size + 1 + 1,1,none⟩ = false ∧ w'.frozen? ⟨w.heap.size + 1 + 1,2,none⟩ = false ∧ w'.frozen? ⟨w.heap.size + 1 + 1,3,none⟩ = false) (first | (simp [*];done) | ((repeat' apply And.intro) <;> (first | (simp [*];done) | (rw [set4_other _ _ _ _ _ _ _ (by dsimp only;have:=BLT0.out;omega)];simp [*];done) | exact (set4_same _ _ _ _ B5.out).cell 0 | exact (set4_same _ _ _ _ B5.out).cell 1 | exact (set4_same _ _ _ _ B5.out).cell 2 | exact (set4_same _ _ _ _ B5.out).cell 3)) | go_keep)
       (first | (refine (HCK.out _ ?_ HCA.out).mono ?_;exact S4.out.drew;rintro e w5 ⟨rfl,s5⟩;have S5:=Lib.hid (S4.out.drew.trans s5);have K5:∀ k o,k < w4.heap.size → w5.cell? ⟨k,o,none⟩ = w4.cell? ⟨k,o,none⟩:=s5.cells;have F5:∀ k o,k < w4.heap.size → w5.frozen? ⟨k,o,none⟩ = w4.frozen? ⟨k,o,none⟩:=s5.frees;have B5:=Lib.hid (FB4.out.same ((Same.refl w4).drew.trans s5)).k;clear s5))
      all_goals
       go_wp2
       have U:=set4_same (.bool true) (.func (.func g1) #[] #[]) (.func (.func g2) #[] #[]) (.func (.func g3) #[] #[]) B5.out
       have u0:_ = some (Value.bool true):=U.cell 0
       have u1:_ = some (Value.func (.func g1) #[] #[]):=U.cell 1
       have u2:_ = some (Value.func (.func g2) #[] #[]):=U.cell 2
       have u3:_ = some (Value.func (.func g3) #[] #[]):=U.cell 3
       refine bodyPost_ret (v:=.tuple #[.agg #[.bool true,.func (.func g1) #[] #[],.func (.func g2) #[] #[],.func (.func g3) #[] #[]],.int .i64 q,.int .i64 cA,.int .i64 (ck cA)]) ?_ rfl ⟨?_,?_⟩
       ·simp [results,Tryz.results37,go_sem,u0,u1,u2,u3]
       ·rw [hO'.out]
        exact ⟨q,cA,by rw [HEE.out];rfl,fun _ => ⟨rfl,rfl⟩⟩
       ·repeat with_reducible first | refine Same.setCell ?_ (by dsimp only;omega) _ | refine Same.drew ?_
        exact S5.out
    | false =>
     have HCA:Hid (false = true → 0 ≤ cA ∧ cA < ra.length):=fun h => by cases h
     have HEE:=Lib.hid (HE4'.out (fun h => by cases h))
     clear c_ e_ f_ z_ s_ e1 e2 e3
     go_upto_region 10 with (fail)
     clear e0
     obtain ⟨s_,c_,e_,f_,z_,-⟩:=FB4.out
     have e0:=e_ 0 _ rfl
     have e1:=e_ 1 _ rfl
     have e2:=e_ 2 _ rfl
     have e3:=e_ 3 _ rfl
     have y0:=c_ 0 _ rfl
     have y1:=c_ 1 _ rfl
     have y2:=c_ 2 _ rfl
     have y3:=c_ 3 _ rfl
     have y4:=c_ 4 _ rfl
     have y5:=c_ 5 _ rfl
     have y6:=c_ 6 _ rfl
     have y7:=c_ 7 _ rfl
     have x0:=XT.out.1
     have x1:=XT.out.2.1
     have x2:=XT.out.2.2
     clear c_ e_
     have f0:=f_ 0;have f1:=f_ 1;have f2:=f_ 2;have f3:=f_ 3
     have hz4:w.heap.size < w4.heap.size:=by omega
     have hz5:w.heap.size + 1 < w4.heap.size:=by omega
     have hz6:w.heap.size + 1 + 1 < w4.heap.size:=by omega
     have hz7:=BLT4.out
     clear f_ z_
     go_region_held3 (fun w' => w'.cell? ⟨w.heap.size,0,none⟩ = some (.slice (some ⟨b,off,none⟩) ts.length cc) ∧ w'.cell? ⟨b,off + q * 3,none⟩ = some (.string n') ∧ w'.cell? ⟨b,off + q * 3 + 1,none⟩ = some (.slice A1 m1 c1) ∧ w'.cell? ⟨b,off + q * 3 + 2,none⟩ = some (.slice A2 m2 c2) ∧ w'.cell? ⟨w.heap.size + 1,0,none⟩ = some (.int .i64 k) ∧ w'.cell? ⟨w.heap.size + 1,1,none⟩ = some (.string tt) ∧ w'.cell? ⟨w.heap.size + 1,2,none⟩ = some (.string aa) ∧ w'.cell? ⟨w.heap.size + 1,3,none⟩ = some (.string n) ∧ w'.cell? ⟨w.heap.size + 1,4,none⟩ = some (.int .i64 to_) ∧ w'.cell? ⟨w.heap.size + 1,5,none⟩ = some (.int .i64 dk) ∧ w'.cell? ⟨w.heap.size + 1,6,none⟩ = some (.int .i64 dn) ∧ w'.cell? ⟨w.heap.size + 1,7,none⟩ = some (.string ds) ∧ w'.cell? ⟨w.heap.size + 1 + 1,0,none⟩ = some (.bool false) ∧ w'.cell? ⟨w.heap.size + 1 + 1,1,none⟩ = some (.func (.func g1) #[] #[]) ∧ w'.cell? ⟨w.heap.size + 1 + 1,2,none⟩ = some (.func (.func g2) #[] #[]) ∧ w'.cell? ⟨w.heap.size + 1 + 1,3,none⟩ = some (.func (.func g3) #[] #[]) ∧ w'.frozen? ⟨w.heap.size + 1 + 1,0,none⟩ = false ∧ w'.frozen? ⟨w.heap.size + 1 + 1,1,none⟩ = false ∧ w'.frozen? ⟨w.heap.size + 1 + 1,2,none⟩ = false ∧ w'.frozen? ⟨w.heap.size + 1 + 1,3,none⟩ = false) (first | (simp [*];done) | ((repeat' apply And.intro) <;> (first | (simp [*];done) | (rw [set4_other _ _ _ _ _ _ _ (by dsimp only;have:=BLT0.out;omega)];simp [*];done) | exact (set4_same _ _ _ _ B5.out).cell 0 | exact (set4_same _ _ _ _ B5.out).cell 1 | exact (set4_same _ _ _ _ B5.out).cell 2 | exact (set4_same _ _ _ _ B5.out).cell 3)) | go_keep)
      (first | (refine (HCK.out _ ?_ HCA.out).mono ?_;exact S4.out.drew;rintro e w5 ⟨rfl,s5⟩;have S5:=Lib.hid (S4.out.drew.trans s5);have K5:∀ k o,k < w4.heap.size → w5.cell? ⟨k,o,none⟩ = w4.cell? ⟨k,o,none⟩:=s5.cells;have F5:∀ k o,k < w4.heap.size → w5.frozen? ⟨k,o,none⟩ = w4.frozen? ⟨k,o,none⟩:=s5.frees;have B5:=Lib.hid (FB4.out.same ((Same.refl w4).drew.trans s5)).k;clear s5))
     all_goals
      go_wp2
      have U:=set4_same (.bool false) (.func (.func g1) #[] #[]) (.func (.func g2) #[] #[]) (.func (.func g3) #[] #[]) B5.out
      have u0:_ = some (Value.bool false):=U.cell 0
      have u1:_ = some (Value.func (.func g1) #[] #[]):=U.cell 1
      have u2:_ = some (Value.func (.func g2) #[] #[]):=U.cell 2
      have u3:_ = some (Value.func (.func g3) #[] #[]):=U.cell 3
      refine bodyPost_ret (v:=.tuple #[.agg #[.bool false,.func (.func g1) #[] #[],.func (.func g2) #[] #[],.func (.func g3) #[] #[]],.int .i64 q,.int .i64 cA,.int .i64 (ck cA)]) ?_ rfl ⟨?_,?_⟩
      ·simp [results,Tryz.results37,go_sem,u0,u1,u2,u3]
      ·rw [hO'.out]
       exact ⟨q,cA,by rw [HEE.out];rfl,fun _ => ⟨rfl,rfl⟩⟩
      ·repeat with_reducible first | refine Same.setCell ?_ (by dsimp only;omega) _ | refine Same.drew ?_
       exact S5.out
end Go.Proofs.YtfifnemnihcijaaGreatDoor

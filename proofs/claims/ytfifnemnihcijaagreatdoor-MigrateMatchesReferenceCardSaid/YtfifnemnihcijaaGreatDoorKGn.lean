import Derived.Test.YtfifnemnihcijaaGreatDoorKGj
set_option linter.unusedSimpArgs false
set_option linter.unusedVariables false
set_option maxHeartbeats 16000000
set_option maxRecDepth 100000
namespace Go.Proofs.YtfifnemnihcijaaGreatDoor
open Go.RowKit
theorem OwnT.chg {S:Nat → Prop} {w w':World} {B:Nat} {ho:Hd} {tb:List Tbl} (o:OwnT w B ho tb) (c:Chg S w w') (hS:∀ k,B ≤ k → ¬ S k):OwnT w' B ho tb:=
 ⟨own_chg o.oo c fun k hk => hS k (row_ty o.oo hk).1,o.oh,fun t ht => ⟨own_chg (o.oi t ht).1 c fun k hk => hS k (row_ty (o.oi t ht).1 hk).1,(o.oi t ht).2⟩,o.ai⟩
theorem OwnT.base {w:World} {B B':Nat} {ho:Hd} {tb:List Tbl} (o:OwnT w B' ho tb) (h:B ≤ B'):OwnT w B ho tb:=
 ⟨own_base o.oo h,o.oh,fun t ht => ⟨own_base (o.oi t ht).1 h,(o.oi t ht).2⟩,o.ai⟩
theorem MgAt.flagged {w w':World} {p:MH} {m:Mg} (d:MgAt w p m) (m':Mg) (c:Chg (fun k => k = p.g) w w') (hb:Blk w' p.g 106 (p.cells m')) (e1:m'.s = m.s) (e2:m'.c = m.c) (e3:m'.tabs = m.tabs) (e4:m'.done = m.done) (hf:m'.Fine) :
  MgAt w' p m' ∧ Chg p.own w w':=by
 have c':Chg p.own w w':=c.mono fun k _ e => .inl e
 have st:=d.st
 refine ⟨d.turned c' ⟨st.ts,by rw [e1];exact st.tsm,st.few,st.tsl,st.tn,by rw [e1,e2];exact st.tnm,st.fewn,by rw [e2];exact st.okn,by rw [e2];exact st.okd,st.laid,st.WB,st.gB⟩ rfl rfl rfl rfl rfl rfl e2 (MH.Like.refl p) d.rl d.rh hb ?_ d.oh ?_ (by rw [e3];exact d.tr) ?_ d.dh (by rw [e4];exact d.dr) ?_ ?_ d.ai d.ad hf,c'⟩
 ·exact own_chg d.oo c fun k hk => d.outer_ne hk
 ·exact fun t ht => ⟨own_chg (d.oi t ht).1 c fun k hk => d.inner_ne ht hk,(d.oi t ht).2⟩
 ·exact own_chg d.od c fun k hk => d.done_ne hk
 ·exact fun t ht r hr => (d.rr t ht r hr).chg c' fun k hk => hk
 ·exact fun r hr => (d.rd r hr).chg c' fun k hk => hk
theorem Mg.abandon_fine {m:Mg} (h:m.Fine):m.abandon.Fine:=⟨h.err,h.at_,h.til,h.len,h.fit,h.dl,h.dn,h.bad⟩
theorem finish_none (w:World):Calls Tryz.prog 29 #[.pointer none] w fun e w' => e = .returned (.tuple #[.agg #[.slice none 0 0],.slice none 0 0,.int .i64 1]) ∧ Same w w':=by
 go_enter Tryz.func29,Tryz.ntmps29
 go_wp2_with fail
 refine (usable_none _).mono ?_
 rintro e w' ⟨rfl,rfl⟩
 go_wp2_with fail
 refine bodyPost_ret (v:=.tuple #[.agg #[.slice none 0 0],.slice none 0 0,.int .i64 1]) ?_ rfl ⟨rfl,?_⟩
 ·simp [results,Tryz.results29,go_sem]
 ·exact (Same.refl w).alloc _
theorem finish_closed {w:World} {p:MH} {m:Mg} (d:MgAt w p m) (hc:m.closed = true) :
  Calls Tryz.prog 29 #[.pointer (some ⟨p.g,0,none⟩)] w fun e w' => e = .returned (.tuple #[.agg #[.slice none 0 0],.slice none 0 0,.int .i64 22]) ∧ Same w w':=by
 have e:m.abE = 22:=by unfold Mg.abE;rw [if_pos hc]
 have HU:=Lib.hid (fun W (s:Same w W) => usable_ok (d.next s))
 rw [e] at HU
 obtain ⟨g,hg⟩:∃ g,g = p.g:=⟨_,rfl⟩
 rw [← hg] at HU ⊢
 clear e d hc hg
 go_enter Tryz.func29,Tryz.ntmps29
 go_wp2_with fail
 refine (HU.out _ ((Same.refl w).alloc _)).mono ?_
 rintro e w' ⟨rfl,rfl⟩
 go_wp2_with fail
 refine bodyPost_ret (v:=.tuple #[.agg #[.slice none 0 0],.slice none 0 0,.int .i64 22]) ?_ rfl ⟨rfl,?_⟩
 ·simp [results,Tryz.results29,go_sem]
 ·exact (Same.refl w).alloc _
theorem finish_failed {w:World} {p:MH} {m:Mg} (d:MgAt w p m) (hc:m.closed = false) (hf:m.failed = true) :
  Calls Tryz.prog 29 #[.pointer (some ⟨p.g,0,none⟩)] w fun e w' => e = .returned (.tuple #[.agg #[.slice none 0 0],.slice none 0 0,.int .i64 15]) ∧ Same w w':=by
 have e:m.abE = 0:=by unfold Mg.abE;rw [if_neg (by rw [hc];simp)]
 have HU:=Lib.hid (fun W (s:Same w W) => usable_ok (d.next s))
 rw [e] at HU
 have k6:w.cell? ⟨p.g,6,none⟩ = some (.bool m.failed):=d.cell 6
 rw [hf] at k6
 have lg:=d.blk.lt
 obtain ⟨g,hg⟩:∃ g,g = p.g:=⟨_,rfl⟩
 rw [← hg] at HU k6 lg ⊢
 have hz:g ≠ w.heap.size:=by omega
 clear e d hc hg hf
 go_enter Tryz.func29,Tryz.ntmps29
 go_wp2_with fail
 refine (HU.out _ ((Same.refl w).alloc _)).mono ?_
 rintro e w' ⟨rfl,rfl⟩
 go_wp2_with fail
 refine bodyPost_ret (v:=.tuple #[.agg #[.slice none 0 0],.slice none 0 0,.int .i64 15]) ?_ rfl ⟨rfl,?_⟩
 ·simp [results,Tryz.results29,go_sem]
 ·exact (Same.refl w).alloc _
theorem finish_left {w:World} {p:MH} {m:Mg} (d:MgAt w p m) (hc:m.closed = false) (hf:m.failed = false) (hl:0 < m.left) :
  Calls Tryz.prog 29 #[.pointer (some ⟨p.g,0,none⟩)] w fun e w' => e = .returned (.tuple #[.agg #[.slice none 0 0],.slice none 0 0,.int .i64 12]) ∧ Same w w':=by
 have e:m.abE = 0:=by unfold Mg.abE;rw [if_neg (by rw [hc];simp)]
 have HU:=Lib.hid (fun W (s:Same w W) => usable_ok (d.next s))
 rw [e] at HU
 have HL:=Lib.hid (fun W (s:Same w W) => left_ok (d.next s))
 have k6:w.cell? ⟨p.g,6,none⟩ = some (.bool m.failed):=d.cell 6
 rw [hf] at k6
 have lg:=d.blk.lt
 obtain ⟨g,hg⟩:∃ g,g = p.g:=⟨_,rfl⟩
 obtain ⟨lv,hlv⟩:∃ lv,lv = m.left:=⟨_,rfl⟩
 rw [← hg] at HU HL k6 lg ⊢
 rw [← hlv] at HL hl
 have hz:g ≠ w.heap.size:=by omega
 have t1:decide (0 < lv) = true:=decide_eq_true hl
 have t2:decide ((0:Int) < (lv:Int)) = true:=decide_eq_true (by omega)
 clear e d hc hg hf hlv
 go_enter Tryz.func29,Tryz.ntmps29
 go_wp2_with fail
 obtain ⟨W0,hW0⟩:∃ W0,W0 = w.alloc (.cells #[.slice none 0 0] 24):=⟨_,rfl⟩
 have S0:Hid (Same w W0):=by rw [hW0];exact Lib.hid ((Same.refl w).alloc _)
 have B0:Hid (Blk W0 w.heap.size 24 #[.slice none 0 0]):=by rw [hW0];exact Lib.hid (Blk.new w _ _)
 rw [← hW0]
 clear hW0
 have k6':=(S0.out.cells _ 6 lg).trans k6
 refine (HU.out _ S0.out).mono ?_
 rintro e w' ⟨rfl,rfl⟩
 go_wp2_with fail
 refine (HL.out _ S0.out).mono ?_
 rintro e w2 ⟨rfl,s2⟩
 have S2:=Lib.hid s2
 have b2:=B0.out.below s2 B0.out.lt
 have q0:w2.cell? ⟨w.heap.size,0,none⟩ = some (.slice none 0 0):=b2.cell 0
 have qf:w2.frozen? ⟨w.heap.size,0,none⟩ = false:=b2.frozen 0
 clear s2 k6 k6' b2
 go_wp2_with fail
 refine bodyPost_ret (v:=.tuple #[.agg #[.slice none 0 0],.slice none 0 0,.int .i64 12]) ?_ rfl ⟨rfl,?_⟩
 ·simp [results,Tryz.results29,go_sem,q0]
 ·exact (S0.out.trans S2.out).setCell (Nat.le_refl _) _
theorem MgAt.outRows {w w':World} {p:MH} {m:Mg} (d:MgAt w p m) (c:Chg (fun k => k = p.g ∨ w.heap.size ≤ k) w w') {ts:List Tbl} (hm:ts.map Tbl.rs = p.tb.map Tbl.rs) (i:Nat) (h:Hd) :
  ∀ t ∈ ts.set i ⟨h,p.dr⟩,∀ r ∈ t.rs,RowAt w' r.h r.v ∧ In (fun k => k < p.lo ∨ p.hi k) r.h:=by
 have key:∀ r:Rw,RowIn w (fun k => ¬ p.own k) r → RowAt w' r.h r.v:=by
  intro r hr
  refine hr.1.chg c ?_
  intro h0
  obtain ⟨b,off,ha,hb⟩:=hr.2 h0
  obtain ⟨b',off',ha',hl⟩:=hr.1.in_ h0
  rw [ha] at ha';injection ha' with ha';injection ha' with e1 e2
  subst e1
  refine ⟨b,off,ha,fun e => e.elim (fun e => hb (.inl e)) (fun e => by omega)⟩
 intro t ht r hr
 rcases List.mem_or_eq_of_mem_set ht with h1 | h1
 ·obtain ⟨t',ht',e'⟩:=mem_rs hm h1
  rw [← e'] at hr
  exact ⟨key r (d.rr t' ht' r hr),(d.rl t' ht' r hr).mono fun k hk => .inl hk⟩
 ·rw [h1] at hr
  exact ⟨key r (d.rd r hr),(d.rh r hr).mono fun k hk => .inr hk⟩
theorem rowsOf_set (ts:List Tbl) (i:Nat) (h:Hd) (dr:List Rw):rowsOf (ts.set i ⟨h,dr⟩) = (rowsOf ts).set i (dr.map Rw.v):=by
 unfold rowsOf
 rw [List.map_set];rfl
theorem MgAt.finished {w w3 w4 w5 w':World} {p:MH} {m:Mg} (d:MgAt w p m) (hfe:m.finE = 0) {go tc n c:Nat} {A:Option Addr} {ts:List Tbl} (hm:ts.map Tbl.rs = p.tb.map Tbl.rs) (s34:Same w3 w4) (s45:Same w4 w5) (h3:w.heap.size ≤ w3.heap.size) (h03:w.heap.size < w3.heap.size)
  (o4:OwnT w4 w3.heap.size ⟨some ⟨go,0,none⟩,ts.length,tc⟩ ts) (o5:w5.ownsRow w4.heap.size 29 1 (.slice A n c) p.dr.length (p.dr.flatMap Rw.cell)) (hn:n = p.dr.length) (hnv:Value)
  (hw':w' = (w5.setCell ⟨go,m.ti,none⟩ (.slice A n c)).setCell ⟨w.heap.size,0,none⟩ hnv) (b3:Blk w3 p.g 106 (p.cells m.abandon)) (c3:Chg (fun k => k = p.g ∨ w.heap.size ≤ k) w w3) :
  ∃ ts',OutAt w' w.heap.size p.lo p.hi ⟨some ⟨go,0,none⟩,ts.length,tc⟩ ts' m.out ∧ ts'.length = ts.length ∧ MTurn w w' p m.finish:=by
 have hlt:m.ti < ts.length:=by
  have e:=congrArg List.length hm
  simp only [List.length_map] at e
  obtain ⟨hti,_⟩:=d.rows
  omega
 have o5':OwnT w5 w3.heap.size ⟨some ⟨go,0,none⟩,ts.length,tc⟩ ts:=o4.same s45
 have hgo:w3.heap.size ≤ go:=(row_ty o4.oo (k:=go) rfl).1
 have oset:=o5'.set_ m.ti hlt ⟨⟨A,n,c⟩,p.dr⟩ (own_base o5 s34.size) hn (fun j hj _ k hk hk2 => by
  have h1:=(row_ty o5 hk).1
  have h2:=(o4.ge (List.getElem_mem hj) hk2).2
  omega)
 have c5:Chg (fun k => k = p.g ∨ w.heap.size ≤ k) w w5:=(c3.then_same s34).then_same s45
 have c6:Chg (fun k => k = p.g ∨ w.heap.size ≤ k) w (w5.setCell ⟨go,m.ti,none⟩ (.slice A n c)):=c5.setCell _ _ (fun _ => .inr (by show _ ≤ go;omega))
 have c7:Chg (fun k => k = p.g ∨ w.heap.size ≤ k) w w':=by rw [hw'];exact c6.setCell _ _ (fun _ => .inr (Nat.le_refl _))
 have cg:Chg (fun k => k = p.g) w w':=c7.mono fun k hk e => e.elim id (fun e => by omega)
 have b5:Blk w5 p.g 106 (p.cells m.abandon):=(b3.below s34 b3.lt).below s45 (b3.below s34 b3.lt).lt
 have hpg:p.g < w.heap.size:=d.blk.lt
 have b7:Blk w' p.g 106 (p.cells m.abandon):=by
  rw [hw']
  exact (b5.far (p:=⟨go,m.ti,none⟩) (by show p.g ≠ go;omega) _).far (p:=⟨w.heap.size,0,none⟩) (by show p.g ≠ w.heap.size;omega) _
 have efin:m.finish = m.abandon:=by unfold Mg.finish;rw [if_pos hfe];rfl
 obtain ⟨d',c'⟩:=d.flagged m.abandon cg b7 rfl rfl rfl rfl (Mg.abandon_fine d.fine)
 refine ⟨ts.set m.ti ⟨⟨A,n,c⟩,p.dr⟩,⟨?_,?_,?_⟩,List.length_set ..,?_⟩
 ·rw [hw']
  have o7:=OwnT.chg (S:=fun k => k = w.heap.size) oset ((Chg.refl _ _).setCell ⟨w.heap.size,0,none⟩ hnv (fun _ => rfl)) (fun k hk e => by omega)
  have e9:(ts.set m.ti (⟨⟨A,n,c⟩,p.dr⟩:Tbl)).length = ts.length:=List.length_set ..
  exact o7.base h3
 ·rw [rowsOf_set,rows_same hm,d.tr,d.dr];rfl
 ·exact d.outRows c7 hm m.ti ⟨A,n,c⟩
 ·rw [efin]
  exact ⟨p,d',rfl,rfl,MH.Like.refl p,c',fun k hk => .inl hk⟩
theorem finish_ok {w:World} {p:MH} {m:Mg} (d:MgAt w p m) (few:FewR m.tabs) (hdn:m.done.length ≤ 1000000) (hc:m.closed = false) (hf:m.failed = false) (hl:m.left = 0) :
  Calls Tryz.prog 29 #[.pointer (some ⟨p.g,0,none⟩)] w fun e w' => ∃ (go n c:Nat) (ts:List Tbl),e = .returned (.tuple #[.agg #[p.hn.val],.slice (some ⟨go,0,none⟩) n c,.int .i64 0]) ∧ OutAt w' w.heap.size p.lo p.hi ⟨some ⟨go,0,none⟩,n,c⟩ ts m.out ∧ MTurn w w' p m.finish:=by
 have hfe:m.finE = 0:=by unfold Mg.finE;rw [if_neg (by rw [hc];simp),if_neg (by rw [hf];simp),if_neg (by omega)]
 have e:m.abE = 0:=by unfold Mg.abE;rw [if_neg (by rw [hc];simp)]
 have HU:=Lib.hid (fun W (s:Same w W) => usable_ok (d.next s))
 rw [e] at HU
 have HL:=Lib.hid (fun W (s:Same w W) => left_ok (d.next s))
 rw [hl] at HL
 have k6:w.cell? ⟨p.g,6,none⟩ = some (.bool m.failed):=d.cell 6
 rw [hf] at k6
 have lg:=d.blk.lt
 have HD:=Lib.hid d
 have hrl:∀ t ∈ p.tb,t.rs.length ≤ 1000000000:=by
  intro t ht
  have h1:t.rows ∈ m.tabs:=by rw [← d.tr];exact List.mem_map_of_mem ht
  have:=few.2 _ h1
  simp only [Tbl.rows,List.length_map] at this
  omega
 have htl:p.tb.length ≤ 1000000:=by
  have:=congrArg List.length d.tr
  simp only [rowsOf,List.length_map] at this
  rw [this];exact few.1
 obtain ⟨hti,hrx⟩:=d.rows
 clear hrx
 have HB3:Hid (∀ W,Same w W → Blk (W.setCell ⟨p.g,7,none⟩ (.bool true)) p.g 106 (p.cells m.abandon)):=Lib.hid fun W s => (d.next s).blk.set_ 7 (.bool true)
 have HF7:Hid (∀ W,Same w W → (∃ v,W.cell? ⟨p.g,7,none⟩ = some v) ∧ W.frozen? ⟨p.g,7,none⟩ = false):=Lib.hid fun W s => ⟨⟨_,(d.next s).cell 7⟩,(d.next s).blk.frozen 7⟩
 have HC3:Hid (∀ W,Same w W → Chg (fun k => k = p.g ∨ w.heap.size ≤ k) w (W.setCell ⟨p.g,7,none⟩ (.bool true))):=Lib.hid fun W s => (Chg.of_same s).setCell _ _ (fun _ => .inl rfl)
 have HT3:Hid (∀ W,Same w W → TablesAt (W.setCell ⟨p.g,7,none⟩ (.bool true)) (fun k => k < (W.setCell ⟨p.g,7,none⟩ (.bool true)).heap.size) p.ho p.tb):=Lib.hid fun W s => (d.next s).close.1.tables
 have HO3:Hid (∀ W,Same w W → Lies (W.setCell ⟨p.g,7,none⟩ (.bool true)) 1 p.hd Rw.cell p.dr):=Lib.hid fun W s => by
  have d3:=(d.next s).close.1
  have hb:p.hd.n ≤ 9223372036854775807:=by rw [d3.dh];exact own_max d3.od
  refine own_lies' (e:=29) (base:=p.B) Rw.clen d3.dh.symm hb ?_
  rw [d3.dh];exact d3.od
 have hdl:p.dr.length = m.done.length:=by rw [← d.dr];simp
 have hdh:=d.dh
 obtain ⟨⟨Ad,dn,dc⟩,hhd⟩:∃ q:Hd,q = p.hd:=⟨_,rfl⟩
 obtain ⟨⟨Ao,on,oc⟩,hho⟩:∃ q:Hd,q = p.ho:=⟨_,rfl⟩
 obtain ⟨⟨An,nn,nc⟩,hhn⟩:∃ q:Hd,q = p.hn:=⟨_,rfl⟩
 obtain ⟨g,hg⟩:∃ g,g = p.g:=⟨_,rfl⟩
 obtain ⟨ti,hti'⟩:∃ ti,ti = m.ti:=⟨_,rfl⟩
 have HCL:∀ i v,(p.cells m.abandon)[i]? = some v → ∀ W,Same w W → (W.setCell ⟨g,7,none⟩ (.bool true)).cell? ⟨g,i,none⟩ = some v:=by
  intro i v hv W s
  have:=(HB3.out W s).cell i
  rw [← hg] at this
  rw [this];exact hv
 have H1:=Lib.hid (HCL 1 (.slice An nn nc) (by show some p.hn.val = _;rw [← hhn];rfl))
 have H2:=Lib.hid (HCL 2 (.int .i64 ti) (by show some (Value.int .i64 m.ti) = _;rw [hti']))
 have H3:=Lib.hid (HCL 3 (.slice Ao on oc) (by show some p.ho.val = _;rw [← hho];rfl))
 have H4:=Lib.hid (HCL 4 (.slice Ad dn dc) (by show some p.hd.val = _;rw [← hhd];rfl))
 rw [← hg] at HU HL k6 lg HB3 HF7 HC3 HT3 HO3
 rw [← hho] at HT3
 rw [← hhd] at HO3 hdh
 have HDH:=Lib.hid hdh
 have hdh':dn = p.dr.length:=hdh
 have htn:ti < p.tb.length:=by rw [hti'];exact hti
 obtain ⟨tn,htn'⟩:∃ tn,tn = p.tb.length:=⟨_,rfl⟩
 have HTN:=Lib.hid htn'
 rw [← htn'] at htn htl
 have ti0:(0:Int) ≤ (ti:Int):=by omega
 have tiI:(ti:Int) < (tn:Int):=by omega
 have hdb:p.dr.length ≤ 1000000000:=by omega
 have HDB:=Lib.hid hdb
 have HTL:Hid (p.tb.length ≤ 1000000):=by rw [← htn'];exact Lib.hid htl
 have HRL:=Lib.hid hrl
 have hz:g ≠ w.heap.size:=by omega
 have t1:decide (0 < (0:Nat)) = false:=rfl
 obtain ⟨POST,hPOST⟩:∃ POST:Ending → World → Prop,POST = fun e w' => ∃ (go n c:Nat) (ts:List Tbl),e = .returned (.tuple #[.agg #[p.hn.val],.slice (some ⟨go,0,none⟩) n c,.int .i64 0]) ∧ OutAt w' w.heap.size p.lo p.hi ⟨some ⟨go,0,none⟩,n,c⟩ ts m.out ∧ MTurn w w' p m.finish:=⟨_,rfl⟩
 have HFIN:=Lib.hid (fun (w3 w4 w5 w':World) (go tc n c:Nat) (A:Option Addr) (ts:List Tbl) (hm:ts.map Tbl.rs = p.tb.map Tbl.rs) (s34:Same w3 w4) (s45:Same w4 w5) (h03:w.heap.size < w3.heap.size)
  (o4:OwnT w4 w3.heap.size ⟨some ⟨go,0,none⟩,ts.length,tc⟩ ts) (o5:w5.ownsRow w4.heap.size 29 1 (.slice A n c) p.dr.length (p.dr.flatMap Rw.cell)) (hn:n = p.dr.length)
  (hw':w' = (w5.setCell ⟨go,m.ti,none⟩ (.slice A n c)).setCell ⟨w.heap.size,0,none⟩ (.slice An nn nc)) (b3:Blk w3 p.g 106 (p.cells m.abandon)) (c3:Chg (fun k => k = p.g ∨ w.heap.size ≤ k) w w3) => d.finished hfe hm s34 s45 (Nat.le_of_lt h03) h03 o4 o5 hn (.slice An nn nc) hw' b3 c3)
 rw [← hg,← hti'] at HFIN
 have HP:Hid (∀ w' go n c ts,OutAt w' w.heap.size p.lo p.hi ⟨some ⟨go,0,none⟩,n,c⟩ ts m.out → MTurn w w' p m.finish → POST (.returned (.tuple #[.agg #[.slice An nn nc],.slice (some ⟨go,0,none⟩) n c,.int .i64 0])) w'):=Lib.hid fun w' go n c ts h1 h2 => by
  rw [hPOST]
  exact ⟨go,n,c,ts,by rw [← hhn];rfl,h1,h2⟩
 rw [← hPOST,← hg]
 clear e d hc hf hl hfe hg hti hti' hhd hho hhn hdh hdl HCL hrl htl hdb htn' hPOST few hdn HD hdh'
 go_enter Tryz.func29,Tryz.ntmps29
 go_wp2_with fail
 obtain ⟨W0,hW0⟩:∃ W0,W0 = w.alloc (.cells #[.slice none 0 0] 24):=⟨_,rfl⟩
 have S0:Hid (Same w W0):=by rw [hW0];exact Lib.hid ((Same.refl w).alloc _)
 have B0:Hid (Blk W0 w.heap.size 24 #[.slice none 0 0]):=by rw [hW0];exact Lib.hid (Blk.new w _ _)
 rw [← hW0]
 clear hW0
 have k6':=(S0.out.cells _ 6 lg).trans k6
 refine (HU.out _ S0.out).mono ?_
 rintro e w' ⟨rfl,rfl⟩
 go_wp2_with fail
 refine (HL.out _ S0.out).mono ?_
 rintro e w2 ⟨rfl,s2⟩
 have S2:Hid (Same w w2):=S0.out.trans s2
 have B2:Hid (Blk w2 w.heap.size 24 #[.slice none 0 0]):=B0.out.below s2 B0.out.lt
 obtain ⟨⟨v7,k7⟩,f7⟩:=HF7.out w2 S2.out
 have k3:=H3.out w2 S2.out
 clear s2 k6 k6'
 go_wp2_with fail
 have HC:Hid (Calls Tryz.prog 60 #[.slice Ao on oc] (w2.setCell ⟨g,7,none⟩ (.bool true)) fun e w' => ∃ (go c:Nat) (ts:List Tbl),e = .returned (.slice (some ⟨go,0,none⟩) tn c) ∧ OwnT w' (w2.setCell ⟨g,7,none⟩ (.bool true)).heap.size ⟨some ⟨go,0,none⟩,ts.length,c⟩ ts ∧ (ts.length = tn ∧ ts.map Tbl.rs = p.tb.map Tbl.rs) ∧ Same (w2.setCell ⟨g,7,none⟩ (.bool true)) w'):=by
  refine Lib.hid ((clone_ok ⟨Ao,on,oc⟩ p.tb _ (HT3.out w2 S2.out) HTL.out HRL.out).mono ?_)
  rintro e w' ⟨ho,ts,he,o,s,hm⟩
  have el:ts.length = p.tb.length:=by
   have:=congrArg List.length hm
   simpa using this
  obtain ⟨go,c,hho,_⟩:=o.head (by rw [el,← HTN.out];omega)
  subst hho
  exact ⟨go,c,ts,by rw [he,HTN.out,← el];rfl,o,⟨by rw [el,HTN.out],hm⟩,s⟩
 obtain ⟨w3,hw3⟩:∃ w3,w3 = w2.setCell ⟨g,7,none⟩ (.bool true):=⟨_,rfl⟩
 have B3:=Lib.hid (HB3.out w2 S2.out)
 have C3:=Lib.hid (HC3.out w2 S2.out)
 have k1:=H1.out w2 S2.out
 have k2:=H2.out w2 S2.out
 have k4:=H4.out w2 S2.out
 have L3:=Lib.hid (HO3.out w2 S2.out)
 have q0:(w2.setCell ⟨g,7,none⟩ (.bool true)).cell? ⟨w.heap.size,0,none⟩ = some (.slice none 0 0):=(B2.out.far (p:=⟨g,7,none⟩) (by show w.heap.size ≠ g;omega) _).cell 0
 have qf:(w2.setCell ⟨g,7,none⟩ (.bool true)).frozen? ⟨w.heap.size,0,none⟩ = false:=(B2.out.far (p:=⟨g,7,none⟩) (by show w.heap.size ≠ g;omega) _).frozen 0
 have l3:w.heap.size < (w2.setCell ⟨g,7,none⟩ (.bool true)).heap.size:=by
  have:=B2.out.lt
  simpa [World.setCell] using this
 have lg3:g < (w2.setCell ⟨g,7,none⟩ (.bool true)).heap.size:=by omega
 rw [← hw3] at HC B3 C3 k1 k2 k4 q0 qf l3 lg3 L3
 rw [← hw3]
 clear hw3 k7 f7 k3 HB3 HC3 HT3 HO3 HF7 H1 H2 H3 H4 B2 S2 S0 B0 HU HL
 refine HC.out.mono ?_
 rintro e w4 ⟨go,c,ts,rfl,o4,hm,s4⟩
 have O4:=Lib.hid o4
 have HM:=Lib.hid hm
 have S4:=Lib.hid s4
 clear o4 hm s4 HC
 have u2:=(S4.out.cells _ 2 lg3).trans k2
 have u4:=(S4.out.cells _ 4 lg3).trans k4
 have lg4:g < w4.heap.size:=Nat.lt_of_lt_of_le lg3 S4.out.size
 have HCL:Hid (∀ W,Same w4 W → Calls Tryz.prog 66 #[.slice Ad dn dc] W fun e w' => ∃ A n c,e = .returned (.slice A n c) ∧ (n = p.dr.length ∧ w'.ownsRow W.heap.size 29 1 (.slice A n c) p.dr.length (p.dr.flatMap Rw.cell)) ∧ Same W w'):=Lib.hid fun W s => by
  refine (cloneR' ⟨Ad,dn,dc⟩ Rw.cell Rw.clen (fun x v hv => by simp [Rw.cell] at hv;rw [hv];rfl) p.dr W (L3.out.same (S4.out.trans s)) (by have h1:=HDH.out;have h2:=HDB.out;show dn ≤ _;omega)).mono ?_
  rintro e w' ⟨⟨A,n,c⟩,he,hn,s',o⟩
  exact ⟨A,n,c,he,⟨hn,o⟩,s'⟩
 have lgo:go < w4.heap.size:=by
  obtain ⟨_,cs,hb⟩:=row_ty O4.out.oo (k:=go) rfl
  exact hb.lt
 have hgo3:w3.heap.size ≤ go:=(row_ty O4.out.oo (k:=go) rfl).1
 have zg:g ≠ go:=by omega
 have zw:w.heap.size ≠ go:=by omega
 go_wp2_with fail
 go_region_held3 (fun w' => w'.cell? ⟨g,2,none⟩ = some (.int .i64 ti) ∧ w'.cell? ⟨g,4,none⟩ = some (.slice Ad dn dc)) (first | exact ⟨by assumption,by assumption⟩ | (simp [*];done) | (simp [*,cell_drew,cell_far];done) | go_keep)
  ((go_at_call 66;refine (HCL.out _ ?_).mono ?_;exact (Same.refl w4).drew;rintro e w5 ⟨A,n,c5,rfl,ho5,s5⟩;have S5:Hid (Same w4 w5):=Same.trans ((Same.refl w4).drew) s5;have O5:=Lib.hid ho5;have y2:=(S5.out.cells _ 2 lg4).trans u2;have y4:=(S5.out.cells _ 4 lg4).trans u4;have O45:=Lib.hid (O4.out.same S5.out);have yg:w5.cell? ⟨go,ti,none⟩ = some (ts[ti]'(by have:=HM.out.1;omega)).h.val:=O45.out.get ti (by have:=HM.out.1;omega);have yf:w5.frozen? ⟨go,ti,none⟩ = false:=(by obtain ⟨_,cs,hb⟩:=row_ty O45.out.oo (k:=go) rfl;exact hb.frozen ti);have y1:=((S4.out.trans S5.out).cells _ 1 lg3).trans k1;have z0:=((S4.out.trans S5.out).cells _ 0 l3).trans q0;have zf:=((S4.out.trans S5.out).frees _ 0 l3).trans qf;clear s5 ho5))
 all_goals
  have r1:(w5.setCell ⟨go,ti,none⟩ (.slice A n c5)).cell? ⟨g,1,none⟩ = some (.slice An nn nc):=(cell_far _ _ _ _ _ _ zg).trans y1
  have r0:(w5.setCell ⟨go,ti,none⟩ (.slice A n c5)).cell? ⟨w.heap.size,0,none⟩ = some (.slice none 0 0):=(cell_far _ _ _ _ _ _ zw).trans z0
  clear yg yf y1 y2 y4 z0 u2 u4 k1 k2 k4 q0 qf
  go_wp2_with fail
  refine bodyPost_ret (v:=.tuple #[.agg #[.slice An nn nc],.slice (some ⟨go,0,none⟩) tn c,.int .i64 0]) ?_ rfl ?_
  ·simp [results,Tryz.results29,go_sem,r0]
  ·obtain ⟨ts',ho,hl',ht⟩:=HFIN.out w3 w4 w5 _ go c n c5 A ts HM.out.2 S4.out S5.out l3 O4.out O5.out.2 O5.out.1 rfl B3.out C3.out
   rw [HM.out.1] at ho
   exact HP.out _ go tn c ts' ho ht
end Go.Proofs.YtfifnemnihcijaaGreatDoor

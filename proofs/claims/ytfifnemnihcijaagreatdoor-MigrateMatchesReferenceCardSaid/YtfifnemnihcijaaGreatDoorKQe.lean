import Derived.Test.YtfifnemnihcijaaGreatDoorKQc
set_option linter.unusedSimpArgs false
set_option linter.unusedVariables false
set_option maxHeartbeats 16000000
set_option maxRecDepth 100000
namespace Go.Proofs.YtfifnemnihcijaaGreatDoor.R43
open Go.RowKit
theorem MgAt.ownT {w:World} {p:MH} {m:Mg} (d:MgAt w p m):OwnT w p.B p.ho p.tb:=⟨d.oo,d.oh,d.oi,d.ai⟩
theorem tables_of {w:World} {B:Nat} {ho:Hd} {tb:List Tbl} (o:OwnT w B ho tb) (hr:∀ t ∈ tb,∀ r ∈ t.rs,RowAt w r.h r.v):TablesAt w (fun k => k < w.heap.size) ho tb:=
 ⟨o.lies,o.lies.in_,fun t ht => ⟨o.inner ht,(o.inner ht).in_,fun r hr' => ⟨hr t ht r hr',(hr t ht r hr').in_⟩⟩⟩
theorem MgAt.tables {w:World} {p:MH} {m:Mg} (d:MgAt w p m):TablesAt w (fun k => k < w.heap.size) p.ho p.tb:=tables_of d.ownT fun t ht r hr => (d.rr t ht r hr).1
theorem MgAt.close {w:World} {p:MH} {m:Mg} (d:MgAt w p m):MgAt (w.setCell ⟨p.g,14,none⟩ (.bool true)) p m.abandon ∧ Chg p.own w (w.setCell ⟨p.g,14,none⟩ (.bool true)):=
 d.flag m.abandon 14 (.bool true) rfl rfl rfl rfl rfl ⟨d.fine.err,d.fine.at_,d.fine.til,d.fine.len,d.fine.fit,d.fine.dl,d.fine.dn,d.fine.bad⟩
def OutR (w:World) (h:Hd) (tabs:List (List Row)):Prop:=∃ ts:List Tbl,TablesAt w (fun k => k < w.heap.size) h ts ∧ rowsOf ts = tabs
theorem MgAt.copy {w:World} {p:MH} {m:Mg} (d:MgAt w p m) (few:FewR m.tabs) :
  Calls Tryz.prog 62 #[p.ho.val] w fun e w' => ∃ (A:Option Addr) (n c:Nat) (ts:List Tbl),e = .returned (.slice A n c) ∧ OwnT w' w.heap.size ⟨A,n,c⟩ ts ∧ ts.map Tbl.rs = p.tb.map Tbl.rs ∧ Same w w':=by
 have hl:p.tb.length ≤ 1000000:=by
  have:=congrArg List.length d.tr
  simp only [rowsOf,List.length_map] at this
  rw [this];exact few.1
 have hr:∀ t ∈ p.tb,t.rs.length ≤ 1000000:=by
  intro t ht
  have h1:t.rows ∈ m.tabs:=by rw [← d.tr];exact List.mem_map_of_mem ht
  have:=few.2 _ h1
  simp only [Tbl.rows,List.length_map] at this
  omega
 refine (copied_ok p.ho p.tb w d.tables hl hr).mono ?_
 rintro e w' ⟨⟨A,n,c⟩,ts,he,o,s,hm⟩
 exact ⟨A,n,c,ts,he,o,hm,s⟩
theorem rows_at {w':World} {p:MH} {m:Mg} (d:MgAt w' p m) {ts:List Tbl} (hm:ts.map Tbl.rs = p.tb.map Tbl.rs):∀ t ∈ ts,∀ r ∈ t.rs,RowAt w' r.h r.v:=by
 intro t ht r hr
 obtain ⟨t',ht',e'⟩:=mem_rs hm ht
 rw [← e'] at hr
 exact (d.rr t' ht' r hr).1
theorem abandon_none (w:World):Calls Tryz.prog 33 #[.pointer none] w fun e w' => e = .returned (.tuple #[.slice none 0 0,.int .i64 1]) ∧ w = w':=by
 go_enter Tryz.func33,Tryz.ntmps33
 go_wp2_with fail
 go_ret2
 exact ⟨rfl,rfl⟩
theorem abandon_closed {w:World} {p:MH} {m:Mg} (d:MgAt w p m) (hc:m.closed = true) :
  Calls Tryz.prog 33 #[.pointer (some ⟨p.g,0,none⟩)] w fun e w' => e = .returned (.tuple #[.slice none 0 0,.int .i64 22]) ∧ w = w':=by
 have k14:w.cell? ⟨p.g,14,none⟩ = some (.bool m.closed):=d.cell 14
 rw [hc] at k14
 have lg:=d.blk.lt
 obtain ⟨g,hg⟩:∃ g,g = p.g:=⟨_,rfl⟩
 rw [← hg] at k14 lg ⊢
 clear d hc hg
 go_enter Tryz.func33,Tryz.ntmps33
 go_wp2_with fail
 go_ret2
 exact ⟨rfl,rfl⟩
theorem abandon_ok {w:World} {p:MH} {m:Mg} (d:MgAt w p m) (few:FewR m.tabs) (hc:m.closed = false) :
  Calls Tryz.prog 33 #[.pointer (some ⟨p.g,0,none⟩)] w fun e w' => ∃ (A:Option Addr) (n c:Nat),e = .returned (.tuple #[.slice A n c,.int .i64 0]) ∧ OutR w' ⟨A,n,c⟩ m.tabs ∧ MTurn w w' p m.abandon:=by
 have k14:w.cell? ⟨p.g,14,none⟩ = some (.bool m.closed):=d.cell 14
 rw [hc] at k14
 have f14:w.frozen? ⟨p.g,14,none⟩ = false:=d.blk.frozen 14
 have k11:w.cell? ⟨p.g,11,none⟩ = some p.ho.val:=d.cell 11
 have HC:Hid (Calls Tryz.prog 62 #[p.ho.val] (w.setCell ⟨p.g,14,none⟩ (.bool true)) fun e w' => ∃ (A:Option Addr) (n c:Nat),e = .returned (.slice A n c) ∧ (OutR w' ⟨A,n,c⟩ m.tabs ∧ MTurn w w' p m.abandon)):=by
  refine Lib.hid ((d.close.1.copy few).mono ?_)
  rintro e w' ⟨A,n,c,ts,he,o,hm,s⟩
  have d3:=d.close.1.next s
  exact ⟨A,n,c,he,⟨ts,tables_of o (rows_at d3 hm),by rw [rows_same hm];exact d.tr⟩,p,d3,rfl,rfl,MH.Like.refl p,d.close.2.then_same s,fun k hk => .inl hk⟩
 obtain ⟨POST,hPOST⟩:∃ POST:Hd → World → Prop,POST = fun h w' => OutR w' h m.tabs ∧ MTurn w w' p m.abandon:=⟨_,rfl⟩
 have HC':Hid (Calls Tryz.prog 62 #[p.ho.val] (w.setCell ⟨p.g,14,none⟩ (.bool true)) fun e w' => ∃ (A:Option Addr) (n c:Nat),e = .returned (.slice A n c) ∧ POST ⟨A,n,c⟩ w'):=by rw [hPOST];exact HC
 have HP:Hid (∀ h w',POST h w' → OutR w' h m.tabs ∧ MTurn w w' p m.abandon):=Lib.hid fun h w' q => by rw [hPOST] at q;exact q
 obtain ⟨⟨Ao,no,co⟩,hho⟩:∃ q:Hd,q = p.ho:=⟨_,rfl⟩
 obtain ⟨g,hg⟩:∃ g,g = p.g:=⟨_,rfl⟩
 rw [← hho] at k11 HC'
 rw [← hg] at k14 f14 k11 HC' ⊢
 have k11':w.cell? ⟨g,11,none⟩ = some (.slice Ao no co):=k11
 have HC2:Hid (Calls Tryz.prog 62 #[.slice Ao no co] (w.setCell ⟨g,14,none⟩ (.bool true)) fun e w' => ∃ (A:Option Addr) (n c:Nat),e = .returned (.slice A n c) ∧ POST ⟨A,n,c⟩ w'):=HC'
 clear HC HC' d few hc hho hg hPOST k11
 go_enter Tryz.func33,Tryz.ntmps33
 go_wp2_with fail
 refine HC2.out.mono ?_
 rintro e w1 ⟨A,n,c,rfl,hp⟩
 have OO:=Lib.hid (HP.out _ _ hp)
 clear hp
 go_wp2_with fail
 go_ret2
 exact ⟨A,n,c,rfl,OO.out⟩
theorem finish_none (w:World):Calls Tryz.prog 30 #[.pointer none] w fun e w' => e = .returned (.tuple #[.agg #[.slice none 0 0],.slice none 0 0,.int .i64 1]) ∧ Same w w':=by
 go_enter Tryz.func30,Tryz.ntmps30
 go_wp2_with fail
 refine bodyPost_ret (v:=.tuple #[.agg #[.slice none 0 0],.slice none 0 0,.int .i64 1]) ?_ rfl ⟨rfl,?_⟩
 ·simp [results,Tryz.results30,go_sem]
 ·exact (Same.refl w).alloc _
theorem finish_closed {w:World} {p:MH} {m:Mg} (d:MgAt w p m) (hc:m.closed = true) :
  Calls Tryz.prog 30 #[.pointer (some ⟨p.g,0,none⟩)] w fun e w' => e = .returned (.tuple #[.agg #[.slice none 0 0],.slice none 0 0,.int .i64 22]) ∧ Same w w':=by
 have k14:w.cell? ⟨p.g,14,none⟩ = some (.bool m.closed):=d.cell 14
 rw [hc] at k14
 have lg:=d.blk.lt
 obtain ⟨g,hg⟩:∃ g,g = p.g:=⟨_,rfl⟩
 rw [← hg] at k14 lg ⊢
 have hz:g ≠ w.heap.size:=by omega
 clear d hc hg
 go_enter Tryz.func30,Tryz.ntmps30
 go_wp2_with fail
 refine bodyPost_ret (v:=.tuple #[.agg #[.slice none 0 0],.slice none 0 0,.int .i64 22]) ?_ rfl ⟨rfl,?_⟩
 ·simp [results,Tryz.results30,go_sem]
 ·exact (Same.refl w).alloc _
theorem finish_failed {w:World} {p:MH} {m:Mg} (d:MgAt w p m) (hc:m.closed = false) (hf:m.failed = true) :
  Calls Tryz.prog 30 #[.pointer (some ⟨p.g,0,none⟩)] w fun e w' => e = .returned (.tuple #[.agg #[.slice none 0 0],.slice none 0 0,.int .i64 15]) ∧ Same w w':=by
 have k14:w.cell? ⟨p.g,14,none⟩ = some (.bool m.closed):=d.cell 14
 rw [hc] at k14
 have k13:w.cell? ⟨p.g,13,none⟩ = some (.bool m.failed):=d.cell 13
 rw [hf] at k13
 have lg:=d.blk.lt
 obtain ⟨g,hg⟩:∃ g,g = p.g:=⟨_,rfl⟩
 rw [← hg] at k14 k13 lg ⊢
 have hz:g ≠ w.heap.size:=by omega
 clear d hc hf hg
 go_enter Tryz.func30,Tryz.ntmps30
 go_wp2_with fail
 refine bodyPost_ret (v:=.tuple #[.agg #[.slice none 0 0],.slice none 0 0,.int .i64 15]) ?_ rfl ⟨rfl,?_⟩
 ·simp [results,Tryz.results30,go_sem]
 ·exact (Same.refl w).alloc _
theorem finish_left {w:World} {p:MH} {m:Mg} (d:MgAt w p m) (hc:m.closed = false) (hf:m.failed = false) (hl:0 < m.left) :
  Calls Tryz.prog 30 #[.pointer (some ⟨p.g,0,none⟩)] w fun e w' => e = .returned (.tuple #[.agg #[.slice none 0 0],.slice none 0 0,.int .i64 12]) ∧ Same w w':=by
 have k14:w.cell? ⟨p.g,14,none⟩ = some (.bool m.closed):=d.cell 14
 rw [hc] at k14
 have k13:w.cell? ⟨p.g,13,none⟩ = some (.bool m.failed):=d.cell 13
 rw [hf] at k13
 have HL:=Lib.hid (fun W (s:Same w W) => left_ok (d.next s))
 obtain ⟨lv,hlv⟩:∃ lv,lv = m.left:=⟨_,rfl⟩
 have lg:=d.blk.lt
 obtain ⟨g,hg⟩:∃ g,g = p.g:=⟨_,rfl⟩
 rw [← hg] at k14 k13 lg HL ⊢
 rw [← hlv] at HL hl
 have hz:g ≠ w.heap.size:=by omega
 have t1:decide (0 < lv) = true:=decide_eq_true hl
 have t2:decide ((0:Int) < (lv:Int)) = true:=decide_eq_true (by omega)
 clear d hc hf hg hlv
 go_enter Tryz.func30,Tryz.ntmps30
 go_wp2_with fail
 obtain ⟨W0,hW0⟩:∃ W0,W0 = w.alloc (.cells #[.slice none 0 0] 24):=⟨_,rfl⟩
 have S0:Hid (Same w W0):=by rw [hW0];exact Lib.hid ((Same.refl w).alloc _)
 have B0:Hid (Blk W0 w.heap.size 24 #[.slice none 0 0]):=by rw [hW0];exact Lib.hid (Blk.new w _ _)
 rw [← hW0]
 clear hW0
 refine (HL.out _ S0.out).mono ?_
 rintro e w2 ⟨rfl,s2⟩
 have S2:=Lib.hid s2
 have b2:=B0.out.below s2 B0.out.lt
 have q0:w2.cell? ⟨w.heap.size,0,none⟩ = some (.slice none 0 0):=b2.cell 0
 have qf:w2.frozen? ⟨w.heap.size,0,none⟩ = false:=b2.frozen 0
 clear s2 k13 k14 b2
 go_wp2_with fail
 refine bodyPost_ret (v:=.tuple #[.agg #[.slice none 0 0],.slice none 0 0,.int .i64 12]) ?_ rfl ⟨rfl,?_⟩
 ·simp [results,Tryz.results30,go_sem,q0]
 ·exact (S0.out.trans S2.out).setCell (Nat.le_refl _) _
theorem not_rows {w:World} {p:MH} {m:Mg} (d:MgAt w p m) {S:Nat → Prop} (hS:∀ k,S k → w.heap.size ≤ k):(∀ t ∈ p.tb,∀ r ∈ t.rs,In (fun k => ¬ S k) r.h) ∧ ∀ r ∈ p.dr,In (fun k => ¬ S k) r.h:=
 ⟨fun t ht r hr => (d.rr t ht r hr).1.in_.mono fun k hk h => by have:=hS k h;omega,fun r hr => (d.rd r hr).1.in_.mono fun k hk h => by have:=hS k h;omega⟩
theorem MgAt.finished {w w2 w4:World} {p:MH} {m:Mg} (d:MgAt w p m) (hfe:m.finE = 0) (s2:Same w w2) (h02:w.heap.size < w2.heap.size) {go tc:Nat} {ts:List Tbl} (hm:ts.map Tbl.rs = p.tb.map Tbl.rs) (s34:Same (w2.setCell ⟨p.g,14,none⟩ (.bool true)) w4)
  (o4:OwnT w4 (w2.setCell ⟨p.g,14,none⟩ (.bool true)).heap.size ⟨some ⟨go,0,none⟩,ts.length,tc⟩ ts) (hnv:Value) :
  OutR ((w4.setCell ⟨go,m.ti,none⟩ p.hd.val).setCell ⟨w.heap.size,0,none⟩ hnv) ⟨some ⟨go,0,none⟩,ts.length,tc⟩ m.out ∧ MTurn w ((w4.setCell ⟨go,m.ti,none⟩ p.hd.val).setCell ⟨w.heap.size,0,none⟩ hnv) p m.finish:=by
 have hlt:m.ti < ts.length:=by
  have e:=congrArg List.length hm
  simp only [List.length_map] at e
  obtain ⟨hti,_⟩:=d.rows
  omega
 obtain ⟨w3,hw3⟩:∃ w3,w3 = w2.setCell ⟨p.g,14,none⟩ (.bool true):=⟨_,rfl⟩
 have d2:=d.next s2
 have d3:=d2.close.1
 have c3:=d2.close.2
 rw [← hw3] at d3 c3 s34 o4
 have h3:w3.heap.size = w2.heap.size:=by rw [hw3];simp [World.setCell]
 have d4:=d3.next s34
 have hgo:w3.heap.size ≤ go:=(row_ty o4.oo (k:=go) rfl).1
 have cS:Chg (fun k => k = go ∨ k = w.heap.size) w4 ((w4.setCell ⟨go,m.ti,none⟩ p.hd.val).setCell ⟨w.heap.size,0,none⟩ hnv):=
  ((Chg.refl _ _).setCell ⟨go,m.ti,none⟩ _ (fun _ => .inl rfl)).setCell ⟨w.heap.size,0,none⟩ _ (fun _ => .inr rfl)
 have hS:∀ k,(k = go ∨ k = w.heap.size) → w.heap.size ≤ k:=fun k hk => by rcases hk with h | h <;> omega
 have dF:MgAt ((w4.setCell ⟨go,m.ti,none⟩ p.hd.val).setCell ⟨w.heap.size,0,none⟩ hnv) p m.abandon:=by
  refine d4.kept cS (fun k hk h => ?_) (fun k hk h => ?_) (not_rows d hS).1 (not_rows d hS).2
  ·have:=d.own_lt hk;have:=hS k h;omega
  ·have:=d.same.size;have:=hS k h;omega
 have efin:m.finish = m.abandon:=by unfold Mg.finish;rw [if_pos hfe];rfl
 have cF:Chg p.own w ((w4.setCell ⟨go,m.ti,none⟩ p.hd.val).setCell ⟨w.heap.size,0,none⟩ hnv):=
  (((Chg.of_same s2).trans c3 (fun _ _ h => h)).then_same s34).trans cS (fun i hi h => by have:=hS i h;omega)
 refine ⟨⟨ts.set m.ti ⟨p.hd,p.dr⟩,?_,?_⟩,by rw [efin];exact ⟨p,dF,rfl,rfl,MH.Like.refl p,cF,fun k hk => .inl hk⟩⟩
 ·obtain ⟨W,hW⟩:∃ W,W = (w4.setCell ⟨go,m.ti,none⟩ p.hd.val).setCell ⟨w.heap.size,0,none⟩ hnv:=⟨_,rfl⟩
  have hl:(ts.set m.ti (⟨p.hd,p.dr⟩:Tbl)).length = ts.length:=List.length_set ..
  have hng:go ≠ w.heap.size:=by omega
  have oo:W.ownsRow w3.heap.size 99 1 (.slice (some ⟨go,0,none⟩) ts.length tc) ts.length ((ts.set m.ti ⟨p.hd,p.dr⟩).flatMap Tbl.cell):=by
   have o5:=own_set Tbl.clen o4.oo rfl m.ti hlt 0 (by decide) p.hd.val ⟨p.hd,p.dr⟩ (by simp [Tbl.cell])
   rw [hW]
   refine own_far ?_ (fun e => hng (by simpa [Value.ownBlock] using e)) 0 hnv
   simpa using o5
  have lo:Lies W 1 ⟨some ⟨go,0,none⟩,ts.length,tc⟩ Tbl.cell (ts.set m.ti ⟨p.hd,p.dr⟩):=
   own_lies' (e:=99) (base:=w3.heap.size) (h:=⟨some ⟨go,0,none⟩,ts.length,tc⟩) Tbl.clen hl (own_max oo) oo
  rw [← hW] at dF ⊢
  have key:∀ t ∈ ts.set m.ti ⟨p.hd,p.dr⟩,Lies W 1 t.h Rw.cell t.rs ∧ ∀ r ∈ t.rs,RowAt W r.h r.v:=by
   intro t ht
   rcases List.mem_or_eq_of_mem_set ht with h1 | h1
   ·refine ⟨?_,rows_at dF hm t h1⟩
    obtain ⟨oi,on⟩:=o4.oi t h1
    have n1:=o4.inner_ne oi
    have n2:t.h.val.ownBlock ≠ some w.heap.size:=fun e => by have:=(row_ty oi e).1;omega
    have oi2:=own_far (own_far oi n1 m.ti p.hd.val) n2 0 hnv
    rw [← hW] at oi2
    have hb:t.h.n ≤ 9223372036854775807:=by rw [on];exact own_max oi
    refine own_lies' (e:=29) (base:=w3.heap.size) Rw.clen on.symm hb ?_
    rw [on];exact oi2
   ·rw [h1]
    refine ⟨?_,fun r hr => (dF.rd r hr).1⟩
    have hb:p.hd.n ≤ 9223372036854775807:=by rw [dF.dh];exact own_max dF.od
    refine own_lies' (e:=29) (base:=p.B) Rw.clen dF.dh.symm hb ?_
    rw [dF.dh];exact dF.od
  exact ⟨lo,lo.in_,fun t ht => ⟨(key t ht).1,(key t ht).1.in_,fun r hr => ⟨(key t ht).2 r hr,((key t ht).2 r hr).in_⟩⟩⟩
 ·rw [rowsOf_set,rows_same hm,d.tr,d.dr];rfl
theorem out_drew {w0 w:World} {p:MH} {m':Mg} {h:Hd} {tabs:List (List Row)} (o:OutR w h tabs ∧ MTurn w0 w p m'):OutR w.drew h tabs ∧ MTurn w0 w.drew p m':=by
 obtain ⟨⟨ts,t,e⟩,p',d',a,b,c,ch,ow⟩:=o
 exact ⟨⟨ts,t.same (Same.refl w).drew,e⟩,p',d'.next (Same.refl w).drew,a,b,c,ch.drew,ow⟩
theorem finish_ok {w:World} {p:MH} {m:Mg} (d:MgAt w p m) (few:FewR m.tabs) (hc:m.closed = false) (hf:m.failed = false) (hl:m.left = 0) :
  Calls Tryz.prog 30 #[.pointer (some ⟨p.g,0,none⟩)] w fun e w' => ∃ (go n c:Nat),e = .returned (.tuple #[.agg #[p.hn.val],.slice (some ⟨go,0,none⟩) n c,.int .i64 0]) ∧ OutR w' ⟨some ⟨go,0,none⟩,n,c⟩ m.out ∧ MTurn w w' p m.finish:=by
 have hfe:m.finE = 0:=by unfold Mg.finE;rw [if_neg (by rw [hc];simp),if_neg (by rw [hf];simp),if_neg (by omega)]
 have k14:w.cell? ⟨p.g,14,none⟩ = some (.bool m.closed):=d.cell 14
 rw [hc] at k14
 have k13:w.cell? ⟨p.g,13,none⟩ = some (.bool m.failed):=d.cell 13
 rw [hf] at k13
 have HL:=Lib.hid (fun W (s:Same w W) => left_ok (d.next s))
 rw [hl] at HL
 have lg:=d.blk.lt
 obtain ⟨hti,hrx⟩:=d.rows
 clear hrx
 have HCF:Hid (∀ i v,(p.cells m.abandon)[i]? = some v → ∀ W,Same w W → (W.setCell ⟨p.g,14,none⟩ (.bool true)).cell? ⟨p.g,i,none⟩ = some v):=Lib.hid fun i v hv W s => by
  have:=((d.next s).close.1).cell i
  rw [this];exact hv
 have HF14:Hid (∀ W,Same w W → W.cell? ⟨p.g,14,none⟩ = some (.bool false) ∧ W.frozen? ⟨p.g,14,none⟩ = false):=Lib.hid fun W s => ⟨by have:=(d.next s).cell 14;rw [this];show some (Value.bool m.closed) = _;rw [hc],(d.next s).blk.frozen 14⟩
 have HC:Hid (∀ W,Same w W → w.heap.size < W.heap.size → Calls Tryz.prog 62 #[p.ho.val] (W.setCell ⟨p.g,14,none⟩ (.bool true)) fun e w' => ∃ (go n c:Nat) (tv:Value),e = .returned (.slice (some ⟨go,0,none⟩) n c) ∧ (m.ti < n ∧ w.heap.size < go ∧ go < w'.heap.size ∧ p.g ≠ go) ∧ w'.cell? ⟨go,m.ti,none⟩ = some tv ∧ w'.frozen? ⟨go,m.ti,none⟩ = false ∧ Same (W.setCell ⟨p.g,14,none⟩ (.bool true)) w' ∧
   (∀ hnv,OutR ((w'.setCell ⟨go,m.ti,none⟩ p.hd.val).setCell ⟨w.heap.size,0,none⟩ hnv) ⟨some ⟨go,0,none⟩,n,c⟩ m.out ∧ MTurn w ((w'.setCell ⟨go,m.ti,none⟩ p.hd.val).setCell ⟨w.heap.size,0,none⟩ hnv) p m.finish)):=Lib.hid fun W s hW => by
  refine (((d.next s).close.1).copy few).mono ?_
  rintro e w' ⟨A,n,c,ts,he,o,hm,s'⟩
  have el:ts.length = p.tb.length:=by
   have:=congrArg List.length hm
   simpa using this
  obtain ⟨go,c',hho,hB,hlt,hfz⟩:=o.head (by rw [el];omega)
  injection hho with h1 h2 h3
  subst h1 h2 h3
  have hz:(W.setCell ⟨p.g,14,none⟩ (.bool true)).heap.size = W.heap.size:=by simp [World.setCell]
  have hpg:=d.blk.lt
  exact ⟨go,ts.length,c,_,he,⟨by rw [el];exact hti,by omega,hlt,by omega⟩,o.get m.ti (by rw [el];exact hti),hfz _,s',fun hnv => d.finished hfe s hW hm s' o hnv⟩
 obtain ⟨⟨Ad,dn,dc⟩,hhd⟩:∃ q:Hd,q = p.hd:=⟨_,rfl⟩
 obtain ⟨⟨Ao,on,oc⟩,hho⟩:∃ q:Hd,q = p.ho:=⟨_,rfl⟩
 obtain ⟨⟨An,nn,nc⟩,hhn⟩:∃ q:Hd,q = p.hn:=⟨_,rfl⟩
 have H9:=Lib.hid (HCF.out 9 (.slice An nn nc) (by show some p.hn.val = _;rw [← hhn];rfl))
 have H10:=Lib.hid (HCF.out 10 (.int .i64 m.ti) rfl)
 have H11:=Lib.hid (HCF.out 11 (.slice Ao on oc) (by show some p.ho.val = _;rw [← hho];rfl))
 have H12:=Lib.hid (HCF.out 12 (.slice Ad dn dc) (by show some p.hd.val = _;rw [← hhd];rfl))
 obtain ⟨POST,hPOST⟩:∃ POST:Hd → World → Prop,POST = fun h w' => OutR w' h m.out ∧ MTurn w w' p m.finish:=⟨_,rfl⟩
 have HP:Hid (∀ h w',POST h w' → OutR w' h m.out ∧ MTurn w w' p m.finish):=Lib.hid fun h w' q => by rw [hPOST] at q;exact q
 have HC2:Hid (∀ W,Same w W → w.heap.size < W.heap.size → Calls Tryz.prog 62 #[.slice Ao on oc] (W.setCell ⟨p.g,14,none⟩ (.bool true)) fun e w' => ∃ (go n c:Nat) (tv:Value),e = .returned (.slice (some ⟨go,0,none⟩) n c) ∧ (m.ti < n ∧ w.heap.size < go ∧ go < w'.heap.size ∧ p.g ≠ go) ∧ w'.cell? ⟨go,m.ti,none⟩ = some tv ∧ w'.frozen? ⟨go,m.ti,none⟩ = false ∧ Same (W.setCell ⟨p.g,14,none⟩ (.bool true)) w' ∧
   (∀ hnv,POST ⟨some ⟨go,0,none⟩,n,c⟩ ((w'.setCell ⟨go,m.ti,none⟩ (.slice Ad dn dc)).setCell ⟨w.heap.size,0,none⟩ hnv))):=Lib.hid fun W s h => by
  have hh:=HC.out W s h
  rw [← hho,← hhd] at hh
  rw [hPOST]
  exact hh
 have HHN:Hid (p.hn.val = .slice An nn nc):=by rw [← hhn];rfl
 rw [HHN.out]
 obtain ⟨g,hg⟩:∃ g,g = p.g:=⟨_,rfl⟩
 obtain ⟨ti,hti'⟩:∃ ti,ti = m.ti:=⟨_,rfl⟩
 rw [← hti'] at HC2 H10
 rw [← hg] at k14 k13 HL lg HF14 H9 H10 H11 H12 HC2 ⊢
 have hz:g ≠ w.heap.size:=by omega
 have t1:decide (0 < (0:Nat)) = false:=rfl
 have ti0:(0:Int) ≤ (ti:Int):=by omega
 clear d hc hf hl hfe few HCF HC hhd hho hhn hPOST hg hti hti'
 go_enter Tryz.func30,Tryz.ntmps30
 go_wp2_with fail
 obtain ⟨W0,hW0⟩:∃ W0,W0 = w.alloc (.cells #[.slice none 0 0] 24):=⟨_,rfl⟩
 have S0:Hid (Same w W0):=by rw [hW0];exact Lib.hid ((Same.refl w).alloc _)
 have B0:Hid (Blk W0 w.heap.size 24 #[.slice none 0 0]):=by rw [hW0];exact Lib.hid (Blk.new w _ _)
 rw [← hW0]
 clear hW0
 refine (HL.out _ S0.out).mono ?_
 rintro e w2 ⟨rfl,s2⟩
 have S2:Hid (Same w w2):=S0.out.trans s2
 have B2:Hid (Blk w2 w.heap.size 24 #[.slice none 0 0]):=B0.out.below s2 B0.out.lt
 obtain ⟨k14',f14'⟩:=HF14.out w2 S2.out
 have r11:=H11.out w2 S2.out
 have r9:=H9.out w2 S2.out
 have r10:=H10.out w2 S2.out
 have r12:=H12.out w2 S2.out
 have HC3:=Lib.hid (HC2.out w2 S2.out B2.out.lt)
 have q0:(w2.setCell ⟨g,14,none⟩ (.bool true)).cell? ⟨w.heap.size,0,none⟩ = some (.slice none 0 0):=(B2.out.far (p:=⟨g,14,none⟩) (by show w.heap.size ≠ g;omega) _).cell 0
 have qf:(w2.setCell ⟨g,14,none⟩ (.bool true)).frozen? ⟨w.heap.size,0,none⟩ = false:=(B2.out.far (p:=⟨g,14,none⟩) (by show w.heap.size ≠ g;omega) _).frozen 0
 have l3:w.heap.size < (w2.setCell ⟨g,14,none⟩ (.bool true)).heap.size:=by
  have:=B2.out.lt
  simpa [World.setCell] using this
 have lg3:g < (w2.setCell ⟨g,14,none⟩ (.bool true)).heap.size:=by omega
 obtain ⟨w3,hw3⟩:∃ w3,w3 = w2.setCell ⟨g,14,none⟩ (.bool true):=⟨_,rfl⟩
 rw [← hw3] at r9 r10 r11 r12 HC3 q0 qf l3 lg3
 clear s2 k13 k14 HC2 H9 H10 H11 H12 HL HF14 B2 B0
 go_upto_region 10 with (fail)
 rw [← hw3]
 clear hw3 k14' f14'
 go_wp2_with fail
 refine HC3.out.mono ?_
 rintro e w4 ⟨go,n,c,tv,rfl,⟨hn1,hgo1,hgo2,hgo3⟩,kt,kf,s4,hfin⟩
 have HFIN:=Lib.hid hfin
 have S4:=Lib.hid s4
 have u9:=(S4.out.cells _ 9 lg3).trans r9
 have u10:=(S4.out.cells _ 10 lg3).trans r10
 have u12:=(S4.out.cells _ 12 lg3).trans r12
 have z0:=(S4.out.cells _ 0 l3).trans q0
 have zf:=(S4.out.frees _ 0 l3).trans qf
 have tiI:(ti:Int) < (n:Int):=by omega
 have zg:g ≠ go:=hgo3
 have zw:w.heap.size ≠ go:=by omega
 clear hfin s4 HC3 r9 r10 r11 r12 q0 qf
 go_wp2_with fail
 go_region_held3 (fun w' => w'.cell? ⟨g,10,none⟩ = some (.int .i64 ti) ∧ w'.cell? ⟨g,12,none⟩ = some (.slice Ad dn dc)) (first | exact ⟨by assumption,by assumption⟩ | (simp [*];done) | (simp [*,cell_drew,cell_far];done) | go_keep) (fail)
 all_goals
  have y9:(w4.setCell ⟨go,ti,none⟩ (.slice Ad dn dc)).cell? ⟨g,9,none⟩ = some (.slice An nn nc):=(cell_far _ _ _ _ _ _ zg).trans u9
  have y0:(w4.setCell ⟨go,ti,none⟩ (.slice Ad dn dc)).cell? ⟨w.heap.size,0,none⟩ = some (.slice none 0 0):=(cell_far _ _ _ _ _ _ zw).trans z0
  clear kt kf u9 u10 u12 z0
  go_wp2_with fail
  refine bodyPost_ret (v:=.tuple #[.agg #[.slice An nn nc],.slice (some ⟨go,0,none⟩) n c,.int .i64 0]) ?_ rfl ?_
  ·simp [results,Tryz.results30,go_sem,y0]
  ·exact ⟨go,n,c,rfl,out_drew (HP.out _ _ (HFIN.out (.slice An nn nc)))⟩
end Go.Proofs.YtfifnemnihcijaaGreatDoor.R43
namespace Go.Proofs.YtfifnemnihcijaaGreatDoor.R43
open Go.RowKit
theorem start_born {h:Hd} {ts:List RT} {c:Cg} {tbs:List Tbl} {w W5 wy:World} (l:Laid w) (a:TabsAt w h ts) (few:Few ts) (tsl:ts.length ≤ 1000000) (hn:okS c.name) (hd:okS c.dflt.s) {K:Nat → Prop} {ht:Hd} (tt:TablesAt w K ht tbs)
  (hfine:(start (ts.map RT.tb) c (rowsOf tbs)).Fine) {nw:Nat} (hwn:WasL (applyS (ts.map RT.tb) c) (nw + 1)) (hnw:nw + 1 ≤ 1000000) (hfi:findT (ts.map RT.tb) c.table = ((findT (ts.map RT.tb) c.table).toNat:Int))
  {Z:Nat → Prop} (hZi:TabsIn (fun k => ¬ Z k) h ts) {lo:Nat} (hlo:∀ k,K k → k < lo) {hi:Nat → Prop} (hhi:∀ k,w.heap.size ≤ k → hi k)
  (s5:Same w W5) {A1:Option Addr} {m1 c1:Nat} {ts1:List RT} (t1:TabsAt W5 ⟨A1,m1,c1⟩ ts1) (e1:ts1.map RT.tb = applyS (ts.map RT.tb) c) (hNI:TabsIn (fun k => ¬ Z k) ⟨A1,m1,c1⟩ ts1)
  {Ao:Option Addr} {no co:Nat} {ts2:List Tbl} (sy:Same W5 wy) (o:OwnT wy W5.heap.size ⟨Ao,no,co⟩ ts2) (hm:ts2.map Tbl.rs = tbs.map Tbl.rs) :
  ∃ p:MH,p.g = wy.heap.size ∧ MgAt (wy.alloc (.cells #[h.val,.int .i64 c.kind,.string c.table,.string c.attr,.string c.name,.int .i64 c.to_,.int .i64 c.dflt.k,.int .i64 c.dflt.n,.string c.dflt.s,.slice A1 m1 c1,.int .i64 (findT (ts.map RT.tb) c.table),.slice Ao no co,.slice none 0 0,.bool false,.bool false] 108)) p (start (ts.map RT.tb) c (rowsOf tbs)) ∧ Same w (wy.alloc (.cells #[h.val,.int .i64 c.kind,.string c.table,.string c.attr,.string c.name,.int .i64 c.to_,.int .i64 c.dflt.k,.int .i64 c.dflt.n,.string c.dflt.s,.slice A1 m1 c1,.int .i64 (findT (ts.map RT.tb) c.table),.slice Ao no co,.slice none 0 0,.bool false,.bool false] 108)) ∧ w.heap.size ≤ p.B ∧ p.Z = Z ∧ p.lo = lo ∧ p.hi = hi ∧ p.dr = []:=by
 obtain ⟨w',hw'⟩:∃ w',w' = wy.alloc (.cells #[h.val,.int .i64 c.kind,.string c.table,.string c.attr,.string c.name,.int .i64 c.to_,.int .i64 c.dflt.k,.int .i64 c.dflt.n,.string c.dflt.s,.slice A1 m1 c1,.int .i64 (findT (ts.map RT.tb) c.table),.slice Ao no co,.slice none 0 0,.bool false,.bool false] 108):=⟨_,rfl⟩
 have syy:Same wy w':=by rw [hw'];exact (Same.refl wy).alloc _
 have bM:Blk w' wy.heap.size 108 #[h.val,.int .i64 c.kind,.string c.table,.string c.attr,.string c.name,.int .i64 c.to_,.int .i64 c.dflt.k,.int .i64 c.dflt.n,.string c.dflt.s,.slice A1 m1 c1,.int .i64 (findT (ts.map RT.tb) c.table),.slice Ao no co,.slice none 0 0,.bool false,.bool false]:=by rw [hw'];exact Blk.new wy _ _
 rw [← hw']
 have o5:=o.same syy
 have S5:Same W5 w':=sy.trans syy
 have hrow:∀ t ∈ ts2,∀ r ∈ t.rs,RowIn w K r:=by
  intro t ht' r hr
  obtain ⟨t',ht2,e⟩:=mem_rs hm ht'
  rw [← e] at hr
  exact (tt.2.2 t' ht2).2.2 r hr
 have hown:∀ k,MH.own { W0:=W5,B:=W5.heap.size,g:=wy.heap.size,hs:=h,ts:=ts,hn:=⟨A1,m1,c1⟩,tn:=ts1,ho:=⟨Ao,no,co⟩,tb:=ts2,hd:=⟨none,0,0⟩,dr:=[],lo:=lo,hi:=hi,Z:=Z } k → W5.heap.size ≤ k:=by
  intro k hk
  rcases hk with hk | hk | ⟨t,ht',hk⟩ | hk
  ·have:k = wy.heap.size:=hk
   have:=sy.size
   omega
  ·exact (row_ty o5.oo hk).1
  ·exact (row_ty (o5.oi t ht').1 hk).1
  ·cases hk
 refine ⟨{ W0:=W5,B:=W5.heap.size,g:=wy.heap.size,hs:=h,ts:=ts,hn:=⟨A1,m1,c1⟩,tn:=ts1,ho:=⟨Ao,no,co⟩,tb:=ts2,hd:=⟨none,0,0⟩,dr:=[],lo:=lo,hi:=hi,Z:=Z },rfl,?_,s5.trans S5,s5.size,rfl,rfl,rfl,rfl⟩
 exact {
  st:=⟨a.same s5,rfl,few,tsl,t1,e1,few_was e1 hwn hnw,hn,hd,l.same s5,Nat.le_refl _,sy.size,hZi,hNI⟩
  same:=Chg.of_same S5
  blk:=by
   have:=bM
   rw [hfi] at this
   exact this
  oo:=o5.oo
  oh:=o5.oh
  oi:=o5.oi
  tr:=rows_same hm
  od:=World.ownsRow_nil _ _ _ _
  dh:=rfl
  dr:=rfl
  rr:=fun t ht' r hr => ⟨(hrow t ht' r hr).1.same (s5.trans S5),(hrow t ht' r hr).1.in_.mono fun k hk hk' => by have:=hown k hk';have:=s5.size;omega⟩
  rd:=fun r hr => by cases hr
  ai:=o5.ai
  ad:=fun t _ k _ h => by cases h
  fine:=hfine
  rl:=fun t ht' r hr => (hrow t ht' r hr).2.mono hlo
  rh:=fun r hr => by cases hr
  hw:=fun k hk => hhi k (Nat.le_trans (Nat.le_trans s5.size S5.size) hk) }
def StartOut (S:List Tb) (c:Cg) (tabs:List (List Row)) (Z:Nat → Prop) (lo:Nat) (hi:Nat → Prop) (w:World) (e:Ending) (w':World):Prop:=
 (startE S c tabs ≠ 0 ∧ e = .returned (.tuple #[.pointer none,.int .i64 (startE S c tabs)]) ∧ Same w w') ∨
 (startE S c tabs = 0 ∧ ∃ p:MH,e = .returned (.tuple #[.pointer (some ⟨p.g,0,none⟩),.int .i64 0]) ∧ MgAt w' p (start S c tabs) ∧ Same w w' ∧ w.heap.size ≤ p.B ∧ p.Z = Z ∧ p.lo = lo ∧ p.hi = hi ∧ p.dr = [])
theorem fitsT_bad {s:List Tb} {tabs:List (List Row)} (k:Nat) (h1:k < tabs.length) (h2:k < s.length) (row:Row) (hr:row ∈ tabs[k]) (h:fitsB s[k] row = false):fitsT s tabs = false:=by
 cases hf:fitsT s tabs with
 | false => rfl
 | true =>
  exfalso
  have:=(fitsT_iff.1 hf).2 k h1 h2 row hr
  rw [this] at h;cases h
theorem start_any (h:Hd) (ts:List RT) (c:Cg) (ht:Hd) (tbs:List Tbl) (w:World) (l:Laid w) (a:TabsAt w h ts) {nw:Nat} (hw:WasL (ts.map RT.tb) nw) (hnw:nw + 1 ≤ 1000000) (tsl:ts.length ≤ 1000000) (hn:okS c.name) (hd:okS c.dflt.s) {K:Nat → Prop} (tt:TablesAt w K ht tbs) (fr:FewR (rowsOf tbs))
  {Z:Nat → Prop} (hZi:TabsIn (fun k => ¬ Z k) h ts) (hZn:∀ k,w.heap.size ≤ k → ¬ Z k) {lo:Nat} (hlo:∀ k,K k → k < lo) {hi:Nat → Prop} (hhi:∀ k,w.heap.size ≤ k → hi k) :
  Calls Tryz.prog 24 #[.agg #[h.val],c.val,ht.val] w fun e w' => StartOut (ts.map RT.tb) c (rowsOf tbs) Z lo hi w e w':=by
 have few:Few ts:=few_was rfl hw (by omega)
 have HV:=Lib.hid (fun W (s:Same w W) => rvalid_s_ok h ts W (a.same s) few)
 have HFD:=Lib.hid (fun W (s:Same w W) => rfind_ok h ts c.table W (a.same s))
 have hlen:tbs.length ≤ 1000000:=by have:=fr.1;simpa [rowsOf] using this
 have hrl:∀ t ∈ tbs,t.rs.length ≤ 1000000:=by
  intro t ht'
  have:=fr.2 _ (List.mem_map_of_mem (f:=Tbl.rows) ht')
  simpa only [Tbl.rows,List.length_map] using this
 have HRL:=Lib.hid hrl
 have HCP:=Lib.hid (fun W (s:Same w W) => copied_ok ht tbs W (tt.same s) hlen hrl)
 have HT:=Lib.hid tt
 have HA0:=Lib.hid a
 have HFI:=Lib.hid (fun (k:Nat) (hk:k < ts.length) (r:Rw) (W:World) (s:Same w W) (hr:RowAt w r.h r.v) => rfits_ok ts[k] r.h r.v W ((a.2 _ (List.getElem_mem hk)).same s) (hr.same s))
 have hml:ts.length = h.n:=a.1.1
 have hmb:h.n ≤ 9223372036854775807:=a.1.2.1
 have htl:tbs.length = ht.n:=tt.1.1
 have HAP:Hid (∀ W,Same w W → Calls Tryz.prog 8 #[.agg #[h.val],c.val] W fun e w' => (∃ (A1:Option Addr) (m1 c1:Nat),e = .returned (.tuple #[.agg #[.slice A1 m1 c1],.int .i64 (errOf (ts.map RT.tb) c)]) ∧ (errOf (ts.map RT.tb) c = 0 → ∃ ts1,TabsAt w' ⟨A1,m1,c1⟩ ts1 ∧ ts1.map RT.tb = applyS (ts.map RT.tb) c ∧ NewIn W h ts ⟨A1,m1,c1⟩ ts1)) ∧ Same W w'):=Lib.hid fun W s => by
  by_cases hE:errOf (ts.map RT.tb) c = 0
  ·refine (rapply_in h ts c W (a.same s) few hn hd hE).mono ?_
   rintro e w' ⟨⟨⟨A1,m1,c1⟩,ts1,he,ta,hm,hI⟩,s'⟩
   exact ⟨⟨A1,m1,c1,by rw [hE];exact he,fun _ => ⟨ts1,ta,hm,hI⟩⟩,s'⟩
  ·refine (rapply_bad h ts c W (a.same s) few hn hE).mono ?_
   rintro e w' ⟨he,s'⟩
   exact ⟨⟨none,0,0,he,fun h => absurd h hE⟩,s'⟩
 obtain ⟨POST,hPOST⟩:∃ POST:Ending → World → Prop,POST = StartOut (ts.map RT.tb) c (rowsOf tbs) Z lo hi w:=⟨_,rfl⟩
 have HONE:Hid (∀ w',Same w w' → startE (ts.map RT.tb) c (rowsOf tbs) = 1 → POST (.returned (.tuple #[.pointer none,.int .i64 1])) w'):=Lib.hid fun w' s e => by
  rw [hPOST];exact .inl ⟨by rw [e];decide,by rw [e],s⟩
 have HERR:Hid (∀ w',Same w w' → validB (ts.map RT.tb) = true → fitsT (ts.map RT.tb) (rowsOf tbs) = true → errOf (ts.map RT.tb) c ≠ 0 → POST (.returned (.tuple #[.pointer none,.int .i64 (errOf (ts.map RT.tb) c)])) w'):=Lib.hid fun w' s hv hf he => by
  have e:startE (ts.map RT.tb) c (rowsOf tbs) = errOf (ts.map RT.tb) c:=by unfold startE;rw [hv,hf];rfl
  rw [hPOST];exact .inl ⟨by rw [e];exact he,by rw [e],s⟩
 have HBORN:Hid (∀ (W5 wy w':World) (A1:Option Addr) (m1 c1:Nat) (ts1:List RT) (Ao:Option Addr) (no co:Nat) (ts2:List Tbl),validB (ts.map RT.tb) = true → fitsT (ts.map RT.tb) (rowsOf tbs) = true → errOf (ts.map RT.tb) c = 0 → Same w W5 → TabsAt W5 ⟨A1,m1,c1⟩ ts1 → ts1.map RT.tb = applyS (ts.map RT.tb) c → TabsIn (fun k => ¬ Z k) ⟨A1,m1,c1⟩ ts1 → Same W5 wy → OwnT wy W5.heap.size ⟨Ao,no,co⟩ ts2 → ts2.map Tbl.rs = tbs.map Tbl.rs →
   (w' = (wy.alloc (.cells #[h.val,.int .i64 c.kind,.string c.table,.string c.attr,.string c.name,.int .i64 c.to_,.int .i64 c.dflt.k,.int .i64 c.dflt.n,.string c.dflt.s,.slice A1 m1 c1,.int .i64 (findT (ts.map RT.tb) c.table),.slice Ao no co,.slice none 0 0,.bool false,.bool false] 108)) ∨ w' = (wy.alloc (.cells #[h.val,.int .i64 c.kind,.string c.table,.string c.attr,.string c.name,.int .i64 c.to_,.int .i64 c.dflt.k,.int .i64 c.dflt.n,.string c.dflt.s,.slice A1 m1 c1,.int .i64 (findT (ts.map RT.tb) c.table),.slice Ao no co,.slice none 0 0,.bool false,.bool false] 108)).drew) → POST (.returned (.tuple #[.pointer (some ⟨wy.heap.size,0,none⟩),.int .i64 0])) w'):=Lib.hid fun W5 wy w' A1 m1 c1 ts1 Ao no co ts2 hv hf hE s5 t1 e1 hNI sy o hm hw' => by
  have e:startE (ts.map RT.tb) c (rowsOf tbs) = 0:=by unfold startE;rw [hv,hf,hE];rfl
  have hfine:=start_fine e
  obtain ⟨p,hg,d,s,hB,hZ,hl,hh,hdr⟩:=start_born l a few tsl hn hd tt hfine (hw.apply hE) hnw hfine.at_ hZi hlo hhi s5 t1 e1 hNI sy o hm
  rw [hPOST]
  rcases hw' with rfl | rfl
  ·exact .inr ⟨e,p,by rw [hg],d,s,hB,hZ,hl,hh,hdr⟩
  ·exact .inr ⟨e,p,by rw [hg],d.next (Same.refl _).drew,s.drew,hB,hZ,hl,hh,hdr⟩
 have HZI:Hid (∀ (W:World) (hh:Hd) (ts1:List RT),Same w W → NewIn W h ts hh ts1 → TabsIn (fun k => ¬ Z k) hh ts1):=Lib.hid fun W hh ts1 s hI => hI _ hZi (fun k hk => hZn k (Nat.le_trans s.size hk))
 rw [← hPOST]
 clear few a tt hw hnw tsl hn hd fr hZi hZn hlo hhi hPOST hrl l
 obtain ⟨A,n,cc⟩:=h
 obtain ⟨At_,tm,tc⟩:=ht
 obtain ⟨k,t,aa,nm,to_,⟨dk,dn,ds⟩⟩:=c
 simp only at hml hmb htl
 subst hml htl
 have f6:tbs.length ≤ 9223372036854775807:=by omega
 show Calls Tryz.prog 24 #[.agg #[.slice A ts.length cc],.agg #[.int .i64 k,.string t,.string aa,.string nm,.int .i64 to_,.int .i64 dk,.int .i64 dn,.string ds],.slice At_ tbs.length tc] w _
 obtain ⟨vb,hvb⟩:∃ vb,vb = validB (ts.map RT.tb):=⟨_,rfl⟩
 rw [← hvb] at HV
 have HVB:=Lib.hid hvb
 have HV':Hid (Rt 14 #[.agg #[.slice A ts.length cc]] w (.bool vb)):=HV
 clear hvb HV
 go_enter Tryz.func24,Tryz.ntmps24
 go_wp2_with fail
 obtain ⟨W0,hW0⟩:∃ W0,W0 = (w.alloc (.cells #[.slice A ts.length cc] 24)).alloc (.cells #[.int .i64 k,.string t,.string aa,.string nm,.int .i64 to_,.int .i64 dk,.int .i64 dn,.string ds] 28):=⟨_,rfl⟩
 have S0:Hid (Same w W0):=by show Same _ _;rw [hW0];exact ((Same.refl w).alloc _).alloc _
 have BS0:Hid (Blk W0 w.heap.size 24 #[.slice A ts.length cc]):=by show Blk _ _ _ _;rw [hW0];exact (Blk.new w _ _).alloc _
 have BC0:Hid (Blk W0 (w.heap.size + 1) 28 #[.int .i64 k,.string t,.string aa,.string nm,.int .i64 to_,.int .i64 dk,.int .i64 dn,.string ds]):=by
  have e:w.heap.size + 1 = (w.alloc (.cells #[.slice A ts.length cc] 24)).heap.size:=by simp
  show Blk _ _ _ _
  rw [hW0,e];exact Blk.new _ _ _
 rw [← hW0]
 clear hW0
 have l0W:w.heap.size < W0.heap.size:=BS0.out.lt
 refine (HV'.out _ S0.out).mono ?_
 rintro e w1 ⟨rfl,s1⟩
 have S01:Hid (Same W0 w1):=s1
 have S1:Hid (Same w w1):=S0.out.trans s1
 have b1:w1.cell? ⟨w.heap.size,0,none⟩ = some (.slice A ts.length cc):=(s1.cells _ _ l0W).trans (BS0.out.cell 0)
 clear s1 HV'
 cases vb with
 | false =>
  go_wp2_with fail
  show POST (Ending.returned (.tuple #[.pointer none,.int .i64 1])) w1
  exact HONE.out _ S1.out (by unfold startE;rw [← HVB.out];rfl)
 | true =>
 by_cases hle:tbs.length = ts.length
 case neg =>
  have t1:((tbs.length:Int) != (ts.length:Int)) = true:=by simp;omega
  have hle':Hid (¬ tbs.length = ts.length):=Lib.hid hle
  clear hle
  go_wp2_with fail
  show POST (Ending.returned (.tuple #[.pointer none,.int .i64 1])) w1
  refine HONE.out _ S1.out ?_
  have e:fitsT (ts.map RT.tb) (rowsOf tbs) = false:=by
   cases hf:fitsT (ts.map RT.tb) (rowsOf tbs) with
   | false => rfl
   | true => exact absurd (by have:=(fitsT_iff.1 hf).1;simpa [rowsOf] using this) hle'.out
  unfold startE;rw [e,Bool.and_false];rfl
 have t1:((tbs.length:Int) != (ts.length:Int)) = false:=by simp;omega
 have HLE:=Lib.hid hle
 clear hle
 go_wp2_with fail
 clear t1 b1
 go_loopw [8] (fun i wr => ∃ k:Nat,k ≤ tbs.length ∧ i = .int .i64 k ∧ Hid (Same W0 wr ∧ ∀ j (h1:j < tbs.length) (h2:j < ts.length),j < k → ∀ r ∈ tbs[j].rs,fitsB ts[j].tb r.v = true)) (fun i _ => tbs.length - (intOf i).toNat)
 case atStart => exact ⟨0,Nat.zero_le _,rfl,S01.out,fun j _ _ h => absurd h (Nat.not_lt_zero _)⟩
 case round =>
  obtain ⟨q0,hq0,rfl,R⟩:=hrel
  by_cases hlt:q0 < tbs.length
  ·have hlt2:q0 < ts.length:=by have:=HLE.out;omega
   obtain ⟨bt,ot,hAt,blt,hct⟩:=HT.out.1.one q0 hlt (v:=tbs[q0].h.val) rfl
   have hAt':At_ = some ⟨bt,ot,none⟩:=hAt
   obtain ⟨b,off,hA,bls,hcs⟩:=HA0.out.1.2.2 q0 hlt2
   have hA':A = some ⟨b,off,none⟩:=hA
   have HTR:=Lib.hid (HT.out.2.2 _ (List.getElem_mem hlt))
   have hrn:tbs[q0].rs.length ≤ 1000000:=HRL.out _ (List.getElem_mem hlt)
   have hhn:tbs[q0].rs.length = tbs[q0].h.n:=HTR.out.1.1
   have HF2:=Lib.hid (fun (r:Rw) (W:World) (s:Same w W) (hr:RowAt w r.h r.v) => HFI.out q0 hlt2 r W s hr)
   have HBAD:Hid (∀ r ∈ tbs[q0].rs,fitsB ts[q0].tb r.v = false → startE (ts.map RT.tb) ⟨k,t,aa,nm,to_,⟨dk,dn,ds⟩⟩ (rowsOf tbs) = 1):=Lib.hid fun r hr hf => by
    have e:fitsT (ts.map RT.tb) (rowsOf tbs) = false:=fitsT_bad q0 (by simpa [rowsOf] using hlt) (by simpa using hlt2) r.v (by simp only [rowsOf,List.getElem_map,Tbl.rows];exact List.mem_map_of_mem hr) (by simpa using hf)
    unfold startE;rw [e,Bool.and_false];rfl
   have HGOOD:Hid (∀ wr',Same W0 wr' → (∀ j (hj:j < tbs[q0].rs.length),fitsB ts[q0].tb tbs[q0].rs[j].v = true) → Hid (Same W0 wr' ∧ ∀ j (h1:j < tbs.length) (h2:j < ts.length),j < q0 + 1 → ∀ r ∈ tbs[j].rs,fitsB ts[j].tb r.v = true)):=Lib.hid fun wr' s g => by
    refine ⟨s,fun j h1 h2 hj r hr => ?_⟩
    by_cases e:j < q0
    ·exact R.out.2 j h1 h2 e r hr
    ·have e2:j = q0:=by omega
     subst e2
     obtain ⟨i,hi,rfl⟩:=List.mem_iff_getElem.1 hr
     exact g i hi
   obtain ⟨x,hx⟩:∃ x,x = ts[q0]:=⟨_,rfl⟩
   rw [← hx] at hcs HF2 HBAD HGOOD
   obtain ⟨tq,htq⟩:∃ tq,tq = tbs[q0]:=⟨_,rfl⟩
   rw [← htq] at hct HTR hrn hhn HBAD
   have HGOOD':Hid (∀ wr',Same W0 wr' → (∀ j (hj:j < tq.rs.length),fitsB x.tb tq.rs[j].v = true) → Hid (Same W0 wr' ∧ ∀ j (h1:j < tbs.length) (h2:j < ts.length),j < q0 + 1 → ∀ r ∈ tbs[j].rs,fitsB ts[j].tb r.v = true)):=by subst htq;exact HGOOD
   have SR0:Hid (Same W0 wr):=R.out.1
   clear hx htq hA hAt R HGOOD
   obtain ⟨n1,⟨A4,m4,c4⟩,ra1,⟨B4,p4,d4⟩,key1⟩:=x
   obtain ⟨⟨Ai,ri,ci⟩,rs⟩:=tq
   have hhn':rs.length = ri:=hhn
   have hrn':rs.length ≤ 1000000:=hrn
   have hct':w.cell? ⟨bt,ot + q0,none⟩ = some (.slice Ai ri ci):=hct
   have x0:w.cell? ⟨b,off + q0 * 3,none⟩ = some (.string n1):=hcs 0 _ rfl
   have x1:w.cell? ⟨b,off + q0 * 3 + 1,none⟩ = some (.slice A4 m4 c4):=hcs 1 _ rfl
   have x2:w.cell? ⟨b,off + q0 * 3 + 2,none⟩ = some (.slice B4 p4 d4):=hcs 2 _ rfl
   clear hct hcs hhn hrn
   subst hAt' hA' hhn'
   have q00:(0:Int) ≤ (q0:Int):=by omega
   have q0t:(q0:Int) < (tbs.length:Int):=by omega
   have q0s:(q0:Int) < (ts.length:Int):=by omega
   have SWR:Hid (Same w wr):=S0.out.trans SR0.out
   have hr32:=(SWR.out.cells _ _ blt).trans hct'
   go_wp2_with fail
   clear hr32
   go_loopw [9] (fun i wr2 => ∃ q:Nat,q ≤ rs.length ∧ i = .int .i64 q ∧ Hid (Same W0 wr2 ∧ ∀ j (hj:j < rs.length),j < q → fitsB (RT.tb ⟨n1,⟨A4,m4,c4⟩,ra1,⟨B4,p4,d4⟩,key1⟩) rs[j].v = true)) (fun i _ => rs.length - (intOf i).toNat)
   case atStart => exact ⟨0,Nat.zero_le _,rfl,SR0.out,fun j _ h => absurd h (Nat.not_lt_zero _)⟩
   case round =>
    obtain ⟨q,hq,rfl,R2⟩:=hrel
    have SWR2:Hid (Same w wr):=S0.out.trans R2.out.1
    have hr32:=(SWR2.out.cells _ _ blt).trans hct'
    by_cases hlq:q < rs.length
    ·obtain ⟨bi,oi,hAi,bli,hci⟩:=HTR.out.1.one q hlq (v:=rs[q].h.val) rfl
     have hAi':Ai = some ⟨bi,oi,none⟩:=hAi
     have hrw:=(HTR.out.2.2 _ (List.getElem_mem hlq)).1
     obtain ⟨fb,hfb⟩:∃ fb,fb = fitsB (RT.tb ⟨n1,⟨A4,m4,c4⟩,ra1,⟨B4,p4,d4⟩,key1⟩) rs[q].v:=⟨_,rfl⟩
     have hcf:=fun W (s:Same wr W) => HF2.out rs[q] W (SWR2.out.trans s) hrw
     rw [← hfb] at hcf
     have HFB:=Lib.hid hfb
     obtain ⟨rh,hrh⟩:∃ rh,rh = rs[q].h:=⟨_,rfl⟩
     rw [← hrh] at hci hcf
     obtain ⟨Ar,rn,rc⟩:=rh
     have hcf':Rt 18 #[.agg #[.string n1,.slice A4 m4 c4,.slice B4 p4 d4],.slice Ar rn rc] wr (.bool fb):=hcf
     have cJ:=regr (w:=wr) hcf'
     have ki:=cellr ((SWR2.out.cells _ _ bli).trans hci)
     have kt:=cellr hr32
     have k0:=cellr ((SWR2.out.cells _ _ bls).trans x0)
     have k1:=cellr ((SWR2.out.cells _ _ bls).trans x1)
     have k2:=cellr ((SWR2.out.cells _ _ bls).trans x2)
     have ks:=cellr ((R2.out.1.cells _ _ l0W).trans (BS0.out.cell 0))
     have ki':∀ d os,(Sort.grow (redrawn wr d) os).cell? ⟨bi,oi + q,none⟩ = some (.slice Ar rn rc):=ki
     clear hfb hrh hAi hcf hcf' hci hrw ki
     subst hAi'
     cases fb with
     | true =>
      go_wp2_with fail
      refine wp_region_quiet_below (by kernel_rfl) (by kernel_rfl) ?_
      repeat (go_big_quiet_step (first | (go_at_call 18;exact cJ _ _)))
      refine wpQuiet_nil ?_
      intro _ hw'
      obtain ⟨⟨dq,osq⟩,hw''⟩:=hw'
      subst hw''
      have S1:=Lib.hid (R2.out.1.trans (Same.reg wr dq osq))
      generalize Sort.grow (redrawn wr dq) osq = wb at S1 ⊢
      clear cJ ki' kt k0 k1 k2 ks hr32
      go_wp2
      go_roundw
      case rel =>
       refine ⟨q + 1,by omega,by go_num,S1.out,fun j hj h => ?_⟩
       by_cases e:j < q
       ·exact R2.out.2 j hj e
       ·have e2:j = q:=by omega
        subst e2
        exact HFB.out.symm
      case measure => simp [intOf];omega
     | false =>
      go_wp2_with fail
      refine wp_region_quiet_below (by kernel_rfl) (by kernel_rfl) ?_
      repeat (go_big_quiet_step (first | (go_at_call 18;exact cJ _ _)))
      refine wpQuiet_nil ?_
      intro _ hw'
      obtain ⟨⟨dq,osq⟩,hw''⟩:=hw'
      subst hw''
      have S1:=Lib.hid (R2.out.1.trans (Same.reg wr dq osq))
      generalize Sort.grow (redrawn wr dq) osq = wb at S1 ⊢
      clear cJ ki' kt k0 k1 k2 ks hr32
      go_wp2_with fail
      show POST (Ending.returned (.tuple #[.pointer none,.int .i64 1])) wb
      exact HONE.out _ (S0.out.trans S1.out) (HBAD.out rs[q] (List.getElem_mem hlq) HFB.out.symm)
    ·have HG:=Lib.hid (HGOOD'.out wr R2.out.1 (fun j hj => R2.out.2 j hj (by omega)))
     go_wp2_with fail
     go_roundw
     case rel => exact ⟨q0 + 1,by omega,by go_num,HG.out⟩
     case measure => simp [intOf];omega
  ·have hF:Hid (fitsT (ts.map RT.tb) (rowsOf tbs) = true):=Lib.hid (fitsT_iff.2 ⟨by simpa [rowsOf] using HLE.out,fun i h1 h2 row hr => by
    simp only [rowsOf,List.getElem_map,Tbl.rows] at hr
    obtain ⟨r,hr',rfl⟩:=List.mem_map.1 hr
    have h1':i < tbs.length:=by simpa [rowsOf] using h1
    have:=R.out.2 i h1' (by have:=HLE.out;omega) (by omega) r hr'
    simpa using this⟩)
   have SR0:Hid (Same W0 wr):=R.out.1
   have SWR:Hid (Same w wr):=S0.out.trans SR0.out
   have b1:wr.cell? ⟨w.heap.size,0,none⟩ = some (.slice A ts.length cc):=(SR0.out.cells _ _ l0W).trans (BS0.out.cell 0)
   have BC1:=BC0.out.below SR0.out BC0.out.lt
   have cb0:=BC1.cell 0
   have cb1:=BC1.cell 1
   have cb2:=BC1.cell 2
   have cb3:=BC1.cell 3
   have cb4:=BC1.cell 4
   have cb5:=BC1.cell 5
   have cb6:=BC1.cell 6
   have cb7:=BC1.cell 7
   obtain ⟨E,hE⟩:∃ E,E = errOf (ts.map RT.tb) ⟨k,t,aa,nm,to_,⟨dk,dn,ds⟩⟩:=⟨_,rfl⟩
   rw [← hE] at HAP HERR HBORN
   have HEE:=Lib.hid hE
   have HAP':Hid (∀ W,Same w W → Calls Tryz.prog 8 #[.agg #[.slice A ts.length cc],.agg #[.int .i64 k,.string t,.string aa,.string nm,.int .i64 to_,.int .i64 dk,.int .i64 dn,.string ds]] W fun e w' => (∃ (A1:Option Addr) (m1 c1:Nat),e = .returned (.tuple #[.agg #[.slice A1 m1 c1],.int .i64 E]) ∧ (E = 0 → ∃ ts1,TabsAt w' ⟨A1,m1,c1⟩ ts1 ∧ ts1.map RT.tb = applyS (ts.map RT.tb) ⟨k,t,aa,nm,to_,⟨dk,dn,ds⟩⟩ ∧ NewIn W ⟨A,ts.length,cc⟩ ts ⟨A1,m1,c1⟩ ts1)) ∧ Same W w'):=HAP
   clear hE HAP BC1 R
   go_wp2_with fail
   refine (HAP'.out _ SWR.out).mono ?_
   rintro e w4 ⟨⟨A1,m1,c1,rfl,hz⟩,s4⟩
   have HZ:=Lib.hid hz
   have S04:Hid (Same W0 w4):=SR0.out.trans s4
   have SW4:Hid (Same w w4):=S0.out.trans S04.out
   clear hz s4 b1 cb0 cb1 cb2 cb3 cb4 cb5 cb6 cb7
   by_cases hE0:E = 0
   case neg =>
    have tE:(E != 0) = true:=by simp;exact hE0
    have HNE:=Lib.hid hE0
    clear hE0
    go_wp2_with fail
    show POST (Ending.returned (.tuple #[.pointer none,.int .i64 E])) _
    exact HERR.out _ (SW4.out.alloc _) HVB.out.symm hF.out HNE.out
   subst hE0
   obtain ⟨ts1,ta1,hm1,hni⟩:=HZ.out rfl
   go_upto_region 14 with (fail)
   obtain ⟨W5,hW5⟩:∃ W5,W5 = w4.alloc (.cells #[.slice A1 m1 c1] 24):=⟨_,rfl⟩
   have S45:Same w4 W5:=by rw [hW5];exact (Same.refl w4).alloc _
   have BN:Blk W5 w4.heap.size 24 #[.slice A1 m1 c1]:=by rw [hW5];exact Blk.new w4 _ _
   rw [← hW5]
   have S05:Hid (Same W0 W5):=S04.out.trans S45
   have SW5:Hid (Same w W5):=S0.out.trans S05.out
   have TA1:=Lib.hid (ta1.same S45)
   have HM1:=Lib.hid hm1
   have HNI:=Lib.hid (HZI.out _ _ _ SWR.out hni)
   have l0:w.heap.size < W5.heap.size:=Nat.lt_of_lt_of_le l0W S05.out.size
   have BC5:=BC0.out.below S05.out BC0.out.lt
   have l1:w.heap.size + 1 < W5.heap.size:=BC5.lt
   obtain ⟨bn,hbn⟩:∃ bn,bn = w4.heap.size:=⟨_,rfl⟩
   rw [← hbn] at BN ⊢
   have l9:bn < W5.heap.size:=BN.lt
   have z9:=BN.cell 0
   have z0:W5.cell? ⟨w.heap.size,0,none⟩ = some (.slice A ts.length cc):=(S05.out.cells _ _ l0W).trans (BS0.out.cell 0)
   have z1:=BC5.cell 0
   have z2:=BC5.cell 1
   have z3:=BC5.cell 2
   have z4:=BC5.cell 3
   have z5:=BC5.cell 4
   have z6:=BC5.cell 5
   have z7:=BC5.cell 6
   have z8:=BC5.cell 7
   clear hW5 S45 BN BC5 hbn ta1 hm1 hni HAP' HERR HONE
   obtain ⟨fi,hfi⟩:∃ fi,fi = findT (ts.map RT.tb) t:=⟨_,rfl⟩
   have HFD':Hid (Rt 16 #[.agg #[.slice A ts.length cc],.string t] w (.int .i64 fi)):=by rw [hfi];exact HFD
   have HCP':Hid (∀ W,Same w W → Calls Tryz.prog 62 #[.slice At_ tbs.length tc] W fun e w' => ∃ Ao no co ts2,e = .returned (.slice Ao no co) ∧ (OwnT w' W.heap.size ⟨Ao,no,co⟩ ts2 ∧ ts2.map Tbl.rs = tbs.map Tbl.rs) ∧ Same W w'):=Lib.hid fun W s => by
    refine (HCP.out W s).mono ?_
    rintro e w' ⟨⟨Ao,no,co⟩,ts2,he,o,s',hm⟩
    exact ⟨Ao,no,co,ts2,he,⟨o,hm⟩,s'⟩
   have HFIN:Hid (∀ (wy w':World) (Ao:Option Addr) (no co:Nat) (ts2:List Tbl),Same W5 wy → OwnT wy W5.heap.size ⟨Ao,no,co⟩ ts2 → ts2.map Tbl.rs = tbs.map Tbl.rs → (w' = (wy.alloc (.cells #[.slice A ts.length cc,.int .i64 k,.string t,.string aa,.string nm,.int .i64 to_,.int .i64 dk,.int .i64 dn,.string ds,.slice A1 m1 c1,.int .i64 fi,.slice Ao no co,.slice none 0 0,.bool false,.bool false] 108)) ∨ w' = (wy.alloc (.cells #[.slice A ts.length cc,.int .i64 k,.string t,.string aa,.string nm,.int .i64 to_,.int .i64 dk,.int .i64 dn,.string ds,.slice A1 m1 c1,.int .i64 fi,.slice Ao no co,.slice none 0 0,.bool false,.bool false] 108)).drew) → POST (.returned (.tuple #[.pointer (some ⟨wy.heap.size,0,none⟩),.int .i64 0])) w'):=Lib.hid fun wy w' Ao no co ts2 sy o hm hw' =>
    HBORN.out W5 wy w' A1 m1 c1 ts1 Ao no co ts2 HVB.out.symm hF.out (by first | trivial | rfl) SW5.out TA1.out HM1.out HNI.out sy o hm (by rw [hfi] at hw';exact hw')
   clear hfi HFD HCP HBORN HZI
   go_region_held3 (fun w' => w'.cell? ⟨w.heap.size,0,none⟩ = some (.slice A ts.length cc) ∧ w'.cell? ⟨w.heap.size + 1,0,none⟩ = some (.int .i64 k) ∧ w'.cell? ⟨w.heap.size + 1,1,none⟩ = some (.string t) ∧ w'.cell? ⟨w.heap.size + 1,2,none⟩ = some (.string aa) ∧ w'.cell? ⟨w.heap.size + 1,3,none⟩ = some (.string nm) ∧ w'.cell? ⟨w.heap.size + 1,4,none⟩ = some (.int .i64 to_) ∧ w'.cell? ⟨w.heap.size + 1,5,none⟩ = some (.int .i64 dk) ∧ w'.cell? ⟨w.heap.size + 1,6,none⟩ = some (.int .i64 dn) ∧ w'.cell? ⟨w.heap.size + 1,7,none⟩ = some (.string ds) ∧ w'.cell? ⟨bn,0,none⟩ = some (.slice A1 m1 c1)) (first | (simp [*];done) | ((repeat' apply And.intro) <;> (first | assumption | go_keep)))
    (first
     | (go_at_call 16;refine (HFD'.out _ ?_).mono ?_;(first | exact SCW.out | exact SW5.out.drew);rintro e wf ⟨rfl,sf⟩;have S5F:Hid (Same W5 wf):=(by first | exact S5C.out.trans sf | exact (Same.refl W5).drew.trans sf);have SFW:Hid (Same w wf):=SW5.out.trans S5F.out;have SF:=Lib.hid sf;have f0:=(S5F.out.cells _ _ l0).trans z0;have f1:=(S5F.out.cells _ _ l1).trans z1;have f2:=(S5F.out.cells _ _ l1).trans z2;have f3:=(S5F.out.cells _ _ l1).trans z3;have f4:=(S5F.out.cells _ _ l1).trans z4;have f5:=(S5F.out.cells _ _ l1).trans z5;have f6:=(S5F.out.cells _ _ l1).trans z6;have f7:=(S5F.out.cells _ _ l1).trans z7;have f8:=(S5F.out.cells _ _ l1).trans z8;have f9:=(S5F.out.cells _ _ l9).trans z9;clear sf)
     | (go_at_call 62;refine (HCP'.out _ ?_).mono ?_;(first | exact SFW.out | exact SW5.out.drew);rintro e wc ⟨Ao,no,co,ts2,rfl,⟨oc,hmc⟩,sc⟩;have S5C:Hid (Same W5 wc):=(by first | exact S5F.out.trans sc | exact (Same.refl W5).drew.trans sc);have SCW:Hid (Same w wc):=SW5.out.trans S5C.out;have OC:Hid (OwnT wc W5.heap.size ⟨Ao,no,co⟩ ts2):=(by first | exact Lib.hid (oc.base S5F.out.size) | exact Lib.hid (oc.base (Nat.le_refl _)));have HMC:=Lib.hid hmc;have SC:=Lib.hid sc;have g0:=(S5C.out.cells _ _ l0).trans z0;have g1:=(S5C.out.cells _ _ l1).trans z1;have g2:=(S5C.out.cells _ _ l1).trans z2;have g3:=(S5C.out.cells _ _ l1).trans z3;have g4:=(S5C.out.cells _ _ l1).trans z4;have g5:=(S5C.out.cells _ _ l1).trans z5;have g6:=(S5C.out.cells _ _ l1).trans z6;have g7:=(S5C.out.cells _ _ l1).trans z7;have g8:=(S5C.out.cells _ _ l1).trans z8;have g9:=(S5C.out.cells _ _ l9).trans z9;clear sc oc hmc))
   all_goals
    go_wp2_with fail
    first
     | (show POST (Ending.returned (.tuple #[.pointer (some ⟨wc.heap.size,0,none⟩),.int .i64 0])) _
        exact HFIN.out wc _ Ao no co ts2 S5C.out OC.out HMC.out (by first | exact .inl rfl | exact .inr rfl))
     | (show POST (Ending.returned (.tuple #[.pointer (some ⟨wf.heap.size,0,none⟩),.int .i64 0])) _
        exact HFIN.out wf _ Ao no co ts2 S5F.out (OC.out.same SF.out) HMC.out (by first | exact .inl rfl | exact .inr rfl))
end Go.Proofs.YtfifnemnihcijaaGreatDoor.R43

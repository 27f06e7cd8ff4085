import Derived.Test.YtfifnemnihcijaaGreatDoorKGa
set_option linter.unusedSimpArgs false
set_option linter.unusedVariables false
set_option maxHeartbeats 16000000
set_option maxRecDepth 100000
namespace Go.Proofs.YtfifnemnihcijaaGreatDoor
open Go.RowKit
theorem row_in_new2 {w w':World} {p p':MH} {m:Mg} (_d:MgAt w p m) (c:Chg p.own w w') (ho:∀ k,p'.own k → p.own k ∨ w.heap.size ≤ k) {r:Rw} (h:RowIn w (fun k => ¬ p.own k) r):RowIn w' (fun k => ¬ p'.own k) r:=by
 have h1:=row_in_new (p':=p') ho h
 exact ⟨h.1.chg c h.2,h1.2⟩
section
variable {w w1:World} {p:MH} {m:Mg}
theorem MgAt.outer_ne (d:MgAt w p m) {k:Nat} (hk:p.ho.val.ownBlock = some k):k ≠ p.g:=by
 rintro rfl
 obtain ⟨_,cs,h⟩:=row_ty d.oo hk
 exact Blk.ne_ h d.blk (by decide) rfl
theorem MgAt.inner_ne (d:MgAt w p m) {t:Tbl} (ht:t ∈ p.tb) {k:Nat} (hk:t.h.val.ownBlock = some k):k ≠ p.g:=by
 rintro rfl
 obtain ⟨_,cs,h⟩:=row_ty (d.oi t ht).1 hk
 exact Blk.ne_ h d.blk (by decide) rfl
theorem MgAt.done_ne (d:MgAt w p m) {k:Nat} (hk:p.hd.val.ownBlock = some k):k ≠ p.g:=by
 rintro rfl
 obtain ⟨_,cs,h⟩:=row_ty d.od hk
 exact Blk.ne_ h d.blk (by decide) rfl
theorem MgAt.outer_inner (d:MgAt w p m) {t:Tbl} (ht:t ∈ p.tb) {k:Nat} (hk:t.h.val.ownBlock = some k):p.ho.val.ownBlock ≠ some k:=by
 intro h2
 obtain ⟨_,cs,h⟩:=row_ty (d.oi t ht).1 hk
 obtain ⟨_,cs',h'⟩:=row_ty d.oo h2
 exact Blk.ne_ h h' (by decide) rfl
theorem MgAt.outer_done (d:MgAt w p m) {k:Nat} (hk:p.hd.val.ownBlock = some k):p.ho.val.ownBlock ≠ some k:=by
 intro h2
 obtain ⟨_,cs,h⟩:=row_ty d.od hk
 obtain ⟨_,cs',h'⟩:=row_ty d.oo h2
 exact Blk.ne_ h h' (by decide) rfl
theorem MgAt.flag (d:MgAt w p m) (m':Mg) (i:Nat) (v:Value) (hc:p.cells m' = (p.cells m).setIfInBounds i v) (e1:m'.s = m.s) (e2:m'.c = m.c) (e3:m'.tabs = m.tabs) (e4:m'.done = m.done) (hf:m'.Fine) :
  MgAt (w.setCell ⟨p.g,i,none⟩ v) p m' ∧ Chg p.own w (w.setCell ⟨p.g,i,none⟩ v):=by
 have c:Chg (fun k => k = p.g) w (w.setCell ⟨p.g,i,none⟩ v):=(Chg.refl _ _).setCell _ _ (fun _ => rfl)
 have c':Chg p.own w (w.setCell ⟨p.g,i,none⟩ v):=c.mono fun k _ e => .inl e
 have st:=d.st
 refine ⟨d.turned c' ⟨st.ts,by rw [e1];exact st.tsm,st.few,st.tsl,st.tn,by rw [e1,e2];exact st.tnm,st.fewn,by rw [e2];exact st.okn,by rw [e2];exact st.okd,st.laid,st.WB,st.gB⟩ rfl rfl rfl rfl rfl rfl e2 (MH.Like.refl p) d.rl d.rh ?_ ?_ d.oh ?_ (by rw [e3];exact d.tr) ?_ d.dh (by rw [e4];exact d.dr) ?_ ?_ d.ai d.ad hf,c'⟩
 ·rw [hc];exact d.blk.set_ i v
 ·exact own_chg d.oo c fun k hk => d.outer_ne hk
 ·exact fun t ht => ⟨own_chg (d.oi t ht).1 c fun k hk => d.inner_ne ht hk,(d.oi t ht).2⟩
 ·exact own_chg d.od c fun k hk => d.done_ne hk
 ·exact fun t ht r hr => (d.rr t ht r hr).chg c' fun k hk => hk
 ·exact fun r hr => (d.rd r hr).chg c' fun k hk => hk
theorem MgAt.push (d:MgAt w p m) {h:Hd} {row:Row} {o:Obj} (hr:RowIn w (fun k => ¬ p.own k) ⟨h,row⟩) (hhi:In p.hi h) {A:Option Addr} {n c:Nat} (G:(w.alloc o).grownBy w1 p.hd.val.ownBlock)
  (o1:w1.ownsRow p.B 29 1 (.slice A n c) (p.dr.length + 1) (p.dr.flatMap Rw.cell ++ [h.val])) (hat:(Value.slice A n c).ownBlock = p.hd.val.ownBlock ∨ (Value.slice A n c).ownBlock = some (w.alloc o).heap.size)
  (hf:({ m with done:=m.done ++ [row] }:Mg).Fine) :
  MgAt (w1.setCell ⟨p.g,4,none⟩ (.slice A n c)) { p with hd:=⟨A,n,c⟩,dr:=p.dr ++ [⟨h,row⟩] } { m with done:=m.done ++ [row] } ∧
  Chg p.own w (w1.setCell ⟨p.g,4,none⟩ (.slice A n c)) ∧ ∀ k,MH.own { p with hd:=⟨A,n,c⟩,dr:=p.dr ++ [⟨h,row⟩] } k → p.own k ∨ w.heap.size ≤ k:=by
 have c1:Chg (fun k => p.hd.val.ownBlock = some k) w w1:=((Chg.refl _ w).alloc o).grown G fun k hk _ => hk
 have c2:Chg (fun k => k = p.g) w1 (w1.setCell ⟨p.g,4,none⟩ (.slice A n c)):=(Chg.refl _ _).setCell _ _ (fun _ => rfl)
 have c3:Chg (fun k => p.hd.val.ownBlock = some k ∨ k = p.g) w (w1.setCell ⟨p.g,4,none⟩ (.slice A n c)):=(c1.mono fun k _ e => .inl e).trans c2 fun i _ e => .inr e
 have c':Chg p.own w (w1.setCell ⟨p.g,4,none⟩ (.slice A n c)):=c3.mono fun k _ e => e.elim (fun e => .inr (.inr (.inr e))) .inl
 have ho:∀ k,MH.own { p with hd:=⟨A,n,c⟩,dr:=p.dr ++ [⟨h,row⟩] } k → p.own k ∨ w.heap.size ≤ k:=by
  intro k hk
  rcases hk with hk | hk | hk | hk
  ·exact .inl (.inl hk)
  ·exact .inl (.inr (.inl hk))
  ·exact .inl (.inr (.inr (.inl hk)))
  ·have hk':(Value.slice A n c).ownBlock = some k:=hk
   rcases hat with e | e
   ·exact .inl (.inr (.inr (.inr (e ▸ hk'))))
   ·right
    rw [e] at hk'
    injection hk' with hk'
    rw [← hk'];simp
 have st:=d.st
 have hn:n = p.dr.length + 1:=by
  obtain ⟨g,cap,hv,_⟩:=o1.form (Nat.succ_pos _)
  injection hv
 have gb1:Blk w1 p.g 106 (p.cells m):=d.blk.chg c1 fun e => d.done_ne e rfl
 refine ⟨d.turned c' ⟨st.ts,st.tsm,st.few,st.tsl,st.tn,st.tnm,st.fewn,st.okn,st.okd,st.laid,st.WB,st.gB⟩ rfl rfl rfl rfl rfl rfl rfl ⟨rfl,rfl,rfl⟩ d.rl ?_ ?_ ?_ d.oh ?_ d.tr ?_ ?_ ?_ ?_ ?_ d.ai ?_ hf,c',ho⟩
 ·intro r hr'
  rcases List.mem_append.1 hr' with h1 | h1
  ·exact d.rh r h1
  ·rw [List.mem_singleton.1 h1];exact hhi
 ·exact gb1.set_ 4 (.slice A n c)
 ·exact own_chg d.oo c3 fun k hk e => e.elim (fun e => d.outer_done e hk) (d.outer_ne hk)
 ·exact fun t ht => ⟨own_chg (d.oi t ht).1 c3 fun k hk e => e.elim (fun e => d.ad t ht k hk e) (d.inner_ne ht hk),(d.oi t ht).2⟩
 ·have e1:({ p with hd:=⟨A,n,c⟩,dr:=p.dr ++ [⟨h,row⟩] }:MH).dr.flatMap Rw.cell = p.dr.flatMap Rw.cell ++ [h.val]:=by
   show (p.dr ++ [(⟨h,row⟩:Rw)]).flatMap Rw.cell = _
   rw [List.flatMap_append];rfl
  rw [e1]
  show (w1.setCell ⟨p.g,4,none⟩ (.slice A n c)).ownsRow p.B 29 1 (.slice A n c) (p.dr ++ [(⟨h,row⟩:Rw)]).length _
  rw [List.length_append]
  refine own_far o1 (fun e => ?_) 4 _
  obtain ⟨_,cs,hb⟩:=row_ty o1 e
  exact Blk.ne_ hb gb1 (by decide) rfl
 ·show n = (p.dr ++ [(⟨h,row⟩:Rw)]).length
  rw [List.length_append];exact hn
 ·show (p.dr ++ [(⟨h,row⟩:Rw)]).map Rw.v = m.done ++ [row]
  rw [List.map_append,d.dr];rfl
 ·exact fun t ht r hr' => row_in_new2 d c' ho (d.rr t ht r hr')
 ·intro r hr'
  rcases List.mem_append.1 hr' with h1 | h1
  ·exact row_in_new2 d c' ho (d.rd r h1)
  ·rw [List.mem_singleton.1 h1]
   exact row_in_new2 d c' ho hr
 ·intro t ht k hk
  show (Value.slice A n c).ownBlock ≠ some k
  rcases hat with e | e
  ·rw [e];exact d.ad t ht k hk
  ·rw [e]
   intro h2
   injection h2 with h2
   obtain ⟨_,cs,hb⟩:=row_ty (d.oi t ht).1 hk
   have:=hb.lt
   simp at h2
   omega
end
theorem conv1_raw (gs gc gm g n c rn rc:Nat) (A Ar:Option Addr) (k to_ dk dn ti E:Int) (t aa nm ds:ByteArray) (R:Option Addr → Nat → Nat → World → Prop) (w:World)
  (l0:gs < w.heap.size) (l1:gc < w.heap.size) (l2:gm < w.heap.size) (l3:g < w.heap.size)
  (h0:w.cell? ⟨gs,0,none⟩ = some (.slice A n c)) (h1:w.cell? ⟨gm,0,none⟩ = some (.pointer (some ⟨g,0,none⟩))) (h2:w.cell? ⟨g,2,none⟩ = some (.int .i64 ti))
  (c0:w.cell? ⟨gc,0,none⟩ = some (.int .i64 k)) (c1:w.cell? ⟨gc,1,none⟩ = some (.string t)) (c2:w.cell? ⟨gc,2,none⟩ = some (.string aa)) (c3:w.cell? ⟨gc,3,none⟩ = some (.string nm))
  (c4:w.cell? ⟨gc,4,none⟩ = some (.int .i64 to_)) (c5:w.cell? ⟨gc,5,none⟩ = some (.int .i64 dk)) (c6:w.cell? ⟨gc,6,none⟩ = some (.int .i64 dn)) (c7:w.cell? ⟨gc,7,none⟩ = some (.string ds))
  (HC:Hid (∀ W,Same w W → Calls Tryz.prog 9 #[.agg #[.slice A n c],.agg #[.int .i64 k,.string t,.string aa,.string nm,.int .i64 to_,.int .i64 dk,.int .i64 dn,.string ds],.int .i64 ti,.slice Ar rn rc] W fun e w' => ∃ A' n' c',e = .returned (.tuple #[.slice A' n' c',.int .i64 E]) ∧ R A' n' c' w' ∧ Same W w')) :
  Calls Tryz.prog 61 #[.slice Ar rn rc,.pointer (some ⟨gs,0,none⟩),.pointer (some ⟨gc,0,none⟩),.pointer (some ⟨gm,0,none⟩)] w fun e w' => ∃ A' n' c',e = .returned (.tuple #[.slice A' n' c',.int .i64 E]) ∧ R A' n' c' w' ∧ Same w w':=by
 go_enter Tryz.func61,Tryz.ntmps61
 go_wp2_with fail
 go_region_held3 (fun w' => w'.cell? ⟨gs,0,none⟩ = some (.slice A n c) ∧ w'.cell? ⟨gm,0,none⟩ = some (.pointer (some ⟨g,0,none⟩)) ∧ w'.cell? ⟨g,2,none⟩ = some (.int .i64 ti) ∧ w'.cell? ⟨gc,0,none⟩ = some (.int .i64 k) ∧ w'.cell? ⟨gc,1,none⟩ = some (.string t) ∧ w'.cell? ⟨gc,2,none⟩ = some (.string aa) ∧ w'.cell? ⟨gc,3,none⟩ = some (.string nm) ∧ w'.cell? ⟨gc,4,none⟩ = some (.int .i64 to_) ∧ w'.cell? ⟨gc,5,none⟩ = some (.int .i64 dk) ∧ w'.cell? ⟨gc,6,none⟩ = some (.int .i64 dn) ∧ w'.cell? ⟨gc,7,none⟩ = some (.string ds)) (first | (simp [*];done) | ((repeat' apply And.intro) <;> (first | assumption | go_keep)))
  ((go_at_call 9;refine (HC.out _ ?_).mono ?_;exact (Same.refl w).drew;rintro e w1 ⟨A',n',c',rfl,hR,s1⟩;have S1:Hid (Same w w1):=Same.trans ((Same.refl w).drew) s1;have u0:=(S1.out.cells _ 0 l0).trans h0;have u1:=(S1.out.cells _ 0 l2).trans h1;have u2:=(S1.out.cells _ 2 l3).trans h2;have v0:=(S1.out.cells _ 0 l1).trans c0;have v1:=(S1.out.cells _ 1 l1).trans c1;have v2:=(S1.out.cells _ 2 l1).trans c2;have v3:=(S1.out.cells _ 3 l1).trans c3;have v4:=(S1.out.cells _ 4 l1).trans c4;have v5:=(S1.out.cells _ 5 l1).trans c5;have v6:=(S1.out.cells _ 6 l1).trans c6;have v7:=(S1.out.cells _ 7 l1).trans c7;have RR:=Lib.hid hR;clear s1 hR))
 all_goals
  go_wp2_with fail
  go_ret2
  exact ⟨A',n',c',rfl,RR.out,S1.out⟩
theorem conv1_mid (gs gc gm g:Nat) (hs hr:Hd) (cg:Cg) (ti E:Int) (R:Option Addr → Nat → Nat → World → Prop) (w:World)
  (l0:gs < w.heap.size) (l1:gc < w.heap.size) (l2:gm < w.heap.size) (l3:g < w.heap.size)
  (h0:w.cell? ⟨gs,0,none⟩ = some hs.val) (h1:w.cell? ⟨gm,0,none⟩ = some (.pointer (some ⟨g,0,none⟩))) (h2:w.cell? ⟨g,2,none⟩ = some (.int .i64 ti))
  (hc:∀ i,w.cell? ⟨gc,i,none⟩ = cg.arr[i]?)
  (HC:∀ W,Same w W → Calls Tryz.prog 9 #[.agg #[hs.val],cg.val,.int .i64 ti,hr.val] W fun e w' => ∃ A' n' c',e = .returned (.tuple #[.slice A' n' c',.int .i64 E]) ∧ R A' n' c' w' ∧ Same W w') :
  Calls Tryz.prog 61 #[hr.val,.pointer (some ⟨gs,0,none⟩),.pointer (some ⟨gc,0,none⟩),.pointer (some ⟨gm,0,none⟩)] w fun e w' => ∃ A' n' c',e = .returned (.tuple #[.slice A' n' c',.int .i64 E]) ∧ R A' n' c' w' ∧ Same w w':=by
 obtain ⟨A,n,c⟩:=hs
 obtain ⟨Ar,rn,rc⟩:=hr
 obtain ⟨k,t,aa,nm,to_,⟨dk,dn,ds⟩⟩:=cg
 exact conv1_raw gs gc gm g n c rn rc A Ar k to_ dk dn ti E t aa nm ds R w l0 l1 l2 l3 h0 h1 h2 (hc 0) (hc 1) (hc 2) (hc 3) (hc 4) (hc 5) (hc 6) (hc 7) (Lib.hid HC)
theorem MgAt.row_len {w:World} {p:MH} {m:Mg} (d:MgAt w p m) {row:Row} (hr:row ∈ m.rows):row.length ≤ 12:=by
 have hv:validB m.s = true:=(errOf_zero d.fine.err).2.1
 have h1:m.ti < m.tabs.length:=by rw [d.fine.len];exact d.fine.til
 have e:m.rows = m.tabs[m.ti]:=by unfold Mg.rows;rw [List.getD_eq_getElem?_getD,List.getElem?_eq_getElem h1];rfl
 rw [e] at hr
 have hf:=d.fine.fit m.ti h1 d.fine.til row hr
 have:=((valid_iff.1 hv).2 m.ti d.fine.til).1.l12
 have:=(fits_iff.1 hf).1
 omega
theorem conv1_ok {w:World} {p:MH} {m:Mg} (d:MgAt w p m) {hr:Hd} {row:Row} (r:RowAt w hr row) (hl:row.length ≤ 1000000) :
  Calls Tryz.prog 61 #[hr.val,.pointer (some ⟨p.gs,0,none⟩),.pointer (some ⟨p.gc,0,none⟩),.pointer (some ⟨p.gm,0,none⟩)] w fun e w' => ∃ A' n' c',e = .returned (.tuple #[.slice A' n' c',.int .i64 (convS m.s m.c m.ti row).2]) ∧ (RowAt w' ⟨A',n',c'⟩ (convS m.s m.c m.ti row).1 ∧ Fresh w.heap.size ⟨A',n',c'⟩) ∧ Same w w':=by
 have st:=d.st
 have HC:∀ W,Same w W → Calls Tryz.prog 9 #[.agg #[p.hs.val],m.c.val,.int .i64 m.ti,hr.val] W fun e w' => ∃ A' n' c',e = .returned (.tuple #[.slice A' n' c',.int .i64 (convS m.s m.c m.ti row).2]) ∧ (RowAt w' ⟨A',n',c'⟩ (convS m.s m.c m.ti row).1 ∧ Fresh w.heap.size ⟨A',n',c'⟩) ∧ Same W w':=by
  intro W s
  refine (convert_ok p.hs p.ts m.c m.ti hr row W (st.laid.same (d.same.trans s)) (st.ts.same (d.same.trans s)) st.few st.okn st.okd (r.same s) hl st.tsl).mono ?_
  rintro e w' ⟨⟨⟨A',n',c'⟩,he,hR,hF⟩,s'⟩
  rw [st.tsm] at he hR
  exact ⟨A',n',c',he,⟨hR,fun a ha => Nat.le_trans s.size (hF a ha)⟩,s'⟩
 exact conv1_mid p.gs p.gc p.gm p.g p.hs hr m.c m.ti _ (fun A' n' c' w' => RowAt w' ⟨A',n',c'⟩ (convS m.s m.c m.ti row).1 ∧ Fresh w.heap.size ⟨A',n',c'⟩) w d.bs.lt d.bc.lt d.bm.lt d.blk.lt (d.bs.cell 0) (d.bm.cell 0) (d.cell 2) (fun i => d.bc.cell i) HC
theorem MgAt.round {w:World} {p:MH} {m:Mg} (d:MgAt w p m) (hl:m.done.length < m.rows.length):∃ (go oc tn gi ic rl dl dc rn rc:Nat) (Ad Ar:Option Addr),
  (w.cell? ⟨p.g,2,none⟩ = some (.int .i64 m.ti) ∧ w.cell? ⟨p.g,3,none⟩ = some (.slice (some ⟨go,0,none⟩) tn oc) ∧ w.cell? ⟨p.g,4,none⟩ = some (.slice Ad dl dc) ∧ w.cell? ⟨p.g,5,none⟩ = some p.conv) ∧
  (w.cell? ⟨go,m.ti,none⟩ = some (.slice (some ⟨gi,0,none⟩) rl ic) ∧ w.cell? ⟨gi,dl,none⟩ = some (.slice Ar rn rc)) ∧ (m.ti < tn ∧ tn ≤ 9223372036854775807 ∧ dl < rl ∧ rl ≤ 9223372036854775807) ∧
  (p.hd = ⟨Ad,dl,dc⟩ ∧ dl = p.dr.length ∧ dl = m.done.length ∧ RowIn w (fun k => ¬ p.own k) ⟨⟨Ar,rn,rc⟩,m.rows[m.done.length]⟩):=by
 obtain ⟨go,oc,ho,hB,hc⟩:=d.outer
 obtain ⟨hti,hr⟩:=d.rows
 have hdl:m.done.length = p.dr.length:=by rw [← d.dr];simp
 obtain ⟨oi,oin⟩:=d.oi _ (List.getElem_mem hti)
 have hrl:m.rows.length = p.tb[m.ti].rs.length:=by rw [hr];simp [Tbl.rows]
 have hpos:0 < p.tb[m.ti].rs.length:=by omega
 have hd4:w.cell? ⟨p.g,4,none⟩ = some p.hd.val:=d.cell 4
 have h3:w.cell? ⟨p.g,3,none⟩ = some p.ho.val:=d.cell 3
 have hrr:=d.rr _ (List.getElem_mem hti)
 have hcell:=(hc m.ti hti).1
 have hdn:=d.dh
 have hrow:∀ (h:m.done.length < p.tb[m.ti].rs.length),m.rows[m.done.length] = (p.tb[m.ti].rs[m.done.length]).v:=by
  intro h
  have:m.rows[m.done.length]? = (p.tb[m.ti].rows)[m.done.length]?:=by rw [hr]
  rw [List.getElem?_eq_getElem hl] at this
  unfold Tbl.rows at this
  rw [List.getElem?_map,List.getElem?_eq_getElem h] at this
  exact Option.some.inj this
 generalize p.tb[m.ti] = t at oi oin hrl hpos hrr hcell hrow
 obtain ⟨⟨Ai,ni,ci⟩,rs⟩:=t
 simp only at oi oin hrl hpos hrr hcell hrow
 subst oin
 obtain ⟨gi,cur,hAi,_⟩:=own_blk oi hpos
 subst hAi
 have hlt:m.done.length < rs.length:=by omega
 have hrc:=own_cell Rw.clen oi rfl m.done.length hlt 0 (by decide)
 have hin:=hrr _ (List.getElem_mem hlt)
 rw [hrow hlt]
 generalize rs[m.done.length] = r at hrc hin
 obtain ⟨⟨Ar,rn,rc⟩,rv⟩:=r
 generalize p.hd = q at hd4 hdn
 obtain ⟨Ad,dn,dc⟩:=q
 simp only at hdn
 subst hdn
 refine ⟨go,oc,p.tb.length,gi,ci,rs.length,p.dr.length,dc,rn,rc,Ad,Ar,⟨d.cell 2,by rw [h3,ho];rfl,hd4,d.cell 5⟩,⟨hcell,?_⟩,⟨hti,own_max d.oo,by omega,own_max oi⟩,rfl,rfl,hdl.symm,hin⟩
 rw [← hdl]
 simpa [Rw.cell,Hd.val] using hrc
theorem Mg.one_ok {m:Mg} (hf:m.failed = false) (hl:m.done.length < m.rows.length) (hz:(convS m.s m.c m.ti m.rows[m.done.length]).2 = 0):m.one = { m with done:=m.done ++ [(convS m.s m.c m.ti m.rows[m.done.length]).1] }:=by
 rcases m.one_cases with ⟨_,h⟩ | ⟨_,_,_,e⟩ | ⟨_,_,h,_⟩
 ·rcases h with h | h
  ·rw [hf] at h;cases h
  ·omega
 ·exact e
 ·exact absurd hz h
theorem Mg.one_bad {m:Mg} (hf:m.failed = false) (hl:m.done.length < m.rows.length) (hz:(convS m.s m.c m.ti m.rows[m.done.length]).2 ≠ 0):m.one = { m with failed:=true }:=by
 rcases m.one_cases with ⟨_,h⟩ | ⟨_,_,h,_⟩ | ⟨_,_,_,e⟩
 ·rcases h with h | h
  ·rw [hf] at h;cases h
  ·omega
 ·exact absurd h hz
 ·exact e
theorem Mg.steps_stop {m:Mg} {j n:Nat} (hj:j ≤ n) (hf:(m.steps j).failed = true):m.steps n = m.steps j:=by
 obtain ⟨k,rfl⟩:∃ k,n = j + k:=⟨n - j,by omega⟩
 rw [Mg.steps_add,Mg.steps_failed _ _ hf]
theorem MTurn.then_ {w w1 w2:World} {p:MH} {p1:MH} {m2:Mg} (hg:p1.g = p.g) (hW:p1.W0 = p.W0) (hB:MH.Like p1 p) (c:Chg p.own w w1) (ho:∀ k,p1.own k → p.own k ∨ w.heap.size ≤ k)
  {p2:MH} (d2:MgAt w2 p2 m2) (g2:p2.g = p1.g) (W2:p2.W0 = p1.W0) (B2:MH.Like p2 p1) (c2:Chg p1.own w1 w2) (o2:∀ k,p2.own k → p1.own k ∨ w1.heap.size ≤ k):MTurn w w2 p m2:=
 MTurn.trans hg hW hB c ho ⟨p2,d2,g2,W2,B2,c2,o2⟩
theorem MgAt.push' {wr w1 w2:World} {p:MH} {m:Mg} (d:MgAt wr p m) (hf:m.failed = false) (hl:m.done.length < m.rows.length) (s1:Same wr w1) {cv:Row × Int} (hcv:cv = convS m.s m.c m.ti m.rows[m.done.length]) (hz:cv.2 = 0)
  {A':Option Addr} {n' c':Nat} (R:RowAt w1 ⟨A',n',c'⟩ cv.1) (F:Fresh wr.heap.size ⟨A',n',c'⟩) {Ad:Option Addr} {dl dc:Nat} (hhd:p.hd = ⟨Ad,dl,dc⟩) (hdl:dl = p.dr.length) {o:Obj} {A2:Option Addr} {n2 c2:Nat}
  (G:(w1.alloc o).grownBy w2 (Value.slice Ad dl dc).ownBlock) (own:w2.ownsRow p.B 29 1 (.slice A2 n2 c2) (dl + 1) (p.dr.flatMap Rw.cell ++ [.slice A' n' c']))
  (hat:(Value.slice A2 n2 c2).ownBlock = (Value.slice Ad dl dc).ownBlock ∨ (Value.slice A2 n2 c2).ownBlock = some (w1.alloc o).heap.size) :
  ∃ p2,MgAt (w2.setCell ⟨p.g,4,none⟩ (.slice A2 n2 c2)) p2 m.one ∧ p2.g = p.g ∧ p2.W0 = p.W0 ∧ MH.Like p2 p ∧ Chg p.own wr (w2.setCell ⟨p.g,4,none⟩ (.slice A2 n2 c2)) ∧ ∀ k,p2.own k → p.own k ∨ wr.heap.size ≤ k:=by
 have d1:=d.next s1
 have hv:p.hd.val = .slice Ad dl dc:=by rw [hhd];rfl
 have e1:=Mg.one_ok hf hl (by rw [← hcv];exact hz)
 have hr:RowIn w1 (fun k => ¬ p.own k) ⟨⟨A',n',c'⟩,cv.1⟩:=⟨R,(F.in_ R).mono fun k hk hk' => by have:=d.own_lt hk';omega⟩
 have hfine:({ m with done:=m.done ++ [cv.1] }:Mg).Fine:=by
  have:=d.fine.one
  rw [e1] at this
  rw [hcv];exact this
 obtain ⟨d2,c2',o2⟩:=d1.push (h:=⟨A',n',c'⟩) (row:=cv.1) hr ((F.in_ R).mono fun k hk => d.hw k hk.1) (by rw [hv];exact G) (by rw [← hdl];exact own) (by rw [hv];exact hat) hfine
 rw [e1,← hcv]
 exact ⟨_,d2,rfl,rfl,⟨rfl,rfl,rfl⟩,(Chg.of_same s1).trans c2' (fun _ _ h => h),fun k hk => (o2 k hk).imp id (fun h => Nat.le_trans s1.size h)⟩
theorem MgAt.fail' {wr w1:World} {p:MH} {m:Mg} (d:MgAt wr p m) (hf:m.failed = false) (hl:m.done.length < m.rows.length) (s1:Same wr w1) {cv:Row × Int} (hcv:cv = convS m.s m.c m.ti m.rows[m.done.length]) (hz:cv.2 ≠ 0) :
  MgAt (w1.setCell ⟨p.g,6,none⟩ (.bool true)) p m.one ∧ Chg p.own wr (w1.setCell ⟨p.g,6,none⟩ (.bool true)) ∧ m.one.failed = true ∧ m.one.left = m.left:=by
 have d1:=d.next s1
 have e1:=Mg.one_bad hf hl (by rw [← hcv];exact hz)
 have hfine:({ m with failed:=true }:Mg).Fine:=by
  have:=d.fine.one
  rwa [e1] at this
 obtain ⟨d2,c2⟩:=d1.flag { m with failed:=true } 6 (.bool true) rfl rfl rfl rfl rfl hfine
 rw [e1]
 exact ⟨d2,(Chg.of_same s1).trans c2 (fun _ _ h => h),rfl,rfl⟩
theorem MgAt.done_cell {wr:World} {p:MH} {m:Mg} (d:MgAt wr p m) {Ad:Option Addr} {dl dc:Nat} (hhd:p.hd = ⟨Ad,dl,dc⟩) (W:World) (o:Obj) (w2:World) (s:Same wr W) (G:(W.alloc o).grownBy w2 (Value.slice Ad dl dc).ownBlock) :
  w2.cell? ⟨p.g,4,none⟩ = some (.slice Ad dl dc) ∧ w2.frozen? ⟨p.g,4,none⟩ = false:=by
 have hv:p.hd.val = .slice Ad dl dc:=by rw [hhd];rfl
 have b:=(((d.next s).blk).alloc o).grown G (fun e => (d.next s).done_ne (by rw [hv];exact e.symm) rfl)
 refine ⟨?_,b.frozen 4⟩
 rw [b.cell 4,← hv];rfl
theorem rows_put (tb:List Tbl) (i:Nat) (hi:i < tb.length) (h:Hd) (r:Rw):rowsOf (tb.set i ⟨h,tb[i].rs ++ [r]⟩) = putT (rowsOf tb) i r.v:=by
 apply List.ext_getElem (by simp [rowsOf,putT])
 intro j h1 h2
 have hj:j < tb.length:=by simpa [rowsOf] using h1
 simp only [rowsOf,putT,Int.toNat_natCast]
 rw [List.getElem_map,List.getElem_modify,List.getElem_set]
 by_cases e:i = j
 ·subst e
  simp [Tbl.rows]
 ·simp [e]
theorem MgAt.putRow {w w1:World} {p:MH} {m:Mg} (d:MgAt w p m) (i:Nat) (hi:i < p.tb.length) {go oc:Nat} (ho:p.ho = ⟨some ⟨go,0,none⟩,p.tb.length,oc⟩) {h:Hd} {row:Row} {o:Obj} (hr:RowIn w (fun k => ¬ p.own k) ⟨h,row⟩) (hlo:In (fun k => k < p.lo) h) {A:Option Addr} {n c:Nat}
  (G:(w.alloc o).grownBy w1 p.tb[i].h.val.ownBlock) (o1:w1.ownsRow p.B 29 1 (.slice A n c) (p.tb[i].rs.length + 1) (p.tb[i].rs.flatMap Rw.cell ++ [h.val]))
  (hat:(Value.slice A n c).ownBlock = p.tb[i].h.val.ownBlock ∨ (Value.slice A n c).ownBlock = some (w.alloc o).heap.size) (hf:({ m with tabs:=putT m.tabs i row }:Mg).Fine) :
  MgAt (w1.setCell ⟨go,i,none⟩ (.slice A n c)) { p with tb:=p.tb.set i ⟨⟨A,n,c⟩,p.tb[i].rs ++ [⟨h,row⟩]⟩ } { m with tabs:=putT m.tabs i row } ∧
  Chg p.own w (w1.setCell ⟨go,i,none⟩ (.slice A n c)) ∧ ∀ k,MH.own { p with tb:=p.tb.set i ⟨⟨A,n,c⟩,p.tb[i].rs ++ [⟨h,row⟩]⟩ } k → p.own k ∨ w.heap.size ≤ k:=by
 obtain ⟨nt,hnt⟩:∃ nt:Tbl,nt = ⟨⟨A,n,c⟩,p.tb[i].rs ++ [⟨h,row⟩]⟩:=⟨_,rfl⟩
 rw [← hnt]
 have hti:p.tb[i] ∈ p.tb:=List.getElem_mem hi
 have hgo:p.ho.val.ownBlock = some go:=by rw [ho];rfl
 have c1:Chg (fun k => p.tb[i].h.val.ownBlock = some k) w w1:=((Chg.refl _ w).alloc o).grown G fun k hk _ => hk
 have c2:Chg (fun k => k = go) w1 (w1.setCell ⟨go,i,none⟩ (.slice A n c)):=(Chg.refl _ _).setCell _ _ (fun _ => rfl)
 have c3:Chg (fun k => p.tb[i].h.val.ownBlock = some k ∨ k = go) w (w1.setCell ⟨go,i,none⟩ (.slice A n c)):=(c1.mono fun k _ e => .inl e).trans c2 fun i _ e => .inr e
 have c':Chg p.own w (w1.setCell ⟨go,i,none⟩ (.slice A n c)):=c3.mono fun k _ e => e.elim (fun e => .inr (.inr (.inl ⟨_,hti,e⟩))) (fun e => .inr (.inl (by rw [e];exact hgo)))
 have hnb:∀ k,nt.h.val.ownBlock = some k → p.tb[i].h.val.ownBlock = some k ∨ (k = (w.alloc o).heap.size ∧ w.heap.size ≤ k):=by
  intro k hk
  rw [hnt] at hk
  have hk':(Value.slice A n c).ownBlock = some k:=hk
  rcases hat with e | e
  ·exact .inl (e ▸ hk')
  ·right
   rw [e] at hk'
   injection hk' with hk'
   exact ⟨hk'.symm,by rw [← hk'];simp⟩
 have howp:∀ k,MH.own { p with tb:=p.tb.set i nt } k → p.own k ∨ w.heap.size ≤ k:=by
  intro k hk
  rcases hk with hk | hk | ⟨t,ht,hk⟩ | hk
  ·exact .inl (.inl hk)
  ·exact .inl (.inr (.inl hk))
  ·rcases List.mem_or_eq_of_mem_set (show t ∈ p.tb.set i nt from ht) with h1 | h1
   ·exact .inl (.inr (.inr (.inl ⟨t,h1,hk⟩)))
   ·rw [h1] at hk
    rcases hnb k hk with h2 | h2
    ·exact .inl (.inr (.inr (.inl ⟨_,hti,h2⟩)))
    ·exact .inr h2.2
  ·exact .inl (.inr (.inr (.inr hk)))
 have st:=d.st
 have hn:n = p.tb[i].rs.length + 1:=by
  obtain ⟨g,cap,hv,_⟩:=o1.form (Nat.succ_pos _)
  injection hv
 have hng:p.g ≠ go:=fun e => d.outer_ne hgo e.symm
 have gb:Blk (w1.setCell ⟨go,i,none⟩ (.slice A n c)) p.g 106 (p.cells m):=d.blk.chg c3 fun e => e.elim (fun e => d.inner_ne hti e rfl) hng
 have hset:∀ j (hj:j < (p.tb.set i nt).length),(∃ hj':j < p.tb.length,j ≠ i ∧ (p.tb.set i nt)[j] = p.tb[j]) ∨ (j = i ∧ (p.tb.set i nt)[j] = nt):=by
  intro j hj
  have hj':j < p.tb.length:=by simpa using hj
  by_cases e:j = i
  ·subst e;exact .inr ⟨rfl,by simp⟩
  ·exact .inl ⟨hj',e,by rw [List.getElem_set_ne (Ne.symm e)]⟩
 have hlt:∀ (j:Nat) (hj:j < p.tb.length) k,p.tb[j].h.val.ownBlock = some k → k < w.heap.size:=by
  intro j hj k hk
  obtain ⟨_,cs,hb⟩:=row_ty (d.oi _ (List.getElem_mem hj)).1 hk
  exact hb.lt
 refine ⟨d.turned c' ⟨st.ts,st.tsm,st.few,st.tsl,st.tn,st.tnm,st.fewn,st.okn,st.okd,st.laid,st.WB,st.gB⟩ rfl rfl rfl rfl rfl rfl rfl ⟨rfl,rfl,rfl⟩ ?_ d.rh gb ?_ ?_ ?_ ?_ ?_ d.dh d.dr ?_ ?_ ?_ ?_ hf,c',howp⟩
 ·intro t ht r hr'
  obtain ⟨j,hj,rfl⟩:=List.mem_iff_getElem.1 (show t ∈ p.tb.set i nt from ht)
  rcases hset j hj with ⟨hj',hne,e⟩ | ⟨_,e⟩
  ·rw [e] at hr'
   exact d.rl _ (List.getElem_mem hj') r hr'
  ·rw [e,hnt] at hr'
   rcases List.mem_append.1 hr' with h1 | h1
   ·exact d.rl _ hti r h1
   ·rw [List.mem_singleton.1 h1];exact hlo
 ·show (w1.setCell ⟨go,i,none⟩ (.slice A n c)).ownsRow p.B 99 1 p.ho.val (p.tb.set i nt).length ((p.tb.set i nt).flatMap Tbl.cell)
  have oo:=own_chg d.oo c1 (fun k hk e => d.outer_inner hti e hk)
  rw [ho] at oo ⊢
  rw [List.length_set]
  show (w1.setCell ⟨go,i,none⟩ (.slice A n c)).ownsRow p.B 99 1 (.slice (some ⟨go,0,none⟩) p.tb.length oc) p.tb.length _
  have:=own_set Tbl.clen oo rfl i hi 0 (by decide) (.slice A n c) nt (by rw [hnt];rfl)
  simpa using this
 ·show p.ho.n = (p.tb.set i nt).length
  rw [List.length_set];exact d.oh
 ·intro t ht
  obtain ⟨j,hj,rfl⟩:=List.mem_iff_getElem.1 (show t ∈ p.tb.set i nt from ht)
  rcases hset j hj with ⟨hj',hne,e⟩ | ⟨_,e⟩
  ·rw [e]
   refine ⟨own_chg (d.oi _ (List.getElem_mem hj')).1 c3 fun k hk e2 => e2.elim (fun e2 => d.ai j i hj' hi hne k hk e2) (fun e2 => ?_),(d.oi _ (List.getElem_mem hj')).2⟩
   subst e2
   exact d.outer_inner (List.getElem_mem hj') hk hgo
  ·rw [e,hnt]
   have e1:(p.tb[i].rs ++ [(⟨h,row⟩:Rw)]).flatMap Rw.cell = p.tb[i].rs.flatMap Rw.cell ++ [h.val]:=by rw [List.flatMap_append];rfl
   show (w1.setCell ⟨go,i,none⟩ (.slice A n c)).ownsRow p.B 29 1 (.slice A n c) (p.tb[i].rs ++ [(⟨h,row⟩:Rw)]).length ((p.tb[i].rs ++ [(⟨h,row⟩:Rw)]).flatMap Rw.cell) ∧ n = (p.tb[i].rs ++ [(⟨h,row⟩:Rw)]).length
   rw [e1,List.length_append]
   refine ⟨own_far o1 (fun e2 => ?_) i _,hn⟩
   obtain ⟨_,cs,hb⟩:=row_ty o1 e2
   obtain ⟨_,cs',hb'⟩:=row_ty (own_chg d.oo c1 (fun k hk e => d.outer_inner hti e hk)) hgo
   exact Blk.ne_ hb hb' (by decide) rfl
 ·show rowsOf (p.tb.set i nt) = putT m.tabs i row
  rw [hnt,rows_put p.tb i hi ⟨A,n,c⟩ ⟨h,row⟩,d.tr]
 ·exact own_chg d.od c3 fun k hk e => e.elim (fun e => d.ad _ hti k e hk) (fun e => by subst e;exact d.outer_done hk hgo)
 ·intro t ht r hr'
  obtain ⟨j,hj,rfl⟩:=List.mem_iff_getElem.1 (show t ∈ p.tb.set i nt from ht)
  rcases hset j hj with ⟨hj',hne,e⟩ | ⟨_,e⟩
  ·rw [e] at hr'
   exact row_in_new2 d c' howp (d.rr _ (List.getElem_mem hj') r hr')
  ·rw [e,hnt] at hr'
   rcases List.mem_append.1 hr' with h1 | h1
   ·exact row_in_new2 d c' howp (d.rr _ hti r h1)
   ·rw [List.mem_singleton.1 h1]
    exact row_in_new2 d c' howp hr
 ·exact fun r hr' => row_in_new2 d c' howp (d.rd r hr')
 ·intro a b ha hb hab k h1 h2
  have h1':(p.tb.set i nt)[a].h.val.ownBlock = some k:=h1
  have h2':(p.tb.set i nt)[b].h.val.ownBlock = some k:=h2
  rcases hset a ha with ⟨ha',hna,ea⟩ | ⟨ha',ea⟩
  ·rw [ea] at h1'
   rcases hset b hb with ⟨hb',hnb',eb⟩ | ⟨hb',eb⟩
   ·rw [eb] at h2';exact d.ai a b ha' hb' hab k h1' h2'
   ·rw [eb] at h2'
    rcases hnb k h2' with h3 | h3
    ·exact d.ai a i ha' hi hna k h1' h3
    ·have:=hlt a ha' k h1';omega
  ·rw [ea] at h1'
   rcases hset b hb with ⟨hb',hnb',eb⟩ | ⟨hb',eb⟩
   ·rw [eb] at h2'
    rcases hnb k h1' with h3 | h3
    ·exact d.ai b i hb' hi hnb' k h2' h3
    ·have:=hlt b hb' k h2';omega
   ·exact hab (ha'.trans hb'.symm)
 ·intro t ht k hk
  show p.hd.val.ownBlock ≠ some k
  obtain ⟨j,hj,rfl⟩:=List.mem_iff_getElem.1 (show t ∈ p.tb.set i nt from ht)
  rcases hset j hj with ⟨hj',hne,e⟩ | ⟨_,e⟩
  ·rw [e] at hk;exact d.ad _ (List.getElem_mem hj') k hk
  ·rw [e] at hk
   rcases hnb k hk with h3 | h3
   ·exact d.ad _ hti k h3
   ·intro h4
    obtain ⟨_,cs,hb⟩:=row_ty d.od h4
    have:=hb.lt
    omega
theorem fit1_ok (gs gt b off n c k rn rc:Nat) (Ar:Option Addr) (x:RT) (row:Row) (W:World) (hk:k < n) (hn:n ≤ 9223372036854775807)
  (h0:W.cell? ⟨gs,0,none⟩ = some (.slice (some ⟨b,off,none⟩) n c)) (h1:W.cell? ⟨gt,0,none⟩ = some (.int .i64 k))
  (hx:∀ j v,x.cells[j]? = some v → W.cell? ⟨b,off + k * 3 + j,none⟩ = some v) (a:TbAt W x) (r:RowAt W ⟨Ar,rn,rc⟩ row) :
  Calls Tryz.prog 86 #[.slice Ar rn rc,.pointer (some ⟨gs,0,none⟩),.pointer (some ⟨gt,0,none⟩)] W fun e w' => e = .returned (.bool (!fitsB x.tb row)) ∧ Same W w':=by
 have HF:=Lib.hid (fits_ok x ⟨Ar,rn,rc⟩ row W a r)
 obtain ⟨fb,hfb⟩:∃ fb,fb = fitsB x.tb row:=⟨_,rfl⟩
 rw [← hfb] at HF ⊢
 clear hfb a r
 obtain ⟨n1,⟨A4,m4,c4⟩,ra1,⟨B4,p4,d4⟩,key1⟩:=x
 have x0:=hx 0 (.string n1) rfl
 have x1:=hx 1 (.slice A4 m4 c4) rfl
 have x2:=hx 2 (.slice B4 p4 d4) rfl
 simp only [Nat.add_zero] at x0
 have HF':Hid (Calls Tryz.prog 17 #[.agg #[.string n1,.slice A4 m4 c4,.slice B4 p4 d4],.slice Ar rn rc] W fun e w' => e = .returned (.bool fb) ∧ Same W w'):=HF
 have hk0:(0:Int) ≤ (k:Int):=by omega
 have hkn:(k:Int) < (n:Int):=by omega
 clear hx HF
 go_enter Tryz.func86,Tryz.ntmps86
 go_wp2_with fail
 refine HF'.out.mono ?_
 rintro e w1 ⟨rfl,s1⟩
 have S1:=Lib.hid s1
 clear s1 x0 x1 x2
 cases fb
 all_goals
  go_wp2_with fail
  go_ret
  exact ⟨rfl,S1.out⟩
theorem not_all (rs:List Rw) (t:Tb):rs.any (fun r => !fitsB t r.v) = !(rs.map Rw.v).all (fitsB t):=by
 induction rs with
 | nil => rfl
 | cons r rs ih => simp [List.any_cons,List.all_cons,ih]
theorem fitsT_no {s:List Tb} {tabs:List (List Row)} (k:Nat) (h1:k < tabs.length) (h2:k < s.length) (h:tabs[k].all (fitsB s[k]) = false):fitsT s tabs = false:=by
 cases hf:fitsT s tabs with
 | false => rfl
 | true =>
  exfalso
  have:=(fitsT_iff.1 hf).2 k h1 h2
  rw [← List.all_eq_true] at this
  rw [this] at h;cases h
theorem fit_ok' {K:Nat → Prop} (h ht:Hd) (ts:List RT) (tbs:List Tbl) (w:World) (a:TabsAt w h ts) (l:TablesAt w K ht tbs) :
  Calls Tryz.prog 59 #[.agg #[h.val],ht.val] w fun e w' => e = .returned (.bool (fitsT (ts.map RT.tb) (rowsOf tbs))) ∧ Same w w':=by
 have hml:ts.length = h.n:=a.1.1
 have hmb:h.n ≤ 9223372036854775807:=a.1.2.1
 have htl:tbs.length = ht.n:=l.1.1
 have htb:ht.n ≤ 9223372036854775807:=l.1.2.1
 obtain ⟨A,m,c⟩:=h
 obtain ⟨At_,tm,tc⟩:=ht
 simp only at hml hmb htl htb
 subst hml htl
 have HA:=Lib.hid a
 have HL:=Lib.hid l
 clear a l
 show Calls Tryz.prog 59 #[.agg #[.slice A ts.length c],.slice At_ tbs.length tc] w _
 have hmap:(rowsOf tbs).length = tbs.length:=by simp [rowsOf]
 have hmap2:(ts.map RT.tb).length = ts.length:=List.length_map _
 have HM:=Lib.hid hmap
 have HM2:=Lib.hid hmap2
 clear hmap hmap2
 by_cases hne:tbs.length = ts.length
 case neg =>
  have t1:((tbs.length:Int) != (ts.length:Int)) = true:=by simp;omega
  have HF:Hid (fitsT (ts.map RT.tb) (rowsOf tbs) = false):=by
   refine Lib.hid ?_
   cases hf:fitsT (ts.map RT.tb) (rowsOf tbs) with
   | false => rfl
   | true =>
    exfalso
    have:=(fitsT_iff.1 hf).1
    rw [HM.out,HM2.out] at this
    exact hne this
  clear hne
  go_enter Tryz.func59,Tryz.ntmps59
  go_wp2
  go_ret
  exact ⟨ret_bool HF.out.symm,(Same.refl w).alloc _⟩
 have t1:((tbs.length:Int) != (ts.length:Int)) = false:=by simp;omega
 have HNE:=Lib.hid hne
 clear hne
 go_enter Tryz.func59,Tryz.ntmps59
 go_wp2_with fail
 obtain ⟨W0,hW0⟩:∃ W0,W0 = w.alloc (.cells #[.slice A ts.length c] 24):=⟨_,rfl⟩
 have S0:Hid (Same w W0):=by rw [hW0];exact Lib.hid ((Same.refl w).alloc _)
 have B0:Blk W0 w.heap.size 24 #[.slice A ts.length c]:=by rw [hW0];exact Blk.new w _ _
 rw [← hW0]
 clear hW0 t1
 have HB0:=Lib.hid B0
 clear B0
 go_loopw [15] (fun i wr => ∃ k:Nat,k ≤ tbs.length ∧ i = .int .i64 k ∧ Hid (Same W0 wr) ∧ Hid (∀ j (h1:j < (rowsOf tbs).length) (h2:j < (ts.map RT.tb).length),j < k → ∀ row ∈ (rowsOf tbs)[j],fitsB (ts.map RT.tb)[j] row = true)) (fun i _ => tbs.length - (intOf i).toNat)
 case atStart => exact ⟨0,Nat.zero_le _,rfl,Same.refl W0,fun j _ _ h => absurd h (Nat.not_lt_zero _)⟩
 case round =>
  obtain ⟨k,hk,rfl,S,N⟩:=hrel
  by_cases hlt:k < tbs.length
  ·have hlt2:k < ts.length:=by have:=HNE.out;omega
   have SW:Hid (Same w wr):=S0.out.trans S.out
   obtain ⟨b,off,hA,blt,hc⟩:=HA.out.1.2.2 k hlt2
   obtain ⟨b2,off2,hB,blt2,c0⟩:=(HL.out.1.same SW.out).one k hlt (v:=tbs[k].h.val) rfl
   have hA':A = some ⟨b,off,none⟩:=hA
   have hB':At_ = some ⟨b2,off2,none⟩:=hB
   have HX:Hid (TbAt w ts[k]):=HA.out.2 _ (List.getElem_mem hlt2)
   have HR:Hid (RowsAt w K tbs[k]):=HL.out.2.2 _ (List.getElem_mem hlt)
   have HE1:Hid ((ts.map RT.tb)[k]'(by rw [List.length_map];exact hlt2) = ts[k].tb):=by show _ = _;rw [List.getElem_map]
   have HE2:Hid ((rowsOf tbs)[k]'(by rw [HM.out];exact hlt) = tbs[k].rs.map Rw.v):=by show _ = _;unfold rowsOf;rw [List.getElem_map];rfl
   obtain ⟨x,hx⟩:∃ x,x = ts[k]:=⟨_,rfl⟩
   obtain ⟨y,hy⟩:∃ y,y = tbs[k]:=⟨_,rfl⟩
   rw [← hx] at hc HX HE1
   rw [← hy] at c0 HR HE2
   clear hx hy hA hB
   subst hA' hB'
   have HXC:=Lib.hid (fun (W:World) (s:Same w W) (j:Nat) (v:Value) (hv:x.cells[j]? = some v) => (s.cells b (off + k * 3 + j) blt).trans (hc j v hv))
   have hg:wr.heap.size = wr.heap.size:=rfl
   have HC:Hid (Calls Tryz.prog 85 #[y.h.val,.func (.func 86) #[] #[.pointer (some ⟨w.heap.size,0,none⟩),.pointer (some ⟨wr.heap.size,0,none⟩)]] (wr.alloc (.cells #[.int .i64 k] 3)) fun e w' => e = .returned (.bool (y.rs.any fun r => !fitsB x.tb r.v)) ∧ Same (wr.alloc (.cells #[.int .i64 k] 3)) w'):=by
    have SA:Same wr (wr.alloc (.cells #[.int .i64 k] 3)):=(Same.refl wr).alloc _
    refine Lib.hid (containsR_ok _ _ (enters_of Tryz.func86 (by kernel_rfl) rfl) y.h Rw.cell (fun r => ⟨_,rfl⟩) (fun r => !fitsB x.tb r.v) y.rs _ ((HR.out.1.same SW.out).same SA) ?_)
    intro r hr u hu W s
    have hu':u = r.h.val:=by simp [Rw.cell] at hu;exact hu.symm
    subst hu'
    have SWW:Same w W:=(SW.out.trans SA).trans s
    have bt:Blk W wr.heap.size 3 #[.int .i64 k]:=(Blk.new wr _ _).below s (by simp)
    have b0:Blk W w.heap.size 24 #[.slice (some ⟨b,off,none⟩) ts.length c]:=(HB0.out.below ((S.out.trans SA).trans s) HB0.out.lt)
    exact fit1_ok w.heap.size wr.heap.size b off ts.length c k r.h.n r.h.c r.h.a x r.v W hlt2 hmb (b0.cell 0) (bt.cell 0) (HXC.out W SWW) (HX.out.same SWW) ((HR.out.2.2 r hr).1.same SWW)
   obtain ⟨rb,hrb⟩:∃ rb,rb = y.rs.any (fun r => !fitsB x.tb r.v):=⟨_,rfl⟩
   rw [← hrb] at HC
   have HRB:=Lib.hid hrb
   obtain ⟨⟨A3,n3,c3⟩,rs⟩:=y
   have c0':wr.cell? ⟨b2,off2 + k,none⟩ = some (.slice A3 n3 c3):=c0
   have HC':Hid (Calls Tryz.prog 85 #[.slice A3 n3 c3,.func (.func 86) #[] #[.pointer (some ⟨w.heap.size,0,none⟩),.pointer (some ⟨wr.heap.size,0,none⟩)]] (wr.alloc (.cells #[.int .i64 k] 3)) fun e w' => e = .returned (.bool rb) ∧ Same (wr.alloc (.cells #[.int .i64 k] 3)) w'):=HC
   clear hrb c0 HC hc hg
   have hk0:(0:Int) ≤ (k:Int):=by omega
   have hkI:(k:Int) < (tbs.length:Int):=by omega
   cases rb with
   | true =>
    go_wp2_with fail
    refine HC'.out.mono ?_
    rintro e w2 ⟨rfl,s2⟩
    have S2:Hid (Same w w2):=(SW.out.alloc _).trans s2
    clear s2 c0'
    go_wp2_with fail
    go_ret
    refine ⟨ret_bool ?_,S2.out⟩
    refine (fitsT_no k (by rw [HM.out];exact hlt) (by rw [HM2.out];exact hlt2) ?_).symm
    rw [HE1.out,HE2.out]
    have:=HRB.out
    rw [not_all] at this
    simpa using this.symm
   | false =>
    go_wp2_with fail
    refine HC'.out.mono ?_
    rintro e w2 ⟨rfl,s2⟩
    have S2:Hid (Same W0 w2):=(S.out.alloc _).trans s2
    clear s2 c0'
    go_wp2
    go_roundw
    case rel =>
     refine ⟨k + 1,by omega,by go_num,S2.out,?_⟩
     intro j h1 h2 hj row hr
     by_cases e:j = k
     ·subst e
      have:=HRB.out
      rw [not_all] at this
      have h3:(rs.map Rw.v).all (fitsB x.tb) = true:=by simpa using this.symm
      rw [List.all_eq_true] at h3
      rw [HE1.out]
      refine h3 row ?_
      have h4:=HE2.out
      rw [h4] at hr
      exact hr
     ·exact N.out j h1 h2 (by omega) row hr
    case measure => simp [intOf];omega
  ·have ek:k = tbs.length:=by omega
   have HFT:Hid (fitsT (ts.map RT.tb) (rowsOf tbs) = true):=by
    refine Lib.hid (fitsT_iff.2 ⟨by rw [HM.out,HM2.out];exact HNE.out,fun i h1 h2 row hr => ?_⟩)
    have h3:=h1
    rw [HM.out] at h3
    exact N.out i h1 h2 (by omega) row hr
   clear ek
   go_wp2
   go_ret
   exact ⟨ret_bool HFT.out.symm,S0.out.trans S.out⟩
end Go.Proofs.YtfifnemnihcijaaGreatDoor

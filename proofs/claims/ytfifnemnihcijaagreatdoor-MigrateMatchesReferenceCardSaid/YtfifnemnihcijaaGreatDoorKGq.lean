import Derived.Test.YtfifnemnihcijaaGreatDoorKGp
set_option linter.unusedSimpArgs false
set_option linter.unusedVariables false
set_option maxHeartbeats 16000000
set_option maxRecDepth 100000
namespace Go.Proofs.YtfifnemnihcijaaGreatDoor
open Go.RowKit
def WasL (S:List Tb) (n:Nat):Prop:=∀ t ∈ S,∀ a ∈ t.attrs,a.was.length ≤ n
theorem WasL.apply {S:List Tb} {c:Cg} {n:Nat} (w:WasL S n) (h:errOf S c = 0):WasL (applyS S c) (n + 1):=by
 obtain ⟨hf,hv,j,hj,hfj,hnm,hc,hch⟩:=errOf_zero h
 intro t ht a ha
 obtain ⟨i,hi,rfl⟩:=List.mem_iff_getElem.1 ht
 have hi':i < S.length:=by rw [applyS_len] at hi;exact hi
 rw [applyS_get hj hfj i hi'] at ha
 by_cases e:j = i
 ·rw [if_pos e] at ha
  subst e
  have wj:=w _ (List.getElem_mem hi')
  have hc':c.kind ≠ 1 → 0 ≤ colA S[j].attrs c.attr:=fun hk => by have:=hc hk;omega
  rcases new_attrs hf hc' with ⟨_,hA⟩ | ⟨A,x,B,hA,_,hh⟩
  ·rw [hA] at ha
   simp only [List.mem_append,List.mem_singleton] at ha
   rcases ha with ha | rfl
   ·have:=wj a ha;omega
   ·simp
  ·rw [hA] at wj
   have wx:=wj x (by simp)
   have wA:=fun y (hy:y ∈ A) => wj y (by simp [hy])
   have wB:=fun y (hy:y ∈ B) => wj y (by simp [hy])
   rcases hh with ⟨_,hA2⟩ | ⟨_,hA2⟩ | ⟨_,hA2⟩
   ·rw [hA2] at ha
    simp only [List.mem_append] at ha
    rcases ha with ha | ha
    ·have:=wA a ha;omega
    ·have:=wB a ha;omega
   ·rw [hA2] at ha
    simp only [List.mem_append,List.mem_cons] at ha
    rcases ha with ha | rfl | ha
    ·have:=wA a ha;omega
    ·simp;omega
    ·have:=wB a ha;omega
   ·rw [hA2] at ha
    simp only [List.mem_append,List.mem_cons] at ha
    rcases ha with ha | rfl | ha
    ·have:=wA a ha;omega
    ·simp;omega
    ·have:=wB a ha;omega
 ·rw [if_neg e] at ha
  have:=w _ (List.getElem_mem hi') a ha
  omega
theorem few_was {ts:List RT} {S:List Tb} {n:Nat} (e:ts.map RT.tb = S) (w:WasL S n) (hn:n ≤ 1000000):Few ts:=by
 intro t ht r hr
 have:=w t.tb (by rw [← e];exact List.mem_map_of_mem ht) r.at_ (List.mem_map_of_mem hr)
 omega
theorem start_born (h:Hd) (ts:List RT) (c:Cg) (tbs:List Tbl) (w W4:World) (l:Laid w) (a:TabsAt w h ts) (few:Few ts) (tsl:ts.length ≤ 1000000) (hn:okS c.name) (hd:okS c.dflt.s) {K:Nat → Prop} {ht:Hd} (tt:TablesAt w K ht tbs) (_fr:FewR (rowsOf tbs))
  (hfine:(start (ts.map RT.tb) c (rowsOf tbs)).Fine) (_hE:errOf (ts.map RT.tb) c = 0) {nw:Nat} (hwn:WasL (applyS (ts.map RT.tb) c) (nw + 1)) (hnw:nw + 1 ≤ 1000000) (hfi:findT (ts.map RT.tb) c.table = ((findT (ts.map RT.tb) c.table).toNat:Int))
  (s4:Same w W4) (A1:Option Addr) (m1 c1:Nat) (ts1:List RT) (t1:TabsAt W4 ⟨A1,m1,c1⟩ ts1) (e1:ts1.map RT.tb = applyS (ts.map RT.tb) c) (wy:World) (gM gm:Nat) (Ao:Option Addr) (no co:Nat) (ts2:List Tbl)
  (bs:Blk W4 w.heap.size 24 #[h.val]) (bc:Blk W4 (w.heap.size + 1) 28 c.arr) (h1:W4.heap.size ≤ gM) (_h2:W4.heap.size ≤ gm)
  (bM:Blk wy gM 106 #[h.val,.slice A1 m1 c1,.int .i64 (findT (ts.map RT.tb) c.table),.slice Ao no co,.slice none 0 0,.nilFunc,.bool false,.bool false]) (bm:Blk wy gm 51 #[.pointer (some ⟨gM,0,none⟩)]) (sy:Same W4 wy) (o:OwnT wy W4.heap.size ⟨Ao,no,co⟩ ts2) (hm:ts2.map Tbl.rs = tbs.map Tbl.rs) :
  ∃ p:MH,p.g = gM ∧ MgAt (wy.setCell ⟨gM,5,none⟩ (.func (.func 61) #[] #[.pointer (some ⟨w.heap.size,0,none⟩),.pointer (some ⟨w.heap.size + 1,0,none⟩),.pointer (some ⟨gm,0,none⟩)])) p (start (ts.map RT.tb) c (rowsOf tbs)) ∧
   Same w (wy.setCell ⟨gM,5,none⟩ (.func (.func 61) #[] #[.pointer (some ⟨w.heap.size,0,none⟩),.pointer (some ⟨w.heap.size + 1,0,none⟩),.pointer (some ⟨gm,0,none⟩)])) ∧ w.heap.size ≤ p.B ∧ p.lo = w.heap.size ∧ p.dr = []:=by
 obtain ⟨fv,hfv⟩:∃ fv,fv = Value.func (.func 61) #[] #[.pointer (some ⟨w.heap.size,0,none⟩),.pointer (some ⟨w.heap.size + 1,0,none⟩),.pointer (some ⟨gm,0,none⟩)]:=⟨_,rfl⟩
 rw [← hfv]
 have hs5:Same W4 (wy.setCell ⟨gM,5,none⟩ fv):=sy.setCell (p:=⟨gM,5,none⟩) h1 _
 have hne:gm ≠ gM:=Blk.ne_ bm bM (by decide)
 have o5:OwnT (wy.setCell ⟨gM,5,none⟩ fv) W4.heap.size ⟨Ao,no,co⟩ ts2:=o.chgT (S:=fun k => k = gM) ((Chg.refl _ _).setCell _ _ (fun _ => rfl)) bM (by decide) (by decide) (fun k hk => hk)
 have hrow:∀ t ∈ ts2,∀ r ∈ t.rs,RowAt w r.h r.v:=by
  intro t ht' r hr
  obtain ⟨t',ht2,e⟩:=mem_rs hm ht'
  rw [← e] at hr
  exact ((tt.2.2 t' ht2).2.2 r hr).1
 have hown:∀ k,MH.own { W0:=W4,B:=W4.heap.size,g:=gM,gs:=w.heap.size,gc:=w.heap.size + 1,gm:=gm,hs:=h,ts:=ts,hn:=⟨A1,m1,c1⟩,tn:=ts1,ho:=⟨Ao,no,co⟩,tb:=ts2,hd:=⟨none,0,0⟩,dr:=[],lo:=w.heap.size,hi:=fun k => W4.heap.size ≤ k } k → W4.heap.size ≤ k:=by
  intro k hk
  rcases hk with hk | hk | ⟨t,ht',hk⟩ | hk
  ·have:k = gM:=hk
   omega
  ·exact (row_ty o5.oo hk).1
  ·exact (row_ty (o5.oi t ht').1 hk).1
  ·cases hk
 refine ⟨{ W0:=W4,B:=W4.heap.size,g:=gM,gs:=w.heap.size,gc:=w.heap.size + 1,gm:=gm,hs:=h,ts:=ts,hn:=⟨A1,m1,c1⟩,tn:=ts1,ho:=⟨Ao,no,co⟩,tb:=ts2,hd:=⟨none,0,0⟩,dr:=[],lo:=w.heap.size,hi:=fun k => W4.heap.size ≤ k },rfl,?_,s4.trans hs5,s4.size,rfl,rfl⟩
 exact {
  st:=⟨a.same s4,rfl,few,tsl,t1,e1,few_was e1 hwn hnw,hn,hd,l.same s4,Nat.le_refl _,h1⟩
  same:=hs5
  blk:=by
   have:=bM.set_ 5 fv
   rw [hfi,hfv] at this
   rw [hfv]
   exact this
  bs:=bs.below hs5 bs.lt
  bc:=bc.below hs5 bc.lt
  bm:=bm.far (p:=⟨gM,5,none⟩) hne _
  oo:=o5.oo
  oh:=o5.oh
  oi:=o5.oi
  tr:=rows_same hm
  od:=World.ownsRow_nil _ _ _ _
  dh:=rfl
  dr:=rfl
  rr:=fun t ht' r hr => ⟨(hrow t ht' r hr).same (s4.trans hs5),(hrow t ht' r hr).in_.mono fun k hk hk' => by have:=hown k hk';have:=s4.size;omega⟩
  rd:=fun r hr => by cases hr
  ai:=o5.ai
  ad:=fun t _ k _ h => by cases h
  fine:=hfine
  rl:=fun t ht' r hr => (hrow t ht' r hr).in_
  rh:=fun r hr => by cases hr
  hw:=fun k hk => Nat.le_trans hs5.size hk }
theorem start_err (h:Hd) (ts:List RT) (c:Cg) (ht:Hd) (tbs:List Tbl) (w:World) (a:TabsAt w h ts) (few:Few ts) (hn:okS c.name) (hd:okS c.dflt.s) {K:Nat → Prop} (tt:TablesAt w K ht tbs) (hE:startE (ts.map RT.tb) c (rowsOf tbs) ≠ 0) :
  Calls Tryz.prog 23 #[.agg #[h.val],c.val,ht.val] w fun e w' => e = .returned (.tuple #[.pointer none,.int .i64 (startE (ts.map RT.tb) c (rowsOf tbs))]) ∧ Same w w':=by
 have hV:=fun W (s:Same w W) => valid_s_ok h ts W (a.same s) few
 have hF:=fun W (s:Same w W) => fit_ok' h ht ts tbs W (a.same s) (tt.same s)
 have hA:=fun W (s:Same w W) => apply_ok h ts c W (a.same s) few hn hd
 unfold startE at hE ⊢
 obtain ⟨A,n,cc⟩:=h
 obtain ⟨At_,tm,tc⟩:=ht
 obtain ⟨k,t,aa,nm,to_,⟨dk,dn,ds⟩⟩:=c
 cases hv:validB (ts.map RT.tb) with
 | false =>
  rw [hv] at hV
  simp only [Bool.false_and]
  exact start_bad1 A At_ n cc tm tc k to_ dk dn t aa nm ds w (Lib.hid hV)
 | true =>
  rw [hv] at hV hE
  cases hf:fitsT (ts.map RT.tb) (rowsOf tbs) with
  | false =>
   rw [hf] at hF
   simp only [Bool.and_false]
   exact start_bad2 A At_ n cc tm tc k to_ dk dn t aa nm ds w (Lib.hid hV) (Lib.hid hF)
  | true =>
   rw [hf] at hF hE
   simp only [Bool.and_self,if_true] at hE ⊢
   refine start_bad3 A At_ n cc tm tc k to_ dk dn _ t aa nm ds w hE (Lib.hid hV) (Lib.hid hF) (Lib.hid fun W s => ?_)
   refine (hA W s).mono ?_
   rintro e w' ⟨ho,s'⟩
   rcases ho with ⟨_,he⟩ | ⟨hz,_⟩
   ·exact ⟨he,s'⟩
   ·exact absurd hz hE
theorem start_ok (h:Hd) (ts:List RT) (c:Cg) (ht:Hd) (tbs:List Tbl) (w:World) (l:Laid w) (a:TabsAt w h ts) {nw:Nat} (hw:WasL (ts.map RT.tb) nw) (hnw:nw + 1 ≤ 1000000) (tsl:ts.length ≤ 1000000) (hn:okS c.name) (hd:okS c.dflt.s) {K:Nat → Prop} (tt:TablesAt w K ht tbs) (fr:FewR (rowsOf tbs)) (hE:startE (ts.map RT.tb) c (rowsOf tbs) = 0) :
  Calls Tryz.prog 23 #[.agg #[h.val],c.val,ht.val] w fun e w' => ∃ p:MH,e = .returned (.tuple #[.pointer (some ⟨p.g,0,none⟩),.int .i64 0]) ∧ MgAt w' p (start (ts.map RT.tb) c (rowsOf tbs)) ∧ Same w w' ∧ w.heap.size ≤ p.B ∧ p.lo = w.heap.size ∧ p.dr = []:=by
 have few:Few ts:=few_was rfl hw (by omega)
 have hV:=fun W (s:Same w W) => valid_s_ok h ts W (a.same s) few
 have hF:=fun W (s:Same w W) => fit_ok' h ht ts tbs W (a.same s) (tt.same s)
 have hA:=fun W (s:Same w W) => apply_ok h ts c W (a.same s) few hn hd
 have hFd:=fun W (s:Same w W) => find_ok h ts c.table W (a.same s)
 have hfine:=start_fine hE
 have hE0:=hE
 unfold startE at hE
 cases hv:validB (ts.map RT.tb) with
 | false => rw [hv] at hE;simp at hE
 | true =>
 cases hf:fitsT (ts.map RT.tb) (rowsOf tbs) with
 | false => rw [hv,hf] at hE;simp at hE
 | true =>
 rw [hv,hf] at hE
 simp only [Bool.and_self,if_true] at hE
 rw [hv] at hV
 rw [hf] at hF
 have hwn:WasL (applyS (ts.map RT.tb) c) (nw + 1):=hw.apply hE
 have hlen:tbs.length ≤ 1000000:=by have:=fr.1;simpa [rowsOf] using this
 have hrl:∀ t ∈ tbs,t.rs.length ≤ 1000000000:=by
  intro t ht'
  have:=fr.2 _ (List.mem_map_of_mem (f:=Tbl.rows) ht')
  simp only [Tbl.rows,List.length_map] at this
  omega
 have hCl:=fun W (s:Same w W) => clone_ok ht tbs W (tt.same s) hlen hrl
 have hfi:findT (ts.map RT.tb) c.table = ((findT (ts.map RT.tb) c.table).toNat:Int):=hfine.at_
 have harr:∀ x,x = c → x.arr = c.arr:=fun x e => by rw [e]
 have hst:=fun (W4:World) (s4:Same w W4) (A1:Option Addr) (m1 c1:Nat) (ts1:List RT) (t1:TabsAt W4 ⟨A1,m1,c1⟩ ts1) (e1:ts1.map RT.tb = applyS (ts.map RT.tb) c) (wy:World) (gM gm:Nat) (Ao:Option Addr) (no co:Nat) (ts2:List Tbl)
   (bs:Blk W4 w.heap.size 24 #[h.val]) (bc:Blk W4 (w.heap.size + 1) 28 c.arr) (h1:W4.heap.size ≤ gM) (h2:W4.heap.size ≤ gm)
   (bM:Blk wy gM 106 #[h.val,.slice A1 m1 c1,.int .i64 (findT (ts.map RT.tb) c.table),.slice Ao no co,.slice none 0 0,.nilFunc,.bool false,.bool false]) (bm:Blk wy gm 51 #[.pointer (some ⟨gM,0,none⟩)]) (sy:Same W4 wy) (o:OwnT wy W4.heap.size ⟨Ao,no,co⟩ ts2) (hm:ts2.map Tbl.rs = tbs.map Tbl.rs) =>
  start_born h ts c tbs w W4 l a few tsl hn hd tt fr hfine hE hwn hnw hfi s4 A1 m1 c1 ts1 t1 e1 wy gM gm Ao no co ts2 bs bc h1 h2 bM bm sy o hm
 obtain ⟨A,n,cc⟩:=h
 obtain ⟨At_,tm,tc⟩:=ht
 obtain ⟨k,t,aa,nm,to_,⟨dk,dn,ds⟩⟩:=c
 refine start_walk A At_ n cc tm tc k to_ dk dn (findT (ts.map RT.tb) t) t aa nm ds tbs w (fun A1 m1 c1 W => ∃ ts1,TabsAt W ⟨A1,m1,c1⟩ ts1 ∧ ts1.map RT.tb = applyS (ts.map RT.tb) ⟨k,t,aa,nm,to_,⟨dk,dn,ds⟩⟩) _ (Lib.hid hV) (Lib.hid hF) (Lib.hid fun W s => ?_) (Lib.hid hFd) (Lib.hid fun W s => ?_) (fun A1 m1 c1 W W' ⟨ts1,t1,e1⟩ s => ⟨ts1,t1.same s,e1⟩) (Lib.hid ?_)
 ·refine (hA W s).mono ?_
  rintro e w' ⟨ho,s'⟩
  rcases ho with ⟨hne,_⟩ | ⟨_,⟨A1,m1,c1⟩,ts1,he,t1,e1⟩
  ·exact absurd hE hne
  ·exact ⟨⟨A1,m1,c1,he,ts1,t1,e1⟩,s'⟩
 ·refine (hCl W s).mono ?_
  rintro e w' ⟨⟨Ao,no,co⟩,ts2,he,o,s',hm⟩
  exact ⟨Ao,no,co,ts2,he,⟨o,hm⟩,s'⟩
 ·intro A1 m1 c1 W4 wy gM gm Ao no co ts2 s4 ⟨ts1,t1,e1⟩ bs bc h1 h2 bM bm sy o hm
  obtain ⟨p,hg,d,s,hB,hlo,hdr⟩:=hst W4 s4 A1 m1 c1 ts1 t1 e1 wy gM gm Ao no co ts2 bs bc h1 h2 bM bm sy o hm
  exact ⟨p,by rw [hg],d,s,hB,hlo,hdr⟩
end Go.Proofs.YtfifnemnihcijaaGreatDoor

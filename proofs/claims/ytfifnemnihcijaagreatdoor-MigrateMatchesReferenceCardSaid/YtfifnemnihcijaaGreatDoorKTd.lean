import Derived.Test.YtfifnemnihcijaaGreatDoorKTa
import Derived.Test.YtfifnemnihcijaaGreatDoorKMb
import Derived.Test.YtfifnemnihcijaaGreatDoorKWl
import Derived.Deep.Onto
set_option linter.unusedSimpArgs false
set_option linter.unusedVariables false
set_option maxHeartbeats 16000000
set_option maxRecDepth 100000
namespace Go.Proofs.YtfifnemnihcijaaGreatDoor
open Go.RowKit
theorem cell_near (w:World) (g j o:Nat) (u:Value) (h:o ≠ j):(w.setCell ⟨g,o,none⟩ u).cell? ⟨g,j,none⟩ = w.cell? ⟨g,j,none⟩:=
 World.cell?_setCell_other _ _ _ _ (fun e => by injection e with _ e;exact h e)
theorem reads_cell {w:World} {b:Nat} {x:Value} (h:w.cell? ⟨b,0,none⟩ = some x):Reads w (b + 1) 1 (some ⟨b,0,none⟩) 1 [x]:=by
 refine ⟨rfl,fun _ => ⟨_,rfl,Nat.lt_succ_self _,fun j u hu => ?_⟩⟩
 match j,hu with
 | 0,hu => simp at hu;subst hu;simpa [Addr.add] using h
 | j + 1,hu => simp at hu
theorem flat_str:∀ l:List ByteArray,l.flatMap strCell = l.map .string
 | [] => rfl
 | x :: l => by rw [List.flatMap_cons,flat_str l];rfl
theorem cloneS' (h:Hd) (l:List ByteArray) (w:World) (a:StrsAt w h l) (hn:h.n ≤ 1000000000) :
  Calls Tryz.prog 113 #[h.val] w fun e w' => ∃ A c,e = .returned (.slice A l.length c) ∧ Same w w' ∧ w'.ownsRow w.heap.size 9 1 (.slice A l.length c) l.length (l.map .string):=by
 have e:=flat_str l
 refine (cloneS_ok h strCell (fun _ => rfl) (fun x v hv => by simp [strCell] at hv;subst hv;rfl) l w a.1 hn).mono ?_
 rintro e1 w' (⟨rfl,rfl,s⟩ | ⟨c,g,rfl,s,o⟩)
 ·exact ⟨none,0,rfl,s,rfl,.inl ⟨rfl,rfl⟩⟩
 ·rw [e] at o
  exact ⟨_,c,rfl,s,o⟩
theorem ren2_low (g o ga a n ca:Nat) (k to_ dk dn:Int) (tt aa nn ds nm:ByteArray) (hw:Hd) (was:List ByteArray) (w:World) (hne:g ≠ ga) (hga:ga < w.heap.size) (hg:g < w.heap.size) (ha:a < n) (hn:n ≤ 9223372036854775807)
  (x1:w.cell? ⟨g,o + 1,none⟩ = some (.slice (some ⟨ga,0,none⟩) n ca))
  (e0:w.cell? ⟨ga,a * 6,none⟩ = some (.string nm)) (e2:w.cell? ⟨ga,a * 6 + 2,none⟩ = some hw.val) (fr:∀ j,w.frozen? ⟨ga,j,none⟩ = false) (hs:StrsAt w hw was) (hl:was.length ≤ 1000000) :
  Calls Tryz.prog 112 #[.pointer (some ⟨g,o,none⟩),.agg #[.int .i64 k,.string tt,.string aa,.string nn,.int .i64 to_,.int .i64 dk,.int .i64 dn,.string ds],.int .i64 a] w fun e w' => ∃ A1 c1 w1,e = .returned (.tuple #[]) ∧
   w1.ownsRow w.heap.size 9 1 (.slice A1 (was.length + 1) c1) (was.length + 1) ((was ++ [nm]).map .string) ∧ Same w w1 ∧
   w' = ((w1.setCell ⟨ga,a * 6 + 2,none⟩ (.slice A1 (was.length + 1) c1)).setCell ⟨ga,a * 6,none⟩ (.string nn)).drew:=by
 obtain ⟨i0,hi0,hiz0,hiz1,hiz2⟩:=info_parts Tryz.infoCS
 have HC:=Lib.hid (fun (W:World) (s:Same w W) => cloneS' hw was W (hs.same s) (by rw [← hs.1.1];omega))
 have f0:=fr (a * 6)
 have f2:=fr (a * 6 + 2)
 have hz:g ≠ w.heap.size:=by omega
 have hz2:ga ≠ w.heap.size:=by omega
 have BD:Hid (was.length + 1 ≤ maxLen ∧ (was.length + 1) * 16 ≤ 140737488355328):=⟨by unfold maxLen;omega,by omega⟩
 obtain ⟨A0,n0,c0⟩:=hw
 have e2':w.cell? ⟨ga,a * 6 + 2,none⟩ = some (.slice A0 n0 c0):=e2
 have HC':Hid (∀ W,Same w W → Calls Tryz.prog 113 #[.slice A0 n0 c0] W fun e w' => ∃ A c,e = .returned (.slice A was.length c) ∧ Same W w' ∧ w'.ownsRow W.heap.size 9 1 (.slice A was.length c) was.length (was.map .string)):=HC
 clear fr hs HC e2
 go_enter Tryz.func112,Tryz.ntmps112
 go_wp2
 refine wp_region_last (opsP:=?opsP) (S:=(fun w' => w'.cell? ⟨g,o + 1,none⟩ = some (.slice (some ⟨ga,0,none⟩) n ca) ∧ w'.cell? ⟨ga,a * 6,none⟩ = some (.string nm) ∧ w'.cell? ⟨ga,a * 6 + 2,none⟩ = some (.slice A0 n0 c0))) (n:=26) (by kernel_rfl) (lastOk_of (by kernel_rfl)) ?hp ?wk
 case hp => simp only [List.pop_toArray,List.dropLast_cons_cons,List.dropLast_singleton];rfl
 have hHeld:(fun w' => w'.cell? ⟨g,o + 1,none⟩ = some (.slice (some ⟨ga,0,none⟩) n ca) ∧ w'.cell? ⟨ga,a * 6,none⟩ = some (.string nm) ∧ w'.cell? ⟨ga,a * 6 + 2,none⟩ = some (.slice A0 n0 c0)) ((w.alloc (.cells #[.int .i64 k,.string tt,.string aa,.string nn,.int .i64 to_,.int .i64 dk,.int .i64 dn,.string ds] 28)).drew):=by
  show _ ∧ _ ∧ _
  (first | (simp [*];done) | (simp [*,size_setCell,cell_drew,cell_far,cell_near,cell_new',cell_old];done) | go_keep)
 refine tk 0 (oi:=?o1) (v:=?v1) ?h1 (by kernel_rfl) ?q1 ?w1 ?y1 hHeld ?r1
 case h1 => simp only [lxa,lxb,lxc];rfl
 case q1 => exact fun _ _ _ h => h
 case w1 => rfl
 case y1 => rintro w' ⟨y1,y2,y3⟩;go_simp;try with_reducible rfl
 try simp only [Act.put,lxd,lxe,lxf]
 refine tk 1 (oi:=?o2) (v:=?v2) ?h2 (by kernel_rfl) ?q2 ?w2 ?y2 hHeld ?r2
 case h2 => simp only [lxa,lxb,lxc];rfl
 case q2 => exact fun _ _ _ h => h
 case w2 => rfl
 case y2 => rintro w' ⟨y1,y2,y3⟩;go_simp;try with_reducible rfl
 try simp only [Act.put,lxd,lxe,lxf]
 refine tk 2 (oi:=?o3) (v:=?v3) ?h3 (by kernel_rfl) ?q3 ?w3 ?y3 hHeld ?r3
 case h3 => simp only [lxa,lxb,lxc];rfl
 case q3 => exact fun _ _ _ h => h
 case w3 => rfl
 case y3 => rintro w' ⟨y1,y2,y3⟩;go_simp;try with_reducible rfl
 try simp only [Act.put,lxd,lxe,lxf]
 refine tk 3 (oi:=?o4) (v:=?v4) ?h4 (by kernel_rfl) ?q4 ?w4 ?y4 hHeld ?r4
 case h4 => simp only [lxa,lxb,lxc];rfl
 case q4 => exact fun _ _ _ h => h
 case w4 => rfl
 case y4 => rintro w' ⟨y1,y2,y3⟩;go_simp;try with_reducible rfl
 try simp only [Act.put,lxd,lxe,lxf]
 refine tk 4 (oi:=?o5) (v:=?v5) ?h5 (by kernel_rfl) ?q5 ?w5 ?y5 hHeld ?r5
 case h5 => simp only [lxa,lxb,lxc];rfl
 case q5 => exact fun _ _ _ h => h
 case w5 => rfl
 case y5 => rintro w' ⟨y1,y2,y3⟩;go_simp;try with_reducible rfl
 try simp only [Act.put,lxd,lxe,lxf]
 refine tk 5 (oi:=?o6) (v:=?v6) ?h6 (by kernel_rfl) ?q6 ?w6 ?y6 hHeld ?r6
 case h6 => simp only [lxa,lxb,lxc];rfl
 case q6 => exact fun _ _ _ h => h
 case w6 => rfl
 case y6 => rintro w' ⟨y1,y2,y3⟩;go_simp;try with_reducible rfl
 try simp only [Act.put,lxd,lxe,lxf]
 refine tk 6 (oi:=?o7) (v:=?v7) ?h7 (by kernel_rfl) ?q7 ?w7 ?y7 hHeld ?r7
 case h7 => simp only [lxa,lxb,lxc];rfl
 case q7 => exact fun _ _ _ h => h
 case w7 => rfl
 case y7 => rintro w' ⟨y1,y2,y3⟩;go_simp;try with_reducible rfl
 try simp only [Act.put,lxd,lxe,lxf]
 refine tk 7 (oi:=?o8) (v:=?v8) ?h8 (by kernel_rfl) ?q8 ?w8 ?y8 hHeld ?r8
 case h8 => simp only [lxa,lxb,lxc];rfl
 case q8 => exact fun _ _ _ h => h
 case w8 => rfl
 case y8 => rintro w' ⟨y1,y2,y3⟩;go_simp;try with_reducible rfl
 try simp only [Act.put,lxd,lxe,lxf]
 refine tk 8 (oi:=?o9) (v:=?v9) ?h9 (by kernel_rfl) ?q9 ?w9 ?y9 hHeld ?r9
 case h9 => simp only [lxa,lxb,lxc];rfl
 case q9 => exact fun _ _ _ h => h
 case w9 => rfl
 case y9 => rintro w' ⟨y1,y2,y3⟩;go_simp;try with_reducible rfl
 try simp only [Act.put,lxd,lxe,lxf]
 refine tk 9 (oi:=?o10) (v:=?v10) ?h10 (by kernel_rfl) ?q10 ?w10 ?y10 hHeld ?r10
 case h10 => simp only [lxa,lxb,lxc];rfl
 case q10 => exact fun _ _ _ h => h
 case w10 => rfl
 case y10 => rintro w' ⟨y1,y2,y3⟩;go_simp;try with_reducible rfl
 try simp only [Act.put,lxd,lxe,lxf]
 refine tk 10 (oi:=?o11) (v:=?v11) ?h11 (by kernel_rfl) ?q11 ?w11 ?y11 hHeld ?r11
 case h11 => simp only [lxa,lxb,lxc];rfl
 case q11 => exact fun _ _ _ h => h
 case w11 => rfl
 case y11 => rintro w' ⟨y1,y2,y3⟩;go_simp;try with_reducible rfl
 try simp only [Act.put,lxd,lxe,lxf]
 refine tk 11 (oi:=?o12) (v:=?v12) ?h12 (by kernel_rfl) ?q12 ?w12 ?y12 hHeld ?r12
 case h12 => simp only [lxa,lxb,lxc];rfl
 case q12 => exact fun _ _ _ h => h
 case w12 => rfl
 case y12 => rintro w' ⟨y1,y2,y3⟩;go_simp;try with_reducible rfl
 try simp only [Act.put,lxd,lxe,lxf]
 refine tk 12 (oi:=?o13) (v:=?v13) ?h13 (by kernel_rfl) ?q13 ?w13 ?y13 hHeld ?r13
 case h13 => simp only [lxa,lxb,lxc];rfl
 case q13 => exact fun _ _ _ h => h
 case w13 => rfl
 case y13 => rintro w' ⟨y1,y2,y3⟩;go_simp;try with_reducible rfl
 try simp only [Act.put,lxd,lxe,lxf]
 refine tk 14 (oi:=?o14) (v:=?v14) ?h14 (by kernel_rfl) ?q14 ?w14 ?y14 hHeld ?r14
 case h14 => simp only [lxa,lxb,lxc];rfl
 case q14 => exact fun _ _ _ h => h
 case w14 => rfl
 case y14 => rintro w' ⟨y1,y2,y3⟩;go_simp;try with_reducible rfl
 try simp only [Act.put,lxd,lxe,lxf]
 refine tk 15 (oi:=?o15) (v:=?v15) ?h15 (by kernel_rfl) ?q15 ?w15 ?y15 hHeld ?r15
 case h15 => simp only [lxa,lxb,lxc];rfl
 case q15 => exact fun _ _ _ h => h
 case w15 => rfl
 case y15 => rintro w' ⟨y1,y2,y3⟩;go_simp;try with_reducible rfl
 try simp only [Act.put,lxd,lxe,lxf]
 refine tk 16 (oi:=?o16) (v:=?v16) ?h16 (by kernel_rfl) ?q16 ?w16 ?y16 hHeld ?r16
 case h16 => simp only [lxa,lxb,lxc];rfl
 case q16 => exact fun _ _ _ h => h
 case w16 => rfl
 case y16 => rintro w' ⟨y1,y2,y3⟩;go_simp;try with_reducible rfl
 try simp only [Act.put,lxd,lxe,lxf]
 refine tk 17 (oi:=?o17) (v:=?v17) ?h17 (by kernel_rfl) ?q17 ?w17 ?y17 hHeld ?r17
 case h17 => simp only [lxa,lxb,lxc];rfl
 case q17 => exact fun _ _ _ h => h
 case w17 => rfl
 case y17 => rintro w' ⟨y1,y2,y3⟩;go_simp;try with_reducible rfl
 try simp only [Act.put,lxd,lxe,lxf]
 refine tk 18 (oi:=?o18) (v:=?v18) ?h18 (by kernel_rfl) ?q18 ?w18 ?y18 hHeld ?r18
 case h18 => simp only [lxa,lxb,lxc];rfl
 case q18 => exact fun _ _ _ h => h
 case w18 => rfl
 case y18 => rintro w' ⟨y1,y2,y3⟩;go_simp;try with_reducible rfl
 try simp only [Act.put,lxd,lxe,lxf]
 refine tk 19 (oi:=?o19) (v:=?v19) ?h19 (by kernel_rfl) ?q19 ?w19 ?y19 hHeld ?r19
 case h19 => simp only [lxa,lxb,lxc];rfl
 case q19 => exact fun _ _ _ h => h
 case w19 => rfl
 case y19 => rintro w' ⟨y1,y2,y3⟩;go_simp;try with_reducible rfl
 try simp only [Act.put,lxd,lxe,lxf]
 refine tk 20 (oi:=?o20) (v:=?v20) ?h20 (by kernel_rfl) ?q20 ?w20 ?y20 hHeld ?r20
 case h20 => simp only [lxa,lxb,lxc];rfl
 case q20 => exact fun _ _ _ h => h
 case w20 => rfl
 case y20 => rintro w' ⟨y1,y2,y3⟩;go_simp;try with_reducible rfl
 try simp only [Act.put,lxd,lxe,lxf]
 refine tk 21 (oi:=?o21) (v:=?v21) ?h21 (by kernel_rfl) ?q21 ?w21 ?y21 hHeld ?r21
 case h21 => simp only [lxa,lxb,lxc];rfl
 case q21 => exact fun _ _ _ h => h
 case w21 => rfl
 case y21 => rintro w' ⟨y1,y2,y3⟩;go_simp;try with_reducible rfl
 try simp only [Act.put,lxd,lxe,lxf]
 refine wpAnyH_ready (rs:=[13,22]) (by kernel_rfl) (by simp) ?_
 refine AllReadyH.cons (o:=?oo22) ?ho22 (fun K hK => ?st22) ?more22
 case ho22 => simp only [lxa,lxb,lxc];rfl
 case st22 =>
  rw [if_pos (by rfl)]
  go_simp
  go_at_call 113;refine (HC'.out _ ?_).mono ?_;(first | exact ((Same.refl w).alloc _).drew | exact (((Same.refl w).alloc _).alloc _).drew);rintro e wc ⟨A2,c2,rfl,s2,o2⟩;have hzc:w.heap.size < wc.heap.size:=Nat.lt_of_lt_of_le (by simp [heap_drew] <;> omega) s2.size;have S2:Hid (Same w wc):=(by first | exact ((Same.refl w).alloc _).drew.trans s2 | exact (((Same.refl w).alloc _).alloc _).drew.trans s2);have hnb:Hid ((Value.slice A2 was.length c2).ownBlock ≠ some w.heap.size):=(fun e => by have:=(o2.lt _ e).1;simp [heap_drew] at this <;> omega);have hbx:wc.cell? ⟨w.heap.size,3,none⟩ = some (.string nn):=(s2.cells _ _ (by simp [heap_drew] <;> omega)).trans (by simp [cell_drew]);have HALL:Hid (∀ p v,World.cell? _ p = some v → wc.cell? p = some v):=(fun p v h => (s2.cell (World.block_lt_of_cell? _ _ h)).trans h);have x1c:=(S2.out.cells _ _ hg).trans x1;have e0c:=(S2.out.cells _ _ hga).trans e0;have e2c:=(S2.out.cells _ _ hga).trans e2';have own3:wc.ownsRow w.heap.size 9 1 (.slice A2 was.length c2) was.length (was.map .string):=o2.mono (Nat.le_of_lt (by simp [heap_drew] <;> omega));have OWN:=Lib.hid own3;clear s2 o2 own3
  try go_simp
  refine hK.out _ _ ?_ (fun hHeld => ?_)
  ·show _ ∧ _ ∧ _
   (first | (simp [*];done) | (simp [*,size_setCell,cell_drew,cell_far,cell_near,cell_new',cell_old];done) | go_keep)
  clear hK K
  try simp only [Act.put,lxd,lxe,lxf]
  refine wpAnyH_ready (rs:=[22]) (by kernel_rfl) (by simp) ?_
  refine AllReadyH.cons (o:=?oo23) ?ho23 (fun K hK => ?st23) ?more23
  case ho23 => simp only [lxa,lxb,lxc];rfl
  case more23 => exact AllReadyH.nil
  rw [if_pos (by rfl)]
  go_simp
  refine hK.out _ _ ?_ (fun hHeld => ?_)
  ·show _ ∧ _ ∧ _
   (first | (simp [*];done) | (simp [*,size_setCell,cell_drew,cell_far,cell_near,cell_new',cell_old];done) | go_keep)
  clear hK K
  try simp only [Act.put,lxd,lxe,lxf]
  refine wpAnyH_ready (rs:=[23]) (by kernel_rfl) (by simp) ?_
  refine AllReadyH.cons (o:=?oo24) ?ho24 (fun K hK => ?st24) ?more24
  case ho24 => simp only [lxa,lxb,lxc];rfl
  case more24 => exact AllReadyH.nil
  refine step_append_any _ rfl (.tmp 19) (.tmp 28) 80 rfl w.heap.size 9 i0 _ 1 16 Tryz.underlying80 hi0 hiz0 hiz1 hiz2 rfl (by decide) (.slice A2 was.length c2) was.length (was.map .string) rfl ?_ _ _ 1 1 [.string nm] rfl (reads_cell ?_) (fun u hu => by simp at hu;subst hu;rfl) BD.out.1 BD.out.2 ?_ ?_;(first | exact OWN.out | exact OWN.out.alloc _);(first | exact HALL.out _ _ (by simp [cell_drew]) | simp [*,cell_drew]);(exact Nat.le_trans (Nat.le_of_lt hzc) (by simp));intro v1 wa hown1 hg1 hat1;obtain ⟨A3,c3,rfl⟩:=own_val hown1;have hgw:wc.grownBy wa (Value.slice A2 was.length c2).ownBlock:=(by first | exact hg1 | exact same_grown ((Same.refl wc).alloc _) hg1);have OWN1:=Lib.hid hown1;have SA:Hid (Same w wa):=Below.grown S2.out hgw S2.out.size (fun k hk => (OWN.out.lt k hk).1);have hza:w.heap.size < wa.heap.size:=Nat.lt_of_lt_of_le hzc hgw.size;have hbxa:wa.cell? ⟨w.heap.size,3,none⟩ = some (.string nn):=(World.cell?_of_block (a:=⟨w.heap.size,3,none⟩) (hgw.block w.heap.size hzc hnb.out.symm)).trans hbx;have x1a:=(SA.out.cells _ _ hg).trans x1;have e0a:=(SA.out.cells _ _ hga).trans e0;have e2a:=(SA.out.cells _ _ hga).trans e2';have f0a:wa.frozen? ⟨ga,a * 6,none⟩ = false:=(SA.out.frees _ _ hga).trans f0;have f2a:wa.frozen? ⟨ga,a * 6 + 2,none⟩ = false:=(SA.out.frees _ _ hga).trans f2;have hlta:g < wa.heap.size:=Nat.lt_of_lt_of_le hg SA.out.size;have hgaa:ga < wa.heap.size:=Nat.lt_of_lt_of_le hga SA.out.size;clear hown1 hg1 hat1 hgw
  refine hK.out _ _ ?_ (fun hHeld => ?_)
  ·show _ ∧ _ ∧ _
   (first | (simp [*];done) | (simp [*,size_setCell,cell_drew,cell_far,cell_near,cell_new',cell_old];done) | go_keep)
  clear hK K
  try simp only [Act.put,lxd,lxe,lxf]
  refine tk 24 (oi:=?o25) (v:=?v25) ?h25 (by kernel_rfl) ?q25 ?w25 ?y25 hHeld ?r25
  case h25 => simp only [lxa,lxb,lxc];rfl
  case q25 => exact fun _ _ _ h => h
  case w25 => rfl
  case y25 => rintro w' ⟨y1,y2,y3⟩;go_simp;try with_reducible rfl
  try simp only [Act.put,lxd,lxe,lxf]
  refine tk 25 (oi:=?o26) (v:=?v26) ?h26 (by kernel_rfl) ?q26 ?w26 ?y26 hHeld ?r26
  case h26 => simp only [lxa,lxb,lxc];rfl
  case q26 => exact fun _ _ _ h => h
  case w26 => rfl
  case y26 => rintro w' ⟨y1,y2,y3⟩;go_simp;try with_reducible rfl
  try simp only [Act.put,lxd,lxe,lxf]
  refine wpAnyH_done (by kernel_rfl) ?_ _
  refine lastQ_of (o:=?oz27) ?hz27 ?gz27 ?sz27
  case hz27 => simp only [lxa,lxb,lxc];rfl
  case gz27 => rfl
  intro K hK
  go_simp
  refine hK.out _ _ ?_
  clear hK K
  try simp only [Act.put,lxd,lxe,lxf]
  go_wp2
  go_region_held3 (fun w' => w'.cell? ⟨g,o + 1,none⟩ = some (.slice (some ⟨ga,0,none⟩) n ca) ∧ w'.cell? ⟨w.heap.size,3,none⟩ = some (.string nn)) (first | (simp [*];done) | ((repeat' apply And.intro) <;> (first | (simp [*];done) | (simp [*,size_setCell,cell_drew,cell_far,cell_near,cell_new',cell_old];done) | go_keep))) (fail)
  go_wp2
  go_end0
  refine ⟨A3,c3,wa,rfl,?_,SA.out,rfl⟩
  have:=OWN1.out
  rw [List.map_append]
  exact this
 refine AllReadyH.cons (o:=?oo28) ?ho28 (fun K hK => ?st28) ?more28
 case ho28 => simp only [lxa,lxb,lxc];rfl
 case more28 => exact AllReadyH.nil
 case st28 =>
  rw [if_pos (by rfl)]
  go_simp
  refine hK.out _ _ ?_ (fun hHeld => ?_)
  ·show _ ∧ _ ∧ _
   (first | (simp [*];done) | (simp [*,size_setCell,cell_drew,cell_far,cell_near,cell_new',cell_old];done) | go_keep)
  clear hK K
  try simp only [Act.put,lxd,lxe,lxf]
  refine wpAnyH_ready (rs:=[13]) (by kernel_rfl) (by simp) ?_
  refine AllReadyH.cons (o:=?oo29) ?ho29 (fun K hK => ?st29) ?more29
  case ho29 => simp only [lxa,lxb,lxc];rfl
  case more29 => exact AllReadyH.nil
  rw [if_pos (by rfl)]
  go_simp
  go_at_call 113;refine (HC'.out _ ?_).mono ?_;(first | exact ((Same.refl w).alloc _).drew | exact (((Same.refl w).alloc _).alloc _).drew);rintro e wc ⟨A2,c2,rfl,s2,o2⟩;have hzc:w.heap.size < wc.heap.size:=Nat.lt_of_lt_of_le (by simp [heap_drew] <;> omega) s2.size;have S2:Hid (Same w wc):=(by first | exact ((Same.refl w).alloc _).drew.trans s2 | exact (((Same.refl w).alloc _).alloc _).drew.trans s2);have hnb:Hid ((Value.slice A2 was.length c2).ownBlock ≠ some w.heap.size):=(fun e => by have:=(o2.lt _ e).1;simp [heap_drew] at this <;> omega);have hbx:wc.cell? ⟨w.heap.size,3,none⟩ = some (.string nn):=(s2.cells _ _ (by simp [heap_drew] <;> omega)).trans (by simp [cell_drew]);have HALL:Hid (∀ p v,World.cell? _ p = some v → wc.cell? p = some v):=(fun p v h => (s2.cell (World.block_lt_of_cell? _ _ h)).trans h);have x1c:=(S2.out.cells _ _ hg).trans x1;have e0c:=(S2.out.cells _ _ hga).trans e0;have e2c:=(S2.out.cells _ _ hga).trans e2';have own3:wc.ownsRow w.heap.size 9 1 (.slice A2 was.length c2) was.length (was.map .string):=o2.mono (Nat.le_of_lt (by simp [heap_drew] <;> omega));have OWN:=Lib.hid own3;clear s2 o2 own3
  try go_simp
  refine hK.out _ _ ?_ (fun hHeld => ?_)
  ·show _ ∧ _ ∧ _
   (first | (simp [*];done) | (simp [*,size_setCell,cell_drew,cell_far,cell_near,cell_new',cell_old];done) | go_keep)
  clear hK K
  try simp only [Act.put,lxd,lxe,lxf]
  refine wpAnyH_ready (rs:=[23]) (by kernel_rfl) (by simp) ?_
  refine AllReadyH.cons (o:=?oo30) ?ho30 (fun K hK => ?st30) ?more30
  case ho30 => simp only [lxa,lxb,lxc];rfl
  case more30 => exact AllReadyH.nil
  refine step_append_any _ rfl (.tmp 19) (.tmp 28) 80 rfl w.heap.size 9 i0 _ 1 16 Tryz.underlying80 hi0 hiz0 hiz1 hiz2 rfl (by decide) (.slice A2 was.length c2) was.length (was.map .string) rfl ?_ _ _ 1 1 [.string nm] rfl (reads_cell ?_) (fun u hu => by simp at hu;subst hu;rfl) BD.out.1 BD.out.2 ?_ ?_;(first | exact OWN.out | exact OWN.out.alloc _);(first | exact HALL.out _ _ (by simp [cell_drew]) | simp [*,cell_drew]);(exact Nat.le_trans (Nat.le_of_lt hzc) (by simp));intro v1 wa hown1 hg1 hat1;obtain ⟨A3,c3,rfl⟩:=own_val hown1;have hgw:wc.grownBy wa (Value.slice A2 was.length c2).ownBlock:=(by first | exact hg1 | exact same_grown ((Same.refl wc).alloc _) hg1);have OWN1:=Lib.hid hown1;have SA:Hid (Same w wa):=Below.grown S2.out hgw S2.out.size (fun k hk => (OWN.out.lt k hk).1);have hza:w.heap.size < wa.heap.size:=Nat.lt_of_lt_of_le hzc hgw.size;have hbxa:wa.cell? ⟨w.heap.size,3,none⟩ = some (.string nn):=(World.cell?_of_block (a:=⟨w.heap.size,3,none⟩) (hgw.block w.heap.size hzc hnb.out.symm)).trans hbx;have x1a:=(SA.out.cells _ _ hg).trans x1;have e0a:=(SA.out.cells _ _ hga).trans e0;have e2a:=(SA.out.cells _ _ hga).trans e2';have f0a:wa.frozen? ⟨ga,a * 6,none⟩ = false:=(SA.out.frees _ _ hga).trans f0;have f2a:wa.frozen? ⟨ga,a * 6 + 2,none⟩ = false:=(SA.out.frees _ _ hga).trans f2;have hlta:g < wa.heap.size:=Nat.lt_of_lt_of_le hg SA.out.size;have hgaa:ga < wa.heap.size:=Nat.lt_of_lt_of_le hga SA.out.size;clear hown1 hg1 hat1 hgw
  refine hK.out _ _ ?_ (fun hHeld => ?_)
  ·show _ ∧ _ ∧ _
   (first | (simp [*];done) | (simp [*,size_setCell,cell_drew,cell_far,cell_near,cell_new',cell_old];done) | go_keep)
  clear hK K
  try simp only [Act.put,lxd,lxe,lxf]
  refine tk 24 (oi:=?o31) (v:=?v31) ?h31 (by kernel_rfl) ?q31 ?w31 ?y31 hHeld ?r31
  case h31 => simp only [lxa,lxb,lxc];rfl
  case q31 => exact fun _ _ _ h => h
  case w31 => rfl
  case y31 => rintro w' ⟨y1,y2,y3⟩;go_simp;try with_reducible rfl
  try simp only [Act.put,lxd,lxe,lxf]
  refine tk 25 (oi:=?o32) (v:=?v32) ?h32 (by kernel_rfl) ?q32 ?w32 ?y32 hHeld ?r32
  case h32 => simp only [lxa,lxb,lxc];rfl
  case q32 => exact fun _ _ _ h => h
  case w32 => rfl
  case y32 => rintro w' ⟨y1,y2,y3⟩;go_simp;try with_reducible rfl
  try simp only [Act.put,lxd,lxe,lxf]
  refine wpAnyH_done (by kernel_rfl) ?_ _
  refine lastQ_of (o:=?oz33) ?hz33 ?gz33 ?sz33
  case hz33 => simp only [lxa,lxb,lxc];rfl
  case gz33 => rfl
  intro K hK
  go_simp
  refine hK.out _ _ ?_
  clear hK K
  try simp only [Act.put,lxd,lxe,lxf]
  go_wp2
  go_region_held3 (fun w' => w'.cell? ⟨g,o + 1,none⟩ = some (.slice (some ⟨ga,0,none⟩) n ca) ∧ w'.cell? ⟨w.heap.size,3,none⟩ = some (.string nn)) (first | (simp [*];done) | ((repeat' apply And.intro) <;> (first | (simp [*];done) | (simp [*,size_setCell,cell_drew,cell_far,cell_near,cell_new',cell_old];done) | go_keep))) (fail)
  go_wp2
  go_end0
  refine ⟨A3,c3,wa,rfl,?_,SA.out,rfl⟩
  have:=OWN1.out
  rw [List.map_append]
  exact this
end Go.Proofs.YtfifnemnihcijaaGreatDoor

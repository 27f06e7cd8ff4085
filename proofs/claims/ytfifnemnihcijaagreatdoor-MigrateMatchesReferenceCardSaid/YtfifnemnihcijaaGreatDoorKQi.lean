import Derived.Test.YtfifnemnihcijaaGreatDoorKQg
import Derived.Test.YtfifnemnihcijaaGreatDoorKHj
set_option linter.unusedSimpArgs false
set_option linter.unusedVariables false
set_option maxHeartbeats 16000000
set_option maxRecDepth 100000
namespace Go.Proofs.YtfifnemnihcijaaGreatDoor
open Go.RowKit
theorem likeS_same {w:World} {A B:Option Addr} {n c p d:Nat} (h:LikeS w ⟨A,n,c⟩ ⟨B,p,d⟩):Calls Tryz.prog 11 #[.agg #[.slice A n c],.agg #[.slice B p d]] w fun e w' => e = .returned (.bool true) ∧ Same w w':=by
 obtain ⟨ts,us,a,b,he⟩:=h
 have:=same_s_ok ⟨A,n,c⟩ ⟨B,p,d⟩ ts us w a b
 rw [decide_eq_true he] at this
 exact this
theorem likeT_same {w:World} {A B:Option Addr} {n c p d:Nat} (h:LikeT w ⟨A,n,c⟩ ⟨B,p,d⟩):Calls Tryz.prog 31 #[.slice A n c,.slice B p d] w fun e w' => e = .returned (.bool true) ∧ Same w w':=by
 obtain ⟨ts,us,a,b,he⟩:=h
 have:=same43_ok ⟨A,n,c⟩ ⟨B,p,d⟩ ts us w a b
 rw [decide_eq_true he] at this
 exact this
theorem LikeS.next {w w':World} {h1 h2:Hd} (h:LikeS w h1 h2) (s:Same w w'):LikeS w' h1 h2:=by
 obtain ⟨ts,us,a,b,he⟩:=h
 exact ⟨ts,us,a.same s,b.same s,he⟩
theorem LikeT.next {w w':World} {h1 h2:Hd} (h:LikeT w h1 h2) (s:Same w w'):LikeT w' h1 h2:=by
 obtain ⟨ts,us,a,b,he⟩:=h
 exact ⟨ts,us,a.same s,b.same s,he⟩
theorem match43_walk (h:Hd) (ts:List RT) (c:Cg) (ht:Hd) (tbs:List Tbl) (ho:Hd) (ops:List Opn) (w:World) (l:Laid w) (a:TabsAt w h ts) (hn:okS c.name) (hd:okS c.dflt.s) (tt:TablesAt w (fun k => k < w.heap.size) ht tbs) (oo:OpsAt w (fun k => k < w.heap.size) ho ops) :
  Calls Tryz.prog 4 #[.agg #[h.val],c.val,ht.val,ho.val] w fun e w' => e = .returned (.bool true) ∧ Same w w':=by
 have HH:=Lib.hid (fun W (s:Same w W) => head43_ok W (l.same s))
 have HS:=Lib.hid (fun W (s:Same w W) => smallM_ok h ht ho ts tbs ops W (a.same s) (tt.same s) (oo.same s))
 have HST:=Lib.hid (fun (hw:WasL (ts.map RT.tb) 10) (tsl:ts.length ≤ 1000000) (hf:fewB (rowsOf tbs) = true) W (s:Same w W) => pair_start h ts c ht tbs W (l.same s) (a.same s) hw tsl hn hd ⟨(tt.same s).1,(tt.same s).2.1.mono fun k hk => Nat.lt_of_lt_of_le hk s.size,fun t ht' => ⟨((tt.same s).2.2 t ht').1,((tt.same s).2.2 t ht').2.1.mono fun k hk => Nat.lt_of_lt_of_le hk s.size,fun r hr => ⟨(((tt.same s).2.2 t ht').2.2 r hr).1,(((tt.same s).2.2 t ht').2.2 r hr).2.mono fun k hk => Nat.lt_of_lt_of_le hk s.size⟩⟩⟩ hf)
 have HO:=Lib.hid oo
 have htl:tbs.length = ht.n:=tt.1.1
 have htb:ht.n ≤ 9223372036854775807:=tt.1.2.1
 have hol:ops.length = ho.n:=oo.1.1
 have hob:ho.n ≤ 9223372036854775807:=oo.1.2.1
 obtain ⟨A,m,cc⟩:=h
 obtain ⟨At_,tm,tc⟩:=ht
 obtain ⟨Ao,om,oc⟩:=ho
 obtain ⟨k,t,aa,n,to_,⟨dk,dn,ds⟩⟩:=c
 have htl':tbs.length = tm:=htl
 have htb':tm ≤ 9223372036854775807:=htb
 have hol':ops.length = om:=hol
 have hob':om ≤ 9223372036854775807:=hob
 subst htl' hol'
 clear htl htb hol hob a l hn hd tt oo
 show Calls Tryz.prog 4 #[.agg #[.slice A m cc],.agg #[.int .i64 k,.string t,.string aa,.string n,.int .i64 to_,.int .i64 dk,.int .i64 dn,.string ds],.slice At_ tbs.length tc,.slice Ao ops.length oc] w _
 obtain ⟨q,hq⟩:∃ q,q = smallM (ts.map RT.tb) (rowsOf tbs) ops:=⟨_,rfl⟩
 have HS':Hid (Rt 22 #[.agg #[.slice A m cc],.slice At_ tbs.length tc,.slice Ao ops.length oc] w (.bool q)):=by rw [hq];exact HS
 have HQ:=Lib.hid hq
 clear HS hq
 go_enter Tryz.func4,Tryz.ntmps4
 go_wp2_with fail
 obtain ⟨W0,hW0,S_w_W0,lbsW0,bsW00,lbcW0,bcW00,bcW01,bcW02,bcW03,bcW04,bcW05,bcW06,bcW07⟩:=open18 w 24 28 (.slice A m cc) (.int .i64 k) (.string t) (.string aa) (.string n) (.int .i64 to_) (.int .i64 dk) (.int .i64 dn) (.string ds)
 rw [← hW0]
 clear hW0
 refine (HH.out _ S_w_W0.out).mono ?_
 rintro e w1 ⟨rfl,s1⟩
 have S_w_w1:Hid (Same w w1):=S_w_W0.out.trans s1
 obtain ⟨lbsw1,bsw10⟩:=st1 s1 lbsW0 bsW00
 obtain ⟨lbcw1,bcw10,bcw11,bcw12,bcw13,bcw14,bcw15,bcw16,bcw17⟩:=st8 s1 lbcW0 bcW00 bcW01 bcW02 bcW03 bcW04 bcW05 bcW06 bcW07
 clear S_w_W0 lbsW0 bsW00 lbcW0 bcW00 bcW01 bcW02 bcW03 bcW04 bcW05 bcW06 bcW07
 clear s1
 clear HH
 go_wp2_with fail
 refine (HS'.out _ S_w_w1.out).mono ?_
 rintro e w2 ⟨rfl,s2⟩
 have S_w_w2:Hid (Same w w2):=S_w_w1.out.trans s2
 obtain ⟨lbsw2,bsw20⟩:=st1 s2 lbsw1 bsw10
 obtain ⟨lbcw2,bcw20,bcw21,bcw22,bcw23,bcw24,bcw25,bcw26,bcw27⟩:=st8 s2 lbcw1 bcw10 bcw11 bcw12 bcw13 bcw14 bcw15 bcw16 bcw17
 clear S_w_w1 lbsw1 bsw10 lbcw1 bcw10 bcw11 bcw12 bcw13 bcw14 bcw15 bcw16 bcw17
 clear s2
 clear HS'
 cases q with
 | false =>
  go_wp2_with fail
  go_ret
  first | exact ⟨rfl,S_w_w2.out⟩ | exact ⟨rfl,S_w_w2.out.alloc _⟩ | exact ⟨rfl,(S_w_w2.out.alloc _).alloc _⟩
 | true =>
  have HP:=Lib.hid (smallM_parts HQ.out.symm)
  have HW:Hid (WasL (ts.map RT.tb) 10):=wasL_small HP.out.1
  have HTL:Hid (ts.length ≤ 1000000):=by have:=len_small HP.out.1;rw [List.length_map] at this;exact this
  have h20:ops.length ≤ 20:=HP.out.2.2.1
  obtain ⟨W,hW⟩:∃ W,W = w2:=⟨_,rfl⟩
  have SW:Hid (Same w W):=by rw [hW];exact S_w_w2
  have HX:=Lib.hid (HST.out HW.out HTL.out HP.out.2.1 w2 S_w_w2.out)
  rw [← hW] at HX
  have HX':Hid (Calls Tryz.prog 23 #[.agg #[.slice A m cc],.agg #[.int .i64 k,.string t,.string aa,.string n,.int .i64 to_,.int .i64 dk,.int .i64 dn,.string ds],.slice At_ tbs.length tc] W fun e w' => ∃ (PA:Option Addr) (E:Int),e = .returned (.tuple #[.pointer PA,.int .i64 E]) ∧ Same W w' ∧
     ∀ w2,Same w' w2 → Calls Tryz.prog 24 #[.agg #[.slice A m cc],.agg #[.int .i64 k,.string t,.string aa,.string n,.int .i64 to_,.int .i64 dk,.int .i64 dn,.string ds],.slice At_ tbs.length tc] w2 fun e2 w3 => ∃ PB:Option Addr,e2 = .returned (.tuple #[.pointer PB,.int .i64 E]) ∧ Pair W w3 PA PB 0 ∧ ((PA = none ∧ PB = none) ∨ ∃ x y,PA = some x ∧ PB = some y)):=HX
  rw [hW] at HX'
  clear HST HX
  go_wp2_with fail
  refine HX'.out.mono ?_
  rintro e w3 ⟨PA,E,rfl,s3,hr3⟩
  have HR3:=Lib.hid (hr3 w3 (Same.refl w3))
  rw [← hW] at HR3 s3
  subst hW
  have S_w_w3:Hid (Same w w3):=S_w_w2.out.trans s3
  obtain ⟨lbsw3,bsw30⟩:=st1 s3 lbsw2 bsw20
  obtain ⟨lbcw3,bcw30,bcw31,bcw32,bcw33,bcw34,bcw35,bcw36,bcw37⟩:=st8 s3 lbcw2 bcw20 bcw21 bcw22 bcw23 bcw24 bcw25 bcw26 bcw27
  clear S_w_w2 lbsw2 bsw20 lbcw2 bcw20 bcw21 bcw22 bcw23 bcw24 bcw25 bcw26 bcw27
  clear s3
  clear HX' hr3
  go_wp2_with fail
  refine HR3.out.mono ?_
  rintro e w4 ⟨PB,rfl,pr,hab⟩
  have PR:=Lib.hid pr
  have S_w_w4:Hid (Same w w4):=SW.out.trans pr.same
  clear HR3 pr S_w_w3 lbsw3 bsw30 lbcw3 bcw30 bcw31 bcw32 bcw33 bcw34 bcw35 bcw36 bcw37
  have tE:(E != E) = false:=by simp
  have HO2:Hid (∀ q (hq:q < ops.length),∃ b5 o5,Ao = some ⟨b5,o5,none⟩ ∧ b5 < W.heap.size ∧ W.cell? ⟨b5,o5 + q * 3,none⟩ = some (.int .u8 ops[q].k) ∧ W.cell? ⟨b5,o5 + q * 3 + 1,none⟩ = some (.int .i64 ops[q].n) ∧ W.cell? ⟨b5,o5 + q * 3 + 2,none⟩ = some ops[q].r.h.val ∧ RowAt W ops[q].r.h ops[q].r.v ∧ ops[q].Fine):=Lib.hid fun q hq => by
   obtain ⟨b5,o5,hB,blt,hc⟩:=HO.out.1.2.2 q hq
   have hf:=HO.out.2 _ (List.getElem_mem hq)
   exact ⟨b5,o5,hB,Nat.lt_of_lt_of_le blt SW.out.size,(SW.out.cells _ _ blt).trans (hc 0 _ rfl),(SW.out.cells _ _ blt).trans (hc 1 _ rfl),(SW.out.cells _ _ blt).trans (hc 2 _ rfl),hf.1.1.same SW.out,hf.2⟩
  clear HO HP HW HTL HQ
  go_upto_region 6 with (fail)
  go_cut [59] (fun v wx => v = .bool false ∧ wx = w4)
  case first =>
   rcases hab with ⟨rfl,rfl⟩ | ⟨x,y,rfl,rfl⟩
   all_goals
    go_wp2_with fail
    go_meet
    all_goals exact ⟨rfl,rfl⟩
  case rest =>
   obtain ⟨rfl,rfl⟩:=hcut
   go_wp2_with fail
   go_loopw [14] (fun i wr => ∃ q:Nat,q ≤ ops.length ∧ i = .int .i64 q ∧ Hid (Pair W wr PA PB q)) (fun i _ => ops.length - (intOf i).toNat)
   case atStart => exact ⟨0,Nat.zero_le _,rfl,PR⟩
   case round =>
    obtain ⟨q,hq,rfl,PQ⟩:=hrel
    clear PR
    have SWr:Hid (Same W wr):=PQ.out.same
    by_cases hlq:q < ops.length
    ·obtain ⟨b5,o5,hB,bl5,z0,z1,z2,hrow,hfine⟩:=HO2.out q hlq
     have hB':Ao = some ⟨b5,o5,none⟩:=hB
     have HROW:=Lib.hid hrow
     have hk256:=hfine.k
     have hxn1:=hfine.n1
     have hxn2:=hfine.n2
     obtain ⟨x,hx⟩:∃ x,x = ops[q]:=⟨_,rfl⟩
     rw [← hx] at z0 z1 z2 HROW hk256 hxn1 hxn2
     clear hx hB hrow hfine
     obtain ⟨xk,xn,⟨⟨Ar,rn,rc⟩,row⟩⟩:=x
     have u0:=(SWr.out.cells _ _ bl5).trans z0
     have u1:=(SWr.out.cells _ _ bl5).trans z1
     have u2:=(SWr.out.cells _ _ bl5).trans z2
     have blr:b5 < wr.heap.size:=Nat.lt_of_lt_of_le bl5 SWr.out.size
     have hq20:q ≤ 20:=by omega
     have hk256':xk < 256:=hk256
     have hxn1':-9223372036854775808 ≤ xn:=hxn1
     have hxn2':xn ≤ 9223372036854775807:=hxn2
     clear hk256 hxn1 hxn2
     subst hB'
     have h4:xk % 4 = 0 ∨ xk % 4 = 1 ∨ xk % 4 = 2 ∨ xk % 4 = 3:=by omega
     have q0:(0:Int) ≤ (q:Int):=by omega
     have qI:(q:Int) < (ops.length:Int):=by omega
     have FINR:Hid (∀ W',Pair W W' PA PB q → Hid (Pair W W' PA PB (q + 1))):=Lib.hid fun W' p => p.mono (Nat.le_succ q)
     rcases h4 with h4 | h4 | h4 | h4
     ·have p4:(xk:Int) % 4 = 0:=by omega
      have HST:=Lib.hid (pair_step PQ.out hq20 xn hxn1' hxn2')
      clear h4
      go_wp2_with fail
      refine HST.out.mono ?_
      rintro e w5 ⟨N,E5,rfl,s5,hr5⟩
      have HR5:=Lib.hid (hr5 w5 (Same.refl w5))
      have v1:=(s5.cells _ _ bl5).trans z1
      clear s5 hr5 u0 u1 u2
      go_wp2_with fail
      refine HR5.out.mono ?_
      rintro e w6 ⟨rfl,p6⟩
      have P6:=Lib.hid p6
      have tN:(N != N) = false:=by simp
      have tE5:(E5 != E5) = false:=by simp
      clear p6 v1
      go_wp2_with fail
      go_roundw
      case rel => exact ⟨q + 1,by omega,by go_num,FINR.out _ P6.out⟩
      case measure => simp [intOf];omega
     ·have p4:(xk:Int) % 4 = 1:=by omega
      have HPU:Hid (∀ W2,Same wr W2 → Calls Tryz.prog 27 #[.pointer PA,.int .i64 xn,.slice Ar rn rc] W2 fun e w' => ∃ E:Int,e = .returned (.int .i64 E) ∧ Same W w' ∧
        ∀ w2,Same w' w2 → Calls Tryz.prog 28 #[.pointer PB,.int .i64 xn,.slice Ar rn rc] w2 fun e2 w3 => e2 = .returned (.int .i64 E) ∧ Pair W w3 PA PB (q + 1)):=Lib.hid fun W2 s => pair_put (hr:=⟨Ar,rn,rc⟩) (row:=row) (PQ.out.next s) hq20 xn HROW.out
      clear h4
      go_wp2_with fail
      refine wp_region_last (opsP:=?opsP) (S:=(fun w' => w'.cell? ⟨b5,o5 + q * 3 + 1,none⟩ = some (.int .i64 xn) ∧ w'.cell? ⟨b5,o5 + q * 3 + 2,none⟩ = some (.slice Ar rn rc))) (n:=24) (by kernel_rfl) (lastOk_of (by kernel_rfl)) ?hp ?wk
      case hp => simp only [List.pop_toArray,List.dropLast_cons_cons,List.dropLast_singleton];rfl
      have SMwd:Hid (Same wr wr.drew):=(Same.refl wr).drew
      generalize wr.drew = wd at SMwd ⊢
      have d1:=(SMwd.out.cells _ _ blr).trans u1
      have d2:=(SMwd.out.cells _ _ blr).trans u2
      have hSW:Hid (Same W wd):=SWr.out.trans SMwd.out
      have hHeld:(fun w' => w'.cell? ⟨b5,o5 + q * 3 + 1,none⟩ = some (.int .i64 xn) ∧ w'.cell? ⟨b5,o5 + q * 3 + 2,none⟩ = some (.slice Ar rn rc)) wd:=⟨d1,d2⟩
      refine tk 0 (oi:=?o1) (v:=?v1) ?h1 (by kernel_rfl) ?q1 ?w1 ?y1 hHeld ?r1
      case h1 => simp only [lxa,lxb,lxc];rfl
      case q1 => exact fun _ _ _ h => h
      case w1 => rfl
      case y1 => rintro w' ⟨y1z,y2z⟩;go_simp;try with_reducible rfl
      try simp only [Act.put,lxd,lxe,lxf]
      refine tk 1 (oi:=?o2) (v:=?v2) ?h2 (by kernel_rfl) ?q2 ?w2 ?y2 hHeld ?r2
      case h2 => simp only [lxa,lxb,lxc];rfl
      case q2 => exact fun _ _ _ h => h
      case w2 => rfl
      case y2 => rintro w' ⟨y1z,y2z⟩;go_simp;try with_reducible rfl
      try simp only [Act.put,lxd,lxe,lxf]
      refine tk 2 (oi:=?o3) (v:=?v3) ?h3 (by kernel_rfl) ?q3 ?w3 ?y3 hHeld ?r3
      case h3 => simp only [lxa,lxb,lxc];rfl
      case q3 => exact fun _ _ _ h => h
      case w3 => rfl
      case y3 => rintro w' ⟨y1z,y2z⟩;go_simp;try with_reducible rfl
      try simp only [Act.put,lxd,lxe,lxf]
      refine tk 3 (oi:=?o4) (v:=?v4) ?h4 (by kernel_rfl) ?q4 ?w4 ?y4 hHeld ?r4
      case h4 => simp only [lxa,lxb,lxc];rfl
      case q4 => exact fun _ _ _ h => h
      case w4 => rfl
      case y4 => rintro w' ⟨y1z,y2z⟩;go_simp;try with_reducible rfl
      try simp only [Act.put,lxd,lxe,lxf]
      refine tk 4 (oi:=?o5) (v:=?v5) ?h5 (by kernel_rfl) ?q5 ?w5 ?y5 hHeld ?r5
      case h5 => simp only [lxa,lxb,lxc];rfl
      case q5 => exact fun _ _ _ h => h
      case w5 => rfl
      case y5 => rintro w' ⟨y1z,y2z⟩;go_simp;try with_reducible rfl
      try simp only [Act.put,lxd,lxe,lxf]
      refine tk 5 (oi:=?o6) (v:=?v6) ?h6 (by kernel_rfl) ?q6 ?w6 ?y6 hHeld ?r6
      case h6 => simp only [lxa,lxb,lxc];rfl
      case q6 => exact fun _ _ _ h => h
      case w6 => rfl
      case y6 => rintro w' ⟨y1z,y2z⟩;go_simp;try with_reducible rfl
      try simp only [Act.put,lxd,lxe,lxf]
      refine tk 6 (oi:=?o7) (v:=?v7) ?h7 (by kernel_rfl) ?q7 ?w7 ?y7 hHeld ?r7
      case h7 => simp only [lxa,lxb,lxc];rfl
      case q7 => exact fun _ _ _ h => h
      case w7 => rfl
      case y7 => rintro w' ⟨y1z,y2z⟩;go_simp;try with_reducible rfl
      try simp only [Act.put,lxd,lxe,lxf]
      refine tk 7 (oi:=?o8) (v:=?v8) ?h8 (by kernel_rfl) ?q8 ?w8 ?y8 hHeld ?r8
      case h8 => simp only [lxa,lxb,lxc];rfl
      case q8 => exact fun _ _ _ h => h
      case w8 => rfl
      case y8 => rintro w' ⟨y1z,y2z⟩;go_simp;try with_reducible rfl
      try simp only [Act.put,lxd,lxe,lxf]
      refine tk 8 (oi:=?o9) (v:=?v9) ?h9 (by kernel_rfl) ?q9 ?w9 ?y9 hHeld ?r9
      case h9 => simp only [lxa,lxb,lxc];rfl
      case q9 => exact fun _ _ _ h => h
      case w9 => rfl
      case y9 => rintro w' ⟨y1z,y2z⟩;go_simp;try with_reducible rfl
      try simp only [Act.put,lxd,lxe,lxf]
      refine tk 9 (oi:=?o10) (v:=?v10) ?h10 (by kernel_rfl) ?q10 ?w10 ?y10 hHeld ?r10
      case h10 => simp only [lxa,lxb,lxc];rfl
      case q10 => exact fun _ _ _ h => h
      case w10 => rfl
      case y10 => rintro w' ⟨y1z,y2z⟩;go_simp;try with_reducible rfl
      try simp only [Act.put,lxd,lxe,lxf]
      refine tk 10 (oi:=?o11) (v:=?v11) ?h11 (by kernel_rfl) ?q11 ?w11 ?y11 hHeld ?r11
      case h11 => simp only [lxa,lxb,lxc];rfl
      case q11 => exact fun _ _ _ h => h
      case w11 => rfl
      case y11 => rintro w' ⟨y1z,y2z⟩;go_simp;try with_reducible rfl
      try simp only [Act.put,lxd,lxe,lxf]
      refine tk 12 (oi:=?o12) (v:=?v12) ?h12 (by kernel_rfl) ?q12 ?w12 ?y12 hHeld ?r12
      case h12 => simp only [lxa,lxb,lxc];rfl
      case q12 => exact fun _ _ _ h => h
      case w12 => rfl
      case y12 => rintro w' ⟨y1z,y2z⟩;go_simp;try with_reducible rfl
      try simp only [Act.put,lxd,lxe,lxf]
      refine tk 13 (oi:=?o13) (v:=?v13) ?h13 (by kernel_rfl) ?q13 ?w13 ?y13 hHeld ?r13
      case h13 => simp only [lxa,lxb,lxc];rfl
      case q13 => exact fun _ _ _ h => h
      case w13 => rfl
      case y13 => rintro w' ⟨y1z,y2z⟩;go_simp;try with_reducible rfl
      try simp only [Act.put,lxd,lxe,lxf]
      refine tk 14 (oi:=?o14) (v:=?v14) ?h14 (by kernel_rfl) ?q14 ?w14 ?y14 hHeld ?r14
      case h14 => simp only [lxa,lxb,lxc];rfl
      case q14 => exact fun _ _ _ h => h
      case w14 => rfl
      case y14 => rintro w' ⟨y1z,y2z⟩;go_simp;try with_reducible rfl
      try simp only [Act.put,lxd,lxe,lxf]
      refine tk 15 (oi:=?o15) (v:=?v15) ?h15 (by kernel_rfl) ?q15 ?w15 ?y15 hHeld ?r15
      case h15 => simp only [lxa,lxb,lxc];rfl
      case q15 => exact fun _ _ _ h => h
      case w15 => rfl
      case y15 => rintro w' ⟨y1z,y2z⟩;go_simp;try with_reducible rfl
      try simp only [Act.put,lxd,lxe,lxf]
      refine tk 16 (oi:=?o16) (v:=?v16) ?h16 (by kernel_rfl) ?q16 ?w16 ?y16 hHeld ?r16
      case h16 => simp only [lxa,lxb,lxc];rfl
      case q16 => exact fun _ _ _ h => h
      case w16 => rfl
      case y16 => rintro w' ⟨y1z,y2z⟩;go_simp;try with_reducible rfl
      try simp only [Act.put,lxd,lxe,lxf]
      refine tk 17 (oi:=?o17) (v:=?v17) ?h17 (by kernel_rfl) ?q17 ?w17 ?y17 hHeld ?r17
      case h17 => simp only [lxa,lxb,lxc];rfl
      case q17 => exact fun _ _ _ h => h
      case w17 => rfl
      case y17 => rintro w' ⟨y1z,y2z⟩;go_simp;try with_reducible rfl
      try simp only [Act.put,lxd,lxe,lxf]
      refine tk 18 (oi:=?o18) (v:=?v18) ?h18 (by kernel_rfl) ?q18 ?w18 ?y18 hHeld ?r18
      case h18 => simp only [lxa,lxb,lxc];rfl
      case q18 => exact fun _ _ _ h => h
      case w18 => rfl
      case y18 => rintro w' ⟨y1z,y2z⟩;go_simp;try with_reducible rfl
      try simp only [Act.put,lxd,lxe,lxf]
      refine tk 19 (oi:=?o19) (v:=?v19) ?h19 (by kernel_rfl) ?q19 ?w19 ?y19 hHeld ?r19
      case h19 => simp only [lxa,lxb,lxc];rfl
      case q19 => exact fun _ _ _ h => h
      case w19 => rfl
      case y19 => rintro w' ⟨y1z,y2z⟩;go_simp;try with_reducible rfl
      try simp only [Act.put,lxd,lxe,lxf]
      refine tk 20 (oi:=?o20) (v:=?v20) ?h20 (by kernel_rfl) ?q20 ?w20 ?y20 hHeld ?r20
      case h20 => simp only [lxa,lxb,lxc];rfl
      case q20 => exact fun _ _ _ h => h
      case w20 => rfl
      case y20 => rintro w' ⟨y1z,y2z⟩;go_simp;try with_reducible rfl
      try simp only [Act.put,lxd,lxe,lxf]
      refine tk 21 (oi:=?o21) (v:=?v21) ?h21 (by kernel_rfl) ?q21 ?w21 ?y21 hHeld ?r21
      case h21 => simp only [lxa,lxb,lxc];rfl
      case q21 => exact fun _ _ _ h => h
      case w21 => rfl
      case y21 => rintro w' ⟨y1z,y2z⟩;go_simp;try with_reducible rfl
      try simp only [Act.put,lxd,lxe,lxf]
      refine tk 22 (oi:=?o22) (v:=?v22) ?h22 (by kernel_rfl) ?q22 ?w22 ?y22 hHeld ?r22
      case h22 => simp only [lxa,lxb,lxc];rfl
      case q22 => exact fun _ _ _ h => h
      case w22 => rfl
      case y22 => rintro w' ⟨y1z,y2z⟩;go_simp;try with_reducible rfl
      try simp only [Act.put,lxd,lxe,lxf]
      refine wpAnyH_ready (rs:=[11]) (by kernel_rfl) (by simp) ?_
      refine AllReadyH.cons (o:=?oo23) ?ho23 (fun K hK => ?st23) ?more23
      case ho23 => simp only [lxa,lxb,lxc];rfl
      case more23 => exact AllReadyH.nil
      rw [if_pos (by rfl)]
      go_simp
      refine (HPU.out _ SMwd.out).mono ?_
      rintro e w5 ⟨E5,rfl,s5,hr5⟩
      have HR5:=Lib.hid (hr5 w5 (Same.refl w5))
      have v1:=(s5.cells _ _ bl5).trans z1
      have v2:=(s5.cells _ _ bl5).trans z2
      clear s5 hr5
      try go_simp
      refine hK.out _ _ ⟨v1,v2⟩ (fun hHeld => ?_)
      clear hK K d1 d2
      try simp only [Act.put,lxd,lxe,lxf]
      refine wpAnyH_ready (rs:=[23]) (by kernel_rfl) (by simp) ?_
      refine AllReadyH.cons (o:=?oo24) ?ho24 (fun K hK => ?st24) ?more24
      case ho24 => simp only [lxa,lxb,lxc];rfl
      case more24 => exact AllReadyH.nil
      rw [if_pos (by rfl)]
      go_simp
      refine HR5.out.mono ?_
      rintro e w6 ⟨rfl,p6⟩
      have P6:=Lib.hid p6
      have d1:=v1
      have d2:=v2
      clear v1 v2
      have v1:w6.cell? ⟨b5,o5 + q * 3 + 1,none⟩ = some (.int .i64 xn):=(P6.out.same.cells _ _ bl5).trans z1
      have v2:w6.cell? ⟨b5,o5 + q * 3 + 2,none⟩ = some (.slice Ar rn rc):=(P6.out.same.cells _ _ bl5).trans z2
      have tE5:(E5 != E5) = false:=by simp
      clear p6
      try go_simp
      refine hK.out _ _ ⟨v1,v2⟩ (fun hHeld => ?_)
      clear hK K d1 d2
      try simp only [Act.put,lxd,lxe,lxf]
      refine wpAnyH_done (by kernel_rfl) ?_ _
      refine lastQ_of (o:=?oz25) ?hz25 ?gz25 ?sz25
      case hz25 => simp only [lxa,lxb,lxc];rfl
      case gz25 => rfl
      intro K hK
      go_simp
      refine hK.out _ _ ?_
      clear hK K
      try simp only [Act.put,lxd,lxe,lxf]
      clear u0 u1 u2 v1 v2
      go_wp2_with fail
      go_roundw
      case rel => exact ⟨q + 1,by omega,by go_num,P6⟩
      case measure => simp [intOf];omega
     ·have p4:(xk:Int) % 4 = 2:=by omega
      have HFI:=Lib.hid (pair_finish PQ.out hq20)
      clear h4
      go_wp2_with fail
      refine HFI.out.mono ?_
      rintro e w5 ⟨A1,m1,c1,A2,n2,c2,E5,rfl,s5,hr5⟩
      have HR5:=Lib.hid hr5
      have S5:=Lib.hid s5
      clear s5 hr5 u0 u1 u2 HFI
      go_wp2_with fail
      obtain ⟨W6,hW6⟩:∃ W6,W6 = w5.alloc (.cells #[.slice A1 m1 c1] 24):=⟨_,rfl⟩
      have S56:Hid (Same w5 W6):=by show Same _ _;rw [hW6];exact (Same.refl w5).alloc _
      have B6:Hid (Blk W6 w5.heap.size 24 #[.slice A1 m1 c1]):=by show Blk _ _ _ _;rw [hW6];exact Blk.new w5 _ _
      rw [← hW6]
      clear hW6
      refine (HR5.out W6 S56.out).mono ?_
      rintro e w7 ⟨B1,p1,d1,B2,p2,d2,rfl,pr7,ks,ls,lt⟩
      have P7:=Lib.hid pr7
      have B7:=Lib.hid (ks _ _ B6.out)
      have LS:=Lib.hid ls
      have LT:=Lib.hid lt
      obtain ⟨ba,hba⟩:∃ ba,ba = w5.heap.size:=⟨_,rfl⟩
      rw [← hba] at B7 ⊢
      have lba:ba < w7.heap.size:=B7.out.lt
      have kb7:=B7.out.cell 0
      clear pr7 ks ls lt HR5 B6 S56 hba
      go_wp2_with fail
      obtain ⟨W8,hW8⟩:∃ W8,W8 = w7.alloc (.cells #[.slice B1 p1 d1] 24):=⟨_,rfl⟩
      have S78:Hid (Same w7 W8):=by show Same _ _;rw [hW8];exact (Same.refl w7).alloc _
      have B8:Hid (Blk W8 w7.heap.size 24 #[.slice B1 p1 d1]):=by show Blk _ _ _ _;rw [hW8];exact Blk.new w7 _ _
      rw [← hW8]
      clear hW8
      have ka:=(S78.out.cells _ _ lba).trans kb7
      have kb:W8.cell? ⟨w7.heap.size,0,none⟩ = some (.slice B1 p1 d1):=B8.out.cell 0
      have tE5:(E5 != E5) = false:=by simp
      clear kb7
      go_wp2_with (first
       | (go_at_call 11;refine (likeS_same (LS.out.next S78.out)).mono ?_;rintro e w9 ⟨rfl,s9⟩;have S9:Hid (Same W8 w9):=s9;clear s9)
       | (go_at_call 31;refine (likeT_same (LT.out.next (S78.out.trans S9.out))).mono ?_;rintro e w10 ⟨rfl,s10⟩;have S10:Hid (Same w9 w10):=s10;clear s10))
      go_roundw
      case rel => exact ⟨q + 1,by omega,by go_num,FINR.out _ (((P7.out.next S78.out).next S9.out).next S10.out)⟩
      case measure => simp [intOf];omega
     ·have p4:(xk:Int) % 4 = 3:=by omega
      have HFI:=Lib.hid (pair_abandon PQ.out hq20)
      clear h4
      go_wp2_with fail
      refine HFI.out.mono ?_
      rintro e w5 ⟨A2,n2,c2,E5,rfl,s5,hr5⟩
      have HR5:=Lib.hid (hr5 w5 (Same.refl w5))
      clear s5 hr5 u0 u1 u2 HFI
      go_wp2_with fail
      refine HR5.out.mono ?_
      rintro e w7 ⟨B2,p2,d2,rfl,pr7,lt⟩
      have P7:=Lib.hid pr7
      have LT:=Lib.hid lt
      have tE5:(E5 != E5) = false:=by simp
      clear pr7 lt HR5
      go_wp2_with (go_at_call 31;refine (likeT_same LT.out).mono ?_;rintro e w10 ⟨rfl,s10⟩;have S10:Hid (Same w7 w10):=s10;clear s10)
      go_roundw
      case rel => exact ⟨q + 1,by omega,by go_num,FINR.out _ (P7.out.next S10.out)⟩
      case measure => simp [intOf];omega
    ·go_wp2_with fail
     go_ret
     exact ⟨rfl,SW.out.trans SWr.out⟩
end Go.Proofs.YtfifnemnihcijaaGreatDoor

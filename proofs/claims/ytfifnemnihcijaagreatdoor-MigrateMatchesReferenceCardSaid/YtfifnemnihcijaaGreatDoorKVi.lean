import Derived.Test.YtfifnemnihcijaaGreatDoorKVb
import Derived.Lib.Builder
import Derived.Laws.Externs
import Derived.Lib.ConvBytes
import Derived.OneCell
import Derived.WalkSpells
import Derived.Deep.Onto
import Derived.WalkLawsBesides
set_option linter.unusedSimpArgs false
set_option linter.unusedVariables false
set_option maxHeartbeats 16000000
set_option maxRecDepth 100000
namespace Go.Proofs.YtfifnemnihcijaaGreatDoor
open Go.RowKit
theorem Tryz.sizeBuilder:(Tryz.prog.info? 195).map (·.size) = some 2:=by kernel_rfl
theorem Tryz.liesBuilder:liesAt Tryz.prog Tryz.prog.depth 195 (2 / Tryz.prog.cellsOf 195) 0 195 1 = true:=by kernel_rfl
theorem copyCheck_again (b:Nat) (w:World) (h0:w.cell? ⟨b,0,none⟩ = some (.pointer (some ⟨b,0,none⟩))) :
  Calls Tryz.prog 162 #[.pointer (some ⟨b,0,none⟩)] w fun e w' => e = .returned (.tuple #[]) ∧ w' = w:=by
 obtain ⟨j,hj,_⟩:=Option.map_eq_some_iff.1 Tryz.sizeBuilder
 go_enter Tryz.func162,Tryz.ntmps162
 go_wp2_with fail
 rw [Lib.run_neq_ptr_same w _ Tryz.underlying192 hj]
 go_wp2_with fail
 go_end0
 exact ⟨rfl,rfl⟩
theorem copyCheck_first (b:Nat) (w:World) (h0:w.cell? ⟨b,0,none⟩ = some (.pointer none)) (hsh:w.shape? b = some (195,2)) (hf:w.frozen? ⟨b,0,none⟩ = false) :
  Calls Tryz.prog 162 #[.pointer (some ⟨b,0,none⟩)] w fun e w' => e = .returned (.tuple #[]) ∧ w' = w.setCell ⟨b,0,none⟩ (.pointer (some ⟨b,0,none⟩)):=by
 obtain ⟨j,hj,hjs⟩:=Option.map_eq_some_iff.1 Tryz.sizeBuilder
 go_enter Tryz.func162,Tryz.ntmps162
 go_wp2_with fail
 rw [Lib.run_to_unsafe w ⟨b,0,none⟩ Tryz.underlying192 Tryz.underlying228 hj (by rw [hjs];decide) hsh (Nat.zero_lt_succ 1)]
 simp only [Result.andThen]
 rw [Oper.upon_value]
 go_wp2_with fail
 rw [run_callFunc_extern Tryz.func178 (by kernel_rfl) (by kernel_rfl) (by kernel_rfl) (e:=Extern.AbiNoEscape.same) (by kernel_rfl)]
 rw [Lib.run_noEscape]
 simp only [Result.andThen]
 rw [Oper.upon_value]
 go_wp2_with fail
 rw [Lib.run_from_unsafe w ⟨b,0,none⟩ Tryz.underlying228 Tryz.underlying192 hj hsh Tryz.liesBuilder]
 simp only [Result.andThen]
 rw [Oper.upon_value]
 go_wp2_with fail
 go_end0
 exact ⟨rfl,rfl⟩
theorem Tryz.infoByte:(Tryz.prog.info? 5).map (fun i => (i.zero,i.size,i.bytes)) = some (some (.int .u8 0),1,1):=by kernel_rfl
theorem getB (s:ByteArray) (k:Nat) (h:k < s.size):(ba s).getD k 0 = s[k]:=by
 have hk:k < (ba s).length:=by rw [ba_length];exact h
 rw [List.getD_eq_getElem?_getD,List.getElem?_eq_getElem hk]
 rfl
theorem content_bad (s:ByteArray) (w:World) (hs:s.size ≤ 1000000) (h:(decide (s.size < 2) || !decide ((ba s).getD 0 0 = 34) || !decide ((ba s).getD (s.size - 1) 0 = 34)) = true) :
  Calls Tryz.prog 146 #[.string s] w fun e w' => e = .returned (.tuple #[.string ByteArray.empty,.bool false]) ∧ Same w w':=by
 by_cases h1:s.size < 2
 ·clear h
  go_enter Tryz.func146,Tryz.ntmps146
  go_wp2
  go_ret2
  exact ⟨rfl,Same.refl _⟩
 ·rw [getB s 0 (by omega),getB s (s.size - 1) (by omega),decide_eq_false h1,Bool.false_or] at h
  have h2:¬ (s[0] = 34 ∧ s[s.size - 1] = 34):=by rintro ⟨e1,e2⟩;rw [e1,e2] at h;simp at h
  clear h
  have n34:∀ x:UInt8,((x.toNat:Int) != 34) = !decide (x = 34):=by
   intro x
   rw [Bool.eq_iff_iff]
   simp [← UInt8.toNat_inj]
   omega
  by_cases e1:s[0] = 34
  ·have e2:¬ s[s.size - 1] = 34:=fun e2 => h2 ⟨e1,e2⟩
   have t1:((s[0].toNat:Int) != 34) = false:=by rw [n34,e1];rfl
   have t2:((s[s.size - 1].toNat:Int) != 34) = true:=by rw [n34,decide_eq_false e2];rfl
   clear e1 e2 h2 n34
   go_enter Tryz.func146,Tryz.ntmps146
   go_wp2
   go_ret2
   exact ⟨rfl,Same.refl _⟩
  ·have t1:((s[0].toNat:Int) != 34) = true:=by rw [n34,decide_eq_false e1];rfl
   clear e1 h2 n34
   go_enter Tryz.func146,Tryz.ntmps146
   go_wp2
   go_ret2
   exact ⟨rfl,Same.refl _⟩
def BAt (BB b:Nat) (bs:List Value) (w:World):Prop:=∃ p v,(p = .pointer none ∨ p = .pointer (some ⟨b,0,none⟩)) ∧ Blk w b 195 #[p,v] ∧ w.ownsRow BB 5 1 v bs.length bs
structure KeptBut (BB b:Nat) (w w':World):Prop where
 os:w'.os = w.os
 tape:w'.tape = w.tape
 output:w'.output = w.output
 size:w.heap.size ≤ w'.heap.size
 block:∀ k,k < BB → k ≠ b → w'.heap[k]? = w.heap[k]?
theorem KeptBut.refl (BB b:Nat) (w:World):KeptBut BB b w w:=⟨rfl,rfl,rfl,Nat.le_refl _,fun _ _ _ => rfl⟩
theorem KeptBut.trans {BB b:Nat} {x y z:World} (h:KeptBut BB b x y) (k:KeptBut BB b y z):KeptBut BB b x z:=
 ⟨k.os.trans h.os,k.tape.trans h.tape,k.output.trans h.output,Nat.le_trans h.size k.size,fun i h1 h2 => (k.block i h1 h2).trans (h.block i h1 h2)⟩
theorem own_off {w:World} {BB b:Nat} {e:TypeId} {m n:Nat} {v:Value} {xs:List Value} (h:w.ownsRow BB e m v n xs) (hb:b < BB):v.ownBlock ≠ some b:=fun e => by have:=(h.lt b e).1;omega
theorem blk_shape {w:World} {b:Nat} {t:TypeId} {cs:Array Value} (h:Blk w b t cs):w.shape? b = some (t,cs.size):=by
 unfold Blk at h
 simp [World.shape?,h]
theorem cc_ok (BB b:Nat) (bs:List Value) (w:World) (h:BAt BB b bs w) (hb:b < BB) :
  Calls Tryz.prog 162 #[.pointer (some ⟨b,0,none⟩)] w fun e w' => e = .returned (.tuple #[]) ∧ ∃ v,Blk w' b 195 #[.pointer (some ⟨b,0,none⟩),v] ∧ w'.ownsRow BB 5 1 v bs.length bs ∧ KeptBut BB b w w':=by
 obtain ⟨p,v,hp,hk,ho⟩:=h
 rcases hp with rfl | rfl
 ·refine (copyCheck_first b w (hk.cell 0) (blk_shape hk) (hk.frozen 0)).mono ?_
  rintro e w' ⟨rfl,rfl⟩
  exact ⟨rfl,v,hk.set_ 0 _,ownsRow_setCell_other ho (a:=⟨b,0,none⟩) (own_off ho hb) _,⟨rfl,rfl,rfl,by simp [World.setCell],fun k _ hne => Below.heap_setCell _ _ _ _ hne⟩⟩
 ·refine (copyCheck_again b w (hk.cell 0)).mono ?_
  rintro e w' ⟨rfl,rfl⟩
  exact ⟨rfl,v,hk,ho,KeptBut.refl _ _ _⟩
theorem wb_ok (BB b:Nat) (bs:List Value) (c:Int) (w:World) (h:BAt BB b bs w) (hb:b < BB) (hlen:bs.length + 1 ≤ 140737488355328) (hBw:BB ≤ w.heap.size) :
  Calls Tryz.prog 154 #[.pointer (some ⟨b,0,none⟩),.int .u8 c] w fun e w' => e = .returned .nilIface ∧ BAt BB b (bs ++ [.int .u8 c]) w' ∧ KeptBut BB b w w':=by
 obtain ⟨i0,hi,hz0,hz1,hz2⟩:=info_parts Tryz.infoByte
 have HCC:=Lib.hid (cc_ok BB b bs w h hb)
 clear h
 go_enter Tryz.func154,Tryz.ntmps154
 go_wp2_with fail
 refine HCC.out.mono ?_
 rintro e w1 ⟨rfl,v,hbk,hown,hk1⟩
 have c0:w1.cell? ⟨b,0,none⟩ = some (.pointer (some ⟨b,0,none⟩)):=hbk.cell 0
 have c1:w1.cell? ⟨b,1,none⟩ = some v:=hbk.cell 1
 have hsz:BB ≤ w1.heap.size:=Nat.le_trans hBw hk1.size
 have HBK:=Lib.hid hbk
 have HK1:=Lib.hid hk1
 clear hbk hk1
 go_wp2_with (at_builtin;refine wpList_append_own _ rfl _ _ 193 rfl BB 5 i0 (.int .u8 0) 1 1 Tryz.underlying193 hi hz0 hz1 hz2 rfl (by decide) _ _ _ rfl (hown.alloc _) ⟨w1.heap.size,0,none⟩ 1 1 [.int .u8 c] rfl rfl ?c1 ?c2 ?c3 ?c4 ?c5 ?_)
 case c1 =>
  intro j u hj
  match j,hj with
  | 0,hj => simp at hj;subst hj;simp [Addr.add]
  | j + 1,hj => simp at hj
 case c2 => intro u hu;simp at hu;subst hu;rfl
 case c3 => unfold maxLen;omega
 case c4 => omega
 case c5 => simp;omega
 intro v' w2 hown' hgrow _
 have hne:=own_off hown hb
 have hb2:Blk w2 b 195 #[.pointer (some ⟨b,0,none⟩),v]:=(hgrow.block b (by simp;omega) (fun e => hne e.symm)).trans (HBK.out.alloc _)
 have d1:w2.cell? ⟨b,1,none⟩ = some v:=hb2.cell 1
 have f1:w2.frozen? ⟨b,1,none⟩ = false:=hb2.frozen 1
 obtain ⟨g,cap,rfl⟩:∃ g cap,v' = .slice (some ⟨g,0,none⟩) (bs.length + 1) cap:=by
  rcases hown'.2 with ⟨_,h0⟩ | ⟨g,cap,cur,hv,_⟩
  ·omega
  ·exact ⟨g,cap,hv⟩
 have HB2:=Lib.hid hb2
 have HO:=Lib.hid hown'
 have HG:=Lib.hid hgrow
 have HOW:=Lib.hid hown
 clear hb2 hown' hgrow hown c0 c1 hne
 go_wp2
 go_ret
 have ho2:w2.ownsRow BB 5 1 (.slice (some ⟨g,0,none⟩) (bs.length + 1) cap) (bs ++ [Value.int .u8 c]).length (bs ++ [Value.int .u8 c]):=by
  have:=HO.out
  rw [List.length_append]
  exact this
 refine ⟨rfl,⟨_,_,.inr rfl,HB2.out.set_ 1 _,?_⟩,HK1.out.trans ⟨?_,?_,?_,?_,?_⟩⟩
 ·exact ownsRow_setCell_other ho2 (a:=⟨b,1,none⟩) (own_off ho2 hb) _
 ·exact HG.out.os
 ·exact HG.out.tape
 ·exact HG.out.output
 ·have:=HG.out.size;simp at this;simp [World.setCell];omega
 ·intro k hk hkb
  rw [Below.heap_setCell _ _ _ _ hkb,HG.out.block k (by simp;omega) (fun e => by have:=(HOW.out.lt k e.symm).1;omega)]
  exact Below.heap_alloc _ _ _ (by omega)
def byteV (c:UInt8):Value:=.int .u8 (c.toNat:Int)
structure CRel (W1:World) (b:Nat) (L:List UInt8) (k:Nat) (esc:Bool) (wr:World):Prop where
 go:∃ out,unesc L false [] = unesc (L.drop k) esc out ∧ out.length ≤ k ∧ BAt W1.heap.size b (out.map byteV) wr
 kept:KeptBut W1.heap.size b W1 wr
theorem kept_same {w W1 wr:World} (s:Same w W1) (h:KeptBut W1.heap.size w.heap.size W1 wr):Same w wr:=
 ⟨h.os.trans s.os,h.tape.trans s.tape,h.output.trans s.output,Nat.le_trans s.size h.size,fun k hk => (h.block k (Nat.lt_of_lt_of_le hk s.size) (by omega)).trans (s.block k hk)⟩
theorem content_good (s:ByteArray) (w:World) (hs:s.size ≤ 1000000) (h0:2 ≤ s.size) (e1:s[0]'(by omega) = 34) (e2:s[s.size - 1]'(by omega) = 34) :
  Calls Tryz.prog 146 #[.string s] w fun e w' => e = .returned (.tuple #[.string (mkB (contentV (ba s)).1),.bool (contentV (ba s)).2]) ∧ Same w w':=by
 have t1:(((s[0]'(by omega)).toNat:Int) != 34) = false:=by rw [e1];rfl
 have t2:(((s[s.size - 1]'(by omega)).toNat:Int) != 34) = false:=by rw [e2];rfl
 have h1:¬ s.size < 2:=by omega
 have kc:=fun (w:World) (s:ByteArray) => Lib.run_convert_string_bytes (P:=Tryz.prog) w 9 193 5 s Tryz.underlying9 Tryz.underlying193 Tryz.underlying5
 have HC:Hid (contentV (ba s) = match unesc (ba (s.extract 1 (s.size - 1))) false [] with | none => ([],false) | some (out,esc) => (out,!esc)):=by
  show contentV (ba s) = _
  have hx:ba (s.extract 1 (s.size - 1)) = ((ba s).drop 1).take ((ba s).length - 2):=by
   rw [ba_length,show s.size - 2 = s.size - 1 - 1 by omega]
   exact Lib.extract_data s 1 (s.size - 1)
  unfold contentV
  rw [hx,ba_length,getB s 0 (by omega),getB s (s.size - 1) (by omega),e1,e2,decide_eq_false h1]
  rfl
 clear e1 e2
 go_enter Tryz.func146,Tryz.ntmps146
 go_wp2_with fail
 obtain ⟨inner,hin⟩:∃ inner,inner = s.extract 1 (s.size - 1):=⟨_,rfl⟩
 obtain ⟨W1,hW1⟩:∃ W1,W1 = Lib.bytesWorld (w.alloc (.cells #[.pointer none,.slice none 0 0] 195)) 5 (s.extract 1 (s.size - 1)):=⟨_,rfl⟩
 have hsz:inner.size = s.size - 1 - 1:=by rw [hin];simp
 have hz1:W1.heap.size = w.heap.size + 2:=by rw [hW1,Lib.bytesWorld_size];simp
 have hbytes:∀ k (hk:k < inner.size),W1.cell? ⟨w.heap.size + 1,k,none⟩ = some (.int .u8 (((ba inner)[k]'(by rw [ba_length];exact hk)).toNat:Int)):=by
  intro k hk
  have h:=Lib.bytesWorld_cell (w.alloc (.cells #[.pointer none,.slice none 0 0] 195)) 5 inner k hk
  rw [show (w.alloc (.cells #[.pointer none,.slice none 0 0] 195)).heap.size = w.heap.size + 1 by simp] at h
  have hk2:k < (ba inner).length:=by rw [ba_length];exact hk
  have hg:(ba inner).getD k 0 = (ba inner)[k]:=by rw [List.getD_eq_getElem?_getD,List.getElem?_eq_getElem hk2];rfl
  rw [hW1,← hin,h,← hg]
  rfl
 have hb:BAt W1.heap.size w.heap.size [] W1:=by
  refine ⟨_,_,.inl rfl,?_,⟨rfl,.inl ⟨rfl,rfl⟩⟩⟩
  rw [hW1]
  exact ((Lib.bytesWorld_below _ _ _).block w.heap.size (by simp)).trans (Blk.new w _ _)
 have hs1:Same w W1:=by rw [hW1];exact ((Same.refl w).alloc _).trans (Lib.bytesWorld_below _ _ _)
 rw [← hW1]
 rw [← hin] at HC
 obtain ⟨L,hL⟩:∃ L,L = ba inner:=⟨_,rfl⟩
 have hLl:L.length = s.size - 1 - 1:=by rw [hL,ba_length,hsz]
 have HB:Hid (∀ k (hk:k < L.length),W1.cell? ⟨w.heap.size + 1,k,none⟩ = some (.int .u8 (L[k].toNat:Int))):=by
  subst hL
  intro k hk
  exact hbytes k (by rw [← ba_length];exact hk)
 have R0:CRel W1 w.heap.size L 0 false W1:=⟨⟨[],by simp,by simp,hb⟩,KeptBut.refl _ _ _⟩
 have HL:=Lib.hid hL
 have HS1:=Lib.hid hs1
 clear hL hs1 hb hbytes hW1 kc t1 t2
 go_loopw [6,33] (fun ev i wr => ∃ (k:Nat) (esc:Bool),k ≤ L.length ∧ i = .int .i64 k ∧ ev = .bool esc ∧ Hid (CRel W1 w.heap.size L k esc wr)) (fun _ i _ => L.length - (intOf i).toNat)
 case atStart => exact ⟨0,false,Nat.zero_le _,rfl,rfl,R0⟩
 case round =>
  obtain ⟨k,esc,hk,rfl,rfl,R⟩:=hrel
  by_cases hlt:k < L.length
  ·obtain ⟨c,hc⟩:∃ c,c = L[k]:=⟨_,rfl⟩
   have hcell:wr.cell? ⟨w.heap.size + 1,k,none⟩ = some (.int .u8 (c.toNat:Int)):=by rw [hc];exact (World.cell?_of_block (a:=⟨w.heap.size + 1,k,none⟩) (R.out.kept.block (w.heap.size + 1) (by omega) (by omega))).trans (HB.out k hlt)
   have hdrop:L.drop k = c :: L.drop (k + 1):=by rw [hc];exact List.drop_eq_getElem_cons hlt
   obtain ⟨⟨o,ho,hol,hbt⟩,hkp⟩:=R.out
   rw [hdrop] at ho
   have HO:=Lib.hid ho
   have HKP:=Lib.hid hkp
   have HWB:=Lib.hid (fun v => wb_ok W1.heap.size w.heap.size (o.map byteV) v wr hbt (by omega) (by simp;omega) hkp.size)
   have HBT:=Lib.hid hbt
   have hlt2:k < s.size - 1 - 1:=by omega
   have nat:∀ (d:UInt8),((c.toNat:Int) == (d.toNat:Int)) = decide (c = d):=by
    intro d
    rw [Bool.eq_iff_iff]
    simp [← UInt8.toNat_inj]
    omega
   have NAT:=Lib.hid nat
   clear hdrop ho hkp hbt nat hc R
   cases esc with
   | true =>
    by_cases h110:c = 110
    ·have q110:((c.toNat:Int) == 110) = true:=(NAT.out 110).trans (decide_eq_true h110)
     have HU:Hid (unesc L false [] = unesc (L.drop (k + 1)) false (o ++ [10])):=by show _ = _;rw [HO.out];simp [unesc,h110]
     clear h110
     go_wp2_with (go_at_call 154;refine (HWB.out 10).mono ?_;rintro e w2 ⟨rfl,b2,k2⟩;have B2:=Lib.hid b2;have K2:=Lib.hid (HKP.out.trans k2);clear b2 k2)
     go_roundw
     case rel => exact ⟨k + 1,false,by omega,by go_num,rfl,⟨⟨o ++ [10],HU.out,by simp;omega,by rw [List.map_append];exact B2.out⟩,K2.out⟩⟩
     case measure => simp [intOf];omega
    by_cases h34:c = 34
    ·have q110:((c.toNat:Int) == 110) = false:=(NAT.out 110).trans (decide_eq_false h110)
     have q34:((c.toNat:Int) == 34) = true:=(NAT.out 34).trans (decide_eq_true h34)
     have HU:Hid (unesc L false [] = unesc (L.drop (k + 1)) false (o ++ [c])):=by show _ = _;rw [HO.out];simp [unesc,h110,h34]
     clear h110 h34
     go_wp2_with (go_at_call 154;refine (HWB.out (c.toNat:Int)).mono ?_;rintro e w2 ⟨rfl,b2,k2⟩;have B2:=Lib.hid b2;have K2:=Lib.hid (HKP.out.trans k2);clear b2 k2)
     go_roundw
     case rel => exact ⟨k + 1,false,by omega,by go_num,rfl,⟨⟨o ++ [c],HU.out,by simp;omega,by rw [List.map_append];exact B2.out⟩,K2.out⟩⟩
     case measure => simp [intOf];omega
    by_cases h92:c = 92
    ·have q110:((c.toNat:Int) == 110) = false:=(NAT.out 110).trans (decide_eq_false h110)
     have q34:((c.toNat:Int) == 34) = false:=(NAT.out 34).trans (decide_eq_false h34)
     have q92:((c.toNat:Int) == 92) = true:=(NAT.out 92).trans (decide_eq_true h92)
     have HU:Hid (unesc L false [] = unesc (L.drop (k + 1)) false (o ++ [c])):=by show _ = _;rw [HO.out];simp [unesc,h110,h34,h92]
     clear h110 h34 h92
     go_wp2_with (go_at_call 154;refine (HWB.out (c.toNat:Int)).mono ?_;rintro e w2 ⟨rfl,b2,k2⟩;have B2:=Lib.hid b2;have K2:=Lib.hid (HKP.out.trans k2);clear b2 k2)
     go_roundw
     case rel => exact ⟨k + 1,false,by omega,by go_num,rfl,⟨⟨o ++ [c],HU.out,by simp;omega,by rw [List.map_append];exact B2.out⟩,K2.out⟩⟩
     case measure => simp [intOf];omega
    have q110:((c.toNat:Int) == 110) = false:=(NAT.out 110).trans (decide_eq_false h110)
    have q34:((c.toNat:Int) == 34) = false:=(NAT.out 34).trans (decide_eq_false h34)
    have q92:((c.toNat:Int) == 92) = false:=(NAT.out 92).trans (decide_eq_false h92)
    have HU:Hid (unesc L false [] = none):=by show _ = none;rw [HO.out];simp [unesc,h110,h34,h92]
    clear h110 h34 h92
    go_wp2_with fail
    go_ret2
    exact ⟨by rw [HC.out,← HL.out,HU.out];rfl,kept_same HS1.out HKP.out⟩
   | false =>
    by_cases h92:c = 92
    ·have q92:((c.toNat:Int) == 92) = true:=(NAT.out 92).trans (decide_eq_true h92)
     have HU:Hid (unesc L false [] = unesc (L.drop (k + 1)) true o):=by show _ = _;rw [HO.out];simp [unesc,h92]
     clear h92
     go_wp2_with fail
     go_roundw
     case rel => exact ⟨k + 1,true,by omega,by go_num,rfl,⟨⟨o,HU.out,by omega,HBT.out⟩,HKP.out⟩⟩
     case measure => simp [intOf];omega
    by_cases h34:c = 34
    ·have q92:((c.toNat:Int) == 92) = false:=(NAT.out 92).trans (decide_eq_false h92)
     have q34:((c.toNat:Int) == 34) = true:=(NAT.out 34).trans (decide_eq_true h34)
     have HU:Hid (unesc L false [] = none):=by show _ = none;rw [HO.out];simp [unesc,h92,h34]
     clear h92 h34
     go_wp2_with fail
     go_ret2
     exact ⟨by rw [HC.out,← HL.out,HU.out];rfl,kept_same HS1.out HKP.out⟩
    by_cases h10:c = 10
    ·have q92:((c.toNat:Int) == 92) = false:=(NAT.out 92).trans (decide_eq_false h92)
     have q34:((c.toNat:Int) == 34) = false:=(NAT.out 34).trans (decide_eq_false h34)
     have q10:((c.toNat:Int) == 10) = true:=(NAT.out 10).trans (decide_eq_true h10)
     have HU:Hid (unesc L false [] = none):=by show _ = none;rw [HO.out];simp [unesc,h92,h34,h10]
     clear h92 h34 h10
     go_wp2_with fail
     go_ret2
     exact ⟨by rw [HC.out,← HL.out,HU.out];rfl,kept_same HS1.out HKP.out⟩
    have q92:((c.toNat:Int) == 92) = false:=(NAT.out 92).trans (decide_eq_false h92)
    have q34:((c.toNat:Int) == 34) = false:=(NAT.out 34).trans (decide_eq_false h34)
    have q10:((c.toNat:Int) == 10) = false:=(NAT.out 10).trans (decide_eq_false h10)
    have HU:Hid (unesc L false [] = unesc (L.drop (k + 1)) false (o ++ [c])):=by show _ = _;rw [HO.out];simp [unesc,h92,h34,h10]
    clear h92 h34 h10
    go_wp2_with (go_at_call 154;refine (HWB.out (c.toNat:Int)).mono ?_;rintro e w2 ⟨rfl,b2,k2⟩;have B2:=Lib.hid b2;have K2:=Lib.hid (HKP.out.trans k2);clear b2 k2)
    go_roundw
    case rel => exact ⟨k + 1,false,by omega,by go_num,rfl,⟨⟨o ++ [c],HU.out,by simp;omega,by rw [List.map_append];exact B2.out⟩,K2.out⟩⟩
    case measure => simp [intOf];omega
  ·have ek:k = L.length:=by omega
   obtain ⟨⟨o,ho,hol,hbt⟩,hkp⟩:=R.out
   rw [ek,List.drop_length] at ho
   have HU:Hid (unesc L false [] = some (o,esc)):=by show _ = _;rw [ho];cases esc <;> rfl
   have HKP:=Lib.hid hkp
   have hib:Lib.IsBuilder 195 5 w.heap.size w.heap.size (Lib.byteCells o) wr:=by
    obtain ⟨p,v,hp,hk2,ho2⟩:=hbt
    have ho3:wr.ownsRow w.heap.size 5 1 v (o.map byteV).length (o.map byteV):=ho2.mono (by omega)
    have hnb:=own_off ho2 (b:=w.heap.size) (by omega)
    rcases hp with rfl | rfl
    ·exact .inl ⟨Nat.le_refl _,v,hk2,ho3,hnb⟩
    ·exact .inr ⟨Nat.le_refl _,v,hk2,ho3,hnb⟩
   have HS:=Lib.hid (Tryz.Builder_String_any w.heap.size w.heap.size o wr hib (by have:=hkp.size;omega))
   clear ho hbt hkp hib R
   go_wp2_with (go_at_call 155;refine HS.out.mono ?_;rintro e w2 ⟨rfl,b2⟩;have B2:=Lib.hid b2;clear b2)
   go_ret2
   exact ⟨by rw [HC.out,← HL.out,HU.out];rfl,Below.trans (kept_same HS1.out HKP.out) B2.out⟩
theorem content_ok (s:ByteArray) (w:World) (hs:s.size ≤ 1000000) :
  Calls Tryz.prog 146 #[.string s] w fun e w' => e = .returned (.tuple #[.string (mkB (contentV (ba s)).1),.bool (contentV (ba s)).2]) ∧ Same w w':=by
 cases h:(decide (s.size < 2) || !decide ((ba s).getD 0 0 = 34) || !decide ((ba s).getD (s.size - 1) 0 = 34)) with
 | true =>
  have e:contentV (ba s) = ([],false):=by unfold contentV;rw [ba_length,if_pos h]
  rw [e]
  exact content_bad s w hs h
 | false =>
  simp only [Bool.or_eq_false_iff,decide_eq_false_iff_not,Bool.not_eq_false',decide_eq_true_eq] at h
  obtain ⟨⟨h1,h2⟩,h3⟩:=h
  rw [getB s 0 (by omega)] at h2
  rw [getB s (s.size - 1) (by omega)] at h3
  exact content_good s w hs (by omega) h2 h3
end Go.Proofs.YtfifnemnihcijaaGreatDoor

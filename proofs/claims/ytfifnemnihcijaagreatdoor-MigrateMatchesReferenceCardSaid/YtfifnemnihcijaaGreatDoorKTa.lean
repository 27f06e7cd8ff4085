import Derived.Test.YtfifnemnihcijaaGreatDoorKMa
import Derived.Deep.RegionLaw
set_option linter.unusedSimpArgs false
set_option linter.unusedVariables false
set_option maxHeartbeats 16000000
set_option maxRecDepth 100000
namespace Go.Proofs.YtfifnemnihcijaaGreatDoor
open Go.RowKit
theorem same_grown {a b c:World} {row:Option Nat} (s:Same a b) (g:b.grownBy c row):a.grownBy c row:=
 ⟨g.os.trans s.os,g.tape.trans s.tape,g.output.trans s.output,Nat.le_trans s.size g.size,fun k hk hn => (g.block k (Nat.lt_of_lt_of_le hk s.size) hn).trans (s.block k hk)⟩
theorem reads_agg (w:World) (b:Nat) (hb:w.heap.size = b) (cs:Array Value) (t:TypeId) (m:Nat) (hm:cs.size = m):Reads (w.alloc (.cells cs t)) (b + 1) m (some ⟨b,0,none⟩) 1 cs.toList:=by
 subst hb
 refine ⟨by simp [hm],fun _ => ⟨_,rfl,Nat.lt_succ_self _,fun j u hu => ?_⟩⟩
 have h:=(Blk.new w t cs).cell j
 have e:(⟨w.heap.size,0,none⟩:Addr).add j = ⟨w.heap.size,j,none⟩:=by unfold Addr.add;split <;> simp_all
 rw [e,h]
 simpa using hu
theorem add2_low (B g o n:Nat) (hv:Value) (xs:List Value) (a k to_ dk dn:Int) (tt aa nn ds:ByteArray) (w:World) (hg:g < w.heap.size) (hB:B ≤ w.heap.size) (hn:n ≤ 1000000)
  (x1:w.cell? ⟨g,o + 1,none⟩ = some hv) (xf:w.frozen? ⟨g,o + 1,none⟩ = false) (own:w.ownsRow B 82 6 hv n xs) (hne:hv.ownBlock ≠ some g) :
  Calls Tryz.prog 103 #[.pointer (some ⟨g,o,none⟩),.agg #[.int .i64 k,.string tt,.string aa,.string nn,.int .i64 to_,.int .i64 dk,.int .i64 dn,.string ds],.int .i64 a] w fun e w' => ∃ v1 w1,e = .returned (.tuple #[]) ∧
   w1.ownsRow B 82 6 v1 (n + 1) (xs ++ [.string nn,.int .i64 to_,.slice none 0 0,.int .i64 dk,.int .i64 dn,.string ds]) ∧ w.grownBy w1 hv.ownBlock ∧ w' = w1.setCell ⟨g,o + 1,none⟩ v1:=by
 obtain ⟨i0,hi0,hiz0,hiz1,hiz2⟩:=info_parts Tryz.infoCA
 have OWN:=Lib.hid own
 have NE:=Lib.hid hne
 have BD:Hid (n + 1 ≤ maxLen ∧ (n + 1) * 80 ≤ 140737488355328):=⟨by unfold maxLen;omega,by omega⟩
 have BH:=Lib.hid hB
 have HZ:Hid ((w.alloc (.cells #[.int .i64 k,.string tt,.string aa,.string nn,.int .i64 to_,.int .i64 dk,.int .i64 dn,.string ds] 28)).drew.heap.size = w.heap.size + 1):=by show _ = _;rw [heap_drew];simp
 have hz:g ≠ w.heap.size:=by omega
 obtain ⟨A,c,rfl⟩:=own_val own
 clear own hne
 go_enter Tryz.func103,Tryz.ntmps103
 go_wp2
 go_region_law (first | (refine step_append_any _ rfl (.tmp 10) (.tmp 18) 41 rfl B 82 i0 _ 6 80 Tryz.underlying41 hi0 hiz0 hiz1 hiz2 rfl (by decide) (.slice A n c) n xs rfl ((OWN.out.alloc _).drew.alloc _) _ _ 1 1 [.string nn,.int .i64 to_,.slice none 0 0,.int .i64 dk,.int .i64 dn,.string ds] rfl (reads_agg (w.alloc (.cells #[.int .i64 k,.string tt,.string aa,.string nn,.int .i64 to_,.int .i64 dk,.int .i64 dn,.string ds] 28)).drew (w.heap.size + 1) HZ.out #[.string nn,.int .i64 to_,.slice none 0 0,.int .i64 dk,.int .i64 dn,.string ds] _ 6 rfl) (by intro u hu;simp at hu;rcases hu with rfl | rfl | rfl | rfl | rfl | rfl <;> rfl) BD.out.1 BD.out.2 ?_ ?_;exact Nat.le_trans BH.out (((Same.refl w).alloc _).drew.alloc _).size;intro v1 w1 hown1 hg1 hat1;obtain ⟨A1,c1,rfl⟩:=own_val hown1;have OWN1:=Lib.hid hown1;have hgw:=same_grown (((Same.refl w).alloc _).drew.alloc _) hg1;have G1:=Lib.hid hgw;have xg:w1.cell? ⟨g,o + 1,none⟩ = some (.slice A n c):=(World.cell?_of_block (a:=⟨g,o + 1,none⟩) (hgw.block g hg NE.out.symm)).trans x1;have xf1:w1.frozen? ⟨g,o + 1,none⟩ = false:=(World.frozen?_of_block (a:=⟨g,o + 1,none⟩) (hgw.block g hg NE.out.symm)).trans xf;clear hown1 hg1 hat1 hgw))
 all_goals
  go_wp2
  go_end0
  exact ⟨_,w1,rfl,OWN1.out,G1.out,rfl⟩
end Go.Proofs.YtfifnemnihcijaaGreatDoor

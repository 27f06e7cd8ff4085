import Derived.Test.YtfifnemnihcijaaGreatDoorKTa
set_option linter.unusedSimpArgs false
set_option linter.unusedVariables false
set_option maxHeartbeats 16000000
set_option maxRecDepth 100000
namespace Go.Proofs.YtfifnemnihcijaaGreatDoor
open Go.RowKit
theorem same_ok (h:Hd) (a k to_ dk dn:Int) (tt aa nn ds:ByteArray) (w:World) :
  Calls Tryz.prog 114 #[h.val,.agg #[.int .i64 k,.string tt,.string aa,.string nn,.int .i64 to_,.int .i64 dk,.int .i64 dn,.string ds],.int .i64 a] w fun e w' => e = .returned (.tuple #[h.val,.int .i64 0]) ∧ Same w w':=by
 obtain ⟨A,n,c⟩:=h
 show Calls Tryz.prog 114 #[.slice A n c,.agg #[.int .i64 k,.string tt,.string aa,.string nn,.int .i64 to_,.int .i64 dk,.int .i64 dn,.string ds],.int .i64 a] w fun e w' => e = .returned (.tuple #[.slice A n c,.int .i64 0]) ∧ Same w w'
 go_enter Tryz.func114,Tryz.ntmps114
 go_wp2
 go_ret2
 exact ⟨rfl,(Same.refl w).alloc _⟩
theorem add3_ok (B n c0:Nat) (A:Option Addr) (xs:List Value) (a k to_ dk dn:Int) (tt aa nn ds:ByteArray) (w:World) (hB:B ≤ w.heap.size) (hn:n ≤ 1000000) (own:w.ownsRow B 26 3 (.slice A n c0) n xs) :
  Calls Tryz.prog 104 #[.slice A n c0,.agg #[.int .i64 k,.string tt,.string aa,.string nn,.int .i64 to_,.int .i64 dk,.int .i64 dn,.string ds],.int .i64 a] w fun e w' => ∃ A1 c1,e = .returned (.tuple #[.slice A1 (n + 1) c1,.int .i64 0]) ∧
   w'.ownsRow B 26 3 (.slice A1 (n + 1) c1) (n + 1) (xs ++ [.int .i64 dk,.int .i64 dn,.string ds]) ∧ Below B w w':=by
 obtain ⟨i0,hi0,hiz0,hiz1,hiz2⟩:=info_parts Tryz.infoCV
 have OWN:=Lib.hid own
 have BD:Hid (n + 1 ≤ maxLen ∧ (n + 1) * 32 ≤ 140737488355328):=⟨by unfold maxLen;omega,by omega⟩
 have BH:=Lib.hid hB
 have HZ:Hid ((w.alloc (.cells #[.int .i64 k,.string tt,.string aa,.string nn,.int .i64 to_,.int .i64 dk,.int .i64 dn,.string ds] 28)).heap.size = w.heap.size + 1):=by show _ = _;simp
 clear own
 go_enter Tryz.func104,Tryz.ntmps104
 go_wp2_with (at_builtin;refine wpList_append_any _ rfl (.tmp 8) (.tmp 11) 29 rfl B 26 i0 _ 3 32 Tryz.underlying29 hi0 hiz0 hiz1 hiz2 rfl (by decide) (.slice A n c0) n xs rfl ((OWN.out.alloc _).alloc _) _ _ 1 1 [.int .i64 dk,.int .i64 dn,.string ds] rfl (reads_agg (w.alloc (.cells #[.int .i64 k,.string tt,.string aa,.string nn,.int .i64 to_,.int .i64 dk,.int .i64 dn,.string ds] 28)) (w.heap.size + 1) HZ.out #[.int .i64 dk,.int .i64 dn,.string ds] _ 3 rfl) (by intro u hu;simp at hu;rcases hu with rfl | rfl | rfl <;> rfl) BD.out.1 BD.out.2 ?_ ?_;exact Nat.le_trans BH.out (((Same.refl w).alloc _).alloc _).size;intro v1 w1 hown1 hg1 hat1;have OWN1:=Lib.hid hown1;have hgw:=same_grown (((Same.refl w).alloc _).alloc _) hg1;have G1:=Lib.hid hgw;clear hown1 hg1 hat1 hgw)
 obtain ⟨A1,c1,rfl⟩:=own_val OWN1.out
 go_ret2
 exact ⟨A1,c1,rfl,OWN1.out,Below.grown (Below.refl B w) G1.out BH.out (fun j hj => (OWN.out.lt j hj).1)⟩
end Go.Proofs.YtfifnemnihcijaaGreatDoor

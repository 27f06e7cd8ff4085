/- The law's fixed examples, walked: head returns true. -/
import Derived.Test.YtageboekobkdcaaP
namespace Go.Proofs.Ytageboekobkdcaa
open Go.RowKit

set_option maxRecDepth 100000 in
set_option maxHeartbeats 8000000 in
theorem head_ok (w0 : World) : Calls Try.prog 10 #[] w0 fun e w' => e = .returned (.bool true) ∧ Chg (fun _ => False) w0 w' := by
  have hsz := sizeFA
  have C0 := Lib.hid (Chg.refl (fun _ => False) w0)
  go_enter Try.func10, Try.ntmps10
  go_wp2_with (fail)
  refine (live_new w0 _ C0.out 2 (by omega) (by omega)).mono ?_
  rintro e w1 ⟨b1, rfl, l⟩
  have L1 := Lib.hid l
  clear l 
  go_wp2_with (fail)
  refine (fill_a _).mono ?_
  rintro e w2 ⟨rfl, c⟩
  have L2 := Lib.hid (L1.out.kept c.out)
  clear c L1
  go_wp2_with (fail)
  refine (s03 L2).mono ?_
  rintro e w3 ⟨rfl, L3⟩
  clear L2
  go_wp2_with (fail)
  refine (s04 L3).mono ?_
  rintro e w4 ⟨rfl, L4⟩
  clear L3
  go_wp2_with (fail)
  refine (fill_b _).mono ?_
  rintro e w5 ⟨rfl, c⟩
  have L5 := Lib.hid (L4.out.kept c.out)
  clear c L4
  go_wp2_with (fail)
  refine (s06 L5).mono ?_
  rintro e w6 ⟨rfl, L6⟩
  clear L5
  go_wp2_with (fail)
  refine (s07 L6).mono ?_
  rintro e w7 ⟨rfl, L7⟩
  clear L6
  go_wp2_with (fail)
  refine (s08 L7).mono ?_
  rintro e w8 ⟨rfl, L8⟩
  clear L7
  go_wp2_with (fail)
  refine (s09 L8).mono ?_
  rintro e w9 ⟨rfl, L9⟩
  clear L8
  go_wp2_with (fail)
  refine (s10 L9).mono ?_
  rintro e w10 ⟨rfl, L10⟩
  clear L9
  go_wp2_with (fail)
  refine (s11 L10).mono ?_
  rintro e w11 ⟨rfl, L11⟩
  clear L10
  go_wp2_with (fail)
  refine (s12 L11).mono ?_
  rintro e w12 ⟨rfl, L12⟩
  clear L11
  go_wp2_with (fail)
  refine (s13 L12).mono ?_
  rintro e w13 ⟨rfl, L13⟩
  clear L12
  go_wp2_with (fail)
  refine (s14 L13).mono ?_
  rintro e w14 ⟨rfl, L14⟩
  clear L13
  go_wp2_with (fail)
  refine (fail_nil _ _ _).mono ?_
  rintro e w15 ⟨rfl, rfl⟩
  have L15 := L14
  clear L14
  go_wp2_with (fail)
  refine (start_nil _).mono ?_
  rintro e w16 ⟨rfl, rfl⟩
  have L16 := L15
  clear L15
  go_wp2_with (fail)
  refine (arm_nil _ _ _ _).mono ?_
  rintro e w17 ⟨rfl, rfl⟩
  have L17 := L16
  clear L16
  go_wp2_with (fail)
  refine (rot_nil _ _ _ _).mono ?_
  rintro e w18 ⟨rfl, c⟩
  have L18 := Lib.hid (L17.out.kept c.out)
  clear c L17
  go_wp2_with (fail)
  refine (stale_nil _ _).mono ?_
  rintro e w19 ⟨rfl, c⟩
  have L19 := Lib.hid (L18.out.kept c.out)
  clear c L18
  go_wp2_with (fail)
  refine (live_new w0 _ L19.out.chg 1 (by omega) (by omega)).mono ?_
  rintro e w20 ⟨b20, rfl, l⟩
  have L20 := Lib.hid l
  clear l L19
  go_wp2_with (fail)
  refine (fill_a _).mono ?_
  rintro e w21 ⟨rfl, c⟩
  have L21 := Lib.hid (L20.out.kept c.out)
  clear c L20
  go_wp2_with (fail)
  refine (s22 L21).mono ?_
  rintro e w22 ⟨rfl, L22⟩
  clear L21
  go_wp2_with (fail)
  refine (s23 L22).mono ?_
  rintro e w23 ⟨rfl, L23⟩
  clear L22
  go_wp2_with (fail)
  refine (s24 L23).mono ?_
  rintro e w24 ⟨rfl, L24⟩
  clear L23
  go_wp2_with (fail)
  refine (s25 L24).mono ?_
  rintro e w25 ⟨rfl, L25⟩
  clear L24
  go_wp2_with (fail)
  refine (s26 L25).mono ?_
  rintro e w26 ⟨rfl, L26⟩
  clear L25
  go_wp2_with (fail)
  refine (s27 L26).mono ?_
  rintro e w27 ⟨rfl, L27⟩
  clear L26
  go_wp2_with (fail)
  refine (fill_a _).mono ?_
  rintro e w28 ⟨rfl, c⟩
  have L28 := Lib.hid (L27.out.kept c.out)
  clear c L27
  go_wp2_with (fail)
  refine (fill_z _).mono ?_
  rintro e w29 ⟨rfl, c⟩
  have L29 := Lib.hid (L28.out.kept c.out)
  clear c L28
  go_wp2_with (fail)
  refine (live_new w0 _ L29.out.chg 1 (by omega) (by omega)).mono ?_
  rintro e w30 ⟨b30, rfl, l⟩
  have L30 := Lib.hid l
  clear l L29
  go_wp2_with (fail)
  refine (s31 L30).mono ?_
  rintro e w31 ⟨rfl, L31⟩
  clear L30
  go_wp2_with (fail)
  refine (fill_a _).mono ?_
  rintro e w32 ⟨rfl, c⟩
  have L32 := Lib.hid (L31.out.kept c.out)
  clear c L31
  go_wp2_with (fail)
  refine (s33 L32).mono ?_
  rintro e w33 ⟨rfl, L33⟩
  clear L32
  go_wp2_with (fail)
  refine (fill_b _).mono ?_
  rintro e w34 ⟨rfl, c⟩
  have L34 := Lib.hid (L33.out.kept c.out)
  clear c L33
  go_wp2_with (fail)
  refine (s35 L34).mono ?_
  rintro e w35 ⟨rfl, L35⟩
  clear L34
  go_wp2_with (fail)
  refine (s36 L35).mono ?_
  rintro e w36 ⟨rfl, L36⟩
  clear L35
  go_wp2_with (fail)
  refine (s37 L36).mono ?_
  rintro e w37 ⟨rfl, L37⟩
  clear L36
  go_wp2_with (fail)
  refine (fill_a _).mono ?_
  rintro e w38 ⟨rfl, c⟩
  have L38 := Lib.hid (L37.out.kept c.out)
  clear c L37
  go_wp2_with (fail)
  refine (fill_b _).mono ?_
  rintro e w39 ⟨rfl, c⟩
  have L39 := Lib.hid (L38.out.kept c.out)
  clear c L38
  go_wp2_with (fail)
  refine (fill_a _).mono ?_
  rintro e w40 ⟨rfl, c⟩
  have L40 := Lib.hid (L39.out.kept c.out)
  clear c L39
  go_wp2_with (fail)
  refine (fill_z _).mono ?_
  rintro e w41 ⟨rfl, c⟩
  have L41 := Lib.hid (L40.out.kept c.out)
  clear c L40
  go_wp2_with (fail)
  refine (sync_nil _).mono ?_
  rintro e w42 ⟨rfl, rfl⟩
  have L42 := L41
  clear L41
  go_wp2_with (fail)
  refine (fill_a _).mono ?_
  rintro e w43 ⟨rfl, c⟩
  have L43 := Lib.hid (L42.out.kept c.out)
  clear c L42
  go_wp2_with (fail)
  refine (write_nil' _).mono ?_
  rintro e w44 ⟨rfl, c⟩
  have L44 := Lib.hid (L43.out.kept c.out)
  clear c L43
  go_wp2_with (fail)
  refine (new_none 0 _ (by omega)).mono ?_
  rintro e w98 ⟨rfl, rfl⟩
  go_wp2_with (fail)
  refine (new_none 4001 _ (by omega)).mono ?_
  rintro e w99 ⟨rfl, rfl⟩
  go_wp2
  go_ret
  exact ⟨rfl, L44.out.chg⟩

end Go.Proofs.Ytageboekobkdcaa

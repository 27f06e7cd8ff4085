/- What the row's condition on the listed variables gives the walks; a start that meets it. Conditions: none. -/
import Derived.Test.YtfifnemnihcijaaGreatDoorKOa
import Derived.Test.YtfifnemnihcijaaGreatDoorCards
import Derived.Test.YtfifnemnihcijaaGreatDoorTie
import Derived.LaidMore
import Derived.Stop.Joined
import Derived.Stop.LaidErr
set_option linter.unusedSimpArgs false
set_option linter.unusedVariables false
namespace Go.Proofs.YtfifnemnihcijaaGreatDoor
open Go.ChangeShapes Go.WideShapes Go.ChangeAt Go.RowKit
set_option maxRecDepth 100000

theorem Tryz.own : ownKnob Tryz.prog.godebug = none := by kernel_rfl
theorem Tryz.laidOut : laidOutB Tryz.prog = true := by kernel_rfl
/-- The row's list. -/
def laidL : List (String × DataW Unit) := [("math/bits.deBruijn32tab", Rows.laid_math_bits_deBruijn32tab), ("math/bits.deBruijn64tab", Rows.laid_math_bits_deBruijn64tab), ("internal/strconv.uint64pow10", Rows.laid_internal_strconv_uint64pow10), ("strconv.ErrRange", Rows.laid_strconv_ErrRange), ("strconv.ErrSyntax", Rows.laid_strconv_ErrSyntax)]
theorem gPow : Tryz.prog.globalNamed "internal/strconv.uint64pow10" = some 0 := by kernel_rfl
theorem gRng : Tryz.prog.globalNamed "strconv.ErrRange" = some 2 := by kernel_rfl
theorem gSyn : Tryz.prog.globalNamed "strconv.ErrSyntax" = some 1 := by kernel_rfl
theorem tPow : (Tryz.prog.globals[0]?).map (·.type) = some 246 := by kernel_rfl
theorem tRng : (Tryz.prog.globals[2]?).map (·.type) = some 189 := by kernel_rfl
theorem tSyn : (Tryz.prog.globals[1]?).map (·.type) = some 189 := by kernel_rfl
theorem cells_u64 : Tryz.prog.cellsOf 143 = 1 := by kernel_rfl
theorem cells_pow : Tryz.prog.cellsOf 246 = 20 := by kernel_rfl
theorem powTab : Rows.laid_internal_strconv_uint64pow10 (H := Unit) = Lib.tabData .u64 Lib.pow10Tab := by kernel_rfl
theorem door_met (os : Os) (args : Array Value) : laidMetH Tryz.prog laidL ((World.doorLaid Tryz.prog 4000 os).forCall (fun _ _ => 0) ⟨#[], args, []⟩).memory :=
  laidMetH_of_parts3 (fuel := 8) (laidMet_of_run' 8 (by kernel_rfl) (by kernel_rfl)) (by kernel_rfl) (by kernel_rfl)
theorem iface_cell {W : World} {n : String} {g : Nat} {t : TypeId} {ms : Array (String × TypeId)} {nm : String} {d : DataW Unit} {r : List (String × DataW Unit)} (hg : Tryz.prog.globalNamed n = some g) (ht : (Tryz.prog.globals[g]?).map (·.type) = some t) (hi : Tryz.prog.underlying t = some (.interface ms))
    (h : laidMet Tryz.prog ((n, .iface nm d) :: r) W) : ∃ u v, W.cell? ⟨g, 0, none⟩ = some (.iface u v) := by
  obtain ⟨ps, ⟨g', t', cs, fuel, p, q, hg', ht', hvar, hd, _, _⟩, _⟩ := h
  obtain rfl := Option.some.inj (hg.symm.trans hg')
  obtain rfl := Option.some.inj (ht.symm.trans ht')
  obtain ⟨f1, u, v, e, _, _⟩ := iface_of_trod hi hd
  have := World.var?_cell hg hvar 0
  obtain ⟨l⟩ := cs
  simp only at e
  subst e
  exact ⟨u, v, by simpa using this⟩
theorem of_laid {W : World} (h : laidMetH Tryz.prog laidL W) : Laid W := by
  rw [MakeChecks.laidMetH_plain _ _ _ (by kernel_rfl)] at h
  have h2 := h.tail.tail
  have h3 := h2.tail
  have h4 := h3.tail
  rw [powTab] at h2
  exact ⟨Lib.tabIs_of_head gPow tPow Tryz.underlying246 Tryz.underlying143 cells_u64 cells_pow h2, iface_cell gSyn tSyn Tryz.underlying189 h4, iface_cell gRng tRng Tryz.underlying189 h3⟩
end Go.Proofs.YtfifnemnihcijaaGreatDoor

/- WHAT THE ROWS' LIST GIVES A WALK ('laid_of': the structure 'Laid'), AND A WORLD THAT MEETS THE LIST ('laidWorld', 'laidWorld_met'): for both rows of the seat. -/
import Derived.Test.YtchhmekjfnelcaaGreatDoorRows
import Derived.Test.YtchhmekjfnelcaaGreatDoorRefB
import Derived.ProofKit
import Derived.OpenShut
import Derived.LaidMore
import Derived.Lay
import Derived.LaidHandle
import Derived.Lib.LaidTab
import Derived.Stop.LaidErr
import Derived.Stop.Joined
namespace Go.Proofs.YtchhmekjfnelcaaGreatDoor
open Go.ChangeShapes Go.WideShapes Go.ChangeAt Go.RowKit

theorem ownKnobs : ownKnob Tryz.prog.godebug = none := by kernel_rfl
theorem laidSame : Rows.uriDatasRow.laid = Rows.b64TurnsRow.laid := rfl
theorem gTab : Tryz.prog.globalNamed "math/bits.deBruijn64tab" = some 9 := by kernel_rfl
theorem gTabType : (Tryz.prog.globals[9]?).map (·.type) = some 168 := by kernel_rfl
theorem gErr : Tryz.prog.globalNamed "errors.errorType" = some 4 := by kernel_rfl
theorem gRt : (Tryz.prog.cutTypes.find? (·.1 == "internal/reflectlite.rtype")).map (·.2) = some 151 := by kernel_rfl
theorem gRow : ((List.range Tryz.prog.types.size).filter fun t => Tryz.prog.rowNamed t [101, 114, 114, 111, 114]) = [28] := by kernel_rfl
theorem tabZ : Rows.laid_math_bits_deBruijn64tab (H := Unit) = Lib.tabData .u8 [0, 1, 56, 2, 57, 49, 28, 3, 61, 58, 42, 50, 38, 29, 17, 4, 62, 47, 59, 36, 45, 43, 51, 22, 53, 39, 33, 30, 24, 18, 12, 5, 63, 55, 48, 27, 60, 41, 37, 16, 46, 35, 44, 21, 52, 32, 23, 11, 54, 26, 40, 15, 34, 20, 31, 10, 25, 14, 19, 9, 13, 8, 7, 6] := rfl

/-- The two halves of the rows' condition. -/
theorem halves {W : World} (h : laidMetH Tryz.prog Rows.b64TurnsRow.laid W) :
    laidMet Tryz.prog (Rows.b64TurnsRow.laid.filter fun x => x.2.handleName?.isNone) W ∧ handlesMet Tryz.prog [("errors.errorType", Rows.laid_errors_errorType)] W := h

theorem laid_of {W : World} (h : laidMetH Tryz.prog Rows.b64TurnsRow.laid W) : Laid W := by
  obtain ⟨hdat, hh⟩ := halves h
  have hcell : W.cell? ⟨9, 1, none⟩ = some (.int .u8 1) := by
    have h1 : laidMet Tryz.prog (("math/bits.deBruijn32tab", Rows.laid_math_bits_deBruijn32tab) :: ("math/bits.deBruijn64tab", Rows.laid_math_bits_deBruijn64tab) :: ("internal/strconv.uint64pow10", Rows.laid_internal_strconv_uint64pow10) :: ("unicode/utf8.acceptRanges", Rows.laid_unicode_utf8_acceptRanges) :: ("strconv.ErrRange", Rows.laid_strconv_ErrRange) :: ("strconv.ErrSyntax", Rows.laid_strconv_ErrSyntax) :: ("unicode.CaseRanges", Rows.laid_unicode_CaseRanges) :: ("unicode/utf8.first", Rows.laid_unicode_utf8_first) :: []) W := hdat
    have h2 := h1.tail
    rw [tabZ] at h2
    exact (Lib.tabIs_of_head gTab gTabType Tryz.underlying168 Tryz.underlying5 (by kernel_rfl) (by kernel_rfl) h2).cell gTab 1 (by decide)
  refine ⟨hcell, ?_, ?_⟩
  · obtain ⟨name, u, ty, e1, e2, e3, e4, e5⟩ := hh _ (List.mem_singleton.2 rfl)
    have en : name = [101, 114, 114, 111, 114] := (Option.some.inj e1).symm
    subst en
    obtain rfl := Option.some.inj (gRt.symm.trans e2)
    have hm : ty ∈ (List.range Tryz.prog.types.size).filter fun t => Tryz.prog.rowNamed t [101, 114, 114, 111, 114] := List.mem_filter.2 ⟨List.mem_range.2 e3, e4⟩
    rw [gRow] at hm
    obtain rfl := List.mem_singleton.1 hm
    have hty : typeHandle Tryz.prog 28 = hd 28 := by kernel_rfl
    rw [hty] at e5
    simpa using World.var?_cell gErr e5 0
  · have : 9 < W.heap.size := by
      unfold World.cell? at hcell
      split at hcell
      all_goals first | (cases hcell; done) | (rename_i hh; exact (Array.getElem?_eq_some_iff.1 hh).1)
    omega

/-- The settled world, the handle's cell laid. -/
noncomputable def world0 (os : Os) : World :=
  { World.holding Tryz.prog os ⟨#[], #[], []⟩ with heap := (World.holding Tryz.prog os ⟨#[], #[], []⟩).heap.modify 4 fun
      | .cells _ t frozen => .cells #[.iface 151 (.agg #[.pointer (some ⟨10, 28, none⟩)])] t frozen
      | o => o }
noncomputable def laidWorld (os : Os) : World := (world0 os).layVars Tryz.prog (Rows.b64TurnsRow.laid.filter fun x => x.2.handleName?.isNone)
theorem laidWorld_os (os : Os) : (laidWorld os).os = os := World.layVars_os _ _ _

set_option maxRecDepth 100000 in
theorem laidWorld_met (os : Os) (args : Array Value) : laidMetH Tryz.prog Rows.b64TurnsRow.laid ((laidWorld os).forCall (fun _ _ => 0) ⟨#[], args, []⟩).memory := by
  have h : laidMetH Tryz.prog Rows.b64TurnsRow.laid (laidWorld os) := by
    refine laidMetH_of_parts (laidMet_layVars (w0 := world0 os) ["math/bits.deBruijn32tab", "math/bits.deBruijn64tab", "internal/strconv.uint64pow10", "unicode/utf8.acceptRanges", "strconv.ErrRange", "strconv.ErrSyntax", "unicode.CaseRanges", "unicode/utf8.first"] [] ?_ ?_ ?_ ?_) (by kernel_rfl)
    · kernel_rfl
    · kernel_rfl
    · kernel_rfl
    · exact LaidIn.none
  exact h.of_heap (by simp [World.memory, World.forCall, Input.heap])
set_option maxRecDepth 100000 in
theorem laidWorld_shaped (os : Os) (args : Array Value) : ((laidWorld os).forCall (fun _ _ => 0) ⟨#[], args, []⟩).Shaped Tryz.prog :=
  World.shaped_of_ZipB (by kernel_rfl) (by kernel_rfl)
end Go.Proofs.YtchhmekjfnelcaaGreatDoor

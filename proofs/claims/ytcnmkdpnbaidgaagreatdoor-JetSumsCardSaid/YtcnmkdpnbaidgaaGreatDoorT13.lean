/- Part of the proof that whatever the two series: JetSums answers true -/
import Derived.Test.YtcnmkdpnbaidgaaGreatDoorT4
import Derived.Test.YtcnmkdpnbaidgaaGreatDoorT12
import Derived.Test.YtcnmkdpnbaidgaaGreatDoorTie
import Derived.Test.YtcnmkdpnbaidgaaGreatDoorCards
import Derived.WalkKit
import Derived.ProofKit
import Derived.Shelf.Vars
import Derived.Deep.DeepHandedRow
set_option linter.all false
noncomputable section
section
namespace Go.Sx.Tz
open Go Go.Ev Go.Ev.Tz Go.Sx Go.Proofs Go.RowKit Go.ChangeShapes Go.WideShapes Go.Proofs.YtcnmkdpnbaidgaaGreatDoor
attribute [local irreducible] Tryz.types Tryz.funcs
theorem laid_plain {W : World} (h : laidMetH Tryz.prog Rows.dualUnitsRow.laid W) : ∃ ps, DataW.LaidVars Tryz.prog W Rows.dualUnitsRow.laid ps := by
  have h : laidMet Tryz.prog Rows.dualUnitsRow.laid W := h
  exact ⟨h.choose, h.choose_spec.1⟩
noncomputable def gAt (n : String) (g : Nat) (t : TypeId) : Bool := decide (Tryz.prog.globalNamed n = some g) && decide ((Tryz.prog.globals[g]?).map (·.type) = some t) && okTyA Tryz.prog 5 t
theorem gAt_ok {n : String} {g : Nat} {t : TypeId} (h : gAt n g t = true) : Tryz.prog.globalNamed n = some g ∧ (Tryz.prog.globals[g]?).map (·.type) = some t ∧ okTyA Tryz.prog 5 t = true := by
  unfold gAt at h
  simp only [Bool.and_eq_true, decide_eq_true_eq] at h
  exact ⟨h.1.1, h.1.2, h.2⟩
theorem globsAt {W : World} (hL : laidMetH Tryz.prog Rows.dualUnitsRow.laid W) (hS : W.ShapedOpen Tryz.prog) : GlobsAt W := by
  obtain ⟨ps, hv⟩ := laid_plain hL
  have one : ∀ {n : String} {d : DataW Unit} {g : Nat} {t : TypeId}, (n, d) ∈ Rows.dualUnitsRow.laid → gAt n g t = true → ∀ x, W.cell? ⟨g, x, none⟩ = (flatD d)[x]? := fun hm hg => by
    obtain ⟨a, b, c⟩ := gAt_ok hg
    exact laid_cell hv hm a b c
  have mx : ∃ m, W.cell? ⟨2, 0, none⟩ = some (.int .i64 m) := cell_of_shapedOpen_int (t := 3) (zero := #[.int .i64 0]) hS (of_decide_eq_true (by kernel_rfl)) (by kernel_rfl) rfl (by kernel_rfl) (by kernel_rfl) (by kernel_rfl)
  refine ⟨?_, fun g e cs hm x v hx => ?_, mx⟩
  · have h12 := one (n := "math/bits.deBruijn64tab") (d := Rows.laid_math_bits_deBruijn64tab) (g := 12) (t := 430) (by unfold Rows.dualUnitsRow; simp) (by kernel_rfl) 0
    have := cell_lt (w := W) (a := ⟨12, 0, none⟩) (v := .int .u8 0) (by rw [h12]; rfl)
    exact this
  · simp only [globs, List.mem_cons, Prod.mk.injEq, AObj.cells.injEq, List.not_mem_nil, or_false] at hm
    rcases hm with ⟨rfl, rfl, rfl, _⟩ | ⟨rfl, rfl, rfl, _⟩ | ⟨rfl, rfl, rfl, _⟩ | ⟨rfl, rfl, rfl, _⟩ | ⟨rfl, rfl, rfl, _⟩ | ⟨rfl, rfl, rfl, _⟩ | ⟨rfl, rfl, rfl, _⟩ | ⟨rfl, rfl, rfl, _⟩ | ⟨rfl, rfl, rfl, _⟩ | ⟨rfl, rfl, rfl, _⟩
    · rw [one (n := "fluxion/core.kinds") (d := Rows.laid_fluxion_core_kinds) (t := 258) (by unfold Rows.dualUnitsRow; simp) (by kernel_rfl), show flatD (Rows.laid_fluxion_core_kinds : DataW Unit) = g0 by kernel_rfl]; exact hx
    · rw [one (n := "fluxion/shape.kinds") (d := Rows.laid_fluxion_shape_kinds) (t := 261) (by unfold Rows.dualUnitsRow; simp) (by kernel_rfl), show flatD (Rows.laid_fluxion_shape_kinds : DataW Unit) = g1 by kernel_rfl]; exact hx
    · rw [one (n := "fluxion/frac.faults") (d := Rows.laid_fluxion_frac_faults) (t := 316) (by unfold Rows.dualUnitsRow; simp) (by kernel_rfl), show flatD (Rows.laid_fluxion_frac_faults : DataW Unit) = g3 by kernel_rfl]; exact hx
    · rw [one (n := "fluxion/trace.has") (d := Rows.laid_fluxion_trace_has) (t := 352) (by unfold Rows.dualUnitsRow; simp) (by kernel_rfl), show flatD (Rows.laid_fluxion_trace_has : DataW Unit) = g4 by kernel_rfl]; exact hx
    · rw [one (n := "unicode/utf8.first") (d := Rows.laid_unicode_utf8_first) (t := 364) (by unfold Rows.dualUnitsRow; simp) (by kernel_rfl), show flatD (Rows.laid_unicode_utf8_first : DataW Unit) = g5 by kernel_rfl]; exact hx
    · rw [one (n := "unicode/utf8.acceptRanges") (d := Rows.laid_unicode_utf8_acceptRanges) (t := 367) (by unfold Rows.dualUnitsRow; simp) (by kernel_rfl), show flatD (Rows.laid_unicode_utf8_acceptRanges : DataW Unit) = g6 by kernel_rfl]; exact hx
    · rw [one (n := "internal/strconv.uint64pow10") (d := Rows.laid_internal_strconv_uint64pow10) (t := 415) (by unfold Rows.dualUnitsRow; simp) (by kernel_rfl), show flatD (Rows.laid_internal_strconv_uint64pow10 : DataW Unit) = g9 by kernel_rfl]; exact hx
    · rw [one (n := "fluxion/trace.two") (d := Rows.laid_fluxion_trace_two) (t := 423) (by unfold Rows.dualUnitsRow; simp) (by kernel_rfl), show flatD (Rows.laid_fluxion_trace_two : DataW Unit) = g10 by kernel_rfl]; exact hx
    · rw [one (n := "math/bits.deBruijn32tab") (d := Rows.laid_math_bits_deBruijn32tab) (t := 429) (by unfold Rows.dualUnitsRow; simp) (by kernel_rfl), show flatD (Rows.laid_math_bits_deBruijn32tab : DataW Unit) = g11 by kernel_rfl]; exact hx
    · rw [one (n := "math/bits.deBruijn64tab") (d := Rows.laid_math_bits_deBruijn64tab) (t := 430) (by unfold Rows.dualUnitsRow; simp) (by kernel_rfl), show flatD (Rows.laid_math_bits_deBruijn64tab : DataW Unit) = g12 by kernel_rfl]; exact hx
end Go.Sx.Tz
end
end

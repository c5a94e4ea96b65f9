/- Part of the proof that whatever the two series: JetSums answers true -/
import Derived.Test.YtcnmkdpnbaidgaaGreatDoorT5
import Derived.Test.YtcnmkdpnbaidgaaGreatDoorT11
set_option linter.all false
noncomputable section
section
namespace Go.Sx.Tz
open Go Go.Ev Go.Ev.Tz Go.Sx Go.Proofs Go.RowKit
attribute [local irreducible] Tryz.types Tryz.funcs
theorem good_cxA : cxA.Good Tryz.prog := ⟨good_cx.T, good_cx.lies, good_cx.nop, good_cx.ext, good_cx.name⟩
theorem sums_cxA {B : Nat} {w0 : World} (hB : 13 ≤ B) (hG : GlobsAt w0) : Sums Tryz.prog B w0 cxA := by
  intro f g h
  have h : cond (Nat.beq f 20) (some yes) (cx.sum f) = some g := h
  have key : ∀ {f}, (∀ (B : Nat) (w0 : World), 2 < B → ∀ m : Int, w0.cell? ⟨2, 0, none⟩ = some (.int .i64 m) → FWp ⟨Tryz.prog, B, w0, cx⟩ f [] (withGlob 13 []) (fun u _ => u = .bool true)) →
      ∀ args σ v σ', yes args σ = some (v, σ') → ∀ E w args', Rel Tryz.prog B w0 E σ w → GlobRel cxA.T E → LRel Tryz.prog E args args' → CallOk Tryz.prog B w0 f ⟨args'⟩ E σ w v σ' := by
    intro f hp args σ v σ' he E w args' hr _ ha
    cases args with
    | nil => cases he; cases ha; exact closed_call hp hB hG hr
    | cons x r => cases he
  cases h1 : Nat.beq f 20 with
  | true =>
    rw [h1] at h; cases h
    rw [Nat.eq_of_beq_eq_true h1]
    exact ⟨⟨Tryz.f20, Tryz.func20, rfl⟩, key closed20⟩
  | false =>
    rw [h1] at h
    obtain ⟨m, hm⟩ := hG.max
    exact good_sums B w0 (by omega) m hm f g h
end Go.Sx.Tz
end
end

/- Part of the proof that whatever the two series: JetSums answers true -/
import Derived.Test.YtcnmkdpnbaidgaaGreatDoorT6
import Derived.Test.YtcnmkdpnbaidgaaGreatDoorT7
import Derived.Test.YtcnmkdpnbaidgaaGreatDoorT8
import Derived.Test.YtcnmkdpnbaidgaaGreatDoorT9
import Derived.Test.YtcnmkdpnbaidgaaGreatDoorT10
set_option linter.all false
noncomputable section
section
namespace Go.Ev.Tz
open Go.Proofs Go.RowKit
attribute [local irreducible] Tryz.types Tryz.funcs
def tab20 : List Ent := [e20n0, e20n1, e20n2, e20n3, e20n4]
def fs20 (f : FuncId) : Bool := Nat.beq f 25 || Nat.beq f 45 || Nat.beq f 63 || Nat.beq f 119
theorem tabOk20 : ∀ e ∈ tab20, e.Ok := by
  intro e he
  simp only [tab20, List.mem_cons, List.not_mem_nil, or_false] at he
  rcases he with rfl | rfl | rfl | rfl | rfl
  · exact ok20n0
  · exact ok20n1
  · exact ok20n2
  · exact ok20n3
  · exact ok20n4
theorem run20 : isTrue (kFn (cxK fs20 tab20) 100000 20 [] (withGlob 13 [])) = true := by kernel_rfl
theorem fsOk20 (f : FuncId) (h : fs20 f = true) : ∃ fn, Tryz.prog.funcs[f]? = some fn ∧ fn.body.isNone = false := by
  simp only [fs20, Bool.or_eq_true] at h
  have key : ∀ k, Nat.beq f k = true → f = k := fun k h => Nat.eq_of_beq_eq_true h
  rcases h with ((h | h) | h) | h
  · rw [key _ h]; exact ⟨Tryz.f25, Tryz.func25, rfl⟩
  · rw [key _ h]; exact ⟨Tryz.f45, Tryz.func45, rfl⟩
  · rw [key _ h]; exact ⟨Tryz.f63, Tryz.func63, rfl⟩
  · rw [key _ h]; exact ⟨Tryz.f119, Tryz.func119, rfl⟩
theorem closed20 (B : Nat) (w0 : World) (hB : 2 < B) (m : Int) (hm : w0.cell? ⟨2, 0, none⟩ = some (.int .i64 m)) : FWp ⟨Tryz.prog, B, w0, cx⟩ 20 [] (withGlob 13 []) (fun u _ => u = .bool true) := by
  have h := run20
  unfold isTrue at h
  split at h
  · rename_i τ he
    rw [kFn_eq] at he
    exact FWp.of_ev (H := ⟨Tryz.prog, B, w0, cxK fs20 tab20⟩) ⟨good_cxK _ _, sums_cxK fsOk20 tabOk20 hB hm, mixed⟩ he (Q := fun u _ => u = .bool true) rfl
  · cases h
end Go.Ev.Tz
end
end

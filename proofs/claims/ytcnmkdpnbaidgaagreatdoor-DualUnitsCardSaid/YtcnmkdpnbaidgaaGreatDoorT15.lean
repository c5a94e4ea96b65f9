/- Part of the proof that for every list of types, DualUnits answers true and leaves its argument as it was; the package-level variables that the row lists hold what the program's text lays. -/
import Derived.Test.YtcnmkdpnbaidgaaGreatDoorT6
import Derived.Test.YtcnmkdpnbaidgaaGreatDoorT7
import Derived.Test.YtcnmkdpnbaidgaaGreatDoorT8
import Derived.Test.YtcnmkdpnbaidgaaGreatDoorT9
import Derived.Test.YtcnmkdpnbaidgaaGreatDoorT10
import Derived.Test.YtcnmkdpnbaidgaaGreatDoorT11
import Derived.Test.YtcnmkdpnbaidgaaGreatDoorT12
import Derived.Test.YtcnmkdpnbaidgaaGreatDoorT13
import Derived.Test.YtcnmkdpnbaidgaaGreatDoorT14
set_option linter.all false
noncomputable section
section
namespace Go.Ev.Tz
open Go.Proofs Go.RowKit
attribute [local irreducible] Tryz.types Tryz.funcs
def tab11 : List Ent := [e11n0, e11n1, e11n2, e11n3, e11n4, e11n5, e11n6, e11n7, e11n8]
def fs11 (f : FuncId) : Bool := Nat.beq f 45 || Nat.beq f 46 || Nat.beq f 48 || Nat.beq f 95 || Nat.beq f 100 || Nat.beq f 102
theorem tabOk11 : ∀ e ∈ tab11, e.Ok := by
  intro e he
  simp only [tab11, List.mem_cons, List.not_mem_nil, or_false] at he
  rcases he with rfl | rfl | rfl | rfl | rfl | rfl | rfl | rfl | rfl
  · exact ok11n0
  · exact ok11n1
  · exact ok11n2
  · exact ok11n3
  · exact ok11n4
  · exact ok11n5
  · exact ok11n6
  · exact ok11n7
  · exact ok11n8
theorem run11 : isTrue (kFn (cxK fs11 tab11) 100000 11 [] (withGlob 13 [])) = true := by kernel_rfl
theorem fsOk11 (f : FuncId) (h : fs11 f = true) : ∃ fn, Tryz.prog.funcs[f]? = some fn ∧ fn.body.isNone = false := by
  simp only [fs11, Bool.or_eq_true] at h
  have key : ∀ k, Nat.beq f k = true → f = k := fun k h => Nat.eq_of_beq_eq_true h
  rcases h with ((((h | h) | h) | h) | h) | h
  · rw [key _ h]; exact ⟨Tryz.f45, Tryz.func45, rfl⟩
  · rw [key _ h]; exact ⟨Tryz.f46, Tryz.func46, rfl⟩
  · rw [key _ h]; exact ⟨Tryz.f48, Tryz.func48, rfl⟩
  · rw [key _ h]; exact ⟨Tryz.f95, Tryz.func95, rfl⟩
  · rw [key _ h]; exact ⟨Tryz.f100, Tryz.func100, rfl⟩
  · rw [key _ h]; exact ⟨Tryz.f102, Tryz.func102, rfl⟩
theorem closed11 (B : Nat) (w0 : World) (hB : 2 < B) (m : Int) (hm : w0.cell? ⟨2, 0, none⟩ = some (.int .i64 m)) : FWp ⟨Tryz.prog, B, w0, cx⟩ 11 [] (withGlob 13 []) (fun u _ => u = .bool true) := by
  have h := run11
  unfold isTrue at h
  split at h
  · rename_i τ he
    rw [kFn_eq] at he
    exact FWp.of_ev (H := ⟨Tryz.prog, B, w0, cxK fs11 tab11⟩) ⟨good_cxK _ _, sums_cxK fsOk11 tabOk11 hB hm, mixed⟩ he (Q := fun u _ => u = .bool true) rfl
  · cases h
end Go.Ev.Tz
end
end

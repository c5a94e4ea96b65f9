/- Whatever the two series: JetSums answers true -/
import Derived.Test.YtcnmkdpnbaidgaaGreatDoorT16
import Derived.Test.YtcnmkdpnbaidgaaGreatDoorT18
import Derived.Test.YtcnmkdpnbaidgaaGreatDoorT19
set_option linter.all false
noncomputable section
section
namespace Go.Sx.Tz
open Go Go.Ev Go.Ev.Tz Go.Sx Go.Proofs Go.RowKit Go.ChangeShapes Go.WideShapes Go.Proofs.YtcnmkdpnbaidgaaGreatDoor
attribute [local irreducible] Tryz.types Tryz.funcs
theorem readable38 : Tryz.prog.readableRec 38 = true ∧ 38 < Tryz.prog.types.size := ⟨by kernel_rfl, of_decide_eq_true (by kernel_rfl)⟩
namespace U4
theorem contract (H : Type) (enc : TypeId × Value → H) (W : World) (base : Nat) (args : Array Value) (ds gs : List (DataW H)) (before : List MemPlace)
    (hval : ∀ (j : Nat) t v, Tryz.f4.params[j]? = some t → args[j]? = some v → Value.okWide Tryz.prog W .any base t v)
    (hW : DataW.Whole enc Tryz.prog Tryz.f4.params.toList Rows.jetSumsSpec.vars false W args.toList ds gs before) (hL : laidMetH Tryz.prog Rows.jetSumsRow.laid W) (hS : W.ShapedOpen Tryz.prog) :
    Calls Tryz.prog 4 args W fun e W' => ∃ v, e = .returned v ∧ Rows.jetSumsSpec.post enc Tryz.prog Tryz.f4 false true false false W args v W' := by
  have hW' := hW
  obtain ⟨p, q, hA0, hV, rfl, hfz, hnd⟩ := hW
  have hA : DataW.TrodAll enc Tryz.prog W 0 (fun _ => true) true Tryz.f4.params.toList args.toList ds p := hA0
  rw [Tryz.params4] at hA hval
  obtain ⟨v0, vs0, d0, ds0, p0, q0, hargs, rfl, rfl, h0, r0⟩ := trodAll_cons hA
  obtain ⟨v1, vs1, d1, ds1, p1, q1, hargs1, rfl, rfl, h1, r1⟩ := trodAll_cons r0
  obtain ⟨rfl, rfl, rfl⟩ := trodAll_nil r1
  obtain rfl : args = #[v0, v1] := by cases args; simp_all
  obtain ⟨rfl, rfl⟩ := trodVars_none hV
  obtain ⟨a, len, cap, rfl⟩ := okWide_slice Tryz.underlying38 (hval 0 38 v0 rfl rfl)
  obtain ⟨a', len', cap', rfl⟩ := okWide_slice Tryz.underlying38 (hval 1 38 v1 rfl rfl)
  obtain ⟨fuel, h0⟩ := h0
  obtain ⟨fuel', h1⟩ := h1
  obtain ⟨E, σ, Φ, vs, pvs, k1, _, _, k4, k5, k6⟩ := arg_ok (T := cxA.T) (X := X) good_cxA.T 5 fuel 38 [.slice a len cap] _ h0 (by kernel_rfl) (ar0 (globsAt hL hS))
  obtain ⟨E', σ', Φ', vs', pvs', k1', e1, e2, k4', k5', k6'⟩ := arg_ok (T := cxA.T) (X := X) good_cxA.T 5 fuel' 38 [.slice a' len' cap'] _ h1 (by kernel_rfl) k1
  obtain ⟨l, hl, rfl⟩ := shp_rats (n := 1) k6
  obtain ⟨l', hl', rfl⟩ := shp_rats (n := 1) k6'
  have k4 := k4.mono e1
  have k5 := k5.mono e2
  refine (law_calls hL hS (JetSums4 l l' hl hl') k1' (k4.append k4') ?_).mono fun e W' ⟨he, hb⟩ => ?_
  · cases k5 with
    | cons x y => cases y; cases k5' with
      | cons x' y' => cases y'; exact .cons (.p x) (.cons (.p x') .nil)
  · subst he
    refine ⟨_, rfl, post_below laidOut (fun t ht => ?_) rfl hW' hb (fun _ _ _ => trodAll_cons_mk (shut_bool Tryz.underlying4 _) trodAll_mk0) rfl rfl (ok_one (by kernel_rfl) rfl (okWide_bool_mk Tryz.underlying4 _))⟩
    rw [Tryz.params4] at ht
    obtain rfl : t = 38 := by simpa using ht
    exact readable38
set_option maxRecDepth 100000
theorem reads (os : Os) {H : Type} (enc : TypeId × Value → H) : ∃ places, DataW.whole enc Tryz.prog (calledW os #[.slice none 0 0, .slice none 0 0]) Tryz.f4.params.toList Rows.jetSumsSpec.vars false #[Value.slice none 0 0, .slice none 0 0].toList 8 = some ([.nil, .nil], [], places) :=
  ⟨[], by kernel_rfl⟩
theorem lifted (os : Os) (started : os.Started) (H : Type) (enc : TypeId × Value → H) (F : Stop.Interp) :
    ReturnsInHanded {} Tryz.checked os 4 .any ((OpenSpec.ofChange Rows.jetSumsSpec).preRow enc Tryz.prog Tryz.f4 Rows.jetSumsRow.domain false Rows.jetSumsRow.laid) (((OpenSpec.ofChange Rows.jetSumsSpec).at F).post enc Tryz.prog Tryz.f4 false true false false) := by
  obtain ⟨places, hx⟩ := reads os enc
  refine returnsInHanded_of_row (C := Tryz.checked) (s := OpenSpec.ofChange Rows.jetSumsSpec) own started (by kernel_rfl) Tryz.func4
    (witness_row_at (enc := enc) (C := Tryz.checked) false (laidWorld os) #[.slice none 0 0, .slice none 0 0] rfl (wit_vars os _) (wit_rest os _) (by kernel_rfl)
      (OpenSpec.preRow_of_cond 8 hx (by kernel_rfl) (fun k hk => by cases hk) (by kernel_rfl) (laid_met os _))) ?_
  intro W base args ds gs before hval hW _ _ _ hL hS _
  exact contract H enc W base args ds gs before hval hW hL hS
theorem said : Rows.JetSumsSaid :=
  OpenClaim.holds_of_cond 4 Tryz.f4 rfl rfl rfl rfl rfl rfl rfl ⟨rfl, rfl, rfl, rfl, rfl⟩ rfl rfl rfl rfl rfl named Tryz.func4 facts inst wrap
    (fun os started H enc _ F => by rw [OpenClaim.pre_eq_preRow]; exact lifted os started H enc F)
theorem plain (f : FuncId) (fn : Func) (hf : Tryz.pinned.checked.prog.funcNamed "fluxion/fluxionlaw16.JetSums" = some f) (hfn : Tryz.pinned.checked.prog.funcs[f]? = some fn) :
    true = Tryz.pinned.checked.prog.looks [] ∧ ∀ (j : Nat) t, fn.params[j]? = some t → Tryz.pinned.checked.prog.wantsStandIn t = false := by
  obtain rfl : f = 4 := Option.some.inj ((show Tryz.prog.funcNamed "fluxion/fluxionlaw16.JetSums" = some 4 by kernel_rfl).symm.trans hf) |>.symm
  obtain rfl : fn = Tryz.f4 := (Option.some.inj (Tryz.func4.symm.trans hfn)).symm
  refine ⟨by kernel_rfl, fun j t ht => ?_⟩
  rw [Tryz.params4] at ht
  obtain rfl : t = 38 := by simpa using Array.mem_of_getElem? ht
  exact (show Tryz.prog.wantsStandIn 38 = false by kernel_rfl)
theorem byText : Rows.jetSumsRow.wfByText (OpenSpec.ofChange Rows.jetSumsSpec) = true := by kernel_rfl
theorem goesBy : false = Rows.jetSumsRow.goesBy Tryz.pinned.checked.prog := (goesBy_none no_goes rfl).symm
theorem card : Rows.JetSumsCardSaid :=
  Claim7.holds_tied_plain_at .later [] _ _ _ _ said (fun _ h => by cases h) byText (fun _ h => by cases h) jetSums_row_tie rfl ⟨rfl, rfl⟩ mainIs rfl plain goesBy
end U4
end Go.Sx.Tz
end
end
namespace Go.Proofs.YtcnmkdpnbaidgaaGreatDoor
theorem jetSums_holds : Rows.JetSumsCardSaid := Go.Sx.Tz.U4.card
end Go.Proofs.YtcnmkdpnbaidgaaGreatDoor

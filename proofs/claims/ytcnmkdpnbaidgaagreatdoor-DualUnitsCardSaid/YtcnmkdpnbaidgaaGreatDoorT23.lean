/- For every list of types, DualUnits answers true and leaves its argument as it was; the package-level variables that the row lists hold what the program's text lays. -/
import Derived.Test.YtcnmkdpnbaidgaaGreatDoorT18
import Derived.Test.YtcnmkdpnbaidgaaGreatDoorT21
import Derived.Test.YtcnmkdpnbaidgaaGreatDoorT22
set_option linter.all false
noncomputable section
section
namespace Go.Sx.Tz
open Go Go.Ev Go.Ev.Tz Go.Sx Go.Proofs Go.RowKit Go.ChangeShapes Go.WideShapes Go.Proofs.YtcnmkdpnbaidgaaGreatDoor
attribute [local irreducible] Tryz.types Tryz.funcs
theorem shp_sl {P : Program} {n t e : Nat} {pvs : List PV} (ht : P.underlying t = some (.slice e)) (h : Shp P (n + 1) t pvs) : ∃ rows : List (List PV), pvs = [.sl e rows] ∧ rows.length ≤ maxLen ∧ ∀ r, r ∈ rows → Shp P n e r := by
  unfold Shp at h; rw [ht] at h; exact h
theorem shp_int {P : Program} {n t : Nat} {k : IntKind} {pvs : List PV} (ht : P.underlying t = some (.int k)) (h : Shp P (n + 1) t pvs) : ∃ i, pvs = [.int k i] ∧ (Lit.int k i).wf = true := by
  unfold Shp at h; rw [ht] at h; exact h
theorem shp_bool {P : Program} {n t : Nat} {pvs : List PV} (ht : P.underlying t = some .bool) (h : Shp P (n + 1) t pvs) : ∃ b, pvs = [.bool b] := by
  unfold Shp at h; rw [ht] at h; exact h
theorem shp_st {P : Program} {n t : Nat} {fs : Array Field} {pvs : List PV} (ht : P.underlying t = some (.struct fs)) (h : Shp P (n + 1) t pvs) : ∃ l, All2 (fun (f : Field) r => Shp P n f.type r) fs.toList l ∧ pvs = l.flatten := by
  unfold Shp at h; rw [ht] at h; exact h
theorem exists_map {α β : Type} {f : α → β} : ∀ {l : List β}, (∀ x, x ∈ l → ∃ a, x = f a) → ∃ l' : List α, l = l'.map f
  | [], _ => ⟨[], rfl⟩
  | x :: r, h => by
    obtain ⟨a, rfl⟩ := h x (.head _)
    obtain ⟨l, rfl⟩ := exists_map (l := r) fun y hy => h y (.tail _ hy)
    exact ⟨a :: l, rfl⟩
theorem shp_tys {n : Nat} {pvs : List PV} (h : Shp Tryz.prog (n + 4) 22 pvs) : ∃ l : List Ty, pvs = [encTys l] := by
  obtain ⟨rows, rfl, _, h1⟩ := shp_sl Tryz.underlying22 h
  obtain ⟨l, rfl⟩ := exists_map (f := encTy) fun r hr => by
    obtain ⟨l, h2, rfl⟩ := shp_st Tryz.underlying29 (h1 r hr)
    cases h2 with
    | cons a h2 => cases h2 with
      | cons b h2 =>
        cases h2
        obtain ⟨k, rfl, _⟩ := shp_int Tryz.underlying26 a
        obtain ⟨ds, rfl, _, h3⟩ := shp_sl Tryz.underlying27 b
        obtain ⟨ds, rfl⟩ := exists_map (f := dimR) fun r hr => by
          obtain ⟨i, rfl, _⟩ := shp_int Tryz.underlying3 (h3 r hr)
          exact ⟨i, rfl⟩
        exact ⟨⟨k, ds⟩, rfl⟩
  exact ⟨l, rfl⟩
theorem own : ownKnob Tryz.prog.godebug = none := by kernel_rfl
theorem laidOut : laidOutB Tryz.prog = true := by kernel_rfl
theorem readable22 : Tryz.prog.readableRec 22 = true ∧ 22 < Tryz.prog.types.size := ⟨by kernel_rfl, of_decide_eq_true (by kernel_rfl)⟩
theorem law_calls {W : World} (hL : laidMetH Tryz.prog Rows.dualUnitsRow.laid W) (hS : W.ShapedOpen Tryz.prog) {f : FuncId} {sv : List SV} (h : P f [] sv (fun _ r => r = bv true)) {E : Env} {σ : St} {Φ : Fz} (hA : Ar Tryz.prog cxA.T X W E σ Φ) {vs args : List Value}
    (hv : LRel Tryz.prog E vs args) (ha : LVR cxA.T Φ [] sv vs) : Calls Tryz.prog f ⟨args⟩ W fun e W' => e = .returned (.bool true) ∧ Below W.heap.size W W' :=
  PC.calls good_cxA mixed (sums_cxA (globsAt hL hS).size (globsAt hL hS)) h hA hv ha
theorem goes_none {P : Program} (h : P.funcs.any Func.goes = false) (f : FuncId) : P.goes f = false := by
  have hall : ∀ (g : Nat) (fn : Func), P.funcs[g]? = some fn → fn.goes = false := fun g fn hg => by
    have := Array.any_eq_false.1 h
    obtain ⟨hlt, rfl⟩ := Array.getElem?_eq_some_iff.1 hg
    cases hq : (P.funcs[g]).goes with
    | false => rfl
    | true => exact absurd hq (this g hlt)
  unfold Program.goes
  rw [h, Bool.and_false, Bool.or_false, List.any_eq_false]
  intro g _
  cases hg : P.funcs[g]? with
  | none => simp
  | some fn => simp [hall g fn hg]
theorem goesBy_none {P : Program} {c : OpenClaim} (h : P.funcs.any Func.goes = false) (hs : c.start = .entering) : c.goesBy P = false := by
  unfold OpenClaim.goesBy Program.goesAt Program.goesFrom
  rw [hs]
  cases P.funcNamed c.func with
  | none => rfl
  | some f => simp [goes_none h]
theorem no_goes : Tryz.pinned.checked.prog.funcs.any Func.goes = false := by kernel_rfl
namespace U3
theorem contract (H : Type) (enc : TypeId × Value → H) (W : World) (base : Nat) (args : Array Value) (ds gs : List (DataW H)) (before : List MemPlace)
    (hval : ∀ (j : Nat) t v, Tryz.f3.params[j]? = some t → args[j]? = some v → Value.okWide Tryz.prog W .any base t v)
    (hW : DataW.Whole enc Tryz.prog Tryz.f3.params.toList Rows.dualUnitsSpec.vars false W args.toList ds gs before) (hL : laidMetH Tryz.prog Rows.dualUnitsRow.laid W) (hS : W.ShapedOpen Tryz.prog) :
    Calls Tryz.prog 3 args W fun e W' => ∃ v, e = .returned v ∧ Rows.dualUnitsSpec.post enc Tryz.prog Tryz.f3 false true false false W args v W' := by
  have hW' := hW
  obtain ⟨p, q, hA0, hV, rfl, hfz, hnd⟩ := hW
  have hA : DataW.TrodAll enc Tryz.prog W 0 (fun _ => true) true Tryz.f3.params.toList args.toList ds p := hA0
  rw [Tryz.params3] at hA hval
  obtain ⟨v0, vs0, d0, ds0, p0, q0, hargs, rfl, rfl, h0, r0⟩ := trodAll_cons hA
  obtain ⟨rfl, rfl, rfl⟩ := trodAll_nil r0
  obtain rfl : args = #[v0] := by cases args; simp_all
  obtain ⟨rfl, rfl⟩ := trodVars_none hV
  obtain ⟨a, len, cap, rfl⟩ := okWide_slice Tryz.underlying22 (hval 0 22 v0 rfl rfl)
  obtain ⟨fuel, h0⟩ := h0
  obtain ⟨E, σ, Φ, vs, pvs, k1, _, _, k4, k5, k6⟩ := arg_ok (T := cxA.T) (X := X) good_cxA.T 5 fuel 22 [.slice a len cap] _ h0 (by kernel_rfl) (ar0 (globsAt hL hS))
  obtain ⟨l, rfl⟩ := shp_tys (n := 1) k6
  refine (law_calls hL hS (DualUnits3 back106 l) k1 k4 ?_).mono fun e W' ⟨he, hb⟩ => ?_
  · cases k5 with
    | cons x y => cases y; exact .cons (.p x) .nil
  · subst he
    refine ⟨_, rfl, post_below laidOut (fun t ht => ?_) rfl hW' hb (fun _ _ _ => trodAll_cons_mk (shut_bool Tryz.underlying4 _) trodAll_mk0) rfl rfl (ok_one (by kernel_rfl) rfl (okWide_bool_mk Tryz.underlying4 _))⟩
    rw [Tryz.params3] at ht
    obtain rfl : t = 22 := by simpa using ht
    exact readable22
set_option maxRecDepth 100000
theorem reads (os : Os) {H : Type} (enc : TypeId × Value → H) : ∃ places, DataW.whole enc Tryz.prog (calledW os #[.slice none 0 0]) Tryz.f3.params.toList Rows.dualUnitsSpec.vars false #[Value.slice none 0 0].toList 8 = some ([.nil], [], places) :=
  ⟨[], by kernel_rfl⟩
theorem lifted (os : Os) (started : os.Started) (H : Type) (enc : TypeId × Value → H) (F : Stop.Interp) :
    ReturnsInHanded {} Tryz.checked os 3 .any ((OpenSpec.ofChange Rows.dualUnitsSpec).preRow enc Tryz.prog Tryz.f3 Rows.dualUnitsRow.domain false Rows.dualUnitsRow.laid) (((OpenSpec.ofChange Rows.dualUnitsSpec).at F).post enc Tryz.prog Tryz.f3 false true false false) := by
  obtain ⟨places, hx⟩ := reads os enc
  refine returnsInHanded_of_row (C := Tryz.checked) (s := OpenSpec.ofChange Rows.dualUnitsSpec) own started (by kernel_rfl) Tryz.func3
    (witness_row_at (enc := enc) (C := Tryz.checked) false (laidWorld os) #[.slice none 0 0] rfl (wit_vars os _) (wit_rest os _) (by kernel_rfl)
      (OpenSpec.preRow_of_cond 8 hx (by kernel_rfl) (fun k hk => by cases hk) (by kernel_rfl) (laid_met os _))) ?_
  intro W base args ds gs before hval hW _ _ _ hL hS _
  exact contract H enc W base args ds gs before hval hW hL hS
theorem said : Rows.DualUnitsSaid :=
  OpenClaim.holds_of_cond 3 Tryz.f3 rfl rfl rfl rfl rfl rfl rfl ⟨rfl, rfl, rfl, rfl, rfl⟩ rfl rfl rfl rfl rfl named Tryz.func3 facts inst wrap
    (fun os started H enc _ F => by rw [OpenClaim.pre_eq_preRow]; exact lifted os started H enc F)
theorem plain (f : FuncId) (fn : Func) (hf : Tryz.pinned.checked.prog.funcNamed "fluxion/fluxionlaw15.DualUnits" = some f) (hfn : Tryz.pinned.checked.prog.funcs[f]? = some fn) :
    true = Tryz.pinned.checked.prog.looks [] ∧ ∀ (j : Nat) t, fn.params[j]? = some t → Tryz.pinned.checked.prog.wantsStandIn t = false := by
  obtain rfl : f = 3 := Option.some.inj ((show Tryz.prog.funcNamed "fluxion/fluxionlaw15.DualUnits" = some 3 by kernel_rfl).symm.trans hf) |>.symm
  obtain rfl : fn = Tryz.f3 := (Option.some.inj (Tryz.func3.symm.trans hfn)).symm
  refine ⟨by kernel_rfl, fun j t ht => ?_⟩
  rw [Tryz.params3] at ht
  obtain rfl : t = 22 := by simpa using Array.mem_of_getElem? ht
  exact (show Tryz.prog.wantsStandIn 22 = false by kernel_rfl)
theorem byText : Rows.dualUnitsRow.wfByText (OpenSpec.ofChange Rows.dualUnitsSpec) = true := by kernel_rfl
theorem mainIs : Tryz.pinned.checked.prog.mainIs = some (true, "12d293304533b96634aac677a7546efc3ec2c21e02291f64237086facc67c418".toList) := by kernel_rfl
theorem goesBy : false = Rows.dualUnitsRow.goesBy Tryz.pinned.checked.prog := (goesBy_none no_goes rfl).symm
theorem card : Rows.DualUnitsCardSaid :=
  Claim7.holds_tied_plain_at .later [] _ _ _ _ said (fun _ h => by cases h) byText (fun _ h => by cases h) dualUnits_row_tie rfl ⟨rfl, rfl⟩ mainIs rfl plain goesBy
end U3
end Go.Sx.Tz
end
end
namespace Go.Proofs.YtcnmkdpnbaidgaaGreatDoor
theorem dualUnits_holds : Rows.DualUnitsCardSaid := Go.Sx.Tz.U3.card
end Go.Proofs.YtcnmkdpnbaidgaaGreatDoor

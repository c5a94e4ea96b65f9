/- Part of the proof that for every list of types, DualUnits answers true and leaves its argument as it was; the package-level variables that the row lists hold what the program's text lays. -/
import Derived.Test.YtcnmkdpnbaidgaaGreatDoorT20
import Derived.Test.YtcnmkdpnbaidgaaGreatDoorT4
set_option linter.all false
noncomputable section
section
namespace Go.Sx.Tz
open Go Go.Ev Go.Ev.Tz Go.Sx Go.Proofs
set_option maxHeartbeats 4000000
attribute [local irreducible] CallG LoopG
theorem digits79 (x : List Nat) (hl : x.length < 100000) : P 79 [] [.p (encN x), .p (encN x)] (fun _ r => r = bv true) := by
  refine PC.of_pure good ok79 rfl ?_
  conv => whnf
  refine ⟨fun _ => ?_, fun h => absurd rfl h⟩
  conv => whnf
  refine ⟨0, LoopG.intro (fun i : Nat => ⟨[(0, .p (encN x)), (1, .p (encN x)), (5, iv i)], []⟩) (fun i => i ≤ x.length) (fun i => x.length - i) (0) (by omega) ?_ ?_⟩
  · refine ⟨[], by decide, rfl, ?_, ?_⟩
    · repeat' (first | exact trivial | exact ⟨_, rfl, rfl⟩ | exact ⟨_, rfl, _, rfl⟩ | exact ⟨_, rfl⟩ | refine And.intro ?_ ?_)
    · repeat' (first | exact trivial | exact ⟨_, rfl, rfl⟩ | exact ⟨_, rfl, _, rfl⟩ | exact ⟨_, rfl⟩ | refine And.intro ?_ ?_)
  intro i hi
  conv => whnf
  refine ⟨fun h => ?_, fun h => ?_⟩
  · conv => whnf
    have hil : i < x.length := by simpa using h
    refine ⟨i, _, rfl, get_map hil, ?_⟩
    conv => whnf
    refine ⟨i, _, rfl, get_map hil, ?_⟩
    conv => whnf
    refine ⟨fun _ => ?_, fun h => absurd rfl h⟩
    conv => whnf
    refine ⟨by omega, by omega, ?_⟩
    conv => whnf
    refine ⟨i + 1, by omega, by omega, ?_⟩
    refine ⟨[], by decide, rfl, ?_, ?_⟩
    · repeat' (first | exact trivial | exact ⟨_, rfl, rfl⟩ | exact ⟨_, rfl, _, rfl⟩ | exact ⟨_, rfl⟩ | refine And.intro ?_ ?_)
    · repeat' (first | exact trivial | exact ⟨_, rfl, rfl⟩ | exact ⟨_, rfl, _, rfl⟩ | exact ⟨_, rfl⟩ | refine And.intro ?_ ?_)
  · conv => whnf
    exact ⟨rfl, rfl⟩
theorem Equal33 (x : RatS) (h1 : x.num.length < 100000) (h2 : x.den.length < 100000) : P 33 [] [.agp (encR x), .agp (encR x)] (fun _ r => r = bv true) := by
  obtain ⟨f, neg, n, d⟩ := x
  refine PC.of_pure good ok33 rfl ?_
  conv => whnf
  refine ⟨fun _ => ?_, fun h => absurd rfl h⟩
  conv => whnf
  cases neg
  all_goals
    conv => whnf
    refine CallG.pure (digits79 n h1) rfl ?_
    conv => whnf
    refine ⟨rfl, ?_⟩
    rintro _ _ rfl
    refine ⟨rfl, ?_⟩
    conv => whnf
    refine CallG.pure (digits79 d h2) rfl ?_
    conv => whnf
    refine ⟨rfl, ?_⟩
    rintro _ _ rfl
    refine ⟨rfl, ?_⟩
    conv => whnf
    exact ⟨rfl, rfl⟩
theorem Same108 (t : Ty) (hl : t.dims.length < 100000) : P 108 [] [.agp (encTy t), .agp (encTy t)] (fun _ r => r = bv true) := by
  refine PC.of_pure good ok108 rfl ?_
  conv => whnf
  refine ⟨fun _ => ?_, fun h => absurd rfl h⟩
  conv => whnf
  refine ⟨fun _ => ?_, fun h => absurd rfl h⟩
  conv => whnf
  refine ⟨0, LoopG.intro (fun i : Nat => ⟨[(0, .agp (encTy t)), (1, .agp (encTy t)), (2, .loc 0 0), (3, .loc 1 0), (5, iv i)], [.box [iv t.kind, .p (encDims t.dims)], .box [iv t.kind, .p (encDims t.dims)]]⟩) (fun i => i ≤ t.dims.length) (fun i => t.dims.length - i) (0) (by omega) ?_ ?_⟩
  · refine ⟨[some 0, some 1], by decide, rfl, ?_, ?_⟩
    · repeat' (first | exact trivial | exact ⟨_, rfl, rfl⟩ | exact ⟨_, rfl, _, rfl⟩ | exact ⟨_, rfl⟩ | refine And.intro ?_ ?_)
    · repeat' (first | exact trivial | exact ⟨_, rfl, rfl⟩ | exact ⟨_, rfl, _, rfl⟩ | exact ⟨_, rfl⟩ | refine And.intro ?_ ?_)
  intro i hi
  conv => whnf
  refine ⟨fun h => ?_, fun h => ?_⟩
  · conv => whnf
    have hil : i < t.dims.length := by simpa using h
    refine ⟨i, _, rfl, get_map hil, ?_⟩
    conv => whnf
    refine ⟨i, _, rfl, get_map hil, ?_⟩
    conv => whnf
    refine ⟨fun _ => ?_, fun h => absurd rfl h⟩
    conv => whnf
    refine ⟨by omega, by omega, ?_⟩
    conv => whnf
    refine ⟨i + 1, by omega, by omega, ?_⟩
    refine ⟨[some 0, some 1], by decide, rfl, ?_, ?_⟩
    · repeat' (first | exact trivial | exact ⟨_, rfl, rfl⟩ | exact ⟨_, rfl, _, rfl⟩ | exact ⟨_, rfl⟩ | refine And.intro ?_ ?_)
    · repeat' (first | exact trivial | exact ⟨_, rfl, rfl⟩ | exact ⟨_, rfl, _, rfl⟩ | exact ⟨_, rfl⟩ | refine And.intro ?_ ?_)
  · conv => whnf
    exact ⟨rfl, rfl⟩
def RatLen (x : RatS) : Prop := x.num.length < 100000 ∧ x.den.length < 100000
theorem Equal54 (v : ValS) (h1 : v.ty.dims.length < 100000) (h2 : v.nums.length < 100000) (h3 : v.bits.length < 100000) (h4 : ∀ x ∈ v.nums, RatLen x) : P 54 [] [.agp (encV v), .agp (encV v)] (fun _ r => r = bv true) := by
  refine PC.of_pure good ok54 rfl ?_
  conv => whnf
  refine CallG.pure (Same108 v.ty h1) rfl ?_
  conv => whnf
  refine ⟨rfl, ?_⟩
  rintro _ _ rfl
  refine ⟨rfl, ?_⟩
  conv => whnf
  refine ⟨fun _ => ?_, fun h => absurd rfl h⟩
  conv => whnf
  refine ⟨fun _ => ?_, fun h => absurd rfl h⟩
  conv => whnf
  refine ⟨0, LoopG.intro (fun i : Nat => ⟨[(2, .loc 0 0), (3, .loc 1 0), (5, iv i)], [.box [iv v.ty.kind, .p (encDims v.ty.dims), .p (encRs v.nums), .p (.sl 154 (v.bits.map encB))], .box [iv v.ty.kind, .p (encDims v.ty.dims), .p (encRs v.nums), .p (.sl 154 (v.bits.map encB))]]⟩) (fun i => i ≤ v.nums.length) (fun i => v.nums.length - i) (0) (by omega) ?_ ?_⟩
  · refine ⟨[some 0, some 1], by decide, rfl, ?_, ?_⟩
    · repeat' (first | exact trivial | exact ⟨_, rfl, rfl⟩ | exact ⟨_, rfl, _, rfl⟩ | exact ⟨_, rfl⟩ | refine And.intro ?_ ?_)
    · repeat' (first | exact trivial | exact ⟨_, rfl, rfl⟩ | exact ⟨_, rfl, _, rfl⟩ | exact ⟨_, rfl⟩ | refine And.intro ?_ ?_)
  intro i hi
  conv => whnf
  refine ⟨fun h => ?_, fun h => ?_⟩
  · conv => whnf
    have hil : i < v.nums.length := by simpa using h
    have hr := h4 v.nums[i] (List.getElem_mem hil)
    refine ⟨i, _, rfl, get_map hil, ?_⟩
    conv => whnf
    refine ⟨i, _, rfl, get_map hil, ?_⟩
    conv => whnf
    refine CallG.pure (Equal33 v.nums[i] hr.1 hr.2) rfl ?_
    conv => whnf
    refine ⟨rfl, ?_⟩
    rintro _ _ rfl
    refine ⟨rfl, ?_⟩
    conv => whnf
    refine ⟨by omega, by omega, ?_⟩
    conv => whnf
    refine ⟨i + 1, by omega, by omega, ?_⟩
    refine ⟨[some 0, some 1], by decide, rfl, ?_, ?_⟩
    · repeat' (first | exact trivial | exact ⟨_, rfl, rfl⟩ | exact ⟨_, rfl, _, rfl⟩ | exact ⟨_, rfl⟩ | refine And.intro ?_ ?_)
    · repeat' (first | exact trivial | exact ⟨_, rfl, rfl⟩ | exact ⟨_, rfl, _, rfl⟩ | exact ⟨_, rfl⟩ | refine And.intro ?_ ?_)
  · conv => whnf
    refine ⟨0, LoopG.intro (fun i : Nat => ⟨[(2, .loc 0 0), (3, .loc 1 0), (6, iv i)], [.box [iv v.ty.kind, .p (encDims v.ty.dims), .p (encRs v.nums), .p (.sl 154 (v.bits.map encB))], .box [iv v.ty.kind, .p (encDims v.ty.dims), .p (encRs v.nums), .p (.sl 154 (v.bits.map encB))]]⟩) (fun i => i ≤ v.bits.length) (fun i => v.bits.length - i) (0) (by omega) ?_ ?_⟩
    · refine ⟨[some 0, some 1], by decide, rfl, ?_, ?_⟩
      · repeat' (first | exact trivial | exact ⟨_, rfl, rfl⟩ | exact ⟨_, rfl, _, rfl⟩ | exact ⟨_, rfl⟩ | refine And.intro ?_ ?_)
      · repeat' (first | exact trivial | exact ⟨_, rfl, rfl⟩ | exact ⟨_, rfl, _, rfl⟩ | exact ⟨_, rfl⟩ | refine And.intro ?_ ?_)
    intro i hi
    conv => whnf
    refine ⟨fun h => ?_, fun h => ?_⟩
    · conv => whnf
      have hil : i < v.bits.length := by simpa using h
      refine ⟨i, _, rfl, get_map hil, ?_⟩
      conv => whnf
      refine ⟨i, _, rfl, get_map hil, ?_⟩
      conv => whnf
      refine ⟨fun _ => ?_, fun h => absurd rfl h⟩
      conv => whnf
      cases v.bits[i].on
      all_goals
        conv => whnf
        refine ⟨by omega, by omega, ?_⟩
        conv => whnf
        refine ⟨i + 1, by omega, by omega, ?_⟩
        refine ⟨[some 0, some 1], by decide, rfl, ?_, ?_⟩
        · repeat' (first | exact trivial | exact ⟨_, rfl, rfl⟩ | exact ⟨_, rfl, _, rfl⟩ | exact ⟨_, rfl⟩ | refine And.intro ?_ ?_)
        · repeat' (first | exact trivial | exact ⟨_, rfl, rfl⟩ | exact ⟨_, rfl, _, rfl⟩ | exact ⟨_, rfl⟩ | refine And.intro ?_ ?_)
    · conv => whnf
      exact ⟨rfl, rfl⟩
def ValLen (v : ValS) : Prop := v.ty.dims.length < 100000 ∧ v.nums.length < 100000 ∧ v.bits.length < 100000 ∧ ∀ x ∈ v.nums, RatLen x
theorem Equals13 (l : List ValS) (hl : l.length < 100000) (h : ∀ v ∈ l, ValLen v) : P 13 [] [.p (encVs l), .p (encVs l)] (fun _ r => r = bv true) := by
  refine PC.of_pure good ok13 rfl ?_
  conv => whnf
  refine ⟨fun _ => ?_, fun h => absurd rfl h⟩
  conv => whnf
  refine ⟨0, LoopG.intro (fun i : Nat => ⟨[(0, .p (encVs l)), (1, .p (encVs l)), (5, iv i)], []⟩) (fun i => i ≤ l.length) (fun i => l.length - i) (0) (by omega) ?_ ?_⟩
  · refine ⟨[], by decide, rfl, ?_, ?_⟩
    · repeat' (first | exact trivial | exact ⟨_, rfl, rfl⟩ | exact ⟨_, rfl, _, rfl⟩ | exact ⟨_, rfl⟩ | refine And.intro ?_ ?_)
    · repeat' (first | exact trivial | exact ⟨_, rfl, rfl⟩ | exact ⟨_, rfl, _, rfl⟩ | exact ⟨_, rfl⟩ | refine And.intro ?_ ?_)
  intro i hi
  conv => whnf
  refine ⟨fun h' => ?_, fun h' => ?_⟩
  · conv => whnf
    have hil : i < l.length := by simpa using h'
    obtain ⟨a1, a2, a3, a4⟩ := h l[i] (List.getElem_mem hil)
    refine ⟨i, _, rfl, get_map hil, ?_⟩
    conv => whnf
    refine ⟨i, _, rfl, get_map hil, ?_⟩
    conv => whnf
    refine CallG.pure (Equal54 l[i] a1 a2 a3 a4) rfl ?_
    conv => whnf
    refine ⟨rfl, ?_⟩
    rintro _ _ rfl
    refine ⟨rfl, ?_⟩
    conv => whnf
    refine ⟨by omega, by omega, ?_⟩
    conv => whnf
    refine ⟨i + 1, by omega, by omega, ?_⟩
    refine ⟨[], by decide, rfl, ?_, ?_⟩
    · repeat' (first | exact trivial | exact ⟨_, rfl, rfl⟩ | exact ⟨_, rfl, _, rfl⟩ | exact ⟨_, rfl⟩ | refine And.intro ?_ ?_)
    · repeat' (first | exact trivial | exact ⟨_, rfl, rfl⟩ | exact ⟨_, rfl, _, rfl⟩ | exact ⟨_, rfl⟩ | refine And.intro ?_ ?_)
  · conv => whnf
    exact ⟨rfl, rfl⟩
end Go.Sx.Tz
end
section
namespace Go.Sx.Tz
open Go Go.Ev Go.Ev.Tz Go.Sx Go.Proofs
set_option maxHeartbeats 4000000
attribute [local irreducible] CallG LoopG
theorem Copy56 (x : RatS) (h1 : x.num.length < 100000) (h2 : x.den.length < 100000) : P 56 [] [.agp (encR x)] (fun _ r => r = .agp (encR x)) := by
  refine PC.of_pure good ok56 rfl ?_
  conv => whnf
  refine ⟨rfl, rfl, (by show _ * 4 ≤ _; simp; omega), ?_⟩
  conv => whnf
  refine ⟨rfl, rfl, (by show _ * 4 ≤ _; simp; omega), ?_⟩
  conv => whnf
  exact ⟨rfl, rfl⟩
theorem Fill109r (t : Ty) (x : RatS) (b : BitS) (h0 : t.dims.all dimOk = true) (hd : t.dims.length ≤ 5) (hk : t.kind = 1) (hx : RatLen x) :
    P 109 [] [.agp (encTy t), .agp (encR x), .agp (encB b)] (fun M r => M = [.arr 3 (t.dims.map dimR), .arr 51 (List.replicate (prodD t.dims).toNat (encR x))] ∧ r = .ag [iv t.kind, .os 0, .os 1, .nl 154]) := by
  have hb := prodD_part h0 hd t.dims.length
  rw [List.take_length] at hb
  refine PC.of_wp good ok109 rfl ?_
  conv => whnf
  refine ⟨rfl, rfl, (by show _ * 8 ≤ _; simp; omega), ?_⟩
  conv => whnf
  refine ⟨1, ?_⟩
  conv => whnf
  refine CallG.pure (Size44 t h0 hd) rfl ?_
  conv => whnf
  refine ⟨rfl, ?_⟩
  rintro _ _ rfl
  refine ⟨rfl, ?_⟩
  conv => whnf
  refine ⟨fun h => ?_, fun h => ?_⟩
  · conv => whnf
    refine ⟨fun hk' => ?_, fun hk' => ?_⟩
    · conv => whnf
      refine CallG.pure (Copy56 x hx.1 hx.2) rfl ?_
      conv => whnf
      refine ⟨rfl, ?_⟩
      rintro _ _ rfl
      refine ⟨rfl, ?_⟩
      conv => whnf
      refine ⟨rfl, (by show 1 * 64 ≤ _; omega), ?_⟩
      conv => whnf
      refine ⟨by decide, by decide, ?_⟩
      conv => whnf
      refine LoopG.intro (fun i : Nat => ⟨[(3, .loc 0 0), (4, .loc 1 0), (5, .loc 2 0), (6, .loc 3 0), (7, .loc 4 0), (8, iv i)], [.box [iv t.kind, .p (encDims t.dims)], .box [iv x.fault, bv x.neg, .p (encN x.num), .p (encN x.den)], .box [iv b.fault, bv b.on], .box [iv 0, .nl 3, .nl 51, .nl 154], .box [iv t.kind, .os 5, .os 6, .nl 154], .arr 3 (t.dims.map dimR), .arr 51 (List.replicate i (encR x))]⟩) (fun i => 1 ≤ i ∧ (i : Int) ≤ prodD t.dims) (fun i => (prodD t.dims).toNat - i) 1 ⟨by omega, by omega⟩ ?_ ?_
      · refine ⟨[some 0, some 1, some 2, some 3, some 5, some 6, some 8], by decide, rfl, ?_, ?_⟩
        · repeat' (first | exact trivial | exact ⟨_, rfl, rfl⟩ | exact ⟨_, rfl, _, rfl⟩ | exact ⟨_, rfl⟩ | refine And.intro ?_ ?_)
        · repeat' (first | exact trivial | exact ⟨_, rfl, rfl⟩ | exact ⟨_, rfl, _, rfl⟩ | exact ⟨_, rfl⟩ | refine And.intro ?_ ?_)
      intro i hi
      conv => whnf
      refine CallG.pure (Size44 t h0 hd) rfl ?_
      conv => whnf
      refine ⟨rfl, ?_⟩
      rintro _ _ rfl
      refine ⟨rfl, ?_⟩
      conv => whnf
      refine ⟨fun h => ?_, fun h => ?_⟩
      · conv => whnf
        refine ⟨fun _ => ?_, fun q => absurd hk q⟩
        conv => whnf
        refine CallG.pure (Copy56 x hx.1 hx.2) rfl ?_
        conv => whnf
        refine ⟨rfl, ?_⟩
        rintro _ _ rfl
        refine ⟨rfl, ?_⟩
        conv => whnf
        refine ⟨rfl, rfl, (by show _ * 64 ≤ _; simp; omega), ?_⟩
        conv => whnf
        refine ⟨by omega, by omega, ?_⟩
        conv => whnf
        refine ⟨i + 1, ⟨by omega, by omega⟩, by omega, ?_⟩
        refine ⟨[some 0, some 1, some 2, some 3, some 4, some 5, some 8], by decide, rfl, ?_, ?_⟩
        · repeat' (first | exact trivial | exact ⟨_, rfl, rfl⟩ | exact ⟨_, rfl, _, rfl⟩ | exact ⟨_, rfl⟩ | refine And.intro ?_ ?_ | (refine ⟨_, rfl, congrArg (fun z => some (Blk.arr _ z)) ?_⟩; exact List.replicate_succ'.symm) | (refine ⟨_, rfl, congrArg (fun z => some (SV.p (PV.sl _ z))) ?_⟩; exact List.replicate_succ'.symm))
        · repeat' (first | exact trivial | exact ⟨_, rfl, rfl⟩ | exact ⟨_, rfl, _, rfl⟩ | exact ⟨_, rfl⟩ | refine And.intro ?_ ?_ | (refine ⟨_, rfl, congrArg (fun z => some (Blk.arr _ z)) ?_⟩; exact List.replicate_succ'.symm) | (refine ⟨_, rfl, congrArg (fun z => some (SV.p (PV.sl _ z))) ?_⟩; exact List.replicate_succ'.symm))
      · conv => whnf
        obtain rfl : i = (prodD t.dims).toNat := by omega
        refine ⟨_, _, ?_, rfl, rfl⟩
        refine ⟨[some 5, some 6], by decide, rfl, ?_, ?_⟩
        · repeat' (first | exact trivial | exact ⟨_, rfl, rfl⟩ | exact ⟨_, rfl, _, rfl⟩ | exact ⟨_, rfl⟩ | refine And.intro ?_ ?_)
        · repeat' (first | exact trivial | exact ⟨_, rfl, rfl⟩ | exact ⟨_, rfl, _, rfl⟩ | exact ⟨_, rfl⟩ | refine And.intro ?_ ?_)
    · exact absurd hk hk'
  · exact absurd (by omega) h
theorem Fill109f (t : Ty) (x : RatS) (b : BitS) (h0 : t.dims.all dimOk = true) (hd : t.dims.length ≤ 5) (hk : t.kind ≠ 1) :
    P 109 [] [.agp (encTy t), .agp (encR x), .agp (encB b)] (fun _ r => r = .agp (encV ⟨t, [], List.replicate (prodD t.dims).toNat b⟩)) := by
  have hb := prodD_part h0 hd t.dims.length
  rw [List.take_length] at hb
  refine PC.of_pure good ok109 rfl ?_
  conv => whnf
  refine ⟨rfl, rfl, (by show _ * 8 ≤ _; simp; omega), ?_⟩
  conv => whnf
  refine ⟨1, ?_⟩
  conv => whnf
  refine CallG.pure (Size44 t h0 hd) rfl ?_
  conv => whnf
  refine ⟨rfl, ?_⟩
  rintro _ _ rfl
  refine ⟨rfl, ?_⟩
  conv => whnf
  refine ⟨fun h => ?_, fun h => ?_⟩
  · conv => whnf
    refine ⟨fun hk' => ?_, fun hk' => ?_⟩
    · exact absurd hk' hk
    · conv => whnf
      refine ⟨rfl, (by show 1 * 16 ≤ _; omega), ?_⟩
      conv => whnf
      refine ⟨by decide, by decide, ?_⟩
      conv => whnf
      refine LoopG.intro (fun i : Nat => ⟨[(3, .loc 0 0), (4, .loc 1 0), (5, .loc 2 0), (6, .loc 3 0), (7, .loc 4 0), (8, iv i)], [.box [iv t.kind, .p (encDims t.dims)], .box [iv x.fault, bv x.neg, .p (encN x.num), .p (encN x.den)], .box [iv b.fault, bv b.on], .box [iv 0, .nl 3, .nl 51, .nl 154], .box [iv t.kind, .os 5, .nl 51, .os 6], .arr 3 (t.dims.map dimR), .arr 154 (List.replicate i (encB b))]⟩) (fun i => 1 ≤ i ∧ (i : Int) ≤ prodD t.dims) (fun i => (prodD t.dims).toNat - i) 1 ⟨by omega, by omega⟩ ?_ ?_
      · refine ⟨[some 0, some 1, some 2, some 3, some 5, some 6, some 8], by decide, rfl, ?_, ?_⟩
        · repeat' (first | exact trivial | exact ⟨_, rfl, rfl⟩ | exact ⟨_, rfl, _, rfl⟩ | exact ⟨_, rfl⟩ | refine And.intro ?_ ?_)
        · repeat' (first | exact trivial | exact ⟨_, rfl, rfl⟩ | exact ⟨_, rfl, _, rfl⟩ | exact ⟨_, rfl⟩ | refine And.intro ?_ ?_)
      intro i hi
      conv => whnf
      refine CallG.pure (Size44 t h0 hd) rfl ?_
      conv => whnf
      refine ⟨rfl, ?_⟩
      rintro _ _ rfl
      refine ⟨rfl, ?_⟩
      conv => whnf
      refine ⟨fun h => ?_, fun h => ?_⟩
      · conv => whnf
        refine ⟨fun q => absurd q hk, fun _ => ?_⟩
        conv => whnf
        refine ⟨rfl, rfl, (by show _ * 16 ≤ _; simp; omega), ?_⟩
        conv => whnf
        refine ⟨by omega, by omega, ?_⟩
        conv => whnf
        refine ⟨i + 1, ⟨by omega, by omega⟩, by omega, ?_⟩
        refine ⟨[some 0, some 1, some 2, some 3, some 4, some 5, some 8], by decide, rfl, ?_, ?_⟩
        · repeat' (first | exact trivial | exact ⟨_, rfl, rfl⟩ | exact ⟨_, rfl, _, rfl⟩ | exact ⟨_, rfl⟩ | refine And.intro ?_ ?_ | (refine ⟨_, rfl, congrArg (fun z => some (Blk.arr _ z)) ?_⟩; exact List.replicate_succ'.symm) | (refine ⟨_, rfl, congrArg (fun z => some (SV.p (PV.sl _ z))) ?_⟩; exact List.replicate_succ'.symm))
        · repeat' (first | exact trivial | exact ⟨_, rfl, rfl⟩ | exact ⟨_, rfl, _, rfl⟩ | exact ⟨_, rfl⟩ | refine And.intro ?_ ?_ | (refine ⟨_, rfl, congrArg (fun z => some (Blk.arr _ z)) ?_⟩; exact List.replicate_succ'.symm) | (refine ⟨_, rfl, congrArg (fun z => some (SV.p (PV.sl _ z))) ?_⟩; exact List.replicate_succ'.symm))
      · conv => whnf
        obtain rfl : i = (prodD t.dims).toNat := by omega
        exact ⟨rfl, by simp [oneS, encV, encDims, encRs]⟩
  · exact absurd (by omega) h
end Go.Sx.Tz
end
section
namespace Go.Sx.Tz
open Go Go.Ev Go.Ev.Tz Go.Sx Go.Proofs
set_option maxHeartbeats 4000000
attribute [local irreducible] CallG LoopG
theorem dg_small {n : Nat} (h : n < B ^ 2) : (dg n).length < 100000 := Nat.lt_of_le_of_lt (dg_len.2 h) (by decide)
theorem whLen (n : Int) (h1 : -9223372036854775808 ≤ n) (h2 : n < 9223372036854775808) : RatLen (wh n) := by
  unfold wh quo
  rw [if_neg (by decide), Nat.gcd_one_right, Nat.div_one, Nat.div_one]
  split
  · exact ⟨by simp, by simp⟩
  · refine ⟨?_, by show (dg 1).length < _; rw [dg_1]; decide⟩
    exact Nat.lt_of_le_of_lt (dg_i64 (n := n.natAbs) (by omega)) (by decide)
theorem Zero55r (t : Ty) (h0 : t.dims.all dimOk = true) (hd : t.dims.length ≤ 5) (hk : t.kind = 1) :
    P 55 [] [.agp (encTy t)] (fun M r => M = [.arr 3 (t.dims.map dimR), .arr 51 (List.replicate (prodD t.dims).toNat (encR (wh 0)))] ∧ r = .ag [iv t.kind, .os 0, .os 1, .nl 154]) := by
  refine PC.of_wp good ok55 rfl ?_
  conv => whnf
  refine CallG.pure (Of42w 0 (by decide) (by decide)) rfl ?_
  conv => whnf
  refine ⟨rfl, ?_⟩
  rintro _ _ rfl
  refine ⟨rfl, ?_⟩
  conv => whnf
  refine lendS [true] [] _ _ _ (Fill109r t (wh 0) ⟨0, false⟩ h0 hd hk (whLen 0 (by decide) (by decide))) ?_
  conv => whnf
  refine ⟨?_, ?_, rfl, ?_⟩
  · repeat' (first | exact trivial | exact rfl | refine And.intro ?_ ?_)
  · repeat' (first | exact trivial | exact rfl | refine And.intro ?_ ?_)
  rintro _ _ ⟨rfl, rfl⟩
  conv => whnf
  refine ⟨_, _, ?_, rfl, rfl⟩
  refine ⟨[some 2, some 3], by decide, rfl, ?_, ?_⟩
  · repeat' (first | exact trivial | exact ⟨_, rfl, rfl⟩ | exact ⟨_, rfl, _, rfl⟩ | exact ⟨_, rfl⟩ | refine And.intro ?_ ?_)
  · repeat' (first | exact trivial | exact ⟨_, rfl, rfl⟩ | exact ⟨_, rfl, _, rfl⟩ | exact ⟨_, rfl⟩ | refine And.intro ?_ ?_)
theorem Zero55f (t : Ty) (h0 : t.dims.all dimOk = true) (hd : t.dims.length ≤ 5) (hk : t.kind ≠ 1) :
    P 55 [] [.agp (encTy t)] (fun _ r => r = .agp (encV ⟨t, [], List.replicate (prodD t.dims).toNat ⟨0, false⟩⟩)) := by
  refine PC.of_pure good ok55 rfl ?_
  conv => whnf
  refine CallG.pure (Of42w 0 (by decide) (by decide)) rfl ?_
  conv => whnf
  refine ⟨rfl, ?_⟩
  rintro _ _ rfl
  refine ⟨rfl, ?_⟩
  conv => whnf
  refine CallG.pure (Fill109f t (wh 0) ⟨0, false⟩ h0 hd hk) rfl ?_
  conv => whnf
  refine ⟨rfl, ?_⟩
  rintro _ _ rfl
  refine ⟨rfl, ?_⟩
  conv => whnf
  exact ⟨rfl, rfl⟩
theorem Zeros57 (n : Nat) (hn : n ≤ 1000000) : P 57 [] [iv n] (fun M r => M = [.arr 51 (List.replicate n (encR (wh 0)))] ∧ r = .os 0) := by
  refine PC.of_wp good ok57 rfl ?_
  conv => whnf
  refine ⟨0, LoopG.intro (fun i : Nat => ⟨[(0, iv n), (3, .os 0), (4, iv i)], [.arr 51 (List.replicate i (encR (wh 0)))]⟩) (fun i => i ≤ n) (fun i => n - i) (0) (Nat.zero_le _) ?_ ?_⟩
  · refine ⟨[none], by decide, rfl, ?_, ?_⟩
    · repeat' (first | exact trivial | exact ⟨_, rfl, rfl⟩ | exact ⟨_, rfl, _, rfl⟩ | exact ⟨_, rfl⟩ | refine And.intro ?_ ?_)
    · repeat' (first | exact trivial | exact ⟨_, rfl, rfl⟩ | exact ⟨_, rfl, _, rfl⟩ | exact ⟨_, rfl⟩ | refine And.intro ?_ ?_)
  intro i hi
  conv => whnf
  refine ⟨fun h => ?_, fun h => ?_⟩
  · conv => whnf
    refine CallG.pure (Of42w 0 (by decide) (by decide)) rfl ?_
    conv => whnf
    refine ⟨rfl, ?_⟩
    rintro _ _ rfl
    refine ⟨rfl, ?_⟩
    conv => whnf
    refine ⟨rfl, rfl, (by show _ * 64 ≤ _; simp; omega), ?_⟩
    conv => whnf
    refine ⟨by omega, by omega, ?_⟩
    conv => whnf
    refine ⟨i + 1, by omega, by omega, ?_⟩
    refine ⟨[some 2], by decide, rfl, ?_, ?_⟩
    · repeat' (first | exact trivial | exact ⟨_, rfl, rfl⟩ | exact ⟨_, rfl, _, rfl⟩ | exact ⟨_, rfl⟩ | refine And.intro ?_ ?_ | (refine ⟨_, rfl, congrArg (fun z => some (Blk.arr _ z)) ?_⟩; exact List.replicate_succ'.symm) | (refine ⟨_, rfl, congrArg (fun z => some (SV.p (PV.sl _ z))) ?_⟩; exact List.replicate_succ'.symm))
    · repeat' (first | exact trivial | exact ⟨_, rfl, rfl⟩ | exact ⟨_, rfl, _, rfl⟩ | exact ⟨_, rfl⟩ | refine And.intro ?_ ?_ | (refine ⟨_, rfl, congrArg (fun z => some (Blk.arr _ z)) ?_⟩; exact List.replicate_succ'.symm) | (refine ⟨_, rfl, congrArg (fun z => some (SV.p (PV.sl _ z))) ?_⟩; exact List.replicate_succ'.symm))
  · conv => whnf
    obtain rfl : i = n := by omega
    refine ⟨_, _, ?_, rfl, rfl⟩
    refine ⟨[some 0], by decide, rfl, ?_, ?_⟩
    · repeat' (first | exact trivial | exact ⟨_, rfl, rfl⟩ | exact ⟨_, rfl, _, rfl⟩ | exact ⟨_, rfl⟩ | refine And.intro ?_ ?_)
    · repeat' (first | exact trivial | exact ⟨_, rfl, rfl⟩ | exact ⟨_, rfl, _, rfl⟩ | exact ⟨_, rfl⟩ | refine And.intro ?_ ?_)
def unitL (n i : Nat) : List RatS := (List.replicate n (wh 0)).set i (wh 1)
theorem Unit15 (n i : Nat) (hn : n ≤ 1000000) (hi : i < n) : P 15 [] [iv n, iv i] (fun _ r => r = .p (encRs (unitL n i))) := by
  refine PC.of_pure good ok15 rfl ?_
  conv => whnf
  refine lendS [] [] _ _ _ (Zeros57 n hn) ?_
  conv => whnf
  refine ⟨?_, ?_, rfl, ?_⟩
  · repeat' (first | exact trivial | exact rfl | refine And.intro ?_ ?_)
  · repeat' (first | exact trivial | exact rfl | refine And.intro ?_ ?_)
  rintro _ _ ⟨rfl, rfl⟩
  conv => whnf
  refine CallG.pure (Of42w 1 (by decide) (by decide)) rfl ?_
  conv => whnf
  refine ⟨rfl, ?_⟩
  rintro _ _ rfl
  refine ⟨rfl, ?_⟩
  conv => whnf
  refine ⟨i, rfl, (by simpa using hi), ?_⟩
  conv => whnf
  refine ⟨rfl, encR (wh 0), by simp [hi], rfl, Nat.le_refl _, ?_⟩
  conv => whnf
  exact ⟨rfl, by
    simp only [oneS]
    show SV.p (PV.sl 51 ((List.replicate n (encR (wh 0))).set i (encR (wh 1)))) = _
    unfold encRs unitL
    rw [List.map_set, List.map_replicate]⟩
def fillT : List Ty → List RatS → List ValS
  | [], _ => []
  | t :: r, l => if t.kind = 1 then ⟨t, l.take (prodD t.dims).toNat, []⟩ :: fillT r (l.drop (prodD t.dims).toNat) else ⟨t, [], List.replicate (prodD t.dims).toNat ⟨0, false⟩⟩ :: fillT r l
end Go.Sx.Tz
end
section
namespace Go.Sx.Tz
open Go Go.Ev Go.Ev.Tz Go.Sx Go.Proofs
set_option maxHeartbeats 4000000
attribute [local irreducible] CallG LoopG
def szN (t : Ty) : Nat := (prodD t.dims).toNat
def manyN (l : List Ty) : Nat := l.foldl (fun n t => if t.kind = 1 then n + szN t else n) 0
theorem manyN_snoc (l : List Ty) (t : Ty) : manyN (l ++ [t]) = if t.kind = 1 then manyN l + szN t else manyN l := by simp [manyN]
def valT (t : Ty) (nums : List RatS) : ValS := if t.kind = 1 then ⟨t, nums.take (szN t), []⟩ else ⟨t, [], List.replicate (szN t) ⟨0, false⟩⟩
def backT (l : List Ty) (nums : List RatS) : List ValS := (List.range l.length).map fun i => valT (l.getD i ⟨0, []⟩) (nums.drop (manyN (l.take i)))
theorem backT_snoc {l : List Ty} {nums : List RatS} {i : Nat} (h : i < l.length) : backT (l.take (i + 1)) nums = backT (l.take i) nums ++ [valT l[i] (nums.drop (manyN (l.take i)))] := by
  unfold backT
  rw [List.length_take, List.length_take, Nat.min_eq_left (by omega), Nat.min_eq_left (by omega), List.range_succ, List.map_append]
  congr 1
  · refine List.map_congr_left fun k hk => ?_
    have hk : k < i := List.mem_range.1 hk
    have h1 : (l.take (i + 1)).getD k ⟨0, []⟩ = (l.take i).getD k ⟨0, []⟩ := by simp [List.getD, List.getElem?_take, hk, Nat.lt_succ_of_lt hk]
    rw [h1, List.take_take, List.take_take, Nat.min_eq_left (by omega), Nat.min_eq_left (by omega)]
  · have h1 : (l.take (i + 1)).getD i ⟨0, []⟩ = l[i] := by simp [List.getD, List.getElem?_take, h]
    simp only [List.map_cons, List.map_nil]
    rw [h1, List.take_take, Nat.min_eq_left (by omega)]
theorem manyN_take {l : List Ty} {i : Nat} (h : i < l.length) : manyN (l.take (i + 1)) = if l[i].kind = 1 then manyN (l.take i) + szN l[i] else manyN (l.take i) := by
  rw [← List.take_append_getElem h, manyN_snoc]
theorem manyN_mono {l : List Ty} : ∀ {i : Nat}, manyN (l.take i) ≤ manyN (l.take (i + 1)) := by
  intro i
  by_cases h : i < l.length
  · rw [manyN_take h]; split <;> omega
  · rw [List.take_of_length_le (by omega), List.take_of_length_le (by omega)]; exact Nat.le_refl _
theorem manyN_le (l : List Ty) (i k : Nat) : manyN (l.take i) ≤ manyN (l.take (i + k)) := by
  induction k with
  | zero => exact Nat.le_refl _
  | succ k ih => exact Nat.le_trans ih manyN_mono
theorem manyN_all {l : List Ty} {i : Nat} (h : i ≤ l.length) : manyN (l.take i) ≤ manyN l := by
  have := manyN_le l i (l.length - i)
  rwa [show i + (l.length - i) = l.length by omega, List.take_length] at this
theorem set_mid {α : Type} (a : List α) (z v : α) (n i : Nat) (h : a.length = i) (hn : 0 < n) : (a ++ List.replicate n z).set i v = (a ++ [v]) ++ List.replicate (n - 1) z := by
  obtain ⟨m, rfl⟩ : ∃ m, n = m + 1 := ⟨n - 1, by omega⟩
  subst h
  rw [List.set_append_right _ _ (Nat.le_refl _), List.replicate_succ]; simp
theorem Back14 (l : List Ty) (nums : List RatS) (h0 : TysOk l) (hl : l.length ≤ 66) (hm : manyN l ≤ nums.length) (hn : nums.length < 1000000) (hr : ∀ x ∈ nums, RatLen x) :
    P 14 [] [.p (encTys l), .p (encRs nums)] (fun _ r => r = .p (encVs (backT l nums))) := by
  refine PC.of_pure good ok14 rfl ?_
  conv => whnf
  refine ⟨0, LoopG.intro (fun i : Nat => ⟨[(0, .p (encTys l)), (1, .p (encRs nums)), (5, .os 0), (6, iv (manyN (l.take i))), (7, iv i)], [.arr 77 ((backT (l.take i) nums).map encV)]⟩) (fun i => i ≤ l.length) (fun i => l.length - i) (0) (by omega) ?_ ?_⟩
  · refine ⟨[none], by decide, rfl, ?_, ?_⟩
    · repeat' (first | exact trivial | exact ⟨_, rfl, rfl⟩ | exact ⟨_, rfl, _, rfl⟩ | exact ⟨_, rfl⟩ | refine And.intro ?_ ?_)
    · repeat' (first | exact trivial | exact ⟨_, rfl, rfl⟩ | exact ⟨_, rfl, _, rfl⟩ | exact ⟨_, rfl⟩ | refine And.intro ?_ ?_)
  intro i hi
  conv => whnf
  refine ⟨fun h => ?_, fun h => ?_⟩
  · conv => whnf
    have hil : i < l.length := by simpa using h
    obtain ⟨a1, a2⟩ := h0 l[i] (List.getElem_mem hil)
    have hb := prodD_part a1 a2 l[i].dims.length
    rw [List.take_length] at hb
    have hmi := manyN_all (l := l) (i := i + 1) (by omega)
    refine ⟨i, _, rfl, get_map hil, ?_⟩
    conv => whnf
    by_cases hk : l[i].kind = 1
    · rw [manyN_take hil, if_pos hk] at hmi
      have hsz : (szN l[i] : Int) = prodD l[i].dims := by unfold szN; omega
      refine lendS [true] [] _ _ _ (Zero55r l[i] a1 a2 hk) ?_
      conv => whnf
      refine ⟨?_, ?_, rfl, ?_⟩
      · repeat' (first | exact trivial | exact rfl | refine And.intro ?_ ?_)
      · repeat' (first | exact trivial | exact rfl | refine And.intro ?_ ?_)
      rintro _ _ ⟨rfl, rfl⟩
      conv => whnf
      obtain ⟨at_, hat⟩ : ∃ m, m = manyN (l.take i) := ⟨_, rfl⟩
      rw [← hat] at hmi
      rw [show iv (manyN (l.take i) : Nat) = iv at_ by rw [hat]]
      refine ⟨0, LoopG.intro (fun k : Nat => ⟨[(0, .p (encTys l)), (1, .p (encRs nums)), (5, .os 0), (6, iv (at_ + k : Nat)), (7, iv i), (8, .loc 3 0), (9, iv k)], [.arr 77 ((backT (l.take i) nums).map encV), .arr 3 (l[i].dims.map dimR), .arr 51 (((nums.drop at_).take k).map encR ++ List.replicate (szN l[i] - k) (encR (wh 0))), .box [iv l[i].kind, .os 1, .os 2, .nl 154]]⟩) (fun k => k ≤ szN l[i]) (fun k => szN l[i] - k) (0) (Nat.zero_le _) ?_ ?_⟩
      · refine ⟨[some 0, some 1, some 2, some 3], by decide, rfl, ?_, ?_⟩
        · repeat' (first | exact trivial | exact ⟨_, rfl, rfl⟩ | exact ⟨_, rfl, _, rfl⟩ | exact ⟨_, rfl⟩ | refine And.intro ?_ ?_)
        · repeat' (first | exact trivial | exact ⟨_, rfl, rfl⟩ | exact ⟨_, rfl, _, rfl⟩ | exact ⟨_, rfl⟩ | refine And.intro ?_ ?_)
      intro k hks
      have htl : ((nums.drop at_).take k).length = k := by simp; omega
      conv => whnf
      refine ⟨fun h2 => ?_, fun h2 => ?_⟩
      · conv => whnf
        have hkl : k < szN l[i] := by rw [List.length_append, List.length_map, htl, List.length_replicate] at h2; omega
        have hnl : at_ + k < nums.length := by omega
        have hx := hr nums[at_ + k] (List.getElem_mem hnl)
        refine ⟨at_ + k, _, rfl, get_map hnl, ?_⟩
        conv => whnf
        refine CallG.pure (Copy56 nums[at_ + k] hx.1 hx.2) rfl ?_
        conv => whnf
        refine ⟨rfl, ?_⟩
        rintro _ _ rfl
        refine ⟨rfl, ?_⟩
        conv => whnf
        refine ⟨k, rfl, (by rw [List.length_append, List.length_map, htl, List.length_replicate]; omega), ?_⟩
        conv => whnf
        refine ⟨rfl, encR (wh 0), by rw [List.getElem?_append_right (by rw [List.length_map, htl]; exact Nat.le_refl _), List.length_map, htl, Nat.sub_self, List.getElem?_replicate]; simp; omega, rfl, Nat.le_refl _, ?_⟩
        conv => whnf
        refine ⟨by omega, by omega, ?_⟩
        conv => whnf
        refine ⟨by omega, by omega, ?_⟩
        conv => whnf
        refine ⟨k + 1, by omega, by omega, ?_⟩
        have e : (((nums.drop at_).take k).map encR ++ List.replicate (szN l[i] - k) (encR (wh 0))).set k (encR nums[at_ + k]) = ((nums.drop at_).take (k + 1)).map encR ++ List.replicate (szN l[i] - (k + 1)) (encR (wh 0)) := by
          rw [set_mid _ _ _ _ _ (by rw [List.length_map, htl]) (by omega), ← List.take_append_getElem (show k < (nums.drop at_).length by simp; omega), List.map_append, List.getElem_drop]
          rfl
        refine ⟨[some 0, some 1, some 2, some 3], by decide, rfl, ?_, ?_⟩
        · repeat' (first | exact trivial | exact ⟨_, rfl, rfl⟩ | exact ⟨_, rfl, _, rfl⟩ | exact ⟨_, rfl⟩ | refine And.intro ?_ ?_ | (refine ⟨_, rfl, congrArg (fun z => some (Blk.arr _ z)) ?_⟩; exact e) | (refine ⟨_, rfl, congrArg (fun z => some (SV.p (PV.sl _ z))) ?_⟩; exact e))
        · repeat' (first | exact trivial | exact ⟨_, rfl, rfl⟩ | exact ⟨_, rfl, _, rfl⟩ | exact ⟨_, rfl⟩ | refine And.intro ?_ ?_ | (refine ⟨_, rfl, congrArg (fun z => some (Blk.arr _ z)) ?_⟩; exact e) | (refine ⟨_, rfl, congrArg (fun z => some (SV.p (PV.sl _ z))) ?_⟩; exact e))
      · conv => whnf
        have hkk : k = szN l[i] := by rw [List.length_append, List.length_map, htl, List.length_replicate] at h2; omega
        subst hkk
        refine ⟨rfl, rfl, (by show _ * 80 ≤ _; simp [backT]; omega), ?_⟩
        conv => whnf
        refine ⟨by omega, by omega, ?_⟩
        conv => whnf
        refine ⟨i + 1, by omega, by omega, ?_⟩
        have e : (backT (l.take i) nums).map encV ++ [encV ⟨l[i], (nums.drop at_).take (szN l[i]), []⟩] = (backT (l.take (i + 1)) nums).map encV := by
          rw [backT_snoc hil, List.map_append, ← hat]
          unfold valT
          rw [if_pos hk]; rfl
        have e' : ((nums.drop at_).take (szN l[i])).map encR ++ List.replicate (szN l[i] - szN l[i]) (encR (wh 0)) = ((nums.drop at_).take (szN l[i])).map encR := by
          rw [Nat.sub_self, List.replicate_zero, List.append_nil]
        rw [e']
        refine ⟨[some 5], by decide, rfl, ?_, ?_⟩
        · repeat' (first | exact trivial | exact ⟨_, rfl, rfl⟩ | exact ⟨_, rfl, _, rfl⟩ | exact ⟨_, rfl⟩ | refine And.intro ?_ ?_ | (refine ⟨_, rfl, congrArg (fun z => some (SV.p (PV.int _ z))) ?_⟩; rw [manyN_take hil, if_pos hk, ← hat]) | (refine ⟨_, rfl, congrArg (fun z => some (Blk.arr _ z)) ?_⟩; exact e) | (refine ⟨_, rfl, congrArg (fun z => some (SV.p (PV.sl _ z))) ?_⟩; exact e))
        · repeat' (first | exact trivial | exact ⟨_, rfl, rfl⟩ | exact ⟨_, rfl, _, rfl⟩ | exact ⟨_, rfl⟩ | refine And.intro ?_ ?_ | (refine ⟨_, rfl, congrArg (fun z => some (SV.p (PV.int _ z))) ?_⟩; rw [manyN_take hil, if_pos hk, ← hat]) | (refine ⟨_, rfl, congrArg (fun z => some (Blk.arr _ z)) ?_⟩; exact e) | (refine ⟨_, rfl, congrArg (fun z => some (SV.p (PV.sl _ z))) ?_⟩; exact e))
    · refine CallG.pure (Zero55f l[i] a1 a2 hk) rfl ?_
      conv => whnf
      refine ⟨rfl, ?_⟩
      rintro _ _ rfl
      refine ⟨rfl, ?_⟩
      conv => whnf
      refine ⟨1, ?_⟩
      conv => whnf
      refine ⟨fun h => absurd h (by simp), fun _ => ?_⟩
      conv => whnf
      refine ⟨rfl, rfl, (by show _ * 80 ≤ _; simp [backT]; omega), ?_⟩
      conv => whnf
      refine ⟨by omega, by omega, ?_⟩
      conv => whnf
      refine ⟨i + 1, by omega, by omega, ?_⟩
      have e : (backT (l.take i) nums).map encV ++ [encV ⟨l[i], [], List.replicate (prodD l[i].dims).toNat ⟨0, false⟩⟩] = (backT (l.take (i + 1)) nums).map encV := by
        rw [backT_snoc hil, List.map_append]
        unfold valT
        rw [if_neg hk]; rfl
      refine ⟨[some 3], by decide, rfl, ?_, ?_⟩
      · repeat' (first | exact trivial | exact ⟨_, rfl, rfl⟩ | exact ⟨_, rfl, _, rfl⟩ | exact ⟨_, rfl⟩ | refine And.intro ?_ ?_ | (refine ⟨_, rfl, congrArg (fun z => some (SV.p (PV.int _ z))) ?_⟩; rw [manyN_take hil, if_neg hk]) | (refine ⟨_, rfl, congrArg (fun z => some (Blk.arr _ z)) ?_⟩; exact e) | (refine ⟨_, rfl, congrArg (fun z => some (SV.p (PV.sl _ z))) ?_⟩; exact e))
      · repeat' (first | exact trivial | exact ⟨_, rfl, rfl⟩ | exact ⟨_, rfl, _, rfl⟩ | exact ⟨_, rfl⟩ | refine And.intro ?_ ?_ | (refine ⟨_, rfl, congrArg (fun z => some (SV.p (PV.int _ z))) ?_⟩; rw [manyN_take hil, if_neg hk]) | (refine ⟨_, rfl, congrArg (fun z => some (Blk.arr _ z)) ?_⟩; exact e) | (refine ⟨_, rfl, congrArg (fun z => some (SV.p (PV.sl _ z))) ?_⟩; exact e))
  · conv => whnf
    exact ⟨rfl, by simp at h; simp only [oneS]; rw [List.take_of_length_le (by omega)]; rfl⟩
end Go.Sx.Tz
end
section
namespace Go.Sx.Tz
open Go Go.Ev Go.Ev.Tz Go.Sx Go.Proofs
set_option maxHeartbeats 4000000
attribute [local irreducible] CallG LoopG
theorem wh_eq {n : Int} (h1 : -9223372036854775808 ≤ n) (h2 : n < 9223372036854775808) : wh n = ⟨0, decide (n < 0), dg n.natAbs, dg 1⟩ := by
  unfold wh quo
  rw [if_neg (by decide), Nat.gcd_one_right, Nat.div_one, Nat.div_one]
  have hb : bl n.natAbs ≤ 64 := bl_le.2 (by omega)
  have hb1 : bl 1 = 1 := rfl
  rw [if_neg (by omega)]
  congr 1
  by_cases h : n < 0
  · simp [h]; omega
  · simp [h]
theorem IsRat76w (n : Int) (h1 : -9223372036854775808 ≤ n) (h2 : n < 9223372036854775808) : P 76 [] [.agp (encR (wh n))] (fun _ r => r = bv true) := by
  have hl : (dg n.natAbs).length ≤ 2 := dg_i64 (by omega)
  have hl1 : (dg 1).length = 1 := by rw [dg_1]; rfl
  have hb : bl n.natAbs ≤ 64 := bl_le.2 (by omega)
  have hb1 : bl 1 = 1 := rfl
  rw [wh_eq h1 h2]
  refine PC.of_pure good ok76 rfl ?_
  conv => whnf
  refine ⟨fun _ => ?_, fun h => absurd rfl h⟩
  conv => whnf
  refine CallG.pure (IsNat132 (dg n.natAbs) (dg_Dg _) (by omega)) rfl ?_
  conv => whnf
  refine ⟨rfl, ?_⟩
  rintro _ _ rfl
  refine ⟨rfl, ?_⟩
  conv => whnf
  rw [formE_dg (by omega)]
  conv => whnf
  refine CallG.pure (IsNat132 (dg 1) (dg_Dg _) (by omega)) rfl ?_
  conv => whnf
  refine ⟨rfl, ?_⟩
  rintro _ _ rfl
  refine ⟨rfl, ?_⟩
  conv => whnf
  rw [formE_dg (by omega)]
  conv => whnf
  refine CallG.pure (long133 n.natAbs (by omega)) rfl ?_
  conv => whnf
  refine ⟨rfl, ?_⟩
  rintro _ _ rfl
  refine ⟨rfl, ?_⟩
  conv => whnf
  rw [decide_eq_false (show ¬ 4096 < bl n.natAbs by omega)]
  conv => whnf
  refine CallG.pure (long133 1 (by omega)) rfl ?_
  conv => whnf
  refine ⟨rfl, ?_⟩
  rintro _ _ rfl
  refine ⟨rfl, ?_⟩
  conv => whnf
  rw [decide_eq_false (show ¬ 4096 < bl 1 by omega)]
  conv => whnf
  refine ⟨fun q => absurd q (by rw [List.length_map, hl1]; decide), fun _ => ?_⟩
  have hg : Nat.gcd n.natAbs 1 = 1 := Nat.gcd_one_right _
  by_cases hz : n < 0
  · rw [decide_eq_true hz]
    conv => whnf
    refine ⟨fun q => absurd (show n.natAbs = 0 from zero_len.1 q) (by omega), fun _ => ?_⟩
    conv => whnf
    refine CallG.pure (Gcd134s n.natAbs 1 (by omega) (by omega)) rfl ?_
    conv => whnf
    refine ⟨rfl, ?_⟩
    rintro _ _ rfl
    refine ⟨rfl, ?_⟩
    conv => whnf
    rw [hg]
    refine ⟨fun _ => ?_, fun q => absurd (by rw [List.length_map, hl1]; rfl) q⟩
    conv => whnf
    refine ⟨0, digR 1, rfl, (by rw [dg_1]; rfl), ?_⟩
    conv => whnf
    refine ⟨fun _ => ?_, fun h => absurd rfl h⟩
    conv => whnf
    exact ⟨rfl, rfl⟩
  · rw [decide_eq_false hz]
    conv => whnf
    refine CallG.pure (Gcd134s n.natAbs 1 (by omega) (by omega)) rfl ?_
    conv => whnf
    refine ⟨rfl, ?_⟩
    rintro _ _ rfl
    refine ⟨rfl, ?_⟩
    conv => whnf
    rw [hg]
    refine ⟨fun _ => ?_, fun q => absurd (by rw [List.length_map, hl1]; rfl) q⟩
    conv => whnf
    refine ⟨0, digR 1, rfl, (by rw [dg_1]; rfl), ?_⟩
    conv => whnf
    refine ⟨fun _ => ?_, fun h => absurd rfl h⟩
    conv => whnf
    exact ⟨rfl, rfl⟩
theorem unitAt53 (n i : Nat) (hn : n ≤ 1000000) : P 53 [] [iv n, iv i] (fun _ r => r = .p (encRs (unitL n i))) := by
  have hu : ∀ k, k < n → (unitL k i).map encR ++ [encR (wh (if k = i then 1 else 0))] = (unitL (k + 1) i).map encR := fun k hk => by
    unfold unitL
    by_cases h : k = i
    · subst h
      rw [if_pos rfl, List.set_eq_of_length_le (by simp), List.replicate_succ', List.set_append_right _ _ (by simp)]
      simp
    · rw [if_neg h, List.replicate_succ']
      by_cases h2 : i < k
      · rw [List.set_append_left _ _ (by simpa using h2)]; simp
      · rw [List.set_eq_of_length_le (by simp; omega), List.set_eq_of_length_le (by simp; omega)]; simp
  refine PC.of_pure good ok53 rfl ?_
  conv => whnf
  refine ⟨0, LoopG.intro (fun k : Nat => ⟨[(1, iv i), (5, .os 0), (8, iv n), (9, iv k)], [.arr 51 ((unitL k i).map encR)]⟩) (fun k => k ≤ n) (fun k => n - k) (0) (Nat.zero_le _) ?_ ?_⟩
  · refine ⟨[none], by decide, rfl, ?_, ?_⟩
    · repeat' (first | exact trivial | exact ⟨_, rfl, rfl⟩ | exact ⟨_, rfl, _, rfl⟩ | exact ⟨_, rfl⟩ | refine And.intro ?_ ?_)
    · repeat' (first | exact trivial | exact ⟨_, rfl, rfl⟩ | exact ⟨_, rfl, _, rfl⟩ | exact ⟨_, rfl⟩ | refine And.intro ?_ ?_)
  intro k hk
  conv => whnf
  refine ⟨fun h => ?_, fun h => ?_⟩
  · conv => whnf
    have hl : ((unitL k i).map encR).length = k := by simp [unitL]
    refine ⟨fun h2 => ?_, fun h2 => ?_⟩
    · conv => whnf
      refine CallG.pure (whole107 1 (by decide) (by decide)) rfl ?_
      conv => whnf
      refine ⟨rfl, ?_⟩
      rintro _ _ rfl
      refine ⟨rfl, ?_⟩
      conv => whnf
      refine ⟨rfl, rfl, (by show (_ + 1) * 64 ≤ _; rw [hl]; omega), ?_⟩
      conv => whnf
      refine ⟨by omega, by omega, ?_⟩
      conv => whnf
      refine ⟨k + 1, by omega, by omega, ?_⟩
      have e := hu k (by omega)
      rw [if_pos (by omega)] at e
      refine ⟨[some 2], by decide, rfl, ?_, ?_⟩
      · repeat' (first | exact trivial | exact ⟨_, rfl, rfl⟩ | exact ⟨_, rfl, _, rfl⟩ | exact ⟨_, rfl⟩ | refine And.intro ?_ ?_ | (refine ⟨_, rfl, congrArg (fun z => some (Blk.arr _ z)) ?_⟩; exact e) | (refine ⟨_, rfl, congrArg (fun z => some (SV.p (PV.sl _ z))) ?_⟩; exact e))
      · repeat' (first | exact trivial | exact ⟨_, rfl, rfl⟩ | exact ⟨_, rfl, _, rfl⟩ | exact ⟨_, rfl⟩ | refine And.intro ?_ ?_ | (refine ⟨_, rfl, congrArg (fun z => some (Blk.arr _ z)) ?_⟩; exact e) | (refine ⟨_, rfl, congrArg (fun z => some (SV.p (PV.sl _ z))) ?_⟩; exact e))
    · conv => whnf
      refine CallG.pure (whole107 0 (by decide) (by decide)) rfl ?_
      conv => whnf
      refine ⟨rfl, ?_⟩
      rintro _ _ rfl
      refine ⟨rfl, ?_⟩
      conv => whnf
      refine ⟨rfl, rfl, (by show (_ + 1) * 64 ≤ _; rw [hl]; omega), ?_⟩
      conv => whnf
      refine ⟨by omega, by omega, ?_⟩
      conv => whnf
      refine ⟨k + 1, by omega, by omega, ?_⟩
      have e := hu k (by omega)
      rw [if_neg (by omega)] at e
      refine ⟨[some 2], by decide, rfl, ?_, ?_⟩
      · repeat' (first | exact trivial | exact ⟨_, rfl, rfl⟩ | exact ⟨_, rfl, _, rfl⟩ | exact ⟨_, rfl⟩ | refine And.intro ?_ ?_ | (refine ⟨_, rfl, congrArg (fun z => some (Blk.arr _ z)) ?_⟩; exact e) | (refine ⟨_, rfl, congrArg (fun z => some (SV.p (PV.sl _ z))) ?_⟩; exact e))
      · repeat' (first | exact trivial | exact ⟨_, rfl, rfl⟩ | exact ⟨_, rfl, _, rfl⟩ | exact ⟨_, rfl⟩ | refine And.intro ?_ ?_ | (refine ⟨_, rfl, congrArg (fun z => some (Blk.arr _ z)) ?_⟩; exact e) | (refine ⟨_, rfl, congrArg (fun z => some (SV.p (PV.sl _ z))) ?_⟩; exact e))
  · conv => whnf
    obtain rfl : k = n := by omega
    exact ⟨rfl, rfl⟩
theorem none238 : P 238 [] [] (fun _ r => r = .agp (encR (wh 0))) := by
  have e : encR (wh 0) = [.int .i64 0, .bool false, .sl 112 [], .sl 112 [[.int .u32 1]]] := by
    rw [wh_eq (by decide) (by decide), dg_1]
    show encR ⟨0, false, dg 0, [1]⟩ = _
    rw [dg_zero]; rfl
  rw [e]
  refine PC.of_pure good ok238 rfl ?_
  conv => whnf
  exact ⟨rfl, rfl⟩
theorem copied170 (x : RatS) (h : RatLen x) : P 170 [] [.agp (encR x)] (fun _ r => r = .agp (encR x)) := by
  refine PC.of_pure good ok170 rfl ?_
  conv => whnf
  refine CallG.pure (Clone103 x.num h.1) rfl ?_
  conv => whnf
  refine ⟨rfl, ?_⟩
  rintro _ _ rfl
  refine ⟨rfl, ?_⟩
  conv => whnf
  refine CallG.pure (Clone103 x.den h.2) rfl ?_
  conv => whnf
  refine ⟨rfl, ?_⟩
  rintro _ _ rfl
  refine ⟨rfl, ?_⟩
  conv => whnf
  exact ⟨rfl, rfl⟩
end Go.Sx.Tz
end
section
namespace Go.Sx.Tz
open Go Go.Ev Go.Ev.Tz Go.Sx Go.Proofs
set_option maxHeartbeats 4000000
attribute [local irreducible] CallG LoopG
def TysV (l : List Ty) : Prop := ∀ t ∈ l, tyOk t = true ∧ t.kind ≠ 3 ∧ t.dims.length ≤ 5
theorem TysV.ok {l : List Ty} (h : TysV l) : TysOk l := fun t ht => ⟨tyOk_all (h t ht).1, (h t ht).2.2⟩
def NumsW (l : List RatS) : Prop := ∀ x ∈ l, ∃ n : Int, (n = 0 ∨ n = 1) ∧ x = wh n
theorem unitL_W (n i : Nat) : NumsW (unitL n i) := fun x hx => by
  unfold unitL at hx
  rcases List.mem_or_eq_of_mem_set hx with h | h
  · exact ⟨0, .inl rfl, (List.eq_of_mem_replicate h)⟩
  · exact ⟨1, .inr rfl, h⟩
theorem unitL_len (n i : Nat) : (unitL n i).length = n := by simp [unitL]
theorem NumsW.len {l : List RatS} (h : NumsW l) : ∀ x ∈ l, RatLen x := fun x hx => by
  obtain ⟨n, hn, rfl⟩ := h x hx
  exact whLen n (by omega) (by omega)
theorem manyT_N {l : List Ty} (h : TysOk l) : manyT l = (manyN l : Int) := by
  have key : ∀ {l : List Ty} (_ : TysOk l) (a : Nat), l.foldl (fun n t => if t.kind = 1 then n + prodD t.dims else n) (a : Int) = ((l.foldl (fun n t => if t.kind = 1 then n + szN t else n) a : Nat) : Int) := by
    intro l
    induction l with
    | nil => intro _ a; rfl
    | cons t l ih =>
      intro h a
      obtain ⟨h1, h2⟩ := h t (by simp)
      have hp := prodD_part h1 h2 t.dims.length
      rw [List.take_length] at hp
      have e : ((if t.kind = 1 then (a : Int) + prodD t.dims else a)) = ((if t.kind = 1 then a + szN t else a : Nat) : Int) := by
        unfold szN
        split <;> omega
      simp only [List.foldl_cons]
      rw [e]
      exact ih (fun x hx => h x (by simp [hx])) _
  exact key h 0
def Back106 : Prop := ∀ (l : List Ty) (nums : List RatS), TysV l → l.length ≤ 64 → manyN l = nums.length → nums.length ≤ 200 → NumsW nums → P 106 [] [.p (encTys l), .p (encRs nums)] (fun _ r => r = .tu [.p (encVs (backT l nums)), iv 0])
theorem back52 (hB : Back106) (l : List Ty) (nums : List RatS) (h1 : TysV l) (h2 : l.length ≤ 64) (h3 : manyN l = nums.length) (h4 : nums.length ≤ 200) (h5 : NumsW nums) : P 52 [] [.p (encTys l), .p (encRs nums)] (fun _ r => r = .p (encVs (backT l nums))) := by
  refine PC.of_pure good ok52 rfl ?_
  conv => whnf
  refine CallG.pure (hB l nums h1 h2 h3 h4 h5) rfl ?_
  conv => whnf
  refine ⟨rfl, ?_⟩
  rintro _ _ rfl
  refine ⟨rfl, ?_⟩
  conv => whnf
  exact ⟨rfl, rfl⟩
def errU : List Ty → Int
  | [] => 0
  | t :: r => if szErr t = 0 then errU r else szErr t
theorem errU_at {l : List Ty} {i : Nat} (hi : i < l.length) (h : ∀ k (hk : k < l.length), k < i → szErr l[k] = 0) (h2 : szErr l[i] ≠ 0) : errU l = szErr l[i] := by
  induction l generalizing i with
  | nil => simp at hi
  | cons x r ih =>
    cases i with
    | zero => simp only [errU, List.getElem_cons_zero] at h2 ⊢; rw [if_neg h2]
    | succ i =>
      have h0 := h 0 (by simp) (by omega)
      simp only [List.getElem_cons_zero] at h0
      simp only [errU, h0, if_true, List.getElem_cons_succ]
      exact ih (by simpa using hi) (fun k hk hk' => by have := h (k + 1) (by simpa using hk) (by omega); simpa using this) (by simpa using h2)
theorem errU_no {l : List Ty} (h : ∀ k (hk : k < l.length), szErr l[k] = 0) : errU l = 0 := by
  induction l with
  | nil => rfl
  | cons x r ih =>
    have h0 := h 0 (by simp)
    simp only [List.getElem_cons_zero] at h0
    simp only [errU, h0, if_true]
    exact ih fun k hk => by have := h (k + 1) (by simpa using hk); simpa using this
theorem szErr_ok {t : Ty} : szErr t = 0 ↔ tyOk t = true ∧ t.kind ≠ 3 := by
  unfold szErr
  cases tyOk t with
  | false => simp
  | true => by_cases h : t.kind = 3 <;> simp [h]
theorem errU_V {l : List Ty} (hd : ∀ t ∈ l, t.dims.length ≤ 5) (h : errU l = 0) : TysV l := by
  induction l with
  | nil => intro t ht; cases ht
  | cons x r ih =>
    simp only [errU] at h
    split at h
    · rename_i h0
      intro t ht
      rcases List.mem_cons.1 ht with rfl | ht
      · exact ⟨(szErr_ok.1 h0).1, (szErr_ok.1 h0).2, hd _ (by simp)⟩
      · exact ih (fun t ht => hd t (by simp [ht])) h t ht
    · exact absurd h ‹_›
def dirs (l : List Ty) (n : Nat) : List (List PV) := (List.range n).map fun k => [encVs (backT l (unitL n k))]
theorem dirs_len (l : List Ty) (n : Nat) : (dirs l n).length = n := by simp [dirs]
def uErr (l : List Ty) : Int := if 64 < l.length then 3 else errU l
theorem Units12 (hB : Back106) (l : List Ty) (hd : ∀ t ∈ l, t.dims.length ≤ 5) (hl : l.length ≤ 66) (hm : uErr l = 0 → manyN l ≤ 200) :
    P 12 [] [.p (encTys l)] (fun _ r => r = .tu [.p (.sl 36 (if uErr l = 0 then dirs l (manyN l) else [])), iv (uErr l)]) := by
  refine PC.of_pure good ok12 rfl ?_
  conv => whnf
  refine ⟨fun h64 => ?_, fun h64 => ?_⟩
  · have h64' : 64 < l.length := by simp at h64; omega
    have e : uErr l = 3 := by unfold uErr; rw [if_pos h64']
    conv => whnf
    exact ⟨rfl, by rw [e]; rfl⟩
  · have h64' : ¬ 64 < l.length := by simp at h64; omega
    have e : uErr l = errU l := by unfold uErr; rw [if_neg h64']
    rw [e] at hm ⊢
    conv => whnf
    refine ⟨0, LoopG.intro (fun i : Nat => ⟨[(0, .p (encTys l)), (4, iv (manyT (l.take i))), (14, .p (encTys l)), (15, iv l.length), (16, iv i)], []⟩) (fun i => i ≤ l.length ∧ ∀ k (hk : k < l.length), k < i → szErr l[k] = 0) (fun i => l.length - i) (0) (⟨by omega, by omega⟩) ?_ ?_⟩
    · rw [show iv l.length = iv (l.map encTy).length by simp]
      refine ⟨[], by decide, rfl, ?_, ?_⟩
      · repeat' (first | exact trivial | exact ⟨_, rfl, rfl⟩ | exact ⟨_, rfl, _, rfl⟩ | exact ⟨_, rfl⟩ | refine And.intro ?_ ?_)
      · repeat' (first | exact trivial | exact ⟨_, rfl, rfl⟩ | exact ⟨_, rfl, _, rfl⟩ | exact ⟨_, rfl⟩ | refine And.intro ?_ ?_)
    intro i hi
    conv => whnf
    refine ⟨fun h => ?_, fun h => ?_⟩
    · conv => whnf
      have hil : i < l.length := by omega
      have hdi := hd l[i] (List.getElem_mem hil)
      refine ⟨i, _, rfl, get_map hil, ?_⟩
      conv => whnf
      refine CallG.pure (Size51 l[i] hdi) rfl ?_
      conv => whnf
      refine ⟨rfl, ?_⟩
      rintro _ _ rfl
      refine ⟨rfl, ?_⟩
      conv => whnf
      by_cases hz : szErr l[i] = 0
      · rw [if_pos hz, hz]
        conv => whnf
        refine ⟨fun _ => ?_, fun h => absurd rfl h⟩
        conv => whnf
        have hok : TysOk (l.take (i + 1)) := fun t ht => by
          obtain ⟨k, hk, rfl⟩ := List.getElem_of_mem ht
          have hkl : k < i + 1 := by have := List.length_take_le (i + 1) l; omega
          rw [List.getElem_take]
          have hk' : k < l.length := by simp at hk; omega
          have : szErr l[k] = 0 := by
            by_cases q : k = i
            · subst q; exact hz
            · exact hi.2 k hk' (by omega)
          exact ⟨tyOk_all (szErr_ok.1 this).1, hd _ (List.getElem_mem hk')⟩
        have hb := manyT_bound hok
        have hlt : ((l.take (i + 1)).length : Int) ≤ 66 := by simp; omega
        rw [manyT_take hil] at hb
        have hnext : ∀ k (hk : k < l.length), k < i + 1 → szErr l[k] = 0 := fun k hk hk' => by
          by_cases q : k = i
          · subst q; exact hz
          · exact hi.2 k hk (by omega)
        refine ⟨fun hk => ?_, fun hk => ?_⟩
        · rw [if_pos hk] at hb
          conv => whnf
          refine ⟨by omega, by omega, ?_⟩
          conv => whnf
          refine ⟨by omega, by omega, ?_⟩
          conv => whnf
          refine ⟨i + 1, ⟨by omega, hnext⟩, by omega, ?_⟩
          rw [manyT_take hil, if_pos hk]
          refine ⟨[], by decide, rfl, ?_, ?_⟩
          · repeat' (first | exact trivial | exact ⟨_, rfl, rfl⟩ | exact ⟨_, rfl, _, rfl⟩ | exact ⟨_, rfl⟩ | refine And.intro ?_ ?_)
          · repeat' (first | exact trivial | exact ⟨_, rfl, rfl⟩ | exact ⟨_, rfl, _, rfl⟩ | exact ⟨_, rfl⟩ | refine And.intro ?_ ?_)
        · conv => whnf
          refine ⟨by omega, by omega, ?_⟩
          conv => whnf
          refine ⟨i + 1, ⟨by omega, hnext⟩, by omega, ?_⟩
          rw [manyT_take hil, if_neg hk]
          refine ⟨[], by decide, rfl, ?_, ?_⟩
          · repeat' (first | exact trivial | exact ⟨_, rfl, rfl⟩ | exact ⟨_, rfl, _, rfl⟩ | exact ⟨_, rfl⟩ | refine And.intro ?_ ?_)
          · repeat' (first | exact trivial | exact ⟨_, rfl, rfl⟩ | exact ⟨_, rfl, _, rfl⟩ | exact ⟨_, rfl⟩ | refine And.intro ?_ ?_)
      · have ee := errU_at hil hi.2 hz
        refine ⟨fun hz' => ?_, fun hz' => ?_⟩
        · exact absurd hz' hz
        · conv => whnf
          exact ⟨rfl, by rw [ee, if_neg hz]; rfl⟩
    · have hall : errU l = 0 := errU_no fun k hk => hi.2 k hk (by omega)
      have hV := errU_V hd hall
      have hN := manyT_N hV.ok
      have hle := hm hall
      have hil : l.take i = l := List.take_of_length_le (by omega)
      rw [hil, hN, hall]
      conv => whnf
      refine ⟨0, LoopG.intro (fun k : Nat => ⟨[(0, .p (encTys l)), (4, iv (manyN l)), (9, .os 0), (35, iv (manyN l)), (36, iv k)], [.arr 36 ((List.range k).map fun j => [encVs (backT l (unitL (manyN l) j))])]⟩) (fun k => k ≤ manyN l) (fun k => manyN l - k) (0) (Nat.zero_le _) ?_ ?_⟩
      · refine ⟨[none], by decide, rfl, ?_, ?_⟩
        · repeat' (first | exact trivial | exact ⟨_, rfl, rfl⟩ | exact ⟨_, rfl, _, rfl⟩ | exact ⟨_, rfl⟩ | refine And.intro ?_ ?_)
        · repeat' (first | exact trivial | exact ⟨_, rfl, rfl⟩ | exact ⟨_, rfl, _, rfl⟩ | exact ⟨_, rfl⟩ | refine And.intro ?_ ?_)
      intro k hk
      conv => whnf
      refine ⟨fun h2 => ?_, fun h2 => ?_⟩
      · conv => whnf
        refine CallG.pure (unitAt53 (manyN l) k (by omega)) rfl ?_
        conv => whnf
        refine ⟨rfl, ?_⟩
        rintro _ _ rfl
        refine ⟨rfl, ?_⟩
        conv => whnf
        refine CallG.pure (back52 hB l (unitL (manyN l) k) hV (by omega) (by rw [unitL_len]) (by rw [unitL_len]; exact hle) (unitL_W _ _)) rfl ?_
        conv => whnf
        refine ⟨rfl, ?_⟩
        rintro _ _ rfl
        refine ⟨rfl, ?_⟩
        conv => whnf
        refine ⟨rfl, rfl, (by show _ * 24 ≤ _; simp; omega), ?_⟩
        conv => whnf
        refine ⟨by omega, by omega, ?_⟩
        conv => whnf
        refine ⟨k + 1, by omega, by omega, ?_⟩
        refine ⟨[some 2], by decide, rfl, ?_, ?_⟩
        · repeat' (first | exact trivial | exact ⟨_, rfl, rfl⟩ | exact ⟨_, rfl, _, rfl⟩ | exact ⟨_, rfl⟩ | refine And.intro ?_ ?_ | (refine ⟨_, rfl, congrArg (fun z => some (Blk.arr _ z)) ?_⟩; (rw [List.range_succ, List.map_append]; rfl)) | (refine ⟨_, rfl, congrArg (fun z => some (SV.p (PV.sl _ z))) ?_⟩; (rw [List.range_succ, List.map_append]; rfl)))
        · repeat' (first | exact trivial | exact ⟨_, rfl, rfl⟩ | exact ⟨_, rfl, _, rfl⟩ | exact ⟨_, rfl⟩ | refine And.intro ?_ ?_ | (refine ⟨_, rfl, congrArg (fun z => some (Blk.arr _ z)) ?_⟩; (rw [List.range_succ, List.map_append]; rfl)) | (refine ⟨_, rfl, congrArg (fun z => some (SV.p (PV.sl _ z))) ?_⟩; (rw [List.range_succ, List.map_append]; rfl)))
      · conv => whnf
        obtain rfl : k = manyN l := by omega
        exact ⟨rfl, rfl⟩
end Go.Sx.Tz
end
section
namespace Go.Sx.Tz
open Go Go.Ev Go.Ev.Tz Go.Sx Go.Proofs
set_option maxHeartbeats 4000000
attribute [local irreducible] CallG LoopG
theorem valT_len {t : Ty} {nums : List RatS} (h1 : t.dims.all dimOk = true) (h2 : t.dims.length ≤ 5) (h3 : nums.length < 100000) (h4 : ∀ x ∈ nums, RatLen x) : ValLen (valT t nums) := by
  have hb := prodD_part h1 h2 t.dims.length
  rw [List.take_length] at hb
  have hs : szN t ≤ 32768 := by unfold szN; omega
  unfold valT
  split
  · refine ⟨by show t.dims.length < _; omega, ?_, by show 0 < _; decide, fun x hx => h4 x (List.mem_of_mem_take hx)⟩
    show (nums.take (szN t)).length < _
    simp; omega
  · refine ⟨by show t.dims.length < _; omega, by show 0 < _; decide, ?_, fun x hx => by cases hx⟩
    show (List.replicate (szN t) _).length < _
    simp; omega
theorem backT_ValLen {l : List Ty} {nums : List RatS} (h : TysOk l) (h3 : nums.length < 100000) (h4 : ∀ x ∈ nums, RatLen x) : ∀ v ∈ backT l nums, ValLen v := fun v hv => by
  obtain ⟨i, hi, rfl⟩ := List.mem_map.1 hv
  have hi : i < l.length := List.mem_range.1 hi
  have e : l.getD i ⟨0, []⟩ = l[i] := by simp [List.getD, hi]
  rw [e]
  obtain ⟨a, b⟩ := h l[i] (List.getElem_mem hi)
  exact valT_len a b (by simp; omega) fun x hx => h4 x (List.mem_of_mem_drop hx)
def NoErr (l : List Ty) (i : Nat) : Prop := ∀ k (hk : k < l.length), k < i → szErr l[k] = 0
theorem DualUnits3 (hB : Back106) (l0 : List Ty) : P 3 [] [.p (encTys l0)] (fun _ r => r = bv true) := by
  refine PC.of_pure good ok3 rfl ?_
  conv => whnf
  refine CallG.pure (CutTypes l0) rfl ?_
  conv => whnf
  refine ⟨rfl, ?_⟩
  rintro _ _ rfl
  refine ⟨rfl, ?_⟩
  conv => whnf
  obtain ⟨l, hl⟩ : ∃ l, l = (l0.take 66).map cutTy := ⟨_, rfl⟩
  rw [← hl]
  have hlen : l.length ≤ 66 := by rw [hl]; simp; omega
  have hd : ∀ t ∈ l, t.dims.length ≤ 5 := fun t ht => by
    rw [hl] at ht
    obtain ⟨u, _, rfl⟩ := List.mem_map.1 ht
    show (u.dims.take 5).length ≤ 5
    simp; omega
  clear hl
  have fin : ∀ b : Int, b = uErr l → True := fun _ _ => trivial
  refine ⟨fun h64 => ?_, fun h64 => ?_⟩
  all_goals
    obtain ⟨b0, hb0⟩ : ∃ b0 : Int, b0 = if 64 < l.length then 3 else 0 := ⟨_, rfl⟩
    have hP0 : (b0 = 0 ∧ l.length ≤ 64 ∧ NoErr l 0) ∨ (b0 ≠ 0 ∧ b0 = uErr l) := by
      by_cases q : 64 < l.length
      · rw [if_pos q] at hb0; exact .inr ⟨by omega, by unfold uErr; rw [if_pos q]; exact hb0⟩
      · rw [if_neg q] at hb0; exact .inl ⟨hb0, by omega, fun k _ hk => by omega⟩
    conv => whnf
    refine ⟨0, LoopG.intro (fun (⟨i, b⟩ : Nat × Int) => ⟨[(3, .p (encTys l)), (4, iv b), (5, iv i)], []⟩) (fun (⟨i, b⟩ : Nat × Int) => i ≤ l.length ∧ ((b = 0 ∧ l.length ≤ 64 ∧ NoErr l i) ∨ (b ≠ 0 ∧ b = uErr l))) (fun (⟨i, b⟩ : Nat × Int) => l.length - i) ((0, b0)) (⟨Nat.zero_le _, hP0⟩) ?_ ?_⟩
    · refine ⟨[], by decide, rfl, ?_, ?_⟩
      · repeat' (first | exact trivial | exact ⟨_, rfl, rfl⟩ | exact ⟨_, rfl, _, rfl⟩ | exact ⟨_, rfl⟩ | refine And.intro ?_ ?_ | (refine ⟨_, rfl, congrArg (fun z => some (SV.p (PV.int _ z))) ?_⟩; (simp at h64; split at hb0 <;> omega)))
      · repeat' (first | exact trivial | exact ⟨_, rfl, rfl⟩ | exact ⟨_, rfl, _, rfl⟩ | exact ⟨_, rfl⟩ | refine And.intro ?_ ?_ | (refine ⟨_, rfl, congrArg (fun z => some (SV.p (PV.int _ z))) ?_⟩; (simp at h64; split at hb0 <;> omega)))
    rintro ⟨i, b⟩ ⟨hi, hb⟩
    conv => whnf
    refine ⟨fun h => ?_, fun h => ?_⟩
    rotate_left
    have hbu : b = uErr l := by
      rcases hb with ⟨q1, q2, q3⟩ | ⟨_, q⟩
      · unfold uErr
        rw [if_neg (by omega), q1, errU_no fun k hk => q3 k hk (by simp at h; omega)]
      · exact q
    conv => whnf
    rotate_left
    have hil : i < l.length := by simpa using h
    conv => whnf
    refine ⟨fun hb1 => ?_, fun hb1 => ?_⟩
    rotate_left
    have hbu : b = uErr l := by
      rcases hb with ⟨q1, q2, q3⟩ | ⟨_, q⟩
      · exact absurd q1 hb1
      · exact q
    conv => whnf
    rotate_right
    · obtain ⟨q1, q2, q3⟩ : b = 0 ∧ l.length ≤ 64 ∧ ∀ k (hk : k < l.length), k < i → szErr l[k] = 0 := by
        rcases hb with q | ⟨q, _⟩
        · exact q
        · exact absurd hb1 q
      have hue : uErr l = errU l := by unfold uErr; rw [if_neg (by omega)]
      have hdi := hd l[i] (List.getElem_mem hil)
      conv => whnf
      refine ⟨i, _, rfl, get_map hil, ?_⟩
      conv => whnf
      refine CallG.pure (IsType9 l[i] (by omega)) rfl ?_
      conv => whnf
      refine ⟨rfl, ?_⟩
      rintro _ _ rfl
      refine ⟨rfl, ?_⟩
      conv => whnf
      cases hty : tyOk l[i] with
      | false =>
        have hz : szErr l[i] = 5 := by unfold szErr; rw [hty]; rfl
        conv => whnf
        refine ⟨by omega, by omega, ?_⟩
        conv => whnf
        refine ⟨(i + 1, 5), ⟨by omega, .inr ⟨by decide, ?_⟩⟩, by show _ - _ < _ - _; omega, ?_⟩
        · rw [hue, errU_at hil q3 (by rw [hz]; decide), hz]
        · refine ⟨[], by decide, rfl, ?_, ?_⟩
          · repeat' (first | exact trivial | exact ⟨_, rfl, rfl⟩ | exact ⟨_, rfl, _, rfl⟩ | exact ⟨_, rfl⟩ | refine And.intro ?_ ?_)
          · repeat' (first | exact trivial | exact ⟨_, rfl, rfl⟩ | exact ⟨_, rfl, _, rfl⟩ | exact ⟨_, rfl⟩ | refine And.intro ?_ ?_)
      | true =>
        conv => whnf
        refine ⟨i, _, rfl, get_map hil, ?_⟩
        conv => whnf
        refine ⟨fun hk3 => ?_, fun hk3 => ?_⟩
        · have hz : szErr l[i] = 12 := by unfold szErr; rw [hty, if_pos rfl, if_pos hk3]
          conv => whnf
          refine ⟨by omega, by omega, ?_⟩
          conv => whnf
          refine ⟨(i + 1, 12), ⟨by omega, .inr ⟨by decide, ?_⟩⟩, by show _ - _ < _ - _; omega, ?_⟩
          · rw [hue, errU_at hil q3 (by rw [hz]; decide), hz]
          · refine ⟨[], by decide, rfl, ?_, ?_⟩
            · repeat' (first | exact trivial | exact ⟨_, rfl, rfl⟩ | exact ⟨_, rfl, _, rfl⟩ | exact ⟨_, rfl⟩ | refine And.intro ?_ ?_)
            · repeat' (first | exact trivial | exact ⟨_, rfl, rfl⟩ | exact ⟨_, rfl, _, rfl⟩ | exact ⟨_, rfl⟩ | refine And.intro ?_ ?_)
        · have hz : szErr l[i] = 0 := szErr_ok.2 ⟨hty, hk3⟩
          conv => whnf
          refine ⟨by omega, by omega, ?_⟩
          conv => whnf
          refine ⟨(i + 1, b), ⟨by omega, .inl ⟨q1, q2, fun k hk hk' => ?_⟩⟩, by show _ - _ < _ - _; omega, ?_⟩
          · by_cases e : k = i
            · subst e; exact hz
            · exact q3 k hk (by omega)
          · refine ⟨[], by decide, rfl, ?_, ?_⟩
            · repeat' (first | exact trivial | exact ⟨_, rfl, rfl⟩ | exact ⟨_, rfl, _, rfl⟩ | exact ⟨_, rfl⟩ | refine And.intro ?_ ?_)
            · repeat' (first | exact trivial | exact ⟨_, rfl, rfl⟩ | exact ⟨_, rfl, _, rfl⟩ | exact ⟨_, rfl⟩ | refine And.intro ?_ ?_)
  all_goals
    by_cases hz : uErr l = 0
    · have hue : errU l = 0 ∧ l.length ≤ 64 := by
        unfold uErr at hz
        split at hz
        · cases hz
        · exact ⟨hz, by omega⟩
      have hV := errU_V hd hue.1
      have hN := manyT_N hV.ok
      rw [hbu, hz]
      refine ⟨fun _ => ?_, fun q => absurd rfl q⟩
      conv => whnf
      refine CallG.pure (Many10 l hV.ok hlen) rfl ?_
      conv => whnf
      refine ⟨rfl, ?_⟩
      rintro _ _ rfl
      refine ⟨rfl, ?_⟩
      conv => whnf
      rw [hN]
      refine ⟨fun hm => ?_, fun hm => ?_⟩
      · conv => whnf
        refine CallG.pure (alive11) rfl ?_
        conv => whnf
        refine ⟨rfl, ?_⟩
        rintro _ _ rfl
        refine ⟨rfl, ?_⟩
        conv => whnf
        exact ⟨rfl, rfl⟩
      · have hm' : manyN l ≤ 200 := by omega
        conv => whnf
        refine CallG.pure (Units12 hB l hd hlen (fun _ => hm')) rfl ?_
        conv => whnf
        refine ⟨rfl, ?_⟩
        rintro _ _ rfl
        refine ⟨rfl, ?_⟩
        conv => whnf
        rw [hz, if_pos rfl]
        refine ⟨fun _ => ?_, fun h => absurd rfl h⟩
        conv => whnf
        refine CallG.pure (Many10 l hV.ok hlen) rfl ?_
        conv => whnf
        refine ⟨rfl, ?_⟩
        rintro _ _ rfl
        refine ⟨rfl, ?_⟩
        conv => whnf
        rw [hN]
        refine ⟨fun _ => ?_, fun h => absurd rfl h⟩
        conv => whnf
        refine ⟨fun _ => ?_, fun q => absurd (by rw [dirs_len]) q⟩
        conv => whnf
        refine ⟨0, LoopG.intro (fun k : Nat => ⟨[(3, .p (encTys l)), (6, .p (.sl 36 (dirs l (manyN l)))), (8, iv (manyN l)), (9, iv k)], []⟩) (fun k => k ≤ manyN l) (fun k => manyN l - k) (0) (Nat.zero_le _) ?_ ?_⟩
        · refine ⟨[], by decide, rfl, ?_, ?_⟩
          · repeat' (first | exact trivial | exact ⟨_, rfl, rfl⟩ | exact ⟨_, rfl, _, rfl⟩ | exact ⟨_, rfl⟩ | refine And.intro ?_ ?_)
          · repeat' (first | exact trivial | exact ⟨_, rfl, rfl⟩ | exact ⟨_, rfl, _, rfl⟩ | exact ⟨_, rfl⟩ | refine And.intro ?_ ?_)
        intro k hk
        conv => whnf
        refine ⟨fun h2 => ?_, fun h2 => ?_⟩
        · conv => whnf
          have hkl : k < manyN l := by omega
          refine ⟨k, [encVs (backT l (unitL (manyN l) k))], rfl, (by simp [dirs, hkl]), ?_⟩
          conv => whnf
          refine CallG.pure (Unit15 (manyN l) k (by omega) hkl) rfl ?_
          conv => whnf
          refine ⟨rfl, ?_⟩
          rintro _ _ rfl
          refine ⟨rfl, ?_⟩
          conv => whnf
          refine CallG.pure (Back14 l (unitL (manyN l) k) hV.ok hlen (by rw [unitL_len]; exact Nat.le_refl _) (by rw [unitL_len]; omega) (unitL_W _ _).len) rfl ?_
          conv => whnf
          refine ⟨rfl, ?_⟩
          rintro _ _ rfl
          refine ⟨rfl, ?_⟩
          conv => whnf
          refine CallG.pure (Equals13 (backT l (unitL (manyN l) k)) (by simp [backT]; omega) (backT_ValLen hV.ok (by rw [unitL_len]; omega) (unitL_W _ _).len)) rfl ?_
          conv => whnf
          refine ⟨rfl, ?_⟩
          rintro _ _ rfl
          refine ⟨rfl, ?_⟩
          conv => whnf
          refine ⟨by omega, by omega, ?_⟩
          conv => whnf
          refine ⟨k + 1, by omega, by omega, ?_⟩
          refine ⟨[], by decide, rfl, ?_, ?_⟩
          · repeat' (first | exact trivial | exact ⟨_, rfl, rfl⟩ | exact ⟨_, rfl, _, rfl⟩ | exact ⟨_, rfl⟩ | refine And.intro ?_ ?_)
          · repeat' (first | exact trivial | exact ⟨_, rfl, rfl⟩ | exact ⟨_, rfl, _, rfl⟩ | exact ⟨_, rfl⟩ | refine And.intro ?_ ?_)
        · conv => whnf
          refine CallG.pure (alive11) rfl ?_
          conv => whnf
          refine ⟨rfl, ?_⟩
          rintro _ _ rfl
          refine ⟨rfl, ?_⟩
          conv => whnf
          exact ⟨rfl, rfl⟩
    · refine ⟨fun q => absurd (by rw [← hbu]; exact q) hz, fun _ => ?_⟩
      conv => whnf
      refine CallG.pure (Units12 hB l hd hlen (fun q => absurd q hz)) rfl ?_
      conv => whnf
      refine ⟨rfl, ?_⟩
      rintro _ _ rfl
      refine ⟨rfl, ?_⟩
      conv => whnf
      rw [if_neg hz, hbu]
      refine ⟨fun q => absurd q hz, fun _ => ?_⟩
      conv => whnf
      refine ⟨fun _ => ?_, fun h => absurd rfl h⟩
      conv => whnf
      refine ⟨fun _ => ?_, fun h => absurd rfl h⟩
      conv => whnf
      refine CallG.pure (alive11) rfl ?_
      conv => whnf
      refine ⟨rfl, ?_⟩
      rintro _ _ rfl
      refine ⟨rfl, ?_⟩
      conv => whnf
      exact ⟨rfl, rfl⟩
end Go.Sx.Tz
end
section
namespace Go.Sx.Tz
open Go Go.Ev Go.Ev.Tz Go.Sx Go.Proofs
set_option maxHeartbeats 4000000
attribute [local irreducible] CallG LoopG TN ON
theorem Clone237 (l : List Int) (hl : l.length < 100000) : P 237 [] [.p (encDims l)] (fun _ r => r = .p (encDims l)) := by
  refine PC.of_pure good ok237 rfl ?_
  conv => whnf
  refine ⟨fun h => ?_, ?_⟩
  · conv => whnf
    exact ⟨rfl, by simp only [oneS, encDims]; rw [h]⟩
  · conv => whnf
    refine ⟨rfl, rfl, (by show _ * 8 ≤ _; simp; omega), ?_⟩
    conv => whnf
    exact ⟨rfl, rfl⟩
theorem prodD_pos {l : List Int} (h0 : l.all dimOk = true) (hd : l.length ≤ 5) : 1 ≤ prodD l ∧ prodD l ≤ 32768 := by
  have := prodD_part h0 hd l.length
  rw [List.take_length] at this
  exact ⟨by omega, by omega⟩
theorem zero169r (t : Ty) (h0 : t.dims.all dimOk = true) (hd : t.dims.length ≤ 5) (hk : t.kind = 1) :
    P 169 [] [.agp (encTy t)] (fun M r => M = [.arr 51 (List.replicate (szN t) (encR (wh 0)))] ∧ r = .ag [iv t.kind, .p (encDims t.dims), .os 0, .nl 154]) := by
  obtain ⟨hp1, hp2⟩ := prodD_pos h0 hd
  have hsz : (szN t : Int) = prodD t.dims := by unfold szN; omega
  refine PC.of_wp good ok169 rfl ?_
  conv => whnf
  refine CallG.pure (Clone237 t.dims (by omega)) rfl ?_
  conv => whnf
  refine ⟨rfl, ?_⟩
  rintro _ _ rfl
  refine ⟨rfl, ?_⟩
  conv => whnf
  refine CallG.pure (size105 t h0 hd) rfl ?_
  conv => whnf
  refine ⟨rfl, ?_⟩
  rintro _ _ rfl
  refine ⟨rfl, ?_⟩
  conv => whnf
  refine ⟨1, ?_⟩
  conv => whnf
  refine ⟨fun h => ?_, fun h => ?_⟩
  · conv => whnf
    refine ⟨fun _ => ?_, fun h => absurd hk h⟩
    conv => whnf
    refine CallG.pure (none238) rfl ?_
    conv => whnf
    refine ⟨rfl, ?_⟩
    rintro _ _ rfl
    refine ⟨rfl, ?_⟩
    conv => whnf
    refine ⟨rfl, (by show _ * 64 ≤ _; decide), ?_⟩
    conv => whnf
    refine ⟨by omega, by omega, ?_⟩
    conv => whnf
    refine LoopG.intro (fun i : Nat => ⟨[(0, .agp (encTy t)), (1, .loc 0 0), (2, .loc 1 0), (3, .loc 2 0), (12, iv (prodD t.dims)), (13, iv (i + 1 : Nat))], [.box [iv t.kind, .p (encDims t.dims)], .box [iv 0, .nl 3, .nl 51, .nl 154], .box [iv t.kind, .p (encDims t.dims), .os 3, .nl 154], .arr 51 (List.replicate (i + 1) (encR (wh 0)))]⟩) (fun i => i + 1 ≤ szN t) (fun i => szN t - i) (0) (by omega) ?_ ?_
    · refine ⟨[some 0, some 1, some 2, some 4], by decide, rfl, ?_, ?_⟩
      · repeat' (first | exact trivial | exact ⟨_, rfl, rfl⟩ | exact ⟨_, rfl, _, rfl⟩ | exact ⟨_, rfl⟩ | refine And.intro ?_ ?_)
      · repeat' (first | exact trivial | exact ⟨_, rfl, rfl⟩ | exact ⟨_, rfl, _, rfl⟩ | exact ⟨_, rfl⟩ | refine And.intro ?_ ?_)
    intro i hi
    conv => whnf
    refine ⟨fun h2 => ?_, fun h2 => ?_⟩
    · conv => whnf
      refine ⟨fun _ => ?_, fun h => absurd hk h⟩
      conv => whnf
      refine CallG.pure (none238) rfl ?_
      conv => whnf
      refine ⟨rfl, ?_⟩
      rintro _ _ rfl
      refine ⟨rfl, ?_⟩
      conv => whnf
      refine ⟨rfl, rfl, (by show _ * 64 ≤ _; simp; omega), ?_⟩
      conv => whnf
      refine ⟨by omega, by omega, ?_⟩
      conv => whnf
      refine ⟨i + 1, by omega, by omega, ?_⟩
      refine ⟨[some 0, some 1, some 2, some 5], by decide, rfl, ?_, ?_⟩
      · repeat' (first | exact trivial | exact ⟨_, rfl, rfl⟩ | exact ⟨_, rfl, _, rfl⟩ | exact ⟨_, rfl⟩ | refine And.intro ?_ ?_ | (refine ⟨_, rfl, congrArg (fun z => some (Blk.arr _ z)) ?_⟩; exact List.replicate_succ'.symm) | (refine ⟨_, rfl, congrArg (fun z => some (SV.p (PV.sl _ z))) ?_⟩; exact List.replicate_succ'.symm))
      · repeat' (first | exact trivial | exact ⟨_, rfl, rfl⟩ | exact ⟨_, rfl, _, rfl⟩ | exact ⟨_, rfl⟩ | refine And.intro ?_ ?_ | (refine ⟨_, rfl, congrArg (fun z => some (Blk.arr _ z)) ?_⟩; exact List.replicate_succ'.symm) | (refine ⟨_, rfl, congrArg (fun z => some (SV.p (PV.sl _ z))) ?_⟩; exact List.replicate_succ'.symm))
    · conv => whnf
      obtain he : i + 1 = szN t := by omega
      rw [he]
      refine ⟨_, _, ?_, rfl, rfl⟩
      refine ⟨[some 3], by decide, rfl, ?_, ?_⟩
      · repeat' (first | exact trivial | exact ⟨_, rfl, rfl⟩ | exact ⟨_, rfl, _, rfl⟩ | exact ⟨_, rfl⟩ | refine And.intro ?_ ?_)
      · repeat' (first | exact trivial | exact ⟨_, rfl, rfl⟩ | exact ⟨_, rfl, _, rfl⟩ | exact ⟨_, rfl⟩ | refine And.intro ?_ ?_)
  · exact absurd (show (0 : Int) < prodD t.dims by omega) h
theorem zero169f (t : Ty) (h0 : t.dims.all dimOk = true) (hd : t.dims.length ≤ 5) (hk : t.kind ≠ 1) :
    P 169 [] [.agp (encTy t)] (fun _ r => r = .agp (encV ⟨t, [], List.replicate (szN t) ⟨0, false⟩⟩)) := by
  obtain ⟨hp1, hp2⟩ := prodD_pos h0 hd
  have hsz : (szN t : Int) = prodD t.dims := by unfold szN; omega
  refine PC.of_pure good ok169 rfl ?_
  conv => whnf
  refine CallG.pure (Clone237 t.dims (by omega)) rfl ?_
  conv => whnf
  refine ⟨rfl, ?_⟩
  rintro _ _ rfl
  refine ⟨rfl, ?_⟩
  conv => whnf
  refine CallG.pure (size105 t h0 hd) rfl ?_
  conv => whnf
  refine ⟨rfl, ?_⟩
  rintro _ _ rfl
  refine ⟨rfl, ?_⟩
  conv => whnf
  refine ⟨1, ?_⟩
  conv => whnf
  refine ⟨fun h => ?_, fun h => ?_⟩
  · conv => whnf
    refine ⟨fun h => absurd h hk, fun _ => ?_⟩
    conv => whnf
    refine ⟨rfl, (by show _ * 16 ≤ _; decide), ?_⟩
    conv => whnf
    refine ⟨by omega, by omega, ?_⟩
    conv => whnf
    refine LoopG.intro (fun i : Nat => ⟨[(0, .agp (encTy t)), (1, .loc 0 0), (2, .loc 1 0), (3, .loc 2 0), (12, iv (prodD t.dims)), (13, iv (i + 1 : Nat))], [.box [iv t.kind, .p (encDims t.dims)], .box [iv 0, .nl 3, .nl 51, .nl 154], .box [iv t.kind, .p (encDims t.dims), .nl 51, .os 3], .arr 154 (List.replicate (i + 1) (encB ⟨0, false⟩))]⟩) (fun i => i + 1 ≤ szN t) (fun i => szN t - i) (0) (by omega) ?_ ?_
    · refine ⟨[some 0, some 1, some 2, some 4], by decide, rfl, ?_, ?_⟩
      · repeat' (first | exact trivial | exact ⟨_, rfl, rfl⟩ | exact ⟨_, rfl, _, rfl⟩ | exact ⟨_, rfl⟩ | refine And.intro ?_ ?_)
      · repeat' (first | exact trivial | exact ⟨_, rfl, rfl⟩ | exact ⟨_, rfl, _, rfl⟩ | exact ⟨_, rfl⟩ | refine And.intro ?_ ?_)
    intro i hi
    conv => whnf
    refine ⟨fun h2 => ?_, fun h2 => ?_⟩
    · conv => whnf
      refine ⟨fun h => absurd h hk, fun _ => ?_⟩
      conv => whnf
      refine ⟨rfl, rfl, (by show _ * 16 ≤ _; simp; omega), ?_⟩
      conv => whnf
      refine ⟨by omega, by omega, ?_⟩
      conv => whnf
      refine ⟨i + 1, by omega, by omega, ?_⟩
      refine ⟨[some 0, some 1, some 2, some 5], by decide, rfl, ?_, ?_⟩
      · repeat' (first | exact trivial | exact ⟨_, rfl, rfl⟩ | exact ⟨_, rfl, _, rfl⟩ | exact ⟨_, rfl⟩ | refine And.intro ?_ ?_ | (refine ⟨_, rfl, congrArg (fun z => some (Blk.arr _ z)) ?_⟩; exact List.replicate_succ'.symm) | (refine ⟨_, rfl, congrArg (fun z => some (SV.p (PV.sl _ z))) ?_⟩; exact List.replicate_succ'.symm))
      · repeat' (first | exact trivial | exact ⟨_, rfl, rfl⟩ | exact ⟨_, rfl, _, rfl⟩ | exact ⟨_, rfl⟩ | refine And.intro ?_ ?_ | (refine ⟨_, rfl, congrArg (fun z => some (Blk.arr _ z)) ?_⟩; exact List.replicate_succ'.symm) | (refine ⟨_, rfl, congrArg (fun z => some (SV.p (PV.sl _ z))) ?_⟩; exact List.replicate_succ'.symm))
    · conv => whnf
      obtain he : i + 1 = szN t := by omega
      rw [he]
      exact ⟨rfl, by simp only [oneS, encV, List.map_replicate]; rfl⟩
  · exact absurd (show (0 : Int) < prodD t.dims by omega) h
end Go.Sx.Tz
end
section
namespace Go.Sx.Tz
open Go Go.Ev Go.Ev.Tz Go.Sx Go.Proofs
set_option maxHeartbeats 4000000
attribute [local irreducible] CallG LoopG TN ON
abbrev Hd := Option Addr × Nat
def rw1 (t : Ty) (h : Hd) : List PV := if t.kind = 1 then [.int .i64 t.kind, encDims t.dims, .raw h.1 (szN t) h.2, .sl 154 []] else encV (valT t [])
def nb1 (t : Ty) (h : Hd) (nums : List RatS) : NB := if t.kind = 1 then ⟨51, nums.map encR, h.1, szN t, h.2⟩ else blank
def tyAt (l : List Ty) (k : Nat) : Ty := l.getD k ⟨0, []⟩
def hdAt (hs : List Hd) (k : Nat) : Hd := hs.getD k (none, 0)
def rws (l : List Ty) (hs : List Hd) : List (List PV) := (List.range hs.length).map fun k => rw1 (tyAt l k) (hdAt hs k)
def zs (n : Nat) : List RatS := List.replicate n (wh 0)
def nbs0 (l : List Ty) (hs : List Hd) : List NB := (List.range hs.length).map fun k => nb1 (tyAt l k) (hdAt hs k) (zs (szN (tyAt l k)))
def part (l : List Ty) (nums : List RatS) (k : Nat) : List RatS := (nums.drop (manyN (l.take k))).take (szN (tyAt l k))
def nbs1 (l : List Ty) (hs : List Hd) (nums : List RatS) (r : Nat) : List NB := (List.range hs.length).map fun k => nb1 (tyAt l k) (hdAt hs k) (if k < r then part l nums k else zs (szN (tyAt l k)))
theorem hdAt_snoc {hs : List Hd} {h : Hd} {k : Nat} (hk : k < hs.length) : hdAt (hs ++ [h]) k = hdAt hs k := by
  unfold hdAt; simp [List.getD, List.getElem?_append_left hk]
theorem hdAt_last {hs : List Hd} {h : Hd} : hdAt (hs ++ [h]) hs.length = h := by unfold hdAt; simp [List.getD]
theorem tyAt_eq {l : List Ty} {k : Nat} (hk : k < l.length) : tyAt l k = l[k] := by unfold tyAt; simp [List.getD, hk]
theorem rws_snoc {l : List Ty} {hs : List Hd} {h : Hd} : rws l (hs ++ [h]) = rws l hs ++ [rw1 (tyAt l hs.length) h] := by
  unfold rws
  rw [List.length_append, List.length_singleton, List.range_succ, List.map_append]
  congr 1
  · exact List.map_congr_left fun k hk => by rw [hdAt_snoc (List.mem_range.1 hk)]
  · simp [hdAt_last]
theorem nbs_snoc {l : List Ty} {hs : List Hd} {h : Hd} : nbs0 l (hs ++ [h]) = nbs0 l hs ++ [nb1 (tyAt l hs.length) h (zs (szN (tyAt l hs.length)))] := by
  unfold nbs0
  rw [List.length_append, List.length_singleton, List.range_succ, List.map_append]
  congr 1
  · exact List.map_congr_left fun k hk => by rw [hdAt_snoc (List.mem_range.1 hk)]
  · simp [hdAt_last]
theorem rws_len (l : List Ty) (hs : List Hd) : (rws l hs).length = hs.length := by simp [rws]
theorem rws_get {l : List Ty} {hs : List Hd} {k : Nat} (hk : k < hs.length) : (rws l hs)[k]? = some (rw1 (tyAt l k) (hdAt hs k)) := by simp [rws, hk]
theorem nbs_get {l : List Ty} {hs : List Hd} {nums : List RatS} {r k : Nat} (hk : k < hs.length) : (nbs1 l hs nums r)[k]? = some (nb1 (tyAt l k) (hdAt hs k) (if k < r then part l nums k else zs (szN (tyAt l k)))) := by simp [nbs1, hk]
theorem nbs_zero (l : List Ty) (hs : List Hd) (nums : List RatS) : nbs1 l hs nums 0 = nbs0 l hs := by unfold nbs1 nbs0; simp
theorem nbs_next {l : List Ty} {hs : List Hd} {nums : List RatS} {r : Nat} (hr : r < hs.length) : (nbs1 l hs nums r).set r (nb1 (tyAt l r) (hdAt hs r) (part l nums r)) = nbs1 l hs nums (r + 1) := by
  refine List.ext_getElem? fun k => ?_
  by_cases hk : k < hs.length
  · rw [nbs_get hk, List.getElem?_set]
    by_cases e : r = k
    · subst e
      rw [if_pos rfl, if_pos (by simpa [nbs1] using hr), if_pos (Nat.lt_succ_self _)]
    · rw [if_neg e, nbs_get hk]
      by_cases q : k < r
      · rw [if_pos q, if_pos (by omega)]
      · rw [if_neg q, if_neg (by omega)]
  · rw [List.getElem?_eq_none (by simp [nbs1]; omega), List.getElem?_eq_none (by simp [nbs1]; omega)]
theorem nbs_skip {l : List Ty} {hs : List Hd} {nums : List RatS} {r : Nat} (hk : (tyAt l r).kind ≠ 1) : nbs1 l hs nums (r + 1) = nbs1 l hs nums r := by
  unfold nbs1
  refine List.map_congr_left fun k _ => ?_
  by_cases e : k = r
  · subst e; unfold nb1; rw [if_neg hk, if_neg hk]
  · by_cases q : k < r
    · rw [if_pos q, if_pos (by omega)]
    · rw [if_neg q, if_neg (by omega)]
theorem ends_ok {l : List Ty} {hs : List Hd} {nums : List RatS} (hl : hs.length = l.length) : All2 (All2 (RC (nbs1 l hs nums l.length))) (rws l hs) ((backT l nums).map encV) := by
  unfold backT rws
  rw [List.map_map, hl]
  refine All2.ofMap fun k hk => ?_
  have hk : k < l.length := List.mem_range.1 hk
  show All2 _ (rw1 (tyAt l k) (hdAt hs k)) (encV (valT (tyAt l k) (nums.drop (manyN (l.take k)))))
  unfold rw1 valT
  by_cases h : (tyAt l k).kind = 1
  · rw [if_pos h, if_pos h]
    refine .cons (.inl rfl) (.cons (.inl rfl) (.cons (.inr ⟨nb1 (tyAt l k) (hdAt hs k) (part l nums k), ?_, ?_, ?_⟩) (.cons (.inl rfl) .nil)))
    · refine List.mem_of_getElem? (i := k) ?_
      rw [nbs_get (by omega), if_pos hk]
    · unfold nb1; rw [if_pos h]
    · unfold nb1; rw [if_pos h]; rfl
  · rw [if_neg h, if_neg h, if_neg h]
    exact .cons (.inl rfl) (.cons (.inl rfl) (.cons (.inl rfl) (.cons (.inl rfl) .nil)))
theorem back106 : Back106 := by
  intro l nums hV hl hm hn hW
  have hTy := hV.ok
  refine PC.of_TN good ok106 rfl fun b => ?_
  refine TN.seq rfl (TN.lift good (by kernel_rfl) ?_)
  conv => whnf
  refine TN.seq rfl (TN.lift good (by kernel_rfl) ?_)
  conv => whnf
  refine ⟨fun h => absurd h (by simp; omega), fun _ => ?_⟩
  conv => whnf
  refine TN.seq rfl (TN.lift good (by kernel_rfl) ?_)
  conv => whnf
  refine TN.seq rfl (TN.lift good (by kernel_rfl) ?_)
  conv => whnf
  refine TN.seq rfl (TN.seq rfl (TN.lift good (by kernel_rfl) ?_))
  conv => whnf
  refine TN.block rfl ?_
  refine TN.loop (fun (⟨i, hs⟩ : Nat × List Hd) => ⟨[(0, .p (encTys l)), (1, .p (encRs nums)), (6, .os 0), (7, iv (manyN (l.take i))), (18, .p (encTys l)), (19, iv l.length), (20, iv i)], [.arr 77 (rws l hs)]⟩) (fun ⟨_, hs⟩ => nbs0 l hs) (fun ⟨i, hs⟩ => i ≤ l.length ∧ hs.length = i) (fun ⟨i, _⟩ => l.length - i) (0, []) ⟨Nat.zero_le _, rfl⟩ ?_ rfl rfl ?_
  · rw [show iv l.length = iv (l.map encTy).length by simp]
    refine ⟨[none], by decide, rfl, ?_, ?_⟩
    · repeat' (first | exact trivial | exact ⟨_, rfl, rfl⟩ | exact ⟨_, rfl, _, rfl⟩ | exact ⟨_, rfl⟩ | refine And.intro ?_ ?_)
    · repeat' (first | exact trivial | exact ⟨_, rfl, rfl⟩ | exact ⟨_, rfl, _, rfl⟩ | exact ⟨_, rfl⟩ | refine And.intro ?_ ?_)
  · rintro ⟨i, hs⟩ ⟨hi, hhs⟩
    refine TN.seq rfl (TN.lift good (by kernel_rfl) ?_)
    conv => whnf
    refine ⟨fun h => ?_, fun h => ?_⟩
    · conv => whnf
      have hil : i < l.length := by omega
      refine TN.seq rfl (TN.lift good (by kernel_rfl) ?_)
      conv => whnf
      refine TN.seq rfl (TN.block rfl (TN.seq rfl (TN.lift good (by kernel_rfl) ?_)))
      refine ⟨i, _, rfl, get_map hil, ?_⟩
      conv => whnf
      obtain ⟨a1, a2⟩ := hTy l[i] (List.getElem_mem hil)
      obtain ⟨v1, v2, v3⟩ := hV l[i] (List.getElem_mem hil)
      have hz : szErr l[i] = 0 := szErr_ok.2 ⟨v1, v2⟩
      obtain ⟨hp1, hp2⟩ := prodD_pos a1 a2
      have hsz : (szN l[i] : Int) = prodD l[i].dims := by unfold szN; omega
      refine TN.seq rfl (TN.lift good (by kernel_rfl) ?_)
      conv => whnf
      refine CallG.pure (Size51 l[i] a2) rfl ?_
      conv => whnf
      refine ⟨rfl, ?_⟩
      rintro _ _ rfl
      refine ⟨rfl, ?_⟩
      conv => whnf
      rw [hz, if_pos rfl]
      refine TN.seq rfl (TN.lift good (by kernel_rfl) ?_)
      conv => whnf
      refine ⟨fun _ => ?_, fun h => absurd rfl h⟩
      conv => whnf
      refine TN.seq rfl (TN.region rfl (ON.app (List.take_append_drop 3 _).symm (ON.lift good (by kernel_rfl) ?_)))
      conv => whnf
      have hty : tyAt l hs.length = l[i] := by rw [hhs]; exact tyAt_eq hil
      by_cases hk : l[i].kind = 1
      · refine lendS [true] [] _ _ _ (zero169r l[i] a1 a2 hk) ?_
        conv => whnf
        refine ⟨?_, ?_, rfl, ?_⟩
        · repeat' (first | exact trivial | exact rfl | refine And.intro ?_ ?_)
        · repeat' (first | exact trivial | exact rfl | refine And.intro ?_ ?_)
        rintro _ _ ⟨rfl, rfl⟩
        conv => whnf
        refine ON.give (j := 2) (t := 34) rfl rfl fun a c => ⟨_, .cons (.inl rfl) (.cons (.inl rfl) (.cons (.inr ⟨rfl, rfl⟩) (.cons (.inl rfl) .nil))), ?_⟩
        refine ON.lift good (by kernel_rfl) ?_
        conv => whnf
        refine ⟨rfl, rfl, (by show (_ + _) * 80 ≤ _; rw [rws_len]; simp; omega), ?_⟩
        conv => whnf
        refine TN.seq rfl (TN.lift good (by kernel_rfl) ?_)
        conv => whnf
        refine ⟨fun _ => ?_, fun h => absurd hk h⟩
        conv => whnf
        refine TN.lift good (by kernel_rfl) ?_
        conv => whnf
        have hmi := manyN_all (l := l) (i := i + 1) (by omega)
        rw [manyN_take hil, if_pos hk] at hmi
        refine ⟨by omega, by omega, ?_⟩
        conv => whnf
        refine TN.lift good (by kernel_rfl) ?_
        conv => whnf
        refine ⟨by omega, by omega, ?_⟩
        conv => whnf
        have e7 : ((manyN (l.take (i + 1)) : Nat) : Int) = manyN (l.take i) + prodD l[i].dims := by rw [manyN_take hil, if_pos hk]; omega
        have er : rws l (hs ++ [(a, c)]) = rws l hs ++ [[.int .i64 l[i].kind, encDims l[i].dims, .raw a (List.replicate (szN l[i]) (encR (wh 0))).length c, .sl 154 []]] := by
          rw [rws_snoc, hty]; unfold rw1; rw [if_pos hk, List.length_replicate]
        refine ⟨(i + 1, hs ++ [(a, c)]), ⟨by omega, by simp; omega⟩, by show _ - _ < _ - _; omega, ?_, ?_⟩
        · refine ⟨[some 4], by decide, rfl, ?_, ?_⟩
          · repeat' (first | exact trivial | exact ⟨_, rfl, rfl⟩ | exact ⟨_, rfl, _, rfl⟩ | exact ⟨_, rfl⟩ | refine And.intro ?_ ?_ | (refine ⟨_, rfl, congrArg (fun z => some (SV.p (PV.int _ z))) ?_⟩; exact e7) | (refine ⟨_, rfl, congrArg (fun z => some (Blk.arr _ z)) ?_⟩; exact er.symm) | (refine ⟨_, rfl, congrArg (fun z => some (SV.p (PV.sl _ z))) ?_⟩; exact er.symm))
          · repeat' (first | exact trivial | exact ⟨_, rfl, rfl⟩ | exact ⟨_, rfl, _, rfl⟩ | exact ⟨_, rfl⟩ | refine And.intro ?_ ?_ | (refine ⟨_, rfl, congrArg (fun z => some (SV.p (PV.int _ z))) ?_⟩; exact e7) | (refine ⟨_, rfl, congrArg (fun z => some (Blk.arr _ z)) ?_⟩; exact er.symm) | (refine ⟨_, rfl, congrArg (fun z => some (SV.p (PV.sl _ z))) ?_⟩; exact er.symm))
        · show _ = nbs0 l (hs ++ [(a, c)])
          rw [nbs_snoc, hty]
          unfold nb1 zs
          rw [if_pos hk]
          simp
      · refine CallG.pure (zero169f l[i] a1 a2 hk) rfl ?_
        conv => whnf
        refine ⟨rfl, ?_⟩
        rintro _ _ rfl
        refine ⟨rfl, ?_⟩
        conv => whnf
        refine ON.nil (ON.lift good (by kernel_rfl) ?_)
        conv => whnf
        refine ⟨rfl, rfl, (by show (_ + _) * 80 ≤ _; rw [rws_len]; simp; omega), ?_⟩
        conv => whnf
        refine TN.seq rfl (TN.lift good (by kernel_rfl) ?_)
        conv => whnf
        refine ⟨fun h => absurd h hk, fun _ => ?_⟩
        conv => whnf
        refine TN.lift good (by kernel_rfl) ?_
        conv => whnf
        refine TN.lift good (by kernel_rfl) ?_
        conv => whnf
        refine ⟨by omega, by omega, ?_⟩
        conv => whnf
        have e7 : ((manyN (l.take (i + 1)) : Nat) : Int) = manyN (l.take i) := by rw [manyN_take hil, if_neg hk]
        have er : rws l (hs ++ [(none, 0)]) = rws l hs ++ [encV ⟨l[i], [], List.replicate (szN l[i]) ⟨0, false⟩⟩] := by
          rw [rws_snoc, hty]; unfold rw1 valT; rw [if_neg hk, if_neg hk]
        refine ⟨(i + 1, hs ++ [(none, 0)]), ⟨by omega, by simp; omega⟩, by show _ - _ < _ - _; omega, ?_, ?_⟩
        · refine ⟨[some 3], by decide, rfl, ?_, ?_⟩
          · repeat' (first | exact trivial | exact ⟨_, rfl, rfl⟩ | exact ⟨_, rfl, _, rfl⟩ | exact ⟨_, rfl⟩ | refine And.intro ?_ ?_ | (refine ⟨_, rfl, congrArg (fun z => some (SV.p (PV.int _ z))) ?_⟩; exact e7) | (refine ⟨_, rfl, congrArg (fun z => some (Blk.arr _ z)) ?_⟩; exact er.symm) | (refine ⟨_, rfl, congrArg (fun z => some (SV.p (PV.sl _ z))) ?_⟩; exact er.symm))
          · repeat' (first | exact trivial | exact ⟨_, rfl, rfl⟩ | exact ⟨_, rfl, _, rfl⟩ | exact ⟨_, rfl⟩ | refine And.intro ?_ ?_ | (refine ⟨_, rfl, congrArg (fun z => some (SV.p (PV.int _ z))) ?_⟩; exact e7) | (refine ⟨_, rfl, congrArg (fun z => some (Blk.arr _ z)) ?_⟩; exact er.symm) | (refine ⟨_, rfl, congrArg (fun z => some (SV.p (PV.sl _ z))) ?_⟩; exact er.symm))
        · show _ = nbs0 l (hs ++ [(none, 0)])
          rw [nbs_snoc, hty]
          unfold nb1
          rw [if_neg hk]
    · conv => whnf
      have hil : i = l.length := by omega
      subst hil
      refine TN.seq rfl (TN.lift good (by kernel_rfl) ?_)
      conv => whnf
      refine TN.seq rfl (TN.lift good (by kernel_rfl) ?_)
      conv => whnf
      refine ⟨fun _ => ?_, fun h => absurd (by rw [List.take_length, hm]; simp) h⟩
      conv => whnf
      refine TN.seq rfl (TN.seq rfl (TN.lift good (by kernel_rfl) ?_))
      conv => whnf
      refine TN.block rfl ?_
      refine TN.loop (fun (r : Nat) => ⟨[(1, .p (encRs (nums.drop (manyN (l.take r))))), (6, .os 0), (48, .os 0), (49, iv l.length), (50, iv r)], [.arr 77 (rws l hs)]⟩) (fun r => nbs1 l hs nums r) (fun r => r ≤ l.length) (fun r => l.length - r) 0 (Nat.zero_le _) ?_ (nbs_zero l hs nums).symm rfl ?_
      · refine ⟨[some 0], by decide, rfl, ?_, ?_⟩
        · repeat' (first | exact trivial | exact ⟨_, rfl, rfl⟩ | exact ⟨_, rfl, _, rfl⟩ | exact ⟨_, rfl⟩ | refine And.intro ?_ ?_ | (refine ⟨_, rfl, congrArg (fun z => some (SV.p (PV.int _ z))) ?_⟩; rw [rws_len, hhs]))
        · repeat' (first | exact trivial | exact ⟨_, rfl, rfl⟩ | exact ⟨_, rfl, _, rfl⟩ | exact ⟨_, rfl⟩ | refine And.intro ?_ ?_ | (refine ⟨_, rfl, congrArg (fun z => some (SV.p (PV.int _ z))) ?_⟩; rw [rws_len, hhs]))
      · intro r hr
        refine TN.seq rfl (TN.lift good (by kernel_rfl) ?_)
        conv => whnf
        refine ⟨fun h2 => ?_, fun h2 => ?_⟩
        · conv => whnf
          have hrl : r < l.length := by omega
          obtain ⟨a1, a2⟩ := hTy l[r] (List.getElem_mem hrl)
          have hb := prodD_part a1 a2 l[r].dims.length
          rw [List.take_length] at hb
          have hsz : (szN l[r] : Int) = prodD l[r].dims := by unfold szN; omega
          have hty : tyAt l r = l[r] := tyAt_eq hrl
          have hmi := manyN_all (l := l) (i := r + 1) (by omega)
          refine TN.seq rfl (TN.lift good (by kernel_rfl) ?_)
          conv => whnf
          refine TN.seq rfl (TN.block rfl (TN.seq rfl (TN.lift good (by kernel_rfl) ?_)))
          conv => whnf
          refine ⟨r, rfl, (by rw [rws_len]; omega), ?_⟩
          conv => whnf
          by_cases hk : l[r].kind = 1
          · rw [manyN_take hrl, if_pos hk] at hmi
            have hrow : (rws l hs)[r]? = some [.int .i64 l[r].kind, encDims l[r].dims, .raw (hdAt hs r).1 (szN l[r]) (hdAt hs r).2, .sl 154 []] := by
              rw [rws_get (by omega), hty]; unfold rw1; rw [if_pos hk]
            have hnb : (nbs1 l hs nums r)[r]? = some ⟨51, List.replicate (szN l[r]) (encR (wh 0)), (hdAt hs r).1, szN l[r], (hdAt hs r).2⟩ := by
              rw [nbs_get (by omega), if_neg (by omega), hty]; unfold nb1 zs; rw [if_pos hk]; simp
            refine ⟨rfl, _, hrow, ?_⟩
            conv => whnf
            refine TN.focus good (by kernel_rfl) (k := r) (jb := 1) hnb rfl (.cons (.inl rfl) (.cons (.inl rfl) (.cons (.inr ⟨rfl, rfl⟩) (.cons (.inl rfl) .nil)))) ?_
            conv => whnf
            obtain ⟨at_, hat⟩ : ∃ m, m = manyN (l.take r) := ⟨_, rfl⟩
            rw [← hat] at hmi
            rw [show encRs (nums.drop (manyN (l.take r))) = encRs (nums.drop at_) by rw [hat]]
            refine ⟨0, LoopG.intro (fun k : Nat => ⟨[(1, .p (encRs (nums.drop (at_ + k)))), (6, .os 0), (13, .loc 1 0), (48, .os 0), (49, iv l.length), (50, iv r), (56, iv (szN l[r])), (57, iv k)], [.arr 77 (rws l hs), .box [iv l[r].kind, .p (encDims l[r].dims), .os 2, .p (.sl 154 [])], .arr 51 (((nums.drop at_).take k).map encR ++ List.replicate (szN l[r] - k) (encR (wh 0)))]⟩) (fun k => k ≤ szN l[r]) (fun k => szN l[r] - k) (0) (Nat.zero_le _) ?_ ?_⟩
            · refine ⟨[some 0, some 1, some 2], by decide, rfl, ?_, ?_⟩
              · repeat' (first | exact trivial | exact ⟨_, rfl, rfl⟩ | exact ⟨_, rfl, _, rfl⟩ | exact ⟨_, rfl⟩ | refine And.intro ?_ ?_ | (refine ⟨_, rfl, congrArg (fun z => some (SV.p (PV.int _ z))) ?_⟩; simp))
              · repeat' (first | exact trivial | exact ⟨_, rfl, rfl⟩ | exact ⟨_, rfl, _, rfl⟩ | exact ⟨_, rfl⟩ | refine And.intro ?_ ?_ | (refine ⟨_, rfl, congrArg (fun z => some (SV.p (PV.int _ z))) ?_⟩; simp))
            intro k hks
            have htl : ((nums.drop at_).take k).length = k := by simp; omega
            conv => whnf
            refine ⟨fun h3 => ?_, fun h3 => ?_⟩
            · conv => whnf
              have hkl : k < szN l[r] := by omega
              have hnl : at_ + k < nums.length := by omega
              obtain ⟨n, hn01, hx⟩ := hW nums[at_ + k] (List.getElem_mem hnl)
              have hl0 : (nums.drop (at_ + k)).map encR = encR (wh n) :: (nums.drop (at_ + (k + 1))).map encR := by
                rw [List.drop_eq_getElem_cons hnl, List.map_cons, hx]; rfl
              refine ⟨0, encR (wh n), rfl, (by rw [hl0]; rfl), ?_⟩
              conv => whnf
              refine CallG.pure (IsRat76w n (by omega) (by omega)) rfl ?_
              conv => whnf
              refine ⟨rfl, ?_⟩
              rintro _ _ rfl
              refine ⟨rfl, ?_⟩
              conv => whnf
              refine ⟨0, encR (wh n), rfl, (by rw [hl0]; rfl), ?_⟩
              conv => whnf
              refine CallG.pure (copied170 (wh n) (whLen n (by omega) (by omega))) rfl ?_
              conv => whnf
              refine ⟨rfl, ?_⟩
              rintro _ _ rfl
              refine ⟨rfl, ?_⟩
              conv => whnf
              refine ⟨k, rfl, (by rw [List.length_append, List.length_map, htl, List.length_replicate]; omega), ?_⟩
              conv => whnf
              refine ⟨rfl, encR (wh 0), by rw [List.getElem?_append_right (by rw [List.length_map, htl]; exact Nat.le_refl _), List.length_map, htl, Nat.sub_self, List.getElem?_replicate]; simp; omega, rfl, Nat.le_refl _, ?_⟩
              conv => whnf
              refine ⟨1, rfl, (by rw [hl0]; simp), Nat.le_refl _, ?_⟩
              conv => whnf
              refine ⟨by omega, by omega, ?_⟩
              conv => whnf
              have e : (((nums.drop at_).take k).map encR ++ List.replicate (szN l[r] - k) (encR (wh 0))).set k (encR (wh n)) = ((nums.drop at_).take (k + 1)).map encR ++ List.replicate (szN l[r] - (k + 1)) (encR (wh 0)) := by
                rw [set_mid _ _ _ _ _ (by rw [List.length_map, htl]) (by omega), ← List.take_append_getElem (show k < (nums.drop at_).length by simp; omega), List.map_append, List.getElem_drop, hx]
                rfl
              have e2 : ((nums.drop (at_ + k)).map encR).drop 1 = (nums.drop (at_ + (k + 1))).map encR := by rw [hl0]; rfl
              have e3 : (((nums.drop (at_ + k)).map encR).drop 1).take (((nums.drop (at_ + k)).map encR).length - 1) = (nums.drop (at_ + (k + 1))).map encR := by
                rw [List.take_of_length_le (by simp; omega), e2]
              refine ⟨k + 1, by omega, by omega, ?_⟩
              refine ⟨[some 0, some 1, some 2], by decide, rfl, ?_, ?_⟩
              · repeat' (first | exact trivial | exact ⟨_, rfl, rfl⟩ | exact ⟨_, rfl, _, rfl⟩ | exact ⟨_, rfl⟩ | refine And.intro ?_ ?_ | (refine ⟨_, rfl, congrArg (fun z => some (Blk.arr _ z)) ?_⟩; (first | exact e | exact e3.symm)) | (refine ⟨_, rfl, congrArg (fun z => some (SV.p (PV.sl _ z))) ?_⟩; (first | exact e | exact e3.symm)))
              · repeat' (first | exact trivial | exact ⟨_, rfl, rfl⟩ | exact ⟨_, rfl, _, rfl⟩ | exact ⟨_, rfl⟩ | refine And.intro ?_ ?_ | (refine ⟨_, rfl, congrArg (fun z => some (Blk.arr _ z)) ?_⟩; (first | exact e | exact e3.symm)) | (refine ⟨_, rfl, congrArg (fun z => some (SV.p (PV.sl _ z))) ?_⟩; (first | exact e | exact e3.symm)))
            · conv => whnf
              obtain rfl : k = szN l[r] := by omega
              refine ⟨_, rfl, ?_⟩
              conv => whnf
              refine TN.lift good (by kernel_rfl) ?_
              conv => whnf
              refine ⟨by omega, by omega, ?_⟩
              conv => whnf
              refine ⟨r + 1, by omega, by omega, ?_, ?_⟩
              · rw [show encRs (nums.drop (manyN (l.take (r + 1)))) = encRs (nums.drop (at_ + szN l[r])) by rw [manyN_take hrl, if_pos hk, ← hat]]
                refine ⟨[some 0], by decide, rfl, ?_, ?_⟩
                · repeat' (first | exact trivial | exact ⟨_, rfl, rfl⟩ | exact ⟨_, rfl, _, rfl⟩ | exact ⟨_, rfl⟩ | refine And.intro ?_ ?_)
                · repeat' (first | exact trivial | exact ⟨_, rfl, rfl⟩ | exact ⟨_, rfl, _, rfl⟩ | exact ⟨_, rfl⟩ | refine And.intro ?_ ?_)
              · rw [← nbs_next (by omega), hty]
                unfold nb1 part
                rw [if_pos hk, hty, ← hat, Nat.sub_self, List.replicate_zero, List.append_nil]
          · have hrow : (rws l hs)[r]? = some [.int .i64 l[r].kind, encDims l[r].dims, .sl 51 [], .sl 154 ((valT l[r] []).bits.map encB)] := by
              rw [rws_get (by omega), hty]; unfold rw1; rw [if_neg hk]; unfold valT; rw [if_neg hk]; rfl
            refine ⟨rfl, _, hrow, ?_⟩
            conv => whnf
            refine TN.lift good (by kernel_rfl) ?_
            conv => whnf
            refine ⟨1, ?_⟩
            conv => whnf
            refine ⟨fun h => absurd h (by simp), fun _ => ?_⟩
            conv => whnf
            refine TN.lift good (by kernel_rfl) ?_
            conv => whnf
            refine ⟨by omega, by omega, ?_⟩
            conv => whnf
            refine ⟨r + 1, by omega, by omega, ?_, ?_⟩
            · rw [show encRs (nums.drop (manyN (l.take (r + 1)))) = encRs (nums.drop (manyN (l.take r))) by rw [manyN_take hrl, if_neg hk]]
              refine ⟨[some 0], by decide, rfl, ?_, ?_⟩
              · repeat' (first | exact trivial | exact ⟨_, rfl, rfl⟩ | exact ⟨_, rfl, _, rfl⟩ | exact ⟨_, rfl⟩ | refine And.intro ?_ ?_)
              · repeat' (first | exact trivial | exact ⟨_, rfl, rfl⟩ | exact ⟨_, rfl, _, rfl⟩ | exact ⟨_, rfl⟩ | refine And.intro ?_ ?_)
            · exact (nbs_skip (by rw [hty]; exact hk)).symm
        · conv => whnf
          have hil : r = l.length := by omega
          subst hil
          refine TN.seq rfl (TN.lift good (by kernel_rfl) ?_)
          conv => whnf
          refine TN.lift good (by kernel_rfl) ?_
          conv => whnf
          refine ⟨rfl, .tu [.p (encVs (backT l nums)), iv 0], fun T Ψ w hL hv => ?_, rfl⟩
          cases hv with
          | tu h => cases h with
            | cons a b => cases a with
              | p a => exact .tu (.cons (.p (PRel.rows hL (ends_ok hhs) a)) b)
end Go.Sx.Tz
end
end
